import PyProof.Rows.All
import Wide.All
import OpenK.AllK
import Wide.FinOn
import KE.KStateDown
import Lean
import HandS.ForMost
import HandS.WordsExc
import HandS.Defaults
import HandS.Codes
import KE.DataEq
import HandS.IsInst
import HandS.Conv
import HandS.Walk
import HandS.Style
import HandS.Deep
import HandS.Sort
import HandS.SortInts
import HandS.DictComp
import HandS.More
import HandS.Head0
import HandS.Head1
import HandS.Head2
import HandS.HeadEnd
import HandS.HeadHook1
import HandS.HeadHook2
import HandS.ExcIs
import PySem.Challenge.RW_fewbuses_k05_day
set_option Elab.async false
set_option linter.all false
set_option maxRecDepth 100000
set_option maxHeartbeats 4000000
/-! Roads, ways along them, the least minutes, and going over all roads again and again: plain Lean, no program. -/
namespace Fb
section
variable {α : Type}
/-- a way from x along the roads R: to where, in how many minutes -/
inductive Path (R : List (α × α × Int)) (x : α) : α → Int → Prop
  | nil : Path R x x 0
  | snoc {y z : α} {m w : Int} : Path R x y m → (y, z, w) ∈ R → Path R x z (m + w)
def PosR (R : List (α × α × Int)) : Prop := ∀ r ∈ R, 1 ≤ r.2.2
theorem Path.nonneg {R : List (α × α × Int)} {x y : α} {m : Int} (hp : PosR R) (p : Path R x y m) : 0 ≤ m := by
  induction p with
  | nil => exact Int.le_refl 0
  | snoc p h ih =>
    have := hp _ h
    simp only at this
    omega
def Least (R : List (α × α × Int)) (x y : α) (m : Int) : Prop := Path R x y m ∧ ∀ m', Path R x y m' → m ≤ m'
theorem least_of {R : List (α × α × Int)} {x y : α} (hp : PosR R) : ∀ (n : Nat) (m : Int), m.toNat = n → Path R x y m → ∃ m', Least R x y m' := by
  intro n
  induction n using Nat.strongRecOn with
  | _ n ih =>
    intro m hm p
    by_cases h : ∃ m', Path R x y m' ∧ m' < m
    · obtain ⟨m', p', l⟩ := h
      have h0 := p'.nonneg hp
      have h1 := p.nonneg hp
      exact ih m'.toNat (by omega) m' rfl p'
    · refine ⟨m, p, fun m' p' => ?_⟩
      exact Int.not_lt.mp fun z => h ⟨m', p', z⟩
theorem Path.least {R : List (α × α × Int)} {x y : α} {m : Int} (hp : PosR R) (p : Path R x y m) : ∃ m', Least R x y m' ∧ m' ≤ m := by
  obtain ⟨m', h⟩ := least_of hp _ m rfl p
  exact ⟨m', h, h.2 _ p⟩
theorem Least.one {R : List (α × α × Int)} {x y : α} {m m' : Int} (h : Least R x y m) (h' : Least R x y m') : m = m' := by
  have := h.2 _ h'.1
  have := h'.2 _ h.1
  omega
theorem Path.trans {R : List (α × α × Int)} {x y z : α} {m m' : Int} (p : Path R x y m) (q : Path R y z m') : Path R x z (m + m') := by
  induction q with
  | nil => rw [Int.add_zero]; exact p
  | snoc q h ih => rw [← Int.add_assoc]; exact ih.snoc h
open Classical in
/-- the least minutes from x to y -/
noncomputable def dist (R : List (α × α × Int)) (x y : α) : Option Int := if h : ∃ m, Least R x y m then some (choose h) else none
theorem dist_eq {R : List (α × α × Int)} {x y : α} {m : Int} : dist R x y = some m ↔ Least R x y m := by
  unfold dist
  by_cases h : ∃ m, Least R x y m
  · rw [dif_pos h]
    have hs := Classical.choose_spec h
    constructor
    · intro e
      rw [← Option.some.inj e]
      exact hs
    · intro l
      rw [hs.one l]
  · rw [dif_neg h]
    constructor
    · intro e
      cases e
    · intro l
      exact absurd ⟨m, l⟩ h
theorem dist_none {R : List (α × α × Int)} {x y : α} (hp : PosR R) : dist R x y = none ↔ ∀ m, ¬ Path R x y m := by
  constructor
  · intro e m p
    obtain ⟨m', l, _⟩ := p.least hp
    rw [dist_eq.mpr l] at e
    cases e
  · intro h
    cases e : dist R x y with
    | none => rfl
    | some m => exact absurd (dist_eq.mp e).1 (h m)
theorem dist_self {R : List (α × α × Int)} (hp : PosR R) (x : α) : dist R x x = some 0 := dist_eq.mpr ⟨.nil, fun _ p => p.nonneg hp⟩
theorem dist_nonneg {R : List (α × α × Int)} (hp : PosR R) {x y : α} {m : Int} (h : dist R x y = some m) : 0 ≤ m := (dist_eq.mp h).1.nonneg hp
theorem dist_path {R : List (α × α × Int)} (hp : PosR R) {x y : α} {m : Int} (p : Path R x y m) : ∃ m', dist R x y = some m' ∧ m' ≤ m := by
  obtain ⟨m', l, h⟩ := p.least hp
  exact ⟨m', dist_eq.mpr l, h⟩
theorem dist_road {R : List (α × α × Int)} (hp : PosR R) {x y z : α} {m w : Int} (h : dist R x y = some m) (hr : (y, z, w) ∈ R) : ∃ m', dist R x z = some m' ∧ m' ≤ m + w :=
  dist_path hp ((dist_eq.mp h).1.snoc hr)
theorem dist_tri {R : List (α × α × Int)} (hp : PosR R) {x y z : α} {m w : Int} (h : dist R x y = some m) (h2 : dist R y z = some w) : ∃ m', dist R x z = some m' ∧ m' ≤ m + w :=
  dist_path hp ((dist_eq.mp h).1.trans (dist_eq.mp h2).1)
/-- the last road of a quickest way -/
theorem dist_pred {R : List (α × α × Int)} (hp : PosR R) {x z : α} {m : Int} (h : dist R x z = some m) (hne : z ≠ x) : ∃ y w m', (y, z, w) ∈ R ∧ dist R x y = some m' ∧ m' + w = m := by
  obtain ⟨p, l⟩ := dist_eq.mp h
  cases p with
  | nil => exact absurd rfl hne
  | @snoc y _ m0 w p hr =>
    obtain ⟨m', hl, hle⟩ := p.least hp
    refine ⟨y, w, m', hr, dist_eq.mpr hl, ?_⟩
    have := l _ (hl.1.snoc hr)
    omega
/-- what tells ways alone and is undercut by no road is the least -/
theorem dist_only {R : List (α × α × Int)} (hp : PosR R) {x : α} {f : α → Option Int} (h0 : f x = some 0) (h1 : ∀ y m, f y = some m → Path R x y m)
    (h2 : ∀ r ∈ R, ∀ m, f r.1 = some m → ∃ m', f r.2.1 = some m' ∧ m' ≤ m + r.2.2) (y : α) : f y = dist R x y := by
  have key : ∀ y m, Path R x y m → ∃ m', f y = some m' ∧ m' ≤ m := by
    intro y m p
    induction p with
    | nil => exact ⟨0, h0, Int.le_refl 0⟩
    | @snoc y z m w p hr ih =>
      obtain ⟨m', e, l⟩ := ih
      obtain ⟨m2, e2, l2⟩ := h2 _ hr m' e
      refine ⟨m2, e2, ?_⟩
      simp only at l2
      omega
  cases e : f y with
  | none =>
    refine ((dist_none hp).mpr fun m p => ?_).symm
    obtain ⟨m', e', _⟩ := key y m p
    rw [e] at e'
    cases e'
  | some m =>
    refine (dist_eq.mpr ⟨h1 y m e, fun m' p => ?_⟩).symm
    obtain ⟨m2, e2, l⟩ := key y m' p
    rw [e] at e2
    cases e2
    exact l
end
/-! ### a table from places to minutes, as a list of pairs -/
section
variable {α β : Type} [DecidableEq α]
def look : List (α × β) → α → Option β
  | [], _ => none
  | p :: r, k => if p.1 = k then some p.2 else look r k
def put : List (α × β) → α → β → List (α × β)
  | [], k, v => [(k, v)]
  | p :: r, k, v => if p.1 = k then (p.1, v) :: r else p :: put r k v
theorem look_put : ∀ (l : List (α × β)) (k j : α) (v : β), look (put l k v) j = if j = k then some v else look l j
  | [], k, j, v => by
    by_cases e : k = j
    · subst e
      simp [put, look]
    · have e' : ¬ j = k := fun z => e z.symm
      simp [put, look, e, e']
  | p :: r, k, j, v => by
    by_cases e : p.1 = k
    · subst e
      by_cases e2 : p.1 = j
      · subst e2
        simp [put, look]
      · have e' : ¬ j = p.1 := fun z => e2 z.symm
        simp [put, look, e2, e']
    · by_cases e2 : p.1 = j
      · have e' : ¬ j = k := fun z => e (e2.trans z)
        subst e2
        simp [put, look, e]
      · simp [put, look, e, e2, look_put r k j v]
theorem look_mem : ∀ {l : List (α × β)} {k : α} {v : β}, look l k = some v → (k, v) ∈ l
  | [], k, v, h => by cases h
  | p :: r, k, v, h => by
    by_cases e : p.1 = k
    · simp [look, e] at h
      subst h
      subst e
      simp
    · simp [look, e] at h
      exact List.mem_cons_of_mem _ (look_mem h)
theorem look_none : ∀ {l : List (α × β)} {k : α}, look l k = none ↔ k ∉ l.map (·.1)
  | [], k => by simp [look]
  | p :: r, k => by
    by_cases e : p.1 = k
    · subst e
      simp [look]
    · have e' : ¬ k = p.1 := fun z => e z.symm
      simp only [look, e, if_false, List.map_cons, List.mem_cons, not_or, e', not_false_eq_true, true_and]
      exact look_none
theorem look_of_mem : ∀ {l : List (α × β)} {k : α} {v : β}, (l.map (·.1)).Nodup → (k, v) ∈ l → look l k = some v
  | [], k, v, _, h => by cases h
  | p :: r, k, v, hn, h => by
    simp only [List.map_cons, List.nodup_cons] at hn
    rcases List.mem_cons.mp h with e | e
    · subst e
      simp [look]
    · have : ¬ p.1 = k := fun z => hn.1 (by rw [z]; exact List.mem_map_of_mem (f := (·.1)) e)
      simp only [look, this, if_false]
      exact look_of_mem hn.2 e
theorem put_keys : ∀ (l : List (α × β)) (k : α) (v : β), (put l k v).map (·.1) = if k ∈ l.map (·.1) then l.map (·.1) else l.map (·.1) ++ [k]
  | [], k, v => by simp [put]
  | p :: r, k, v => by
    by_cases e : p.1 = k
    · subst e
      simp [put]
    · have e' : ¬ k = p.1 := fun z => e z.symm
      by_cases hm : k ∈ r.map (·.1)
      · have ih := put_keys r k v
        rw [if_pos hm] at ih
        simp only [put, e, if_false, List.map_cons, ih]
        rw [if_pos (List.mem_cons_of_mem _ hm)]
      · have ih := put_keys r k v
        rw [if_neg hm] at ih
        simp only [put, e, if_false, List.map_cons, ih]
        rw [if_neg (by simp only [List.mem_cons, not_or]; exact ⟨e', hm⟩)]
        rfl
theorem nodup_snoc {l : List α} {k : α} (h : l.Nodup) (hk : k ∉ l) : (l ++ [k]).Nodup := by
  rw [List.nodup_append]
  refine ⟨h, by simp, ?_⟩
  intro a ha b hb e
  simp at hb
  subst hb
  subst e
  exact hk ha
theorem put_nodup {l : List (α × β)} (h : (l.map (·.1)).Nodup) (k : α) (v : β) : ((put l k v).map (·.1)).Nodup := by
  rw [put_keys]
  by_cases hm : k ∈ l.map (·.1)
  · rw [if_pos hm]
    exact h
  · rw [if_neg hm]
    exact nodup_snoc h hm
theorem put_mem_keys {l : List (α × β)} {k j : α} {v : β} (h : j ∈ (put l k v).map (·.1)) : j ∈ l.map (·.1) ∨ j = k := by
  rw [put_keys] at h
  by_cases hm : k ∈ l.map (·.1)
  · rw [if_pos hm] at h
    exact .inl h
  · rw [if_neg hm] at h
    simpa using h
/-- a list without repeats whose items all stand in another one is no longer -/
theorem nodup_len : ∀ {l m : List α}, l.Nodup → (∀ a ∈ l, a ∈ m) → l.length ≤ m.length
  | [], m, _, _ => Nat.zero_le _
  | a :: l, m, hn, hs => by
    rw [List.nodup_cons] at hn
    have ha := hs a List.mem_cons_self
    have := nodup_len (l := l) (m := m.erase a) hn.2 fun b hb => by
      have hne : b ≠ a := fun e => hn.1 (e ▸ hb)
      exact (List.mem_erase_of_ne hne).mpr (hs b (List.mem_cons_of_mem _ hb))
    rw [List.length_erase_of_mem ha] at this
    have : 0 < m.length := List.length_pos_of_mem ha
    simp only [List.length_cons]
    omega
theorem len_of_look {l m : List (α × β)} (hl : (l.map (·.1)).Nodup) (hm : (m.map (·.1)).Nodup) (h : ∀ k, look l k = look m k) : l.length = m.length := by
  have key : ∀ {l m : List (α × β)}, (∀ k, look l k = look m k) → ∀ a ∈ l.map (·.1), a ∈ m.map (·.1) := by
    intro l m h a ha
    by_cases hm : a ∈ m.map (·.1)
    · exact hm
    · have e := look_none.mpr hm
      rw [← h] at e
      exact absurd ha (look_none.mp e)
  have h1 := nodup_len hl (key h)
  have h2 := nodup_len hm (key fun k => (h k).symm)
  simp only [List.length_map] at h1 h2
  omega
end
/-! ### going over a road, over all roads -/
section
variable {α : Type} [DecidableEq α]
/-- one road: where it leads is told with no more than it adds -/
def relax (l : List (α × Int)) (r : α × α × Int) : List (α × Int) :=
  match look l r.1 with
  | none => l
  | some m =>
    match look l r.2.1 with
    | none => put l r.2.1 (m + r.2.2)
    | some v => if m + r.2.2 < v then put l r.2.1 (m + r.2.2) else l
def pass (R : List (α × α × Int)) (l : List (α × Int)) : List (α × Int) := R.foldl relax l
theorem relax_none {l : List (α × Int)} {r : α × α × Int} (h : look l r.1 = none) : relax l r = l := by
  unfold relax; rw [h]
theorem relax_new {l : List (α × Int)} {r : α × α × Int} {m : Int} (h : look l r.1 = some m) (h2 : look l r.2.1 = none) : relax l r = put l r.2.1 (m + r.2.2) := by
  unfold relax; rw [h]; simp only []; rw [h2]
theorem relax_less {l : List (α × Int)} {r : α × α × Int} {m v : Int} (h : look l r.1 = some m) (h2 : look l r.2.1 = some v) (h3 : m + r.2.2 < v) : relax l r = put l r.2.1 (m + r.2.2) := by
  unfold relax; rw [h]; simp only []; rw [h2]; simp only []; rw [if_pos h3]
theorem relax_keep {l : List (α × Int)} {r : α × α × Int} {m v : Int} (h : look l r.1 = some m) (h2 : look l r.2.1 = some v) (h3 : ¬ m + r.2.2 < v) : relax l r = l := by
  unfold relax; rw [h]; simp only []; rw [h2]; simp only []; rw [if_neg h3]
/-- what is told is told by ways from x; x with 0; no place twice; each place is x or one that a road leads to -/
structure Told (R : List (α × α × Int)) (x : α) (l : List (α × Int)) : Prop where
  zero : look l x = some 0
  way : ∀ y m, look l y = some m → Path R x y m
  nd : (l.map (·.1)).Nodup
  keys : ∀ y ∈ l.map (·.1), y = x ∨ y ∈ R.map (·.2.1)
theorem Told.first (R : List (α × α × Int)) (x : α) : Told R x [(x, 0)] :=
  ⟨by simp [look], fun y m h => by
    by_cases e : x = y
    · subst e
      simp [look] at h
      subst h
      exact .nil
    · simp [look, e] at h, by simp, fun y hy => by simp at hy; exact .inl hy⟩
theorem Told.len {R : List (α × α × Int)} {x : α} {l : List (α × Int)} (t : Told R x l) : l.length ≤ R.length + 1 := by
  have := nodup_len (m := x :: R.map (·.2.1)) t.nd fun a ha => by
    rcases t.keys a ha with e | e
    · rw [e]; exact List.mem_cons_self
    · exact List.mem_cons_of_mem _ e
  simpa using this
/-- how two tables stand: what the first tells the second tells, with no more -/
def Leq (l m : List (α × Int)) : Prop := ∀ y a, look l y = some a → ∃ b, look m y = some b ∧ b ≤ a
theorem Leq.refl (l : List (α × Int)) : Leq l l := fun _ a h => ⟨a, h, Int.le_refl a⟩
theorem Leq.trans {l m n : List (α × Int)} (h : Leq l m) (h' : Leq m n) : Leq l n := fun y a e => by
  obtain ⟨b, e1, l1⟩ := h y a e
  obtain ⟨c, e2, l2⟩ := h' y b e1
  exact ⟨c, e2, Int.le_trans l2 l1⟩
theorem relax_put {R : List (α × α × Int)} (hp : PosR R) {x : α} {l : List (α × Int)} (t : Told R x l) {y z : α} {m w : Int} (hr : (y, z, w) ∈ R) (hm : look l y = some m)
    (hz : ∀ v, look l z = some v → m + w < v) : Told R x (put l z (m + w)) ∧ Leq l (put l z (m + w)) := by
  have h0 := (t.way _ _ hm).nonneg hp
  have h1 := hp _ hr
  simp only at h1
  have hzx : ¬ x = z := fun e => by
    subst e
    have := hz _ t.zero
    omega
  refine ⟨⟨?_, ?_, put_nodup t.nd _ _, ?_⟩, ?_⟩
  · rw [look_put, if_neg hzx]
    exact t.zero
  · intro y' m' h
    rw [look_put] at h
    by_cases e : y' = z
    · rw [if_pos e] at h
      cases h
      subst e
      exact (t.way _ _ hm).snoc hr
    · rw [if_neg e] at h
      exact t.way _ _ h
  · intro j hj
    rcases put_mem_keys hj with h | h
    · exact t.keys j h
    · subst h
      exact .inr (List.mem_map_of_mem (f := fun r : α × α × Int => r.2.1) hr)
  · intro j a h
    rw [look_put]
    by_cases e : j = z
    · rw [if_pos e]
      subst e
      exact ⟨_, rfl, Int.le_of_lt (hz _ h)⟩
    · rw [if_neg e]
      exact ⟨a, h, Int.le_refl a⟩
theorem relax_told {R : List (α × α × Int)} (hp : PosR R) {x : α} {l : List (α × Int)} (t : Told R x l) {r : α × α × Int} (hr : r ∈ R) : Told R x (relax l r) ∧ Leq l (relax l r) := by
  obtain ⟨y, z, w⟩ := r
  cases hy : look l y with
  | none => rw [relax_none (r := (y, z, w)) hy]; exact ⟨t, Leq.refl l⟩
  | some m =>
    cases hz : look l z with
    | none =>
      rw [relax_new (r := (y, z, w)) hy hz]
      exact relax_put hp t hr hy fun v h => by rw [hz] at h; cases h
    | some v =>
      by_cases c : m + w < v
      · rw [relax_less (r := (y, z, w)) hy hz c]
        exact relax_put hp t hr hy fun v' h => by rw [hz] at h; cases h; exact c
      · rw [relax_keep (r := (y, z, w)) hy hz c]
        exact ⟨t, Leq.refl l⟩
/-- behind a road, where it leads is told with no more than it adds -/
theorem relax_done {l : List (α × Int)} {y z : α} {m w : Int} (hy : look l y = some m) : ∃ v, look (relax l (y, z, w)) z = some v ∧ v ≤ m + w := by
  cases hz : look l z with
  | none =>
    rw [relax_new (r := (y, z, w)) hy hz, look_put, if_pos rfl]
    exact ⟨_, rfl, Int.le_refl _⟩
  | some v =>
    by_cases c : m + w < v
    · rw [relax_less (r := (y, z, w)) hy hz c, look_put, if_pos rfl]
      exact ⟨_, rfl, Int.le_refl _⟩
    · rw [relax_keep (r := (y, z, w)) hy hz c]
      exact ⟨v, hz, Int.not_lt.mp c⟩
/-- a road that changes nothing is met already -/
theorem relax_same {l : List (α × Int)} {r : α × α × Int} (h : relax l r = l) {m : Int} (hy : look l r.1 = some m) : ∃ v, look l r.2.1 = some v ∧ v ≤ m + r.2.2 := by
  have := relax_done (l := l) (y := r.1) (z := r.2.1) (w := r.2.2) hy
  rw [show (r.1, r.2.1, r.2.2) = r from rfl, h] at this
  exact this
theorem pass_told {R : List (α × α × Int)} (hp : PosR R) {x : α} : ∀ (S : List (α × α × Int)), (∀ r ∈ S, r ∈ R) → ∀ {l : List (α × Int)}, Told R x l → Told R x (pass S l) ∧ Leq l (pass S l)
  | [], _, l, t => ⟨t, Leq.refl l⟩
  | r :: S, hs, l, t => by
    have h1 := relax_told hp t (hs r List.mem_cons_self)
    have h2 := pass_told hp S (fun q hq => hs q (List.mem_cons_of_mem _ hq)) h1.1
    exact ⟨h2.1, h1.2.trans h2.2⟩
/-- nothing told undercuts the least -/
theorem Told.ge {R : List (α × α × Int)} {x y : α} {l : List (α × Int)} (t : Told R x l) {m d : Int} (h : look l y = some m) (hd : dist R x y = some d) : d ≤ m := (dist_eq.mp hd).2 _ (t.way _ _ h)
theorem Told.reach {R : List (α × α × Int)} (hp : PosR R) {x y : α} {l : List (α × Int)} (t : Told R x l) {m : Int} (h : look l y = some m) : ∃ d, dist R x y = some d ∧ d ≤ m := dist_path hp (t.way _ _ h)
/-- if no road changes anything, the table is the least -/
theorem Told.still {R : List (α × α × Int)} (hp : PosR R) {x : α} {l : List (α × Int)} (t : Told R x l) (h : ∀ r ∈ R, relax l r = l) (y : α) : look l y = dist R x y :=
  dist_only hp t.zero t.way (fun r hr _ hm => relax_same (h r hr) hm) y
/-- if the table is the least, no road changes anything -/
theorem Told.keeps {R : List (α × α × Int)} (hp : PosR R) {x : α} {l : List (α × Int)} (h : ∀ y, look l y = dist R x y) {r : α × α × Int} (hr : r ∈ R) : relax l r = l := by
  obtain ⟨y, z, w⟩ := r
  cases hy : look l y with
  | none => exact relax_none hy
  | some m =>
    obtain ⟨v, hv, hle⟩ := dist_road hp ((h y).symm.trans hy) hr
    exact relax_keep (r := (y, z, w)) hy ((h z).trans hv) (by simp only []; omega)
/-- how many roads lead to where it is nearer than d -/
def isLess (d : Int) : Option Int → Bool
  | some m => decide (m < d)
  | none => false
noncomputable def nearer (R : List (α × α × Int)) (x : α) (d : Int) : Nat := R.countP fun r => isLess d (dist R x r.2.1)
theorem countP_lt {β : Type} {p q : β → Bool} : ∀ {l : List β}, (∀ a ∈ l, p a = true → q a = true) → (∃ a ∈ l, q a = true ∧ p a = false) → l.countP p < l.countP q
  | [], _, h => by obtain ⟨a, ha, _⟩ := h; cases ha
  | a :: l, hs, h => by
    have hmono : l.countP p ≤ l.countP q := List.countP_mono_left fun b hb => hs b (List.mem_cons_of_mem _ hb)
    rw [List.countP_cons, List.countP_cons]
    by_cases hq : q a = true ∧ p a = false
    · rw [hq.1, hq.2]
      simp only [if_true, Bool.false_eq_true, if_false]
      omega
    · obtain ⟨b, hb, h1, h2⟩ := h
      rcases List.mem_cons.mp hb with e | e
      · subst e
        exact absurd ⟨h1, h2⟩ hq
      · have ih := countP_lt (l := l) (fun b hb => hs b (List.mem_cons_of_mem _ hb)) ⟨b, e, h1, h2⟩
        have : (if p a = true then 1 else 0) ≤ (if q a = true then 1 else 0) := by
          cases hpa : p a with
          | false => simp
          | true => rw [hs a List.mem_cons_self hpa]; simp
        omega
theorem nearer_lt {R : List (α × α × Int)} {x y : α} {m d : Int} (hy : dist R x y = some m) (hyx : y ∈ R.map (·.2.1)) (hlt : m < d) : nearer R x m < nearer R x d := by
  unfold nearer
  refine countP_lt (fun r _ h => ?_) ?_
  · cases e : dist R x r.2.1 with
    | none =>
      rw [e] at h
      cases h
    | some a =>
      rw [e] at h
      have h : a < m := of_decide_eq_true h
      exact decide_eq_true (Int.lt_trans h hlt)
  · obtain ⟨r, hr, e⟩ := List.mem_map.mp hyx
    refine ⟨r, hr, ?_, ?_⟩
    · rw [e, hy]
      exact decide_eq_true hlt
    · rw [e, hy]
      exact decide_eq_false (Int.lt_irrefl m)
theorem nearer_le {R : List (α × α × Int)} {x y : α} {d : Int} (hy : dist R x y = some d) (hyx : y ∈ R.map (·.2.1)) : nearer R x d < R.length := by
  unfold nearer
  have h1 : R.countP (fun _ : α × α × Int => true) = R.length := by simp
  rw [← h1]
  refine countP_lt (fun _ _ _ => rfl) ?_
  obtain ⟨r, hr, e⟩ := List.mem_map.mp hyx
  refine ⟨r, hr, rfl, ?_⟩
  rw [e, hy]
  exact decide_eq_false (Int.lt_irrefl d)
/-- the tables behind 0, 1, 2 .. times over all roads -/
def times (R : List (α × α × Int)) (x : α) : Nat → List (α × Int)
  | 0 => [(x, 0)]
  | k + 1 => pass R (times R x k)
theorem times_told {R : List (α × α × Int)} (hp : PosR R) (x : α) : ∀ k, Told R x (times R x k)
  | 0 => Told.first R x
  | k + 1 => (pass_told hp R (fun _ h => h) (times_told hp x k)).1
theorem times_near {R : List (α × α × Int)} (hp : PosR R) (x : α) : ∀ (k : Nat) (y : α) (d : Int), dist R x y = some d → y ≠ x → nearer R x d < k → look (times R x k) y = some d
  | 0, _, _, _, _, h => absurd h (Nat.not_lt_zero _)
  | k + 1, y, d, hd, hne, hk => by
    obtain ⟨z, w, m, hr, hz, e⟩ := dist_pred hp hd hne
    have hw := hp _ hr
    simp only at hw
    have t := times_told hp x k
    have ez : look (times R x k) z = some m := by
      by_cases c : z = x
      · subst c
        have : m = 0 := Option.some.inj (hz.symm.trans (dist_self hp z))
        rw [this]
        exact t.zero
      · refine times_near hp x k z m hz c ?_
        have hzk : z ∈ R.map (·.2.1) := by
          obtain ⟨y2, w2, m2, hr2, _, _⟩ := dist_pred hp hz c
          exact List.mem_map_of_mem (f := fun r : α × α × Int => r.2.1) hr2
        have := nearer_lt (d := d) hz hzk (by omega)
        omega
    show look (pass R (times R x k)) y = some d
    obtain ⟨pre, post, hR⟩ := List.append_of_mem hr
    have hpre : ∀ r ∈ pre, r ∈ R := fun r h => by rw [hR]; exact List.mem_append_left _ h
    have hpost : ∀ r ∈ post, r ∈ R := fun r h => by rw [hR]; exact List.mem_append_right _ (List.mem_cons_of_mem _ h)
    have t1 := pass_told hp pre hpre t
    obtain ⟨m1, e1, l1⟩ := t1.2 z m ez
    have g1 := t1.1.ge e1 hz
    have em : m1 = m := by omega
    subst em
    have t2 := relax_told hp t1.1 hr
    obtain ⟨v, ev, lv⟩ := relax_done (z := y) (w := w) e1
    have t3 := pass_told hp post hpost t2.1
    obtain ⟨v', ev', lv'⟩ := t3.2 y v ev
    have g3 := t3.1.ge ev' hd
    have : pass R (times R x k) = pass post (relax (pass pre (times R x k)) (z, y, w)) := by
      have h : ∀ l, pass R l = pass post (relax (pass pre l) (z, y, w)) := fun l => by
        rw [hR]
        unfold pass
        rw [List.foldl_append, List.foldl_cons]
      exact h _
    rw [this, ev']
    congr 1
    omega
/-- as many times as there are roads are enough -/
theorem times_all {R : List (α × α × Int)} (hp : PosR R) (x : α) {k : Nat} (hk : R.length ≤ k) (y : α) : look (times R x k) y = dist R x y := by
  have t := times_told hp x k
  by_cases e : y = x
  · subst e
    rw [t.zero, dist_self hp]
  · cases hd : dist R x y with
    | none =>
      cases hl : look (times R x k) y with
      | none => rfl
      | some m => exact absurd (t.way _ _ hl) ((dist_none hp).mp hd m)
    | some d =>
      have hyk : y ∈ R.map (·.2.1) := by
        obtain ⟨y2, w2, m2, hr2, _, _⟩ := dist_pred hp hd e
        exact List.mem_map_of_mem (f := fun r : α × α × Int => r.2.1) hr2
      have := nearer_le hd hyk
      exact times_near hp x k y d hd e (by omega)
end
end Fb
/-! As few rows as can be: a matching, its growth along a chain, what shows that it can't grow; plain Lean, no program. -/
namespace Fb
section
variable {A : Nat → Nat → Prop} {nx ah : Nat → Option Nat}
/-- f with v at k -/
def at' (f : Nat → Option Nat) (k v : Nat) : Nat → Option Nat := fun j => if j = k then some v else f j
theorem at_same {f : Nat → Option Nat} {k v : Nat} : at' f k v k = some v := if_pos rfl
theorem at_ne {f : Nat → Option Nat} {k v j : Nat} (h : j ≠ k) : at' f k v j = f j := if_neg h
theorem look_at (l : List (Nat × Nat)) (k v : Nat) : look (put l k v) = at' (look l) k v := funext fun j => look_put l k j v
/-- who is next, who is ahead: the same pairs, each one that can be done -/
structure Mat (A : Nat → Nat → Prop) (nx ah : Nat → Option Nat) : Prop where
  inv : ∀ i j, nx i = some j ↔ ah j = some i
  ok : ∀ i j, nx i = some j → A i j
/-- the same but for j, whose own row in ah is not right -/
structure Hole (A : Nat → Nat → Prop) (nx ah : Nat → Option Nat) (j : Nat) : Prop where
  inv : ∀ i k, nx i = some k ↔ (ah k = some i ∧ k ≠ j)
  ok : ∀ i k, nx i = some k → A i k
theorem Mat.hole (m : Mat A nx ah) {j : Nat} (h : ah j = none) : Hole A nx ah j :=
  ⟨fun i k => by
    rw [m.inv]
    constructor
    · intro e
      refine ⟨e, fun z => ?_⟩
      rw [z, h] at e
      cases e
    · exact fun e => e.1, m.ok⟩
theorem Hole.fill {j i : Nat} (h : Hole A nx ah j) (ha : A i j) (hn : nx i = none) : Mat A (at' nx i j) (at' ah j i) := by
  refine ⟨fun a b => ?_, fun a b e => ?_⟩
  · by_cases hb : b = j
    · subst hb
      rw [at_same]
      by_cases hai : a = i
      · subst hai
        simp [at_same]
      · rw [at_ne hai]
        constructor
        · intro e
          exact absurd rfl ((h.inv a b).mp e).2
        · intro e
          exact absurd (Option.some.inj e).symm hai
    · rw [at_ne hb]
      by_cases hai : a = i
      · subst hai
        rw [at_same]
        constructor
        · intro e
          exact absurd (Option.some.inj e).symm hb
        · intro e
          have := (h.inv a b).mpr ⟨e, hb⟩
          rw [hn] at this
          cases this
      · rw [at_ne hai, h.inv]
        exact ⟨fun e => e.1, fun e => ⟨e, hb⟩⟩
  · by_cases hai : a = i
    · subst hai
      rw [at_same] at e
      rw [← Option.some.inj e]
      exact ha
    · rw [at_ne hai] at e
      exact h.ok _ _ e
theorem Hole.move {j i j' : Nat} (h : Hole A nx ah j) (ha : A i j) (hn : nx i = some j') : Hole A (at' nx i j) (at' ah j i) j' := by
  have hj := ((h.inv _ _).mp hn).2
  have hj1 := ((h.inv _ _).mp hn).1
  refine ⟨fun a b => ?_, fun a b e => ?_⟩
  · by_cases hb : b = j
    · subst hb
      rw [at_same]
      by_cases hai : a = i
      · subst hai
        rw [at_same]
        exact ⟨fun _ => ⟨rfl, fun z => hj z.symm⟩, fun _ => rfl⟩
      · rw [at_ne hai]
        constructor
        · intro e
          exact absurd rfl ((h.inv a b).mp e).2
        · intro e
          exact absurd (Option.some.inj e.1).symm hai
    · rw [at_ne hb]
      by_cases hai : a = i
      · subst hai
        rw [at_same]
        constructor
        · intro e
          exact absurd (Option.some.inj e).symm hb
        · intro e
          have := (h.inv a b).mpr ⟨e.1, hb⟩
          rw [hn] at this
          exact absurd (Option.some.inj this).symm e.2
      · rw [at_ne hai, h.inv]
        constructor
        · intro e
          refine ⟨e.1, fun z => ?_⟩
          rw [z, hj1] at e
          exact hai (Option.some.inj e.1).symm
        · exact fun e => ⟨e.1, hb⟩
  · by_cases hai : a = i
    · subst hai
      rw [at_same] at e
      rw [← Option.some.inj e]
      exact ha
    · rw [at_ne hai] at e
      exact h.ok _ _ e
/-- from DL nothing leads but to DR, and each of DR has one of DL ahead -/
structure Closed (A : Nat → Nat → Prop) (ah : Nat → Option Nat) (DL DR : Nat → Prop) : Prop where
  out : ∀ i j, DL i → A i j → DR j
  back : ∀ j, DR j → ∃ i, ah j = some i ∧ DL i
theorem Closed.none (A : Nat → Nat → Prop) (ah : Nat → Option Nat) : Closed A ah (fun _ => False) (fun _ => False) := ⟨fun _ _ h _ => h.elim, fun _ h => h.elim⟩
theorem Closed.or {DL DR EL ER : Nat → Prop} (c : Closed A ah DL DR) (d : Closed A ah EL ER) : Closed A ah (fun i => DL i ∨ EL i) (fun i => DR i ∨ ER i) :=
  ⟨fun i j h a => h.elim (fun h => .inl (c.out i j h a)) (fun h => .inr (d.out i j h a)),
   fun j h => h.elim (fun h => by obtain ⟨i, e, k⟩ := c.back j h; exact ⟨i, e, .inl k⟩) (fun h => by obtain ⟨i, e, k⟩ := d.back j h; exact ⟨i, e, .inr k⟩)⟩
/-- what a search from first has met: of each one by whom it was come to; that one is first, or has an elder one behind it -/
structure Came (A : Nat → Nat → Prop) (ah : Nat → Option Nat) (first : Nat) (l : List (Nat × Nat)) : Prop where
  nd : (l.map (·.1)).Nodup
  pre : ∀ p k i q, l = p ++ (k, i) :: q → A i k ∧ (i = first ∨ ∃ k', k' ∈ p.map (·.1) ∧ ah k' = some i)
theorem Came.nil (A : Nat → Nat → Prop) (ah : Nat → Option Nat) (first : Nat) : Came A ah first [] := ⟨List.nodup_nil, fun p k i q e => by simp at e⟩
theorem put_new : ∀ {l : List (Nat × Nat)} {k v : Nat}, look l k = none → put l k v = l ++ [(k, v)]
  | [], _, _, _ => rfl
  | p :: r, k, v, h => by
    by_cases e : p.1 = k
    · simp [look, e] at h
    · simp only [look, e, if_false] at h
      simp only [put, e, if_false, List.cons_append]
      rw [put_new h]
theorem Came.add {first : Nat} {l : List (Nat × Nat)} (c : Came A ah first l) {k i : Nat} (hk : look l k = none) (ha : A i k) (hi : i = first ∨ ∃ k', k' ∈ l.map (·.1) ∧ ah k' = some i) : Came A ah first (put l k i) := by
  refine ⟨put_nodup c.nd k i, fun p k2 i2 q e => ?_⟩
  rw [put_new hk] at e
  rcases List.eq_nil_or_concat q with hq | ⟨q', x, hq⟩
  · subst hq
    have e2 : l ++ [(k, i)] = p ++ [(k2, i2)] := e
    obtain ⟨e3, e4⟩ := List.append_inj' e2 rfl
    cases e4
    subst e3
    exact ⟨ha, hi⟩
  · subst hq
    have e2 : l ++ [(k, i)] = (p ++ (k2, i2) :: q') ++ [x] := by rw [e]; simp
    obtain ⟨e3, _⟩ := List.append_inj' e2 rfl
    exact c.pre p k2 i2 q' e3
def ixOf : List Nat → Nat → Nat
  | [], _ => 0
  | a :: l, k => if a = k then 0 else ixOf l k + 1
def rank (l : List (Nat × Nat)) (k : Nat) : Nat := ixOf (l.map (·.1)) k
theorem ixOf_in : ∀ {p q : List Nat} {k : Nat}, k ∈ p → ixOf (p ++ q) k < p.length
  | [], _, _, h => by cases h
  | a :: p, q, k, h => by
    show ixOf (a :: (p ++ q)) k < p.length + 1
    by_cases e : a = k
    · simp [ixOf, e]
    · simp only [ixOf, e, if_false]
      have := ixOf_in (q := q) ((List.mem_cons.mp h).resolve_left fun z => e z.symm)
      omega
theorem ixOf_out : ∀ {p q : List Nat} {k : Nat}, k ∉ p → p.length ≤ ixOf (p ++ q) k
  | [], _, _, _ => Nat.zero_le _
  | a :: p, q, k, h => by
    show p.length + 1 ≤ ixOf (a :: (p ++ q)) k
    have e : ¬ a = k := fun z => h (by rw [z]; exact List.mem_cons_self)
    simp only [ixOf, e, if_false]
    have := ixOf_out (q := q) (k := k) fun z => h (List.mem_cons_of_mem _ z)
    omega
theorem idx_lt {p q : List Nat} {k k' : Nat} (hn : (p ++ k :: q).Nodup) (h : k' ∈ p) : ixOf (p ++ k :: q) k' < ixOf (p ++ k :: q) k := by
  have hk : k ∉ p := fun z => by
    rw [List.nodup_append] at hn
    exact hn.2.2 k z k List.mem_cons_self rfl
  exact Nat.lt_of_lt_of_le (ixOf_in h) (ixOf_out hk)
theorem Came.come {first : Nat} {l : List (Nat × Nat)} (c : Came A ah first l) {k i : Nat} (h : look l k = some i) : A i k ∧ (i = first ∨ ∃ k', (∃ i', look l k' = some i') ∧ ah k' = some i ∧ rank l k' < rank l k) := by
  obtain ⟨p, q, e⟩ := List.append_of_mem (look_mem h)
  obtain ⟨ha, hi⟩ := c.pre p k i q e
  refine ⟨ha, hi.imp id fun ⟨k', hk', h2⟩ => ⟨k', ?_, h2, ?_⟩⟩
  · cases e2 : look l k' with
    | none =>
      have := look_none.mp e2
      rw [e, List.map_append] at this
      exact absurd (List.mem_append_left _ hk') this
    | some i' => exact ⟨i', rfl⟩
  · have hn := c.nd
    rw [e, List.map_append, List.map_cons] at hn
    unfold rank
    rw [e, List.map_append, List.map_cons]
    exact idx_lt hn hk'
theorem Came.lt {first n : Nat} {l : List (Nat × Nat)} (c : Came A ah first l) (hA : ∀ i j, A i j → j < n) : l.length ≤ n := by
  have := nodup_len (m := List.range n) c.nd fun k hk => by
    obtain ⟨⟨k2, i⟩, hm, e⟩ := List.mem_map.mp hk
    have e : k2 = k := e
    subst e
    obtain ⟨p, q, e⟩ := List.append_of_mem hm
    exact List.mem_range.mpr (hA _ _ (c.pre p _ _ q e).1)
  simpa using this
/-- a search under way: first, and whoever is ahead of one met, waits or is gone through -/
structure Seek (A : Nat → Nat → Prop) (ah : Nat → Option Nat) (first : Nat) (l : List (Nat × Nat)) (waiting : List Nat) : Prop where
  came : Came A ah first l
  full : ∀ k i, look l k = some i → ∃ i', ah k = some i'
  wait : ∀ i ∈ waiting, i = first ∨ ∃ k, k ∈ l.map (·.1) ∧ ah k = some i
  done : ∀ i, (i = first ∨ ∃ k, k ∈ l.map (·.1) ∧ ah k = some i) → i ∈ waiting ∨ ∀ j, A i j → j ∈ l.map (·.1)
theorem Seek.first (A : Nat → Nat → Prop) (ah : Nat → Option Nat) (first : Nat) : Seek A ah first [] [first] :=
  ⟨Came.nil A ah first, (fun k i h => nomatch h), fun i h => .inl (List.mem_singleton.mp h), fun i h => .inl (by
    rcases h with h | ⟨k, hk, _⟩
    · exact List.mem_singleton.mpr h
    · cases hk)⟩
/-- all is gone through and no free one met -/
theorem Seek.end {first : Nat} {l : List (Nat × Nat)} (s : Seek A ah first l []) : ∃ DL DR, Closed A ah DL DR ∧ DL first := by
  refine ⟨fun i => i = first ∨ ∃ k, k ∈ l.map (·.1) ∧ ah k = some i, fun j => j ∈ l.map (·.1), ⟨fun i j h a => ?_, fun j h => ?_⟩, .inl rfl⟩
  · rcases s.done i h with h | h
    · cases h
    · exact h j a
  · have : ∃ i, look l j = some i := by
      cases e : look l j with
      | none => exact absurd h (look_none.mp e)
      | some i => exact ⟨i, rfl⟩
    obtain ⟨i, e⟩ := this
    obtain ⟨i', e'⟩ := s.full j i e
    exact ⟨i', e', .inr ⟨j, h, e'⟩⟩
/-- one turn's state: one is taken out, the first of its followers are met -/
structure Turn (A : Nat → Nat → Prop) (ah : Nat → Option Nat) (first one : Nat) (l : List (Nat × Nat)) (waiting seen : List Nat) : Prop where
  came : Came A ah first l
  full : ∀ k i, look l k = some i → ∃ i', ah k = some i'
  mine : one = first ∨ ∃ k, k ∈ l.map (·.1) ∧ ah k = some one
  wait : ∀ i ∈ waiting, i = first ∨ ∃ k, k ∈ l.map (·.1) ∧ ah k = some i
  done : ∀ i, (i = first ∨ ∃ k, k ∈ l.map (·.1) ∧ ah k = some i) → i = one ∨ i ∈ waiting ∨ ∀ j, A i j → j ∈ l.map (·.1)
  seen : ∀ j ∈ seen, j ∈ l.map (·.1)
theorem Seek.turn {first one : Nat} {l : List (Nat × Nat)} {waiting : List Nat} (s : Seek A ah first l (waiting ++ [one])) : Turn A ah first one l waiting [] :=
  ⟨s.came, s.full, s.wait one (List.mem_append_right _ List.mem_cons_self), fun i h => s.wait i (List.mem_append_left _ h), fun i h => by
    rcases s.done i h with h | h
    · rcases List.mem_append.mp h with h | h
      · exact .inr (.inl h)
      · exact .inl (List.mem_singleton.mp h)
    · exact .inr (.inr h), fun j h => by cases h⟩
theorem Turn.end {first one : Nat} {l : List (Nat × Nat)} {waiting seen : List Nat} (t : Turn A ah first one l waiting seen) (h : ∀ j, A one j → j ∈ seen) : Seek A ah first l waiting :=
  ⟨t.came, t.full, t.wait, fun i hi => by
    rcases t.done i hi with e | e | e
    · exact .inr fun j a => t.seen j (h j (e ▸ a))
    · exact .inl e
    · exact .inr e⟩
theorem Turn.old {first one j : Nat} {l : List (Nat × Nat)} {waiting seen : List Nat} (t : Turn A ah first one l waiting seen) (h : j ∈ l.map (·.1)) : Turn A ah first one l waiting (seen ++ [j]) :=
  ⟨t.came, t.full, t.mine, t.wait, t.done, fun k hk => by
    rcases List.mem_append.mp hk with e | e
    · exact t.seen k e
    · rw [List.mem_singleton.mp e]; exact h⟩
theorem keys_put {l : List (Nat × Nat)} {k v : Nat} (h : look l k = none) : (put l k v).map (·.1) = l.map (·.1) ++ [k] := by
  rw [put_new h, List.map_append]; rfl
theorem Turn.met {first one j : Nat} {l : List (Nat × Nat)} {waiting seen : List Nat} (t : Turn A ah first one l waiting seen) (ha : A one j) (h : look l j = none) : Came A ah first (put l j one) := t.came.add h ha t.mine
theorem Turn.new {first one j i : Nat} {l : List (Nat × Nat)} {waiting seen : List Nat} (t : Turn A ah first one l waiting seen) (ha : A one j) (h : look l j = none) (hi : ah j = some i) :
    Turn A ah first one (put l j one) (waiting ++ [i]) (seen ++ [j]) := by
  have hk := keys_put (v := one) h
  have sub : ∀ k, k ∈ l.map (·.1) → k ∈ (put l j one).map (·.1) := fun k z => by rw [hk]; exact List.mem_append_left _ z
  have new : j ∈ (put l j one).map (·.1) := by rw [hk]; exact List.mem_append_right _ List.mem_cons_self
  refine ⟨t.met ha h, fun k v e => ?_, ?_, fun x hx => ?_, fun x hx => ?_, fun x hx => ?_⟩
  · rw [look_put] at e
    by_cases c : k = j
    · subst c
      exact ⟨i, hi⟩
    · rw [if_neg c] at e
      exact t.full k v e
  · exact t.mine.imp id fun ⟨k, z, e⟩ => ⟨k, sub k z, e⟩
  · rcases List.mem_append.mp hx with z | z
    · exact (t.wait x z).imp id fun ⟨k, z, e⟩ => ⟨k, sub k z, e⟩
    · rw [List.mem_singleton.mp z]
      exact .inr ⟨j, new, hi⟩
  · by_cases old : x = first ∨ ∃ k, k ∈ l.map (·.1) ∧ ah k = some x
    · rcases t.done x old with z | z | z
      · exact .inl z
      · exact .inr (.inl (List.mem_append_left _ z))
      · exact .inr (.inr fun y a => sub y (z y a))
    · rcases hx with z | ⟨k, z, e⟩
      · exact absurd (.inl z) old
      · rw [hk] at z
        rcases List.mem_append.mp z with z | z
        · exact absurd (.inr ⟨k, z, e⟩) old
        · rw [List.mem_singleton.mp z, hi] at e
          rw [← Option.some.inj e]
          exact .inr (.inl (List.mem_append_right _ List.mem_cons_self))
  · rcases List.mem_append.mp hx with z | z
    · exact sub x (t.seen x z)
    · rw [List.mem_singleton.mp z]
      exact new
/-- the pairs are turned over along a chain: other is the one to be filled next. nx0, ah0: how the pairs stood ahead of it -/
structure Flip (A : Nat → Nat → Prop) (nx0 ah0 nx ah : Nat → Option Nat) (DR : Nat → Prop) (first : Nat) (l : List (Nat × Nat)) (other : Nat) : Prop where
  hole : Hole A nx ah other
  there : ∃ i, look l other = some i
  free : nx first = none
  old : ∀ k, rank l k < rank l other → ah k = ah0 k
  off : ¬ DR other
  dr : ∀ k, DR k → ah k = ah0 k
  dom : ∀ i, nx i = none → nx0 i = none
  dom2 : ∀ i, nx0 i = none → nx i = none
theorem Flip.start {first other : Nat} {l : List (Nat × Nat)} {DL DR : Nat → Prop} (m : Mat A nx ah) (c : Closed A ah DL DR) (hf : nx first = none) (ho : ah other = none) (hl : ∃ i, look l other = some i) : Flip A nx ah nx ah DR first l other :=
  ⟨m.hole ho, hl, hf, fun _ _ => rfl, (fun h => by
    obtain ⟨i, e, _⟩ := c.back other h
    rw [ho] at e
    cases e), fun _ _ => rfl, fun _ h => h, fun _ h => h⟩
/-- the chain's end: the pairs are right again, first has one, what was closed is -/
theorem Flip.end {nx0 ah0 : Nat → Option Nat} {DL DR : Nat → Prop} {first other one : Nat} {l : List (Nat × Nat)} (f : Flip A nx0 ah0 nx ah DR first l other) (c : Closed A ah0 DL DR) (k : Came A ah0 first l) (ho : look l other = some one) (hn : nx one = none) :
    Mat A (at' nx one other) (at' ah other one) ∧ Closed A (at' ah other one) DL DR ∧ at' nx one other first ≠ none ∧ (∀ i, at' nx one other i = none → nx0 i = none) ∧ ∀ i, i ≠ first → nx0 i = none → at' nx one other i = none := by
  have hc := k.come ho
  have h1 : one = first := by
    rcases hc.2 with e | ⟨k', _, e, lt⟩
    · exact e
    · rw [← f.old k' lt] at e
      have := (f.hole.inv one k').mpr ⟨e, fun z => by rw [z] at lt; omega⟩
      rw [hn] at this
      cases this
  subst h1
  refine ⟨f.hole.fill hc.1 hn, ⟨c.out, fun j h => ?_⟩, by rw [at_same]; exact (fun z => nomatch z), fun i h => ?_, fun i hi h => by rw [at_ne hi]; exact f.dom2 i h⟩
  · rw [at_ne (fun z : j = other => f.off (z ▸ h)), f.dr j h]
    exact c.back j h
  · by_cases e : i = one
    · rw [e, at_same] at h
      cases h
    · rw [at_ne e] at h
      exact f.dom i h
theorem Flip.next {nx0 ah0 : Nat → Option Nat} {DL DR : Nat → Prop} {first other one left : Nat} {l : List (Nat × Nat)} (f : Flip A nx0 ah0 nx ah DR first l other) (c : Closed A ah0 DL DR) (k : Came A ah0 first l) (ho : look l other = some one) (hn : nx one = some left) :
    Flip A nx0 ah0 (at' nx one other) (at' ah other one) DR first l left ∧ rank l left < rank l other := by
  have hc := k.come ho
  have hone : one ≠ first := fun z => by
    rw [z, f.free] at hn
    cases hn
  obtain ⟨k', hk', e, lt⟩ : ∃ k', (∃ i', look l k' = some i') ∧ ah0 k' = some one ∧ rank l k' < rank l other := by
    rcases hc.2 with e | e
    · exact absurd e hone
    · exact e
  have e0 := e
  rw [← f.old k' lt] at e
  have hne : k' ≠ other := fun z => by rw [z] at lt; omega
  have h2 := (f.hole.inv one k').mpr ⟨e, hne⟩
  rw [hn] at h2
  have h3 : left = k' := Option.some.inj h2
  subst h3
  refine ⟨⟨f.hole.move hc.1 hn, hk', ?_, fun k2 lt2 => ?_, fun hd => ?_, fun k2 hd => ?_, fun i h => ?_, fun i h => ?_⟩, lt⟩
  · rw [at_ne fun z => hone z.symm]
    exact f.free
  · rw [at_ne fun z => by rw [z] at lt2; omega]
    exact f.old k2 (Nat.lt_trans lt2 lt)
  · obtain ⟨i, e2, hd2⟩ := c.back left hd
    rw [e0] at e2
    cases e2
    exact f.off (c.out _ _ hd2 hc.1)
  · rw [at_ne (fun z : k2 = other => f.off (z ▸ hd))]
    exact f.dr k2 hd
  · by_cases e : i = one
    · rw [e, at_same] at h
      cases h
    · rw [at_ne e] at h
      exact f.dom i h
  · rw [at_ne fun z : i = one => by
      have := f.dom2 i h
      rw [z, hn] at this
      cases this]
    exact f.dom2 i h
end
end Fb
/-! Rows and trips apart: as many of these as of those; plain Lean, no program. -/
namespace Fb
theorem perm_of_mem {α : Type} [DecidableEq α] : ∀ {l m : List α}, l.Nodup → m.Nodup → (∀ a, a ∈ l ↔ a ∈ m) → l.Perm m
  | [], m, _, _, h => by
    cases m with
    | nil => exact .nil
    | cons a m => exact absurd ((h a).mpr List.mem_cons_self) (fun z => nomatch z)
  | a :: l, m, hl, hm, h => by
    rw [List.nodup_cons] at hl
    have ha : a ∈ m := (h a).mp List.mem_cons_self
    have p := List.perm_cons_erase ha
    refine (List.Perm.cons a (perm_of_mem hl.2 (hm.erase a) fun b => ?_)).trans p.symm
    by_cases e : b = a
    · subst e
      constructor
      · exact fun z => absurd z hl.1
      · exact fun z => absurd z (List.Nodup.not_mem_erase hm)
    · rw [List.mem_erase_of_ne e, ← h b]
      simp [e]
section
variable {A : Nat → Nat → Prop} {nx ah : Nat → Option Nat} {n : Nat}
/-- a row: from its first, each next one the one that nx tells, to one without -/
structure Row (nx : Nat → Option Nat) (first : Nat) (row : List Nat) : Prop where
  head : row[0]? = some first
  step : ∀ i u v, row[i]? = some u → row[i + 1]? = some v → nx u = some v
/-- .. and it is at its end -/
def Full (nx : Nat → Option Nat) (row : List Nat) : Prop := ∀ i u, row[i]? = some u → row[i + 1]? = none → nx u = none
theorem Row.start (nx : Nat → Option Nat) (first : Nat) : Row nx first [first] := ⟨rfl, fun i u v _ h => by simp at h⟩
theorem Row.add {first last v : Nat} {row : List Nat} (r : Row nx first (row ++ [last])) (h : nx last = some v) : Row nx first ((row ++ [last]) ++ [v]) := by
  refine ⟨by rw [List.getElem?_append_left (by simp)]; exact r.head, fun i u w h1 h2 => ?_⟩
  by_cases hi : i + 1 < (row ++ [last]).length
  · rw [List.getElem?_append_left (by omega)] at h1
    rw [List.getElem?_append_left hi] at h2
    exact r.step i u w h1 h2
  · have hlt := (List.getElem?_eq_some_iff.mp h2).1
    simp only [List.length_append, List.length_cons, List.length_nil] at hlt hi
    have hi2 : i = row.length := by omega
    subst hi2
    rw [List.getElem?_append_left (by simp), List.getElem?_append_right (Nat.le_refl _), Nat.sub_self] at h1
    rw [List.getElem?_append_right (by simp)] at h2
    simp at h2
    have e1 : last = u := Option.some.inj h1
    rw [← e1, ← h2]
    exact h
theorem Row.full {first last : Nat} {row : List Nat} (h : nx last = none) : Full nx (row ++ [last]) := fun i u h1 h2 => by
  have hl := (List.getElem?_eq_some_iff.mp h1).1
  have hn : (row ++ [last]).length ≤ i + 1 := List.getElem?_eq_none_iff.mp h2
  simp only [List.length_append, List.length_cons, List.length_nil] at hl hn
  have hi : i = row.length := by omega
  subst hi
  rw [List.getElem?_append_right (Nat.le_refl _), Nat.sub_self] at h1
  rw [← Option.some.inj h1]
  exact h
theorem pair_add {row : List Nat} {last v : Nat} (tr : ∀ i j k, A i j → A j k → A i k) (h : (row ++ [last]).Pairwise A) (ha : A last v) : ((row ++ [last]) ++ [v]).Pairwise A := by
  rw [List.pairwise_append]
  refine ⟨h, List.pairwise_singleton _ _, fun a ha' b hb => ?_⟩
  rw [List.mem_singleton.mp hb]
  rw [List.pairwise_append] at h
  rcases List.mem_append.mp ha' with z | z
  · exact tr _ _ _ (h.2.2 a z last List.mem_cons_self) ha
  · rw [List.mem_singleton.mp z]
    exact ha
theorem pair_nodup {row : List Nat} (irr : ∀ i, ¬ A i i) (h : row.Pairwise A) : row.Nodup := by
  unfold List.Nodup
  refine List.Pairwise.imp ?_ h
  intro a b hab e
  rw [← e] at hab
  exact irr a hab
/-- the rows of a matching: one for each that has none ahead -/
structure Rows1 (A : Nat → Nat → Prop) (nx ah : Nat → Option Nat) (t : Nat) (rows : List (List Nat)) : Prop where
  row : ∀ r ∈ rows, ∃ f, f < t ∧ ah f = none ∧ Row nx f r ∧ Full nx r ∧ r.Pairwise A
  all : ∀ f, f < t → ah f = none → ∃ r ∈ rows, r[0]? = some f
  heads : (rows.map fun r => r.headD 0).Pairwise (· < ·)
theorem head_of {r : List Nat} {f : Nat} (h : r[0]? = some f) : r.headD 0 = f := by
  cases r with
  | nil => cases h
  | cons a r => exact Option.some.inj h
theorem Rows1.nil : Rows1 A nx ah 0 [] := ⟨(fun _ h => nomatch h), fun _ h => absurd h (Nat.not_lt_zero _), List.Pairwise.nil⟩
theorem Rows1.skip {t : Nat} {rows : List (List Nat)} (h : Rows1 A nx ah t rows) {i : Nat} (hi : ah t = some i) : Rows1 A nx ah (t + 1) rows :=
  ⟨fun r hr => by
    obtain ⟨f, hf, x⟩ := h.row r hr
    exact ⟨f, by omega, x⟩, fun f hf ha => by
    by_cases e : f = t
    · rw [e, hi] at ha
      cases ha
    · exact h.all f (by omega) ha, h.heads⟩
theorem Rows1.add {t : Nat} {rows : List (List Nat)} (h : Rows1 A nx ah t rows) {r : List Nat} (ht : ah t = none) (hr : Row nx t r) (hf : Full nx r) (hp : r.Pairwise A) : Rows1 A nx ah (t + 1) (rows ++ [r]) := by
  refine ⟨fun r' hr' => ?_, fun f hf' ha => ?_, ?_⟩
  · rcases List.mem_append.mp hr' with z | z
    · obtain ⟨f, hf, x⟩ := h.row r' z
      exact ⟨f, by omega, x⟩
    · rw [List.mem_singleton.mp z]
      exact ⟨t, by omega, ht, hr, hf, hp⟩
  · by_cases e : f = t
    · exact ⟨r, List.mem_append_right _ List.mem_cons_self, by rw [e]; exact hr.head⟩
    · obtain ⟨r', h1, h2⟩ := h.all f (by omega) ha
      exact ⟨r', List.mem_append_left _ h1, h2⟩
  · rw [List.map_append, List.pairwise_append]
    refine ⟨h.heads, List.pairwise_singleton _ _, fun a ha b hb => ?_⟩
    obtain ⟨r', hr', rfl⟩ := List.mem_map.mp ha
    have hb : b = r.headD 0 := List.mem_singleton.mp hb
    obtain ⟨f, hf, _, hrow, _⟩ := h.row r' hr'
    rw [hb, head_of hr.head, head_of hrow.head]
    exact hf
/-- rows as few as can be, trips apart that show it -/
structure PlanOk (A : Nat → Nat → Prop) (n : Nat) (rows : List (List Nat)) (apart : List Nat) : Prop where
  ne : ∀ r ∈ rows, r ≠ []
  chain : ∀ r ∈ rows, r.Pairwise A
  perm : rows.flatten.Perm (List.range n)
  heads : (rows.map fun r => r.headD 0).Pairwise (· < ·)
  up : apart.Pairwise (· < ·)
  lt : ∀ i ∈ apart, i < n
  anti : ∀ i ∈ apart, ∀ j ∈ apart, ¬ A i j
  len : apart.length = rows.length
  pairs : ∃ nx ah, Mat A nx ah ∧ ((List.range n).filter fun x => (nx x).isNone).length = rows.length
theorem Rows1.apart {rows : List (List Nat)} (h : Rows1 A nx ah n rows) (m : Mat A nx ah) {u : Nat} : ∀ (i j : Nat) (r r' : List Nat), r ∈ rows → r' ∈ rows → r[i]? = some u → r'[j]? = some u → r.headD 0 = r'.headD 0 ∧ i = j := by
  intro i
  induction i generalizing u with
  | zero =>
    intro j r r' hr hr' h1 h2
    obtain ⟨f, _, hf, row, _⟩ := h.row r hr
    obtain ⟨f', _, hf', row', _⟩ := h.row r' hr'
    have e1 : f = u := Option.some.inj (row.head.symm.trans h1)
    cases j with
    | zero =>
      have e2 : f' = u := Option.some.inj (row'.head.symm.trans h2)
      rw [head_of row.head, head_of row'.head, e1, e2]
      exact ⟨rfl, rfl⟩
    | succ j =>
      have hj : j < r'.length := by have := (List.getElem?_eq_some_iff.mp h2).1; omega
      have := (m.inv _ _).mp (row'.step j r'[j] u (List.getElem?_eq_getElem hj) h2)
      rw [← e1, hf] at this
      cases this
  | succ i ih =>
    intro j r r' hr hr' h1 h2
    obtain ⟨f, _, hf, row, _⟩ := h.row r hr
    obtain ⟨f', _, hf', row', _⟩ := h.row r' hr'
    have hi : i < r.length := by have := (List.getElem?_eq_some_iff.mp h1).1; omega
    have a1 := (m.inv _ _).mp (row.step i r[i] u (List.getElem?_eq_getElem hi) h1)
    cases j with
    | zero =>
      have e2 : f' = u := Option.some.inj (row'.head.symm.trans h2)
      rw [← e2, hf'] at a1
      cases a1
    | succ j =>
      have hj : j < r'.length := by have := (List.getElem?_eq_some_iff.mp h2).1; omega
      have a2 := (m.inv _ _).mp (row'.step j r'[j] u (List.getElem?_eq_getElem hj) h2)
      rw [a1] at a2
      have e : r[i] = r'[j] := Option.some.inj a2
      have := ih j r r' hr hr' (List.getElem?_eq_getElem hi) (by rw [List.getElem?_eq_getElem hj, e])
      exact ⟨this.1, by omega⟩
theorem nodup_flat : ∀ {rows : List (List Nat)}, (∀ r ∈ rows, r.Nodup) → rows.Pairwise (fun r r' => ∀ a ∈ r, a ∉ r') → rows.flatten.Nodup
  | [], _, _ => List.nodup_nil
  | r :: rows, h1, h2 => by
    rw [List.pairwise_cons] at h2
    rw [List.flatten_cons, List.nodup_append]
    refine ⟨h1 r List.mem_cons_self, nodup_flat (fun r' h => h1 r' (List.mem_cons_of_mem _ h)) h2.2, fun a ha b hb e => ?_⟩
    obtain ⟨r', hr', hb'⟩ := List.mem_flatten.mp hb
    exact h2.1 r' hr' a ha (e ▸ hb')
theorem Rows1.perm {rows : List (List Nat)} (h : Rows1 A nx ah n rows) (m : Mat A nx ah) (irr : ∀ i, ¬ A i i) (hA : ∀ i j, A i j → i < n ∧ j < n) {key : Nat → Nat} (hk : ∀ i j, A i j → key i < key j) : rows.flatten.Perm (List.range n) := by
  have nd : rows.flatten.Nodup := by
    refine nodup_flat (fun r hr => ?_) ?_
    · obtain ⟨f, _, _, _, _, hp⟩ := h.row r hr
      exact pair_nodup irr hp
    · have hh := h.heads
      rw [List.pairwise_map] at hh
      refine List.Pairwise.imp_of_mem (R := fun r r' : List Nat => r.headD 0 < r'.headD 0) ?_ hh
      intro r r' hr hr' hlt a ha ha'
      obtain ⟨i, hi, e⟩ := List.mem_iff_getElem.mp ha
      obtain ⟨j, hj, e'⟩ := List.mem_iff_getElem.mp ha'
      have := (h.apart m i j r r' hr hr' (u := a) (by rw [List.getElem?_eq_getElem hi, e]) (by rw [List.getElem?_eq_getElem hj, e'])).1
      omega
  refine perm_of_mem nd List.nodup_range fun v => ?_
  rw [List.mem_range]
  constructor
  · intro hv
    obtain ⟨r, hr, hv⟩ := List.mem_flatten.mp hv
    obtain ⟨f, hf, _, row, _⟩ := h.row r hr
    obtain ⟨i, hi, e⟩ := List.mem_iff_getElem.mp hv
    cases i with
    | zero =>
      have := row.head
      rw [List.getElem?_eq_getElem hi, e] at this
      rw [Option.some.inj this]
      exact hf
    | succ i =>
      have := m.ok _ _ (row.step i r[i] v (List.getElem?_eq_getElem (by omega)) (by rw [List.getElem?_eq_getElem hi, e]))
      exact (hA _ _ this).2
  · have key' : ∀ (k v : Nat), key v = k → v < n → v ∈ rows.flatten := by
      intro k
      induction k using Nat.strongRecOn with
      | _ k ih =>
        intro v hkv hv
        cases e : ah v with
        | none =>
          obtain ⟨r, hr, h0⟩ := h.all v hv e
          exact List.mem_flatten.mpr ⟨r, hr, List.mem_of_getElem? h0⟩
        | some u =>
          have hn := (m.inv u v).mpr e
          have ha := m.ok u v hn
          obtain ⟨r, hr, hu⟩ := List.mem_flatten.mp (ih (key u) (by have := hk _ _ ha; omega) u rfl (hA _ _ ha).1)
          obtain ⟨f, _, _, row, full, _⟩ := h.row r hr
          obtain ⟨i, hi, e'⟩ := List.mem_iff_getElem.mp hu
          have hgi : r[i]? = some u := by rw [List.getElem?_eq_getElem hi, e']
          cases hg : r[i + 1]? with
          | none =>
            rw [full i u hgi hg] at hn
            cases hn
          | some v' =>
            have := row.step i u v' hgi hg
            rw [hn] at this
            have e2 : v = v' := Option.some.inj this
            rw [e2]
            exact List.mem_flatten.mpr ⟨r, hr, List.mem_of_getElem? hg⟩
    exact fun hv => key' _ v rfl hv
/-- what the last search tells -/
structure Reach (A : Nat → Nat → Prop) (nx ah : Nat → Option Nat) (n : Nat) (pL pR : Nat → Bool) : Prop where
  base : ∀ i, i < n → nx i = none → pL i = true
  out : ∀ i j, pL i = true → A i j → pR j = true
  back : ∀ j, pR j = true → ∃ i, ah j = some i ∧ pL i = true
theorem Reach.some {pL pR : Nat → Bool} (s : Reach A nx ah n pL pR) (m : Mat A nx ah) {f : Nat} {r : List Nat} (hf : ah f = none) (row : Row nx f r) : ∀ (t u : Nat), r[t]? = some u → pL u = true → ∃ v ∈ r, pL v = true ∧ pR v = false
  | 0, u, h, hu => by
    have e : f = u := Option.some.inj (row.head.symm.trans h)
    refine ⟨u, List.mem_of_getElem? h, hu, ?_⟩
    cases c : pR u with
    | false => rfl
    | true =>
      obtain ⟨i, hi, _⟩ := s.back u c
      rw [← e, hf] at hi
      cases hi
  | t + 1, u, h, hu => by
    cases c : pR u with
    | false => exact ⟨u, List.mem_of_getElem? h, hu, c⟩
    | true =>
      obtain ⟨i, hi, hl⟩ := s.back u c
      have ht : t < r.length := by have := (List.getElem?_eq_some_iff.mp h).1; omega
      have := (m.inv _ _).mp (row.step t r[t] u (List.getElem?_eq_getElem ht) h)
      rw [hi] at this
      have e : i = r[t] := Option.some.inj this
      rw [e] at hl
      exact s.some m hf row t r[t] (List.getElem?_eq_getElem ht) hl
theorem len_one {r : List Nat} {p : Nat → Bool} (hp : r.Pairwise A) (h1 : ∃ v ∈ r, p v = true) (h2 : ∀ a b, p a = true → p b = true → ¬ A a b) : (r.filter p).length = 1 := by
  have hs : (r.filter p).Pairwise A := hp.sublist List.filter_sublist
  have hm : ∀ a ∈ r.filter p, p a = true := fun a ha => (List.mem_filter.mp ha).2
  obtain ⟨v, hv, hpv⟩ := h1
  have hv2 : v ∈ r.filter p := List.mem_filter.mpr ⟨hv, hpv⟩
  cases e : r.filter p with
  | nil =>
    rw [e] at hv2
    cases hv2
  | cons a l =>
    cases l with
    | nil => rfl
    | cons b l =>
      rw [e] at hs hm
      rw [List.pairwise_cons] at hs
      exact absurd (hs.1 b List.mem_cons_self) (h2 a b (hm a List.mem_cons_self) (hm b (List.mem_cons_of_mem _ List.mem_cons_self)))
theorem sum_ones : ∀ {rows : List (List Nat)} {p : Nat → Bool}, (∀ r ∈ rows, (r.filter p).length = 1) → (rows.flatten.filter p).length = rows.length
  | [], _, _ => rfl
  | r :: rows, p, h => by
    rw [List.flatten_cons, List.filter_append, List.length_append, h r List.mem_cons_self, sum_ones fun r' hr' => h r' (List.mem_cons_of_mem _ hr'), List.length_cons, Nat.add_comm]
theorem len_last {first : Nat} {r : List Nat} (row : Row nx first r) (full : Full nx r) : (r.filter fun x => (nx x).isNone).length = 1 := by
  rcases List.eq_nil_or_concat r with rfl | ⟨l, x, rfl⟩
  · have := row.head
    cases this
  · rw [List.concat_eq_append] at row full ⊢
    have hx : nx x = none := full l.length x (by simp) (by simp)
    have hl : l.filter (fun x => (nx x).isNone) = [] := List.filter_eq_nil_iff.mpr fun a ha => by
      obtain ⟨i, hi, e⟩ := List.mem_iff_getElem.mp ha
      have h1 : (l ++ [x])[i]? = some a := by rw [List.getElem?_append_left hi, List.getElem?_eq_getElem hi, e]
      have h2 : i + 1 < (l ++ [x]).length := by
        rw [List.length_append]
        show i + 1 < l.length + 1
        omega
      have := row.step i a _ h1 (List.getElem?_eq_getElem h2)
      rw [this]
      exact Bool.false_ne_true
    rw [List.filter_append, hl, List.filter_cons_of_pos (by rw [hx]; rfl)]
    rfl
theorem plan_ok {rows : List (List Nat)} {pL pR : Nat → Bool} (h : Rows1 A nx ah n rows) (m : Mat A nx ah) (s : Reach A nx ah n pL pR) (irr : ∀ i, ¬ A i i) (hA : ∀ i j, A i j → i < n ∧ j < n) {key : Nat → Nat} (hk : ∀ i j, A i j → key i < key j) :
    PlanOk A n rows ((List.range n).filter fun i => pL i && !pR i) := by
  have anti : ∀ a b, (pL a && !pR a) = true → (pL b && !pR b) = true → ¬ A a b := fun a b ha hb hab => by
    rw [Bool.and_eq_true] at ha hb
    have := s.out a b ha.1 hab
    rw [this] at hb
    cases hb.2
  have pm := h.perm m irr hA hk
  refine ⟨fun r hr e => ?_, fun r hr => ?_, pm, h.heads, ?_, fun i hi => ?_, fun i hi j hj => ?_, ?_, ⟨nx, ah, m, ?_⟩⟩
  · obtain ⟨f, _, _, row, _⟩ := h.row r hr
    have := row.head
    rw [e] at this
    cases this
  · obtain ⟨f, _, _, _, _, hp⟩ := h.row r hr
    exact hp
  · exact List.pairwise_lt_range.sublist List.filter_sublist
  · exact List.mem_range.mp (List.mem_filter.mp hi).1
  · exact anti i j (List.mem_filter.mp hi).2 (List.mem_filter.mp hj).2
  · rw [← (pm.filter fun i => pL i && !pR i).length_eq]
    refine sum_ones fun r hr => ?_
    obtain ⟨f, hf, haf, row, full, hp⟩ := h.row r hr
    refine len_one hp ?_ anti
    have hr0 : 0 < r.length := (List.getElem?_eq_some_iff.mp row.head).1
    have hlast : r[r.length - 1]? = some r[r.length - 1] := List.getElem?_eq_getElem (by omega)
    have hnone : nx r[r.length - 1] = none := full (r.length - 1) _ hlast (List.getElem?_eq_none_iff.mpr (by omega))
    have hlt : r[r.length - 1] < n := List.mem_range.mp (pm.mem_iff.mp (List.mem_flatten.mpr ⟨r, hr, List.getElem_mem _⟩))
    obtain ⟨v, hv, h1, h2⟩ := s.some m haf row _ _ hlast (s.base _ hlt hnone)
    exact ⟨v, hv, by rw [h1, h2]; rfl⟩
  · rw [← (pm.filter fun x => (nx x).isNone).length_eq]
    refine sum_ones fun r hr => ?_
    obtain ⟨f, _, _, row, full, _⟩ := h.row r hr
    exact len_last row full
end
end Fb
/-! What the walk shares: places, rides, trips; how they lie in the heap. -/
namespace Fb
open PySem PySem.Spec PyProof.Rows L2
abbrev Fn (K : PySem.W.Frag) (x : Str) (st : Stmt) (f : Addr) (fd : FuncData) : Prop := FunD K x x (defArgs st) (defBody st) (defScope st) [] [] f fd
/-- the built-ins' names are no names of the module's own -/
structure Bi (mg : Str → Option Value) : Prop where
  len : mg "len" = none
  isi : mg "isinstance" = none
  int : mg "int" = none
  bool : mg "bool" = none
  str : mg "str" = none
  tuple : mg "tuple" = none
  list : mg "list" = none
  dict : mg "dict" = none
  range : mg "range" = none
  max : mg "max" = none
  min : mg "min" = none
  sorted : mg "sorted" = none
section
variable {P : Program} {w : World} {K : PySem.W.Frag} {mg : Str → Option Value} {base : Heap}
/-- a def of the text that lets nothing out, as one that may be called -/
theorem cal_of {x : Str} {st : Stmt} {f : Addr} {fd : FuncData} {N ps : List Str} {k : Nat} {sp : Sp} (F : Fn K x st f fd) (g : mg x = some (.ref f)) (S : FnScope N ps (defScope st)) (b : Binds K fd ps []) (len : ∀ vs H Q E, sp vs H Q E → vs.length = ps.length)
    (hbody : ∀ (cdv : Value) (A : Around) (outer : List Env) (s : Shared) (H : Hp) (vs : List V) (Q : VK) (E : XK), Room k (A.deeper (envOfC x (defScope st) s.heap.objs.size f cdv)) → sp vs H Q E →
      ∃ t, PSs (cxOf CX0 P w K mg base N x (defScope st) f cdv A outer s H E).nox (defBody st) t ∧ t { nx := fun _ H' => Q .non H', rt := Q } (start N vs) H) : C8.Cal P w K mg base (k + 1) x sp [] :=
  ⟨f, fd, ps, [], F.ok S len fun cdv A outer s H vs Q E hr hsp => by
    obtain ⟨t, h, q⟩ := hbody cdv A outer s H vs Q E hr hsp
    exact ⟨t, h.nox, q⟩, g, F.kp, b, .nil⟩
theorem _root_.C8.Cal.mono {j k : Nat} {x : Str} {sp : Sp} {dvs : List V} (c : C8.Cal P w K mg base j x sp dvs) (h : j ≤ k) : C8.Cal P w K mg base k x sp dvs := by
  obtain ⟨f, fd, ps, ds, F, r⟩ := c.ex
  exact ⟨f, fd, ps, ds, F.mono h, r⟩
end
/-! ### the heap -/
theorem same_upd {H : Hp} {p : Addr} {o : HO} (h : H p = none) : Same H (upd H p o) := fun b x e => by
  rw [upd_ne (ne_of_none e h)]
  exact e
/-- what was tracked ahead of a new object stands when that object is changed -/
theorem same_put {H0 H : Hp} {p : Addr} {o : HO} (s : Same H0 H) (h : H0 p = none) : Same H0 (upd H p o) := fun b x e => by
  rw [upd_ne (ne_of_none e h)]
  exact s b x e
theorem same_seqT {K : PySem.W.Frag} {H H' : Hp} {a : Addr} {xs : List V} (e : Same H H') (h : SqT K H a xs) : SqT K H' a xs := by
  rcases h with (h | ⟨o, h⟩) | h
  · exact .inl (.inl (e _ _ h))
  · exact .inl (.inr ⟨o, e _ _ h⟩)
  · exact .inr h
theorem sqT_of {K : PySem.W.Frag} {H : Hp} {a : Addr} {xs : List V} (h : H a = some (.tup xs)) : SqT K H a xs := .inl (.inl h)
theorem sqL_of {K : PySem.W.Frag} {H : Hp} {a : Addr} {xs : List V} (h : H a = some (.lst xs)) : SqL K H a xs := .inl (.inl h)
theorem ty_tup {K : PySem.W.Frag} {H : Hp} {a : Addr} {xs : List V} (h : SqT K H a xs) : TyX K H (.ref a) (.type "tuple") := by
  rcases h with (h | ⟨o, h⟩) | ⟨o, its, n, h, c, _⟩
  · exact .base (.tup h)
  · exact .fTuple h
  · exact .kTuple h c
theorem ty_lst {K : PySem.W.Frag} {H : Hp} {a : Addr} {xs : List V} (h : SqL K H a xs) : TyX K H (.ref a) (.type "list") := by
  rcases h with (h | ⟨o, h⟩) | ⟨o, its, n, h, c, _⟩
  · exact .base (.lst h)
  · exact .base (.frz h)
  · exact .kList h c
theorem seqT_put {K : PySem.W.Frag} {H : Hp} {p q : Addr} {o u : HO} {ys : List V} (hp : H p = some o) (h1 : ∀ zs, o ≠ .tup zs) (h2 : ∀ ob zs, o ≠ .frz ob zs) (h : SqT K H q ys) : SqT K (upd H p u) q ys := by
  rcases h with (h | ⟨ob, h⟩) | h
  · have n : q ≠ p := fun e => by
      rw [e, hp] at h
      exact h1 ys (Option.some.inj h)
    exact .inl (.inl (by rw [upd_ne n]; exact h))
  · have n : q ≠ p := fun e => by
      rw [e, hp] at h
      exact h2 ob _ (Option.some.inj h)
    exact .inl (.inr ⟨ob, by rw [upd_ne n]; exact h⟩)
  · exact .inr h
theorem seqT_putL {K : PySem.W.Frag} {H : Hp} {p q : Addr} {xs ys : List V} {u : HO} (hp : H p = some (.lst xs)) (h : SqT K H q ys) : SqT K (upd H p u) q ys := seqT_put hp (fun _ e => nomatch e) (fun _ _ e => nomatch e) h
theorem seqT_putD {K : PySem.W.Frag} {H : Hp} {p q : Addr} {kvs : List (Key × V)} {ys : List V} {u : HO} (hp : H p = some (.dK kvs)) (h : SqT K H q ys) : SqT K (upd H p u) q ys := seqT_put hp (fun _ e => nomatch e) (fun _ _ e => nomatch e) h
/-- things of one form lie at these addresses, as tuples -/
def Tups {β : Type} (K : PySem.W.Frag) (H : Hp) (f : β → List V) (qs : List Addr) (xs : List β) : Prop := qs.length = xs.length ∧ ∀ (i : Nat) (q : Addr) (x : β), qs[i]? = some q → xs[i]? = some x → SqT K H q (f x)
section
variable {β : Type} {K : PySem.W.Frag} {H H' : Hp} {f : β → List V} {qs : List Addr} {xs : List β}
theorem Tups.same (t : Tups K H f qs xs) (s : Same H H') : Tups K H' f qs xs := ⟨t.1, fun i q x h1 h2 => same_seqT s (t.2 i q x h1 h2)⟩
theorem Tups.putL (t : Tups K H f qs xs) {p : Addr} {zs : List V} {u : HO} (hp : H p = some (.lst zs)) : Tups K (upd H p u) f qs xs := ⟨t.1, fun i q x h1 h2 => seqT_putL hp (t.2 i q x h1 h2)⟩
theorem Tups.putD (t : Tups K H f qs xs) {p : Addr} {kvs : List (Key × V)} {u : HO} (hp : H p = some (.dK kvs)) : Tups K (upd H p u) f qs xs := ⟨t.1, fun i q x h1 h2 => seqT_putD hp (t.2 i q x h1 h2)⟩
theorem Tups.nil : Tups K H f [] [] := ⟨rfl, fun i q x h _ => by simp at h⟩
theorem Tups.add (t : Tups K H f qs xs) {q : Addr} {x : β} (h : SqT K H q (f x)) : Tups K H f (qs ++ [q]) (xs ++ [x]) := by
  refine ⟨by rw [List.length_append, List.length_append, t.1]; rfl, fun i q' x' h1 h2 => ?_⟩
  by_cases hi : i < qs.length
  · rw [List.getElem?_append_left hi] at h1
    rw [List.getElem?_append_left (t.1 ▸ hi)] at h2
    exact t.2 i q' x' h1 h2
  · rw [List.getElem?_append_right (Nat.le_of_not_lt hi)] at h1
    rw [List.getElem?_append_right (t.1 ▸ Nat.le_of_not_lt hi), ← t.1] at h2
    cases e : i - qs.length with
    | zero =>
      rw [e] at h1 h2
      cases h1
      cases h2
      exact h
    | succ n =>
      rw [e] at h1
      simp at h1
theorem Tups.append {rs : List Addr} {ys : List β} (t : Tups K H f qs xs) (u : Tups K H f rs ys) : Tups K H f (qs ++ rs) (xs ++ ys) := by
  refine ⟨by rw [List.length_append, List.length_append, t.1, u.1], fun i q' x' h1 h2 => ?_⟩
  by_cases hi : i < qs.length
  · rw [List.getElem?_append_left hi] at h1
    rw [List.getElem?_append_left (t.1 ▸ hi)] at h2
    exact t.2 i q' x' h1 h2
  · rw [List.getElem?_append_right (Nat.le_of_not_lt hi)] at h1
    rw [List.getElem?_append_right (t.1 ▸ Nat.le_of_not_lt hi), ← t.1] at h2
    exact u.2 _ q' x' h1 h2
theorem Tups.take (t : Tups K H f qs xs) (n : Nat) : Tups K H f (qs.take n) (xs.take n) := by
  refine ⟨by rw [List.length_take, List.length_take, t.1], fun i q' x' h1 h2 => ?_⟩
  rw [List.getElem?_take] at h1 h2
  by_cases hi : i < n
  · rw [if_pos hi] at h1 h2
    exact t.2 i q' x' h1 h2
  · rw [if_neg hi] at h1
    cases h1
/-- the i-th: its address and what it is -/
theorem Tups.at (t : Tups K H f qs xs) {i : Nat} {v : V} (h : (qs.map V.ref)[i]? = some v) : ∃ q x, v = .ref q ∧ xs[i]? = some x ∧ SqT K H q (f x) := by
  rw [List.getElem?_map] at h
  cases e : qs[i]? with
  | none =>
    rw [e] at h
    cases h
  | some q =>
    rw [e] at h
    have hi : i < xs.length := by
      rw [← t.1]
      exact (List.getElem?_eq_some_iff.mp e).1
    exact ⟨q, xs[i], (Option.some.inj h).symm, List.getElem?_eq_getElem hi, t.2 i q _ e (List.getElem?_eq_getElem hi)⟩
theorem Tups.rev (t : Tups K H f qs xs) : Tups K H f qs.reverse xs.reverse := by
  refine ⟨by rw [List.length_reverse, List.length_reverse, t.1], fun i q x h1 h2 => ?_⟩
  have hi : i < qs.length := by
    have := (List.getElem?_eq_some_iff.mp h1).1
    rw [List.length_reverse] at this
    exact this
  rw [List.getElem?_reverse hi] at h1
  rw [List.getElem?_reverse (t.1 ▸ hi), ← t.1] at h2
  exact t.2 _ q x h1 h2
theorem Tups.addr (t : Tups K H f qs xs) {i : Nat} {x : β} (h : xs[i]? = some x) : ∃ q, qs[i]? = some q ∧ SqT K H q (f x) := by
  have hi : i < qs.length := by
    rw [t.1]
    exact (List.getElem?_eq_some_iff.mp h).1
  exact ⟨qs[i], List.getElem?_eq_getElem hi, t.2 i _ x (List.getElem?_eq_getElem hi) h⟩
end
/-- a list of things of one form -/
def Rows {β : Type} (K : PySem.W.Frag) (H : Hp) (f : β → List V) (a : Addr) (xs : List β) : Prop := ∃ qs, SqL K H a (qs.map V.ref) ∧ Tups K H f qs xs
theorem Rows.same {β : Type} {K : PySem.W.Frag} {H H' : Hp} {f : β → List V} {a : Addr} {xs : List β} (r : Rows K H f a xs) (s : Same H H') : Rows K H' f a xs := by
  obtain ⟨qs, h, t⟩ := r
  exact ⟨qs, s.seq h, t.same s⟩
/-! ### places, rides, trips -/
abbrev Ride : Type := Str × Str × Int
abbrev Trip : Type := Str × Int × Str × Int
def letters : Str := "abcdefghijklmnopqrstuvwxyz"
def okPlace (z : Str) : Prop := 1 ≤ z.length ∧ z.length ≤ 12 ∧ ∀ c ∈ z.cps.toList, c ∈ letters.cps.toList
def okRide (r : Ride) : Prop := okPlace r.1 ∧ okPlace r.2.1 ∧ r.1 ≠ r.2.1 ∧ 1 ≤ r.2.2 ∧ r.2.2 ≤ 9999
def okTrip (t : Trip) : Prop := okPlace t.1 ∧ okPlace t.2.2.1 ∧ 0 ≤ t.2.1 ∧ t.2.1 < t.2.2.2 ∧ t.2.2.2 ≤ 99999
def rideV (r : Ride) : List V := [.str r.1, .str r.2.1, .int r.2.2]
def tripV (t : Trip) : List V := [.str t.1, .int t.2.1, .str t.2.2.1, .int t.2.2.2]
/-- the road of a trip that ends elsewhere -/
def roadOf (t : Trip) : List Ride := if t.1 = t.2.2.1 then [] else [(t.1, t.2.2.1, t.2.2.2 - t.2.1)]
def roadsM (rides : List Ride) (trips : List Trip) : List Ride := rides ++ trips.flatMap roadOf
/-- the lists that a def takes: rides at a, trips at b -/
structure Told2 (K : PySem.W.Frag) (H : Hp) (a b : Addr) (rides : List Ride) (trips : List Trip) : Prop where
  lR : Rows K H rideV a rides
  lT : Rows K H tripV b trips
  okR : ∀ r ∈ rides, okRide r
  okT : ∀ t ∈ trips, okTrip t
  lenR : rides.length ≤ 100
  lenT : trips.length ≤ 100
theorem Told2.same {K : PySem.W.Frag} {H H' : Hp} {a b : Addr} {rides : List Ride} {trips : List Trip} (t : Told2 K H a b rides trips) (s : Same H H') : Told2 K H' a b rides trips := ⟨t.lR.same s, t.lT.same s, t.okR, t.okT, t.lenR, t.lenT⟩
theorem posR {rides : List Ride} {trips : List Trip} (h1 : ∀ r ∈ rides, okRide r) (h2 : ∀ t ∈ trips, okTrip t) : PosR (roadsM rides trips) := fun r hr => by
  rcases List.mem_append.mp hr with h | h
  · exact (h1 r h).2.2.2.1
  · obtain ⟨t, ht, hm⟩ := List.mem_flatMap.mp h
    unfold roadOf at hm
    by_cases c : t.1 = t.2.2.1
    · rw [if_pos c] at hm
      cases hm
    · rw [if_neg c] at hm
      rw [List.mem_singleton.mp hm]
      have := (h2 t ht).2.2.2.1
      show 1 ≤ t.2.2.2 - t.2.1
      omega
/-- len of a list or a tuple, what it asks -/
def rLenS (K : PySem.W.Frag) : List V → Hp → VK → Prop := fun xs H Q => ∃ p ys, xs = [.ref p] ∧ (SqL K H p ys ∨ SqT K H p ys) ∧ Q (.int ys.length) H
/-! ### tests that are known -/
theorem if_t {c : Bool} {A B : Prop} (hc : c = true) (h : A) : if c = true then A else B := by
  rw [if_pos hc]
  exact h
theorem if_f {c : Bool} {A B : Prop} (hc : c = false) (h : B) : if c = true then A else B := by
  rw [hc, if_neg Bool.false_ne_true]
  exact h
end Fb
namespace Fb
open PySem PySem.Spec PyProof.Rows L2
def top (i : Nat) : Stmt := PySem.Challenge.pw_fewbuses_k05_day.main.body.getD i (.Pass ⟨0, 0, 0, 0⟩)
abbrev s_is_whole : Stmt := top 11
theorem sc_is_whole : FnScope ["thing", "least", "most"] ["thing", "least", "most"] (defScope s_is_whole) := ⟨rfl, rfl, rfl, by decide +kernel, rfl, by decide +kernel, by decide +kernel⟩
theorem bi_is_whole {K : PySem.W.Frag} {f : Addr} {fd : FuncData} (F : Fn K "is_whole" s_is_whole f fd) : Binds K fd ["thing", "least", "most"] [] := F.bindsN fun _ _ _ _ _ _ us hl => match us, hl with | [_, _, _], _ => rfl
abbrev s_is_place : Stmt := top 12
theorem sc_is_place : FnScope ["thing", "sign"] ["thing"] (defScope s_is_place) := ⟨rfl, rfl, rfl, by decide +kernel, rfl, by decide +kernel, by decide +kernel⟩
theorem bi_is_place {K : PySem.W.Frag} {f : Addr} {fd : FuncData} (F : Fn K "is_place" s_is_place f fd) : Binds K fd ["thing"] [] := F.bindsN fun _ _ _ _ _ _ us hl => match us, hl with | [_], _ => rfl
abbrev s_is_ride : Stmt := top 13
theorem sc_is_ride : FnScope ["thing"] ["thing"] (defScope s_is_ride) := ⟨rfl, rfl, rfl, by decide +kernel, rfl, by decide +kernel, by decide +kernel⟩
theorem bi_is_ride {K : PySem.W.Frag} {f : Addr} {fd : FuncData} (F : Fn K "is_ride" s_is_ride f fd) : Binds K fd ["thing"] [] := F.bindsN fun _ _ _ _ _ _ us hl => match us, hl with | [_], _ => rfl
abbrev s_is_trip : Stmt := top 14
theorem sc_is_trip : FnScope ["thing"] ["thing"] (defScope s_is_trip) := ⟨rfl, rfl, rfl, by decide +kernel, rfl, by decide +kernel, by decide +kernel⟩
theorem bi_is_trip {K : PySem.W.Frag} {f : Addr} {fd : FuncData} (F : Fn K "is_trip" s_is_trip f fd) : Binds K fd ["thing"] [] := F.bindsN fun _ _ _ _ _ _ us hl => match us, hl with | [_], _ => rfl
abbrev s_looked : Stmt := top 15
theorem sc_looked : FnScope ["rides", "trips", "ride", "trip"] ["rides", "trips"] (defScope s_looked) := ⟨rfl, rfl, rfl, by decide +kernel, rfl, by decide +kernel, by decide +kernel⟩
theorem bi_looked {K : PySem.W.Frag} {f : Addr} {fd : FuncData} (F : Fn K "looked" s_looked f fd) : Binds K fd ["rides", "trips"] [] := F.bindsN fun _ _ _ _ _ _ us hl => match us, hl with | [_, _], _ => rfl
abbrev s_need_place : Stmt := top 16
theorem sc_need_place : FnScope ["place"] ["place"] (defScope s_need_place) := ⟨rfl, rfl, rfl, by decide +kernel, rfl, by decide +kernel, by decide +kernel⟩
theorem bi_need_place {K : PySem.W.Frag} {f : Addr} {fd : FuncData} (F : Fn K "need_place" s_need_place f fd) : Binds K fd ["place"] [] := F.bindsN fun _ _ _ _ _ _ us hl => match us, hl with | [_], _ => rfl
abbrev s_need_number : Stmt := top 17
theorem sc_need_number : FnScope ["trips", "number"] ["trips", "number"] (defScope s_need_number) := ⟨rfl, rfl, rfl, by decide +kernel, rfl, by decide +kernel, by decide +kernel⟩
theorem bi_need_number {K : PySem.W.Frag} {f : Addr} {fd : FuncData} (F : Fn K "need_number" s_need_number f fd) : Binds K fd ["trips", "number"] [] := F.bindsN fun _ _ _ _ _ _ us hl => match us, hl with | [_, _], _ => rfl
abbrev s_roads : Stmt := top 19
theorem sc_roads : FnScope ["rides", "trips", "found", "trip"] ["rides", "trips"] (defScope s_roads) := ⟨rfl, rfl, rfl, by decide +kernel, rfl, by decide +kernel, by decide +kernel⟩
theorem bi_roads {K : PySem.W.Frag} {f : Addr} {fd : FuncData} (F : Fn K "roads" s_roads f fd) : Binds K fd ["rides", "trips"] [] := F.bindsN fun _ _ _ _ _ _ us hl => match us, hl with | [_, _], _ => rfl
abbrev s_spread : Stmt := top 20
theorem sc_spread : FnScope ["rides", "trips", "place", "rows", "found", "changed", "row", "minutes"] ["rides", "trips", "place"] (defScope s_spread) := ⟨rfl, rfl, rfl, by decide +kernel, rfl, by decide +kernel, by decide +kernel⟩
theorem bi_spread {K : PySem.W.Frag} {f : Addr} {fd : FuncData} (F : Fn K "spread" s_spread f fd) : Binds K fd ["rides", "trips", "place"] [] := F.bindsN fun _ _ _ _ _ _ us hl => match us, hl with | [_, _, _], _ => rfl
abbrev s_way : Stmt := top 21
theorem sc_way : FnScope ["rides", "trips", "one", "other", "rows", "minutes", "found", "here", "ahead", "row"] ["rides", "trips", "one", "other"] (defScope s_way) := ⟨rfl, rfl, rfl, by decide +kernel, rfl, by decide +kernel, by decide +kernel⟩
theorem bi_way {K : PySem.W.Frag} {f : Addr} {fd : FuncData} (F : Fn K "way" s_way f fd) : Binds K fd ["rides", "trips", "one", "other"] [] := F.bindsN fun _ _ _ _ _ _ us hl => match us, hl with | [_, _, _, _], _ => rfl
abbrev s_comes : Stmt := top 23
theorem sc_comes : FnScope ["minutes", "ahead", "trip"] ["minutes", "ahead", "trip"] (defScope s_comes) := ⟨rfl, rfl, rfl, by decide +kernel, rfl, by decide +kernel, by decide +kernel⟩
theorem bi_comes {K : PySem.W.Frag} {f : Addr} {fd : FuncData} (F : Fn K "comes" s_comes f fd) : Binds K fd ["minutes", "ahead", "trip"] [] := F.bindsN fun _ _ _ _ _ _ us hl => match us, hl with | [_, _, _], _ => rfl
abbrev s_can : Stmt := top 24
theorem sc_can : FnScope ["rides", "trips", "one", "other"] ["rides", "trips", "one", "other"] (defScope s_can) := ⟨rfl, rfl, rfl, by decide +kernel, rfl, by decide +kernel, by decide +kernel⟩
theorem bi_can {K : PySem.W.Frag} {f : Addr} {fd : FuncData} (F : Fn K "can" s_can f fd) : Binds K fd ["rides", "trips", "one", "other"] [] := F.bindsN fun _ _ _ _ _ _ us hl => match us, hl with | [_, _, _, _], _ => rfl
abbrev s_ridden : Stmt := top 25
theorem sc_ridden : FnScope ["rows", "places", "minute", "found", "k", "least", "row"] ["rows", "places", "minute"] (defScope s_ridden) := ⟨rfl, rfl, rfl, by decide +kernel, rfl, by decide +kernel, by decide +kernel⟩
theorem bi_ridden {K : PySem.W.Frag} {f : Addr} {fd : FuncData} (F : Fn K "ridden" s_ridden f fd) : Binds K fd ["rows", "places", "minute"] [] := F.bindsN fun _ _ _ _ _ _ us hl => match us, hl with | [_, _, _], _ => rfl
abbrev s_day : Stmt := top 26
theorem sc_day : FnScope ["rides", "trips", "row", "rows", "number", "k", "found", "trip", "places"] ["rides", "trips", "row"] (defScope s_day) := ⟨rfl, rfl, rfl, by decide +kernel, rfl, by decide +kernel, by decide +kernel⟩
theorem bi_day {K : PySem.W.Frag} {f : Addr} {fd : FuncData} (F : Fn K "day" s_day f fd) : Binds K fd ["rides", "trips", "row"] [] := F.bindsN fun _ _ _ _ _ _ us hl => match us, hl with | [_, _, _], _ => rfl
abbrev s_law_whole : Stmt := top 28
theorem sc_law_whole : FnScope ["_law_found"] ["_law_found"] (defScope s_law_whole) := ⟨rfl, rfl, rfl, by decide +kernel, rfl, by decide +kernel, by decide +kernel⟩
theorem bi_law_whole {K : PySem.W.Frag} {f : Addr} {fd : FuncData} (F : Fn K "_law_whole" s_law_whole f fd) : Binds K fd ["_law_found"] [] := F.bindsN fun _ _ _ _ _ _ us hl => match us, hl with | [_], _ => rfl
abbrev s_law_cell_at : Stmt := top 29
theorem sc_law_cell_at : FnScope ["_law_script", "_law_k"] ["_law_script", "_law_k"] (defScope s_law_cell_at) := ⟨rfl, rfl, rfl, by decide +kernel, rfl, by decide +kernel, by decide +kernel⟩
theorem bi_law_cell_at {K : PySem.W.Frag} {f : Addr} {fd : FuncData} (F : Fn K "_law_cell_at" s_law_cell_at f fd) : Binds K fd ["_law_script", "_law_k"] [] := F.bindsN fun _ _ _ _ _ _ us hl => match us, hl with | [_, _], _ => rfl
abbrev s_law_names : Stmt := top 30
theorem sc_law_names : FnScope ["_law_cell", "_law_many", "_law_some", "_law_k", "_law_size", "_law_place", "_law_fill", "_law_names_here", "_law_sign"] ["_law_cell", "_law_many"] (defScope s_law_names) := ⟨rfl, rfl, rfl, by decide +kernel, rfl, by decide +kernel, by decide +kernel⟩
theorem bi_law_names {K : PySem.W.Frag} {f : Addr} {fd : FuncData} (F : Fn K "_law_names" s_law_names f fd) : Binds K fd ["_law_cell", "_law_many"] [] := F.bindsN fun _ _ _ _ _ _ us hl => match us, hl with | [_, _], _ => rfl
abbrev s_law_rides : Stmt := top 31
theorem sc_law_rides : FnScope ["_law_script", "_law_place", "_law_names_here", "_law_size", "_law_rides_here", "_law_k", "_law_cell", "_law_one", "_law_other", "_law_minutes"] ["_law_script", "_law_place", "_law_names_here", "_law_size"] (defScope s_law_rides) := ⟨rfl, rfl, rfl, by decide +kernel, rfl, by decide +kernel, by decide +kernel⟩
theorem bi_law_rides {K : PySem.W.Frag} {f : Addr} {fd : FuncData} (F : Fn K "_law_rides" s_law_rides f fd) : Binds K fd ["_law_script", "_law_place", "_law_names_here", "_law_size"] [] := F.bindsN fun _ _ _ _ _ _ us hl => match us, hl with | [_, _, _, _], _ => rfl
abbrev s_law_trips : Stmt := top 32
theorem sc_law_trips : FnScope ["_law_script", "_law_place", "_law_names_here", "_law_size", "_law_trips_here", "_law_k", "_law_cell", "_law_one", "_law_other", "_law_begin", "_law_least_here"] ["_law_script", "_law_place", "_law_names_here", "_law_size"] (defScope s_law_trips) := ⟨rfl, rfl, rfl, by decide +kernel, rfl, by decide +kernel, by decide +kernel⟩
theorem bi_law_trips {K : PySem.W.Frag} {f : Addr} {fd : FuncData} (F : Fn K "_law_trips" s_law_trips f fd) : Binds K fd ["_law_script", "_law_place", "_law_names_here", "_law_size"] [] := F.bindsN fun _ _ _ _ _ _ us hl => match us, hl with | [_, _, _, _], _ => rfl
abbrev s_law_roads : Stmt := top 33
theorem sc_law_roads : FnScope ["_law_rides_here", "_law_trips_here", "_law_found", "_law_trip"] ["_law_rides_here", "_law_trips_here"] (defScope s_law_roads) := ⟨rfl, rfl, rfl, by decide +kernel, rfl, by decide +kernel, by decide +kernel⟩
theorem bi_law_roads {K : PySem.W.Frag} {f : Addr} {fd : FuncData} (F : Fn K "_law_roads" s_law_roads f fd) : Binds K fd ["_law_rides_here", "_law_trips_here"] [] := F.bindsN fun _ _ _ _ _ _ us hl => match us, hl with | [_, _], _ => rfl
abbrev s_law_least : Stmt := top 34
theorem sc_law_least : FnScope ["_law_told", "_law_place", "_law_found", "_law_turn", "_law_road", "_law_minutes"] ["_law_told", "_law_place"] (defScope s_law_least) := ⟨rfl, rfl, rfl, by decide +kernel, rfl, by decide +kernel, by decide +kernel⟩
theorem bi_law_least {K : PySem.W.Frag} {f : Addr} {fd : FuncData} (F : Fn K "_law_least" s_law_least f fd) : Binds K fd ["_law_told", "_law_place"] [] := F.bindsN fun _ _ _ _ _ _ us hl => match us, hl with | [_, _], _ => rfl
abbrev s_law_can : Stmt := top 35
theorem sc_law_can : FnScope ["_law_told", "_law_one", "_law_other", "_law_least_here"] ["_law_told", "_law_one", "_law_other"] (defScope s_law_can) := ⟨rfl, rfl, rfl, by decide +kernel, rfl, by decide +kernel, by decide +kernel⟩
theorem bi_law_can {K : PySem.W.Frag} {f : Addr} {fd : FuncData} (F : Fn K "_law_can" s_law_can f fd) : Binds K fd ["_law_told", "_law_one", "_law_other"] [] := F.bindsN fun _ _ _ _ _ _ us hl => match us, hl with | [_, _, _], _ => rfl
abbrev s_law_built : Stmt := top 36
theorem sc_law_built : FnScope ["_law_script", "_law_first", "_law_second", "_law_names_here", "_law_rides_here", "_law_trips_here", "_law_step", "_law_k"] ["_law_script"] (defScope s_law_built) := ⟨rfl, rfl, rfl, by decide +kernel, rfl, by decide +kernel, by decide +kernel⟩
theorem bi_law_built {K : PySem.W.Frag} {f : Addr} {fd : FuncData} (F : Fn K "_law_built" s_law_built f fd) : Binds K fd ["_law_script"] [] := F.bindsN fun _ _ _ _ _ _ us hl => match us, hl with | [_], _ => rfl
abbrev s_law_walked : Stmt := top 37
theorem sc_law_walked : FnScope ["_law_told", "_law_trips_here", "_law_row_here", "_law_stops_here", "_law_exact", "_law_at", "_law_k", "_law_trip", "_law_here", "_law_steps", "_law_ahead", "_law_road"] ["_law_told", "_law_trips_here", "_law_row_here", "_law_stops_here", "_law_exact"] (defScope s_law_walked) := ⟨rfl, rfl, rfl, by decide +kernel, rfl, by decide +kernel, by decide +kernel⟩
theorem bi_law_walked {K : PySem.W.Frag} {f : Addr} {fd : FuncData} (F : Fn K "_law_walked" s_law_walked f fd) : Binds K fd ["_law_told", "_law_trips_here", "_law_row_here", "_law_stops_here", "_law_exact"] [] := F.bindsN fun _ _ _ _ _ _ us hl => match us, hl with | [_, _, _, _, _], _ => rfl
abbrev s_law_stops : Stmt := top 38
theorem sc_law_stops : FnScope ["_law_found", "_law_one"] ["_law_found"] (defScope s_law_stops) := ⟨rfl, rfl, rfl, by decide +kernel, rfl, by decide +kernel, by decide +kernel⟩
theorem bi_law_stops {K : PySem.W.Frag} {f : Addr} {fd : FuncData} (F : Fn K "_law_stops" s_law_stops f fd) : Binds K fd ["_law_found"] [] := F.bindsN fun _ _ _ _ _ _ us hl => match us, hl with | [_], _ => rfl
abbrev s_law_row : Stmt := top 39
theorem sc_law_row : FnScope ["_law_script", "_law_told", "_law_trips_here", "_law_cell", "_law_row_here", "_law_numbers", "_law_begin", "_law_number", "_law_k"] ["_law_script", "_law_told", "_law_trips_here"] (defScope s_law_row) := ⟨rfl, rfl, rfl, by decide +kernel, rfl, by decide +kernel, by decide +kernel⟩
theorem bi_law_row {K : PySem.W.Frag} {f : Addr} {fd : FuncData} (F : Fn K "_law_row" s_law_row f fd) : Binds K fd ["_law_script", "_law_told", "_law_trips_here"] [] := F.bindsN fun _ _ _ _ _ _ us hl => match us, hl with | [_, _, _], _ => rfl
abbrev s_law_refused : Stmt := top 40
theorem sc_law_refused : FnScope ["_law_rides_here", "_law_trips_here", "_law_row_here", "e"] ["_law_rides_here", "_law_trips_here", "_law_row_here"] (defScope s_law_refused) := ⟨rfl, rfl, rfl, by decide +kernel, rfl, by decide +kernel, by decide +kernel⟩
theorem bi_law_refused {K : PySem.W.Frag} {f : Addr} {fd : FuncData} (F : Fn K "_law_refused" s_law_refused f fd) : Binds K fd ["_law_rides_here", "_law_trips_here", "_law_row_here"] [] := F.bindsN fun _ _ _ _ _ _ us hl => match us, hl with | [_, _, _], _ => rfl
abbrev s_law : Stmt := top 41
theorem sc_law : FnScope ["_law_script", "_law_names_here", "_law_rides_here", "_law_trips_here", "_law_told", "_law_row_here", "_law_handed", "_law_late", "_law_turn", "_law_found", "_law_k"] ["_law_script"] (defScope s_law) := ⟨rfl, rfl, rfl, by decide +kernel, rfl, by decide +kernel, by decide +kernel⟩
theorem bi_law {K : PySem.W.Frag} {f : Addr} {fd : FuncData} (F : Fn K "law" s_law f fd) : Binds K fd ["_law_script"] [] := F.bindsN fun _ _ _ _ _ _ us hl => match us, hl with | [_], _ => rfl
end Fb
/-! looks.py: whole numbers, places, rides, trips, all of them; roads. Here for what is in form. -/
namespace Fb
open PySem PySem.Spec PyProof.Rows L2
/-! ### kinds -/
inductive Kd where
  | int | bool | str | non | lst | tup
def Kd.nm : Kd → String
  | .int => "int" | .bool => "bool" | .str => "str" | .non => "NoneType" | .lst => "list" | .tup => "tuple"
inductive Plain (K : PySem.W.Frag) (H : Hp) : V → Kd → Prop where
  | int (i : Int) : Plain K H (.int i) .int
  | bool (b : Bool) : Plain K H (.bl b) .bool
  | str (z : Str) (h : z.length ≤ sizeLine) : Plain K H (.str z) .str
  | non : Plain K H .non .non
  | lst {a : Addr} {xs : List V} (h : SqL K H a xs) : Plain K H (.ref a) .lst
  | tup {a : Addr} {xs : List V} (h : SqT K H a xs) : Plain K H (.ref a) .tup
theorem Plain.ty {K : PySem.W.Frag} {H : Hp} {x : V} {k : Kd} (p : Plain K H x k) : TyX K H x (.type k.nm) := by
  cases p with
  | int i => exact .base (.int i)
  | bool b => exact .base (.bl b)
  | str z _ => exact .base (.str z)
  | non => exact .base .non
  | lst h => exact ty_lst h
  | tup h => exact ty_tup h
def Kd.isInt : Kd → Bool
  | .int => true | .bool => true | _ => false
def Kd.isBool : Kd → Bool
  | .bool => true | _ => false
def Kd.isStr : Kd → Bool
  | .str => true | _ => false
def Kd.isTup : Kd → Bool
  | .tup => true | _ => false
def Kd.isLst : Kd → Bool
  | .lst => true | _ => false
theorem kd_int (k : Kd) : kitB k.nm "int" = some k.isInt := by cases k <;> decide +kernel
theorem kd_bool (k : Kd) : kitB k.nm "bool" = some k.isBool := by cases k <;> decide +kernel
theorem kd_str (k : Kd) : kitB k.nm "str" = some k.isStr := by cases k <;> decide +kernel
theorem kd_tup (k : Kd) : kitB k.nm "tuple" = some k.isTup := by cases k <;> decide +kernel
theorem kd_lst (k : Kd) : kitB k.nm "list" = some k.isLst := by cases k <;> decide +kernel
/-! ### a whole number from one to another -/
def isWhole : V → Int → Int → Bool
  | .int i, lo, hi => decide (lo ≤ i) && decide (i ≤ hi)
  | _, _, _ => false
def spWhole (K : PySem.W.Frag) : Sp := fun vs H Q _ => ∃ (x : V) (k : Kd) (lo hi : Int), vs = [x, .int lo, .int hi] ∧ Plain K H x k ∧ Q (.bl (isWhole x lo hi)) H
section
variable {P : Program} {w : World} {K : PySem.W.Frag} {mg : Str → Option Value} {base : Heap}
theorem cal_is_whole {f : Addr} {fd : FuncData} (F : Fn K "is_whole" s_is_whole f fd) (g : mg "is_whole" = some (.ref f)) (B : Bi mg) : C8.Cal P w K mg base 1 "is_whole" (spWhole K) [] := by
  refine cal_of F g sc_is_whole (bi_is_whole F) (fun vs H Q E h => ?_) (fun cdv A outer s H vs Q E hr h => ?_)
  · obtain ⟨x, k, lo, hi, rfl, _⟩ := h
    rfl
  · obtain ⟨x, k, lo, hi, rfl, p, q⟩ := h
    refine ⟨_, pss_one (ps_ret (pe_and (pe_callB call_isi (by rfl) B.isi (by decide +kernel) (pa_cons (pv 0) (pa_cons (pe_bltn (v := .ty "int") (u := .type "int") (by rfl) B.int (by decide +kernel) (by rfl)) pa_nil))) (pe_and (pe_not (pe_callB call_isi (by rfl) B.isi (by decide +kernel) (pa_cons (pv 0) (pa_cons (pe_bltn (v := .ty "bool") (u := .type "bool") (by rfl) B.bool (by decide +kernel) (by rfl)) pa_nil)))) (pe_one (pe_chain op_le op_le (pv 1) (pv 0) (pv 2)))))), ?_⟩
    refine ⟨x, rfl, _, _, _, _, _, rfl, .ty _, (p).ty, kit_ty (kd_int k), _, rfl, ?_⟩
    cases p with
    | int i =>
      refine if_t rfl ⟨.int i, rfl, _, _, _, _, _, rfl, .ty _, (Plain.int i).ty, kit_ty (kd_bool .int), _, rfl, _, rfl, if_t rfl ?_⟩
      refine ⟨_, rfl, _, rfl, lo, i, rfl, rfl, _, rfl, ite2 (fun c => ?_) (fun c => ?_)⟩
      · refine ⟨_, rfl, i, hi, rfl, rfl, ?_⟩
        have e : isWhole (.int i) lo hi = decide (i ≤ hi) := by
          show (decide (lo ≤ i) && decide (i ≤ hi)) = _
          rw [c, Bool.true_and]
        rw [e] at q
        exact q
      · have e : isWhole (.int i) lo hi = false := by
          show (decide (lo ≤ i) && decide (i ≤ hi)) = _
          rw [Bool.eq_false_iff.mpr c, Bool.false_and]
        rw [e] at q
        exact q
    | bool b => exact if_t rfl ⟨.bl b, rfl, _, _, _, _, _, rfl, .ty _, (Plain.bool b).ty, kit_ty (kd_bool .bool), _, rfl, _, rfl, if_f rfl q⟩
    | str z _ => exact if_f rfl q
    | non => exact if_f rfl q
    | lst h => exact if_f rfl q
    | tup h => exact if_f rfl q
/-! ### a place's name -/
def signsOk (l : List Nat) : Bool := l.all fun c => decide (c ∈ letters.cps.toList)
def isPlace : V → Bool
  | .str z => decide (1 ≤ (z.length : Int)) && (decide ((z.length : Int) ≤ 12) && signsOk z.cps.toList)
  | _ => false
theorem isPlace_ok {z : Str} (h : okPlace z) : isPlace (.str z) = true := by
  obtain ⟨h1, h2, h3⟩ := h
  show (decide (1 ≤ (z.length : Int)) && (decide ((z.length : Int) ≤ 12) && signsOk z.cps.toList)) = true
  rw [decide_eq_true (by omega), decide_eq_true (by omega), Bool.true_and, Bool.true_and]
  exact List.all_eq_true.mpr fun c hc => decide_eq_true (h3 c hc)
def spPlace (K : PySem.W.Frag) : Sp := fun vs H Q _ => ∃ (x : V) (k : Kd), vs = [x] ∧ Plain K H x k ∧ Q (.bl (isPlace x)) H
theorem cal_is_place {f : Addr} {fd : FuncData} (F : Fn K "is_place" s_is_place f fd) (g : mg "is_place" = some (.ref f)) (B : Bi mg) (cL : ∃ t, mg "LETTERS" = some (.str "abcdefghijklmnopqrstuvwxyz" t)) : C8.Cal P w K mg base 1 "is_place" (spPlace K) [] := by
  obtain ⟨tL, cL⟩ := cL
  refine cal_of F g sc_is_place (bi_is_place F) (fun vs H Q E h => ?_) (fun cdv A outer s H vs Q E hr h => ?_)
  · obtain ⟨x, k, rfl, _⟩ := h
    rfl
  · obtain ⟨x, k, rfl, p, q⟩ := h
    
    refine ⟨_, (pss_cons (ps_if (PW.pt (pw_or (pt_not (pt_val (pe_callB call_isi (by rfl) B.isi (by decide +kernel) (pa_cons (pv 0) (pa_cons (pe_bltn (v := .ty "str") (u := .type "str") (by rfl) B.str (by decide +kernel) (by rfl)) pa_nil))))) (pw_or1 (pt_not (pt_chain op_le op_le pe_int (pe_callB call_len (by rfl) B.len PySem.boot_len (pa_cons (pv 0) pa_nil)) pe_int))))) (pss_one (ps_ret pe_bl)) pss_nil) (pss_cons (ps_for PassesOwn.never rfl (pi_str (pv 0)) (pg_name (i := 1) sc_is_place.nd rfl (Or.inl rfl)) (pss_one (ps_if (pt_cmpR op_notIn_sign (pv 1) (pe_glob (v := .str letters) rfl cL ⟨_, rfl⟩) (by rfl)) (pss_one (ps_ret pe_bl)) pss_nil))) (pss_one (ps_ret pe_bl)))), ?_⟩
    have no : k.isStr = false → isPlace x = false := fun h => by
      cases p with
      | str z _ => cases h
      | _ => rfl
    refine ⟨_, rfl, _, _, _, _, _, rfl, .ty _, (p).ty, kit_ty (kd_str k), _, rfl, ?_⟩
    cases hk : k.isStr with
    | false =>
      rw [no hk] at q
      exact if_t rfl (if_t rfl q)
    | true =>
      cases p with
      | str z hz =>
        refine if_f rfl ?_
        -- not 1 <= len(thing) <= 12
        refine ⟨_, rfl, _, _, rfl, ⟨hz, rfl⟩, 1, _, rfl, rfl, _, rfl, ite2 (fun c1 => ?_) (fun c1 => ?_)⟩
        · refine ⟨_, _, rfl, rfl, _, rfl, ?_⟩
          cases c2 : decide ((z.length : Int) ≤ 12) with
          | false =>
            have e : isPlace (.str z) = false := by
              show (decide (1 ≤ (z.length : Int)) && (decide ((z.length : Int) ≤ 12) && signsOk z.cps.toList)) = false
              rw [c2, Bool.false_and, Bool.and_false]
            rw [e] at q
            exact if_t rfl q
          | true =>
            refine if_f rfl ?_
            have e : isPlace (.str z) = signsOk z.cps.toList := by
              show (decide (1 ≤ (z.length : Int)) && (decide ((z.length : Int) ≤ 12) && signsOk z.cps.toList)) = _
              rw [c1, c2, Bool.true_and, Bool.true_and]
            rw [e] at q
            -- for sign in thing
            refine ⟨_, rfl, z, rfl, for_it walk_str (fun i σ H' => H' = H ∧ (∃ y, σ = [some (.str z), y]) ∧ signsOk (z.cps.toList.take i) = true)
              ⟨rfl, ⟨none, rfl⟩, rfl⟩ (fun _ _ _ _ _ => trivial) ?_ ?_⟩
            · rintro i x σ H1 H2 hi ⟨rfl, ⟨y, rfl⟩, hs⟩ ⟨rfl, c, hc, rfl⟩
              have hl : z.cps.toList[i]? = some c := by rw [Array.getElem?_toList]; exact hc
              refine ⟨_, rfl, c, letters, rfl, rfl, _, rfl, ?_⟩
              cases hin : decide (c ∈ letters.cps.toList) with
              | true =>
                refine if_f rfl ⟨rfl, ⟨_, rfl⟩, ?_⟩
                rw [List.take_add_one, hl]
                show signsOk (z.cps.toList.take i ++ [c]) = true
                unfold signsOk at hs ⊢
                rw [List.all_append, hs, Bool.true_and]
                show (decide (c ∈ letters.cps.toList) && true) = true
                rw [hin]
                rfl
              | false =>
                refine if_t rfl ?_
                have e2 : signsOk z.cps.toList = false := by
                  cases e3 : signsOk z.cps.toList with
                  | false => rfl
                  | true =>
                    have := List.all_eq_true.mp e3 c (List.mem_of_getElem? hl)
                    rw [hin] at this
                    cases this
                rw [e2] at q
                exact q
            · rintro σ H1 ⟨rfl, ⟨y, rfl⟩, hs⟩
              rw [List.take_of_length_le (by simp)] at hs
              rw [hs] at q
              exact q
        · have e : isPlace (.str z) = false := by
            show (decide (1 ≤ (z.length : Int)) && (decide ((z.length : Int) ≤ 12) && signsOk z.cps.toList)) = false
            rw [Bool.eq_false_iff.mpr c1, Bool.false_and]
          rw [e] at q
          exact ⟨_, rfl, if_t rfl q⟩
      | _ => cases hk
/-! ### a ride, a trip -/
def rideB : List V → Bool
  | [u, v, m] => isPlace u && (isPlace v && (!decide (u = v) && isWhole m 1 9999))
  | _ => false
def ltV : V → V → Bool
  | .int i, .int j => decide (i < j)
  | _, _ => false
def tripB : List V → Bool
  | [u, b, v, e] => isPlace u && (isPlace v && (isWhole b 0 99999 && (isWhole e 0 99999 && ltV b e)))
  | _ => false
theorem rideB_ok {r : Ride} (h : okRide r) : rideB (rideV r) = true := by
  obtain ⟨h1, h2, h3, h4, h5⟩ := h
  have hne : ¬ (V.str r.1 = V.str r.2.1) := fun e => h3 (V.str.inj e)
  show (isPlace (.str r.1) && (isPlace (.str r.2.1) && (!decide (V.str r.1 = V.str r.2.1) && (decide (1 ≤ r.2.2) && decide (r.2.2 ≤ 9999))))) = true
  rw [isPlace_ok h1, isPlace_ok h2, decide_eq_false hne, decide_eq_true h4, decide_eq_true h5]
  rfl
theorem tripB_ok {t : Trip} (h : okTrip t) : tripB (tripV t) = true := by
  obtain ⟨h1, h2, h3, h4, h5⟩ := h
  show (isPlace (.str t.1) && (isPlace (.str t.2.2.1) && ((decide (0 ≤ t.2.1) && decide (t.2.1 ≤ 99999)) && ((decide (0 ≤ t.2.2.2) && decide (t.2.2.2 ≤ 99999)) && decide (t.2.1 < t.2.2.2))))) = true
  rw [isPlace_ok h1, isPlace_ok h2, decide_eq_true h3, decide_eq_true h4, decide_eq_true h5, decide_eq_true (by omega), decide_eq_true (by omega)]
  rfl
theorem isPlace_str {x : V} (h : isPlace x = true) : ∃ z, x = .str z := by
  cases x with
  | str z => exact ⟨z, rfl⟩
  | _ => cases h
/-- a thing: a tuple of plain things, or something plain that is none -/
def spForm (K : PySem.W.Frag) (f : List V → Bool) : Sp := fun vs H Q _ => ∃ x, vs = [x] ∧
  ((∃ a items, x = .ref a ∧ SqT K H a items ∧ (∀ v ∈ items, ∃ k, Plain K H v k) ∧ Q (.bl (f items)) H) ∨ ∃ k, Plain K H x k ∧ k.isTup = false ∧ Q (.bl false) H)
theorem len3 {items : List V} {n : Nat} (h : (items.length : Int) = (n : Nat)) : items.length = n := by omega
theorem cal_is_ride {f : Addr} {fd : FuncData} (F : Fn K "is_ride" s_is_ride f fd) (g : mg "is_ride" = some (.ref f)) (B : Bi mg) (cM : ∃ t, mg "MOST_RIDE" = some (.int 9999 t))
    (c_is_place : C8.Cal P w K mg base 1 "is_place" (spPlace K) []) (c_is_whole : C8.Cal P w K mg base 1 "is_whole" (spWhole K) []) : C8.Cal P w K mg base 2 "is_ride" (spForm K rideB) [] := by
  obtain ⟨tM, cM⟩ := cM
  refine cal_of F g sc_is_ride (bi_is_ride F) (fun vs H Q E h => ?_) (fun cdv A outer s H vs Q E hr h => ?_)
  · obtain ⟨x, rfl, _⟩ := h
    rfl
  · obtain ⟨x, rfl, h⟩ := h
    
    refine ⟨_, (pss_cons (ps_if (PW.pt (pw_or (pt_not (pt_val (pe_callB call_isi (by rfl) B.isi (by decide +kernel) (pa_cons (pv 0) (pa_cons (pe_bltn (v := .ty "tuple") (u := .type "tuple") (by rfl) B.tuple (by decide +kernel) (by rfl)) pa_nil))))) (pw_or1 (pt_cmpR op_ne (pe_callB call_len (by rfl) B.len PySem.boot_len (pa_cons (pv 0) pa_nil)) pe_int (nomark _))))) (pss_one (ps_ret pe_bl)) pss_nil) (pss_cons (ps_if (PW.pt (pw_or (pt_not (pt_val (C8.pe_c c_is_place hr (by decide) (by rfl) (pa_cons (pe_ix (r := rIxT K) ix_tup (pv 0) pe_int (fun _ _ => rfl)) pa_nil)))) (pw_or (pt_not (pt_val (C8.pe_c c_is_place hr (by decide) (by rfl) (pa_cons (pe_ix (r := rIxT K) ix_tup (pv 0) pe_int (fun _ _ => rfl)) pa_nil)))) (pw_or1 (pt_cmpR op_eq (pe_ix (r := rIxT K) ix_tup (pv 0) pe_int (fun _ _ => rfl)) (pe_ix (r := rIxT K) ix_tup (pv 0) pe_int (fun _ _ => rfl)) (nomark _)))))) (pss_one (ps_ret pe_bl)) pss_nil) (pss_one (ps_ret (C8.pe_c c_is_whole hr (by decide) (by rfl) (pa_cons (pe_ix (r := rIxT K) ix_tup (pv 0) pe_int (fun _ _ => rfl)) (pa_cons pe_int (pa_cons (pe_glob (v := .int 9999) rfl cM ⟨_, rfl⟩) pa_nil)))))))), ?_⟩
    rcases h with ⟨a, items, rfl, hS, hp, q⟩ | ⟨k, p, hk, q⟩
    · refine ⟨_, rfl, _, _, _, _, _, rfl, .ty _, (Plain.tup hS).ty, kit_ty (kd_tup .tup), _, rfl, if_f rfl ?_⟩
      refine ⟨_, rfl, _, _, rfl, .inr ⟨_, hS, rfl⟩, rfl, _, rfl, ?_⟩
      cases c3 : decide (V.int (items.length : Int) = V.int 3) with
      | false =>
        have e : rideB items = false := by
          have hl : items.length ≠ 3 := fun z => by
            rw [z] at c3
            exact absurd rfl (of_decide_eq_false c3)
          match items, hl with
          | [], _ => rfl
          | [_], _ => rfl
          | [_, _], _ => rfl
          | _ :: _ :: _ :: _ :: _, _ => rfl
          | [_, _, _], hl => exact absurd rfl hl
        rw [e] at q
        exact if_t rfl q
      | true =>
        have hl : items.length = 3 := len3 (V.int.inj (of_decide_eq_true c3))
        obtain ⟨u, v, m, rfl⟩ : ∃ u v m, items = [u, v, m] := by
          match items, hl with
          | [u, v, m], _ => exact ⟨u, v, m, rfl⟩
        obtain ⟨ku, pu⟩ := hp u List.mem_cons_self
        obtain ⟨kv, pv'⟩ := hp v (List.mem_cons_of_mem _ List.mem_cons_self)
        obtain ⟨km, pm⟩ := hp m (List.mem_cons_of_mem _ (List.mem_cons_of_mem _ List.mem_cons_self))
        have qq : Q (.bl (isPlace u && (isPlace v && (!decide (u = v) && isWhole m 1 9999)))) H := q
        refine if_f rfl ?_
        refine ⟨_, rfl, a, _, 0, u, rfl, rfl, hS, atI_nat (j := 0) rfl, u, ku, rfl, pu, _, rfl, ?_⟩
        cases cu : isPlace u with
        | false =>
          rw [cu] at qq
          exact if_t rfl (if_t rfl qq)
        | true =>
          rw [cu, Bool.true_and] at qq
          refine if_f rfl ⟨_, rfl, a, _, 1, v, rfl, rfl, hS, atI_nat (j := 1) rfl, v, kv, rfl, pv', _, rfl, ?_⟩
          cases cv : isPlace v with
          | false =>
            rw [cv] at qq
            exact if_t rfl (if_t rfl qq)
          | true =>
            rw [cv, Bool.true_and] at qq
            obtain ⟨zu, rfl⟩ := isPlace_str cu
            obtain ⟨zv, rfl⟩ := isPlace_str cv
            refine if_f rfl ⟨_, rfl, a, _, 0, _, rfl, rfl, hS, atI_nat (j := 0) rfl, _, rfl, a, _, 1, _, rfl, rfl, hS, atI_nat (j := 1) rfl, rfl, _, rfl, ?_⟩
            cases ce : decide (V.str zu = V.str zv) with
            | true =>
              rw [ce] at qq
              exact if_t rfl qq
            | false =>
              rw [ce] at qq
              exact if_f rfl ⟨_, rfl, a, _, 2, m, rfl, rfl, hS, atI_nat (j := 2) rfl, m, km, 1, 9999, rfl, pm, qq⟩
    · refine ⟨_, rfl, _, _, _, _, _, rfl, .ty _, (p).ty, kit_ty (kd_tup k), _, rfl, ?_⟩
      rw [hk]
      exact if_t rfl (if_t rfl q)
theorem cal_is_trip {f : Addr} {fd : FuncData} (F : Fn K "is_trip" s_is_trip f fd) (g : mg "is_trip" = some (.ref f)) (B : Bi mg) (cM : ∃ t, mg "MOST_MINUTE" = some (.int 99999 t))
    (c_is_place : C8.Cal P w K mg base 1 "is_place" (spPlace K) []) (c_is_whole : C8.Cal P w K mg base 1 "is_whole" (spWhole K) []) : C8.Cal P w K mg base 2 "is_trip" (spForm K tripB) [] := by
  obtain ⟨tM, cM⟩ := cM
  refine cal_of F g sc_is_trip (bi_is_trip F) (fun vs H Q E h => ?_) (fun cdv A outer s H vs Q E hr h => ?_)
  · obtain ⟨x, rfl, _⟩ := h
    rfl
  · obtain ⟨x, rfl, h⟩ := h
    
    refine ⟨_, (pss_cons (ps_if (PW.pt (pw_or (pt_not (pt_val (pe_callB call_isi (by rfl) B.isi (by decide +kernel) (pa_cons (pv 0) (pa_cons (pe_bltn (v := .ty "tuple") (u := .type "tuple") (by rfl) B.tuple (by decide +kernel) (by rfl)) pa_nil))))) (pw_or1 (pt_cmpR op_ne (pe_callB call_len (by rfl) B.len PySem.boot_len (pa_cons (pv 0) pa_nil)) pe_int (nomark _))))) (pss_one (ps_ret pe_bl)) pss_nil) (pss_cons (ps_if (PW.pt (pw_or (pt_not (pt_val (C8.pe_c c_is_place hr (by decide) (by rfl) (pa_cons (pe_ix (r := rIxT K) ix_tup (pv 0) pe_int (fun _ _ => rfl)) pa_nil)))) (pw_or1 (pt_not (pt_val (C8.pe_c c_is_place hr (by decide) (by rfl) (pa_cons (pe_ix (r := rIxT K) ix_tup (pv 0) pe_int (fun _ _ => rfl)) pa_nil))))))) (pss_one (ps_ret pe_bl)) pss_nil) (pss_one (ps_ret (pe_and (C8.pe_c c_is_whole hr (by decide) (by rfl) (pa_cons (pe_ix (r := rIxT K) ix_tup (pv 0) pe_int (fun _ _ => rfl)) (pa_cons pe_int (pa_cons (pe_glob (v := .int 99999) rfl cM ⟨_, rfl⟩) pa_nil)))) (pe_and (C8.pe_c c_is_whole hr (by decide) (by rfl) (pa_cons (pe_ix (r := rIxT K) ix_tup (pv 0) pe_int (fun _ _ => rfl)) (pa_cons pe_int (pa_cons (pe_glob (v := .int 99999) rfl cM ⟨_, rfl⟩) pa_nil)))) (pe_one (pe_cmpR op_lt (pe_ix (r := rIxT K) ix_tup (pv 0) pe_int (fun _ _ => rfl)) (pe_ix (r := rIxT K) ix_tup (pv 0) pe_int (fun _ _ => rfl)) (nomark _))))))))), ?_⟩
    rcases h with ⟨a, items, rfl, hS, hp, q⟩ | ⟨k, p, hk, q⟩
    · refine ⟨_, rfl, _, _, _, _, _, rfl, .ty _, (Plain.tup hS).ty, kit_ty (kd_tup .tup), _, rfl, if_f rfl ?_⟩
      refine ⟨_, rfl, _, _, rfl, .inr ⟨_, hS, rfl⟩, rfl, _, rfl, ?_⟩
      cases c3 : decide (V.int (items.length : Int) = V.int 4) with
      | false =>
        have e : tripB items = false := by
          have hl : items.length ≠ 4 := fun z => by
            rw [z] at c3
            exact absurd rfl (of_decide_eq_false c3)
          match items, hl with
          | [], _ => rfl
          | [_], _ => rfl
          | [_, _], _ => rfl
          | [_, _, _], _ => rfl
          | _ :: _ :: _ :: _ :: _ :: _, _ => rfl
          | [_, _, _, _], hl => exact absurd rfl hl
        rw [e] at q
        exact if_t rfl q
      | true =>
        have hl : items.length = 4 := len3 (V.int.inj (of_decide_eq_true c3))
        obtain ⟨u, b, v, e, rfl⟩ : ∃ u b v e, items = [u, b, v, e] := by
          match items, hl with
          | [u, b, v, e], _ => exact ⟨u, b, v, e, rfl⟩
        obtain ⟨ku, pu⟩ := hp u List.mem_cons_self
        obtain ⟨kb, pb⟩ := hp b (List.mem_cons_of_mem _ List.mem_cons_self)
        obtain ⟨kv, pv'⟩ := hp v (List.mem_cons_of_mem _ (List.mem_cons_of_mem _ List.mem_cons_self))
        obtain ⟨ke, pe'⟩ := hp e (List.mem_cons_of_mem _ (List.mem_cons_of_mem _ (List.mem_cons_of_mem _ List.mem_cons_self)))
        have qq : Q (.bl (isPlace u && (isPlace v && (isWhole b 0 99999 && (isWhole e 0 99999 && ltV b e))))) H := q
        refine if_f rfl ?_
        refine ⟨_, rfl, a, _, 0, u, rfl, rfl, hS, atI_nat (j := 0) rfl, u, ku, rfl, pu, _, rfl, ?_⟩
        cases cu : isPlace u with
        | false =>
          rw [cu] at qq
          exact if_t rfl (if_t rfl qq)
        | true =>
          rw [cu, Bool.true_and] at qq
          refine if_f rfl ⟨_, rfl, a, _, 2, v, rfl, rfl, hS, atI_nat (j := 2) rfl, v, kv, rfl, pv', _, rfl, ?_⟩
          cases cv : isPlace v with
          | false =>
            rw [cv] at qq
            exact if_t rfl qq
          | true =>
            rw [cv, Bool.true_and] at qq
            refine if_f rfl ⟨_, rfl, a, _, 1, b, rfl, rfl, hS, atI_nat (j := 1) rfl, b, kb, 0, 99999, rfl, pb, _, rfl, ?_⟩
            cases cb : isWhole b 0 99999 with
            | false =>
              rw [cb] at qq
              exact if_f rfl qq
            | true =>
              rw [cb, Bool.true_and] at qq
              refine if_t rfl ⟨_, rfl, a, _, 3, e, rfl, rfl, hS, atI_nat (j := 3) rfl, e, ke, 0, 99999, rfl, pe', _, rfl, ?_⟩
              cases ce : isWhole e 0 99999 with
              | false =>
                rw [ce] at qq
                exact if_f rfl qq
              | true =>
                rw [ce, Bool.true_and] at qq
                obtain ⟨i, rfl⟩ : ∃ i, b = .int i := by cases b <;> first | exact ⟨_, rfl⟩ | cases cb
                obtain ⟨j, rfl⟩ : ∃ i, e = .int i := by cases e <;> first | exact ⟨_, rfl⟩ | cases ce
                exact if_t rfl ⟨_, rfl, a, _, 1, _, rfl, rfl, hS, atI_nat (j := 1) rfl, _, rfl, a, _, 3, _, rfl, rfl, hS, atI_nat (j := 3) rfl, i, j, rfl, rfl, qq⟩
    · refine ⟨_, rfl, _, _, _, _, _, rfl, .ty _, (p).ty, kit_ty (kd_tup k), _, rfl, ?_⟩
      rw [hk]
      exact if_t rfl (if_t rfl q)
end
end Fb
/-! all rides and trips, in form; roads. -/
namespace Fb
open PySem PySem.Spec PyProof.Rows L2
section
variable {P : Program} {w : World} {K : PySem.W.Frag} {mg : Str → Option Value} {base : Heap}
/-! ### all rides and trips, in form -/
theorem plain_of {K : PySem.W.Frag} {H : Hp} {z : Str} (h : okPlace z) : Plain K H (.str z) .str := .str z (Nat.le_trans h.2.1 (by decide))
theorem ride_plain {K : PySem.W.Frag} {H : Hp} {r : Ride} (h : okRide r) : ∀ v ∈ rideV r, ∃ k, Plain K H v k := fun v hv => by
  rcases List.mem_cons.mp hv with rfl | hv
  · exact ⟨_, plain_of h.1⟩
  rcases List.mem_cons.mp hv with rfl | hv
  · exact ⟨_, plain_of h.2.1⟩
  rw [List.mem_singleton.mp hv]
  exact ⟨_, .int _⟩
theorem trip_plain {K : PySem.W.Frag} {H : Hp} {t : Trip} (h : okTrip t) : ∀ v ∈ tripV t, ∃ k, Plain K H v k := fun v hv => by
  rcases List.mem_cons.mp hv with rfl | hv
  · exact ⟨_, plain_of h.1⟩
  rcases List.mem_cons.mp hv with rfl | hv
  · exact ⟨_, .int _⟩
  rcases List.mem_cons.mp hv with rfl | hv
  · exact ⟨_, plain_of h.2.1⟩
  rw [List.mem_singleton.mp hv]
  exact ⟨_, .int _⟩
def spLooked (K : PySem.W.Frag) : Sp := fun vs H Q _ => ∃ a b rides trips, vs = [.ref a, .ref b] ∧ Told2 K H a b rides trips ∧ Q .non H
theorem cal_looked {f : Addr} {fd : FuncData} (F : Fn K "looked" s_looked f fd) (g : mg "looked" = some (.ref f)) (c_is_ride : C8.Cal P w K mg base 2 "is_ride" (spForm K rideB) []) (c_is_trip : C8.Cal P w K mg base 2 "is_trip" (spForm K tripB) []) :
    C8.Cal P w K mg base 3 "looked" (spLooked K) [] := by
  refine cal_of F g sc_looked (bi_looked F) (fun vs H Q E h => ?_) (fun cdv A outer s H vs Q E hr h => ?_)
  · obtain ⟨a, b, rides, trips, rfl, _⟩ := h
    rfl
  · obtain ⟨a, b, rides, trips, rfl, T, q⟩ := h
    
    refine ⟨_, (pss_cons (ps_for PassesOwn.never rfl (pi_list (pv 0)) (pg_name (i := 2) sc_looked.nd rfl (Or.inl rfl)) (pss_one (ps_if (pt_not (pt_val (C8.pe_c c_is_ride hr (by decide) (by rfl) (pa_cons (pv 2) pa_nil)))) (pss_one ps_never) pss_nil))) (pss_one (ps_for PassesOwn.never rfl (pi_list (pv 1)) (pg_name (i := 3) sc_looked.nd rfl (Or.inl rfl)) (pss_one (ps_if (pt_not (pt_val (C8.pe_c c_is_trip hr (by decide) (by rfl) (pa_cons (pv 3) pa_nil)))) (pss_one ps_never) pss_nil))))), ?_⟩
    obtain ⟨qs, hL, hT⟩ := T.lR
    obtain ⟨rs, hL2, hT2⟩ := T.lT
    refine ⟨_, rfl, a, rfl, ⟨_, hL⟩, for_list (K := K) (a := a) (xs := qs.map V.ref) (fun i σ H' => H' = H ∧ ∃ y, σ = [some (.ref a), some (.ref b), y, none]) ⟨rfl, none, rfl⟩ (fun i σ H' _ ⟨e, _⟩ => e ▸ hL) ?_ ?_⟩
    · rintro i x σ H' hi ⟨rfl, y, rfl⟩
      obtain ⟨p, r, rfl, hr2, hs⟩ := hT.at hi
      have ok := T.okR r (List.mem_of_getElem? hr2)
      refine ⟨_, rfl, _, rfl, .inl ⟨p, _, rfl, hs, ride_plain ok, ?_⟩⟩
      rw [rideB_ok ok]
      exact ⟨_, rfl, if_f rfl ⟨rfl, _, rfl⟩⟩
    · rintro σ H' ⟨rfl, y, rfl⟩
      refine ⟨_, rfl, b, rfl, ⟨_, hL2⟩, for_list (K := K) (a := b) (xs := rs.map V.ref) (fun i σ H2 => H2 = H' ∧ ∃ z, σ = [some (.ref a), some (.ref b), y, z]) ⟨rfl, none, rfl⟩ (fun i σ H' _ ⟨e, _⟩ => e ▸ hL2) ?_ ?_⟩
      · rintro i x σ H2 hi ⟨rfl, z, rfl⟩
        obtain ⟨p, t, rfl, hr2, hs⟩ := hT2.at hi
        have ok := T.okT t (List.mem_of_getElem? hr2)
        refine ⟨_, rfl, _, rfl, .inl ⟨p, _, rfl, hs, trip_plain ok, ?_⟩⟩
        rw [tripB_ok ok]
        exact ⟨_, rfl, if_f rfl ⟨rfl, _, rfl⟩⟩
      · rintro σ H2 ⟨rfl, z, rfl⟩
        exact q
/-! ### roads -/
theorem roadsM_take {rides : List Ride} {trips : List Trip} {i : Nat} {t : Trip} (h : trips[i]? = some t) : roadsM rides (trips.take (i + 1)) = roadsM rides (trips.take i) ++ roadOf t := by
  unfold roadsM
  rw [List.take_add_one, h, List.flatMap_append, List.append_assoc]
  show _ = rides ++ (_ ++ roadOf t)
  simp
theorem roadsM_len (rides : List Ride) (trips : List Trip) : (roadsM rides trips).length ≤ rides.length + trips.length := by
  unfold roadsM
  rw [List.length_append]
  have : ∀ l : List Trip, (l.flatMap roadOf).length ≤ l.length := fun l => by
    induction l with
    | nil => exact Nat.le_refl 0
    | cons t l ih =>
      rw [List.flatMap_cons, List.length_append, List.length_cons]
      have : (roadOf t).length ≤ 1 := by
        unfold roadOf
        split <;> simp
      omega
  have := this trips
  omega
def spRoads (K : PySem.W.Frag) : Sp := fun vs H Q _ => ∃ a b rides trips, vs = [.ref a, .ref b] ∧ Told2 K H a b rides trips ∧
  ∀ H' p qs, Same H H' → H p = none → H' p = some (.lst (qs.map V.ref)) → Tups K H' rideV qs (roadsM rides trips) → Q (.ref p) H'
theorem cal_roads {f : Addr} {fd : FuncData} (F : Fn K "roads" s_roads f fd) (g : mg "roads" = some (.ref f)) (B : Bi mg) (c_looked : C8.Cal P w K mg base 3 "looked" (spLooked K) []) : C8.Cal P w K mg base 4 "roads" (spRoads K) [] := by
  refine cal_of F g sc_roads (bi_roads F) (fun vs H Q E h => ?_) (fun cdv A outer s H vs Q E hr h => ?_)
  · obtain ⟨a, b, rides, trips, rfl, _⟩ := h
    rfl
  · obtain ⟨a, b, rides, trips, rfl, T, q⟩ := h
    
    refine ⟨_, (pss_cons (ps_expr (C8.pe_c c_looked hr (by decide) (by rfl) (pa_cons (pv 0) (pa_cons (pv 1) pa_nil)))) (pss_cons (ps_set (i := 2) sc_roads.nd rfl (Or.inl rfl) (pe_callTy call_list_of (by rfl) B.list (by decide +kernel) (pa_cons (pv 0) pa_nil))) (pss_cons (ps_for PassesOwn.never rfl (pi_list (pv 1)) (pg_name (i := 3) sc_roads.nd rfl (Or.inl rfl)) (pss_one (ps_if (pt_cmpR op_ne (pe_ix (r := rIxT K) ix_tup (pv 3) pe_int (fun _ _ => rfl)) (pe_ix (r := rIxT K) ix_tup (pv 3) pe_int (fun _ _ => rfl)) (nomark _)) (pss_one (ps_expr (pe_bm PySem.F.plainAttrs_list PySem.F.slot_list_append PySem.F.type_list_append mt_append (pv 2) (pa_cons (pe_tup (pa_cons (pe_ix (r := rIxT K) ix_tup (pv 3) pe_int (fun _ _ => rfl)) (pa_cons (pe_ix (r := rIxT K) ix_tup (pv 3) pe_int (fun _ _ => rfl)) (pa_cons (pe_op op_sub (pe_ix (r := rIxT K) ix_tup (pv 3) pe_int (fun _ _ => rfl)) (pe_ix (r := rIxT K) ix_tup (pv 3) pe_int (fun _ _ => rfl))) pa_nil)))) pa_nil)))) pss_nil))) (pss_one (ps_ret (pv 2)))))), ?_⟩
    obtain ⟨qs, hL, hT⟩ := T.lR
    obtain ⟨rs, hL2, hT2⟩ := T.lT
    refine ⟨_, rfl, _, rfl, a, b, rides, trips, rfl, T, ?_⟩
    refine ⟨_, rfl, a, _, rfl, .inl hL, fun p np => ?_⟩
    have s1 : Same H (upd H p (.lst (qs.map V.ref))) := same_upd np
    refine ⟨_, rfl, b, rfl, ⟨_, s1.seq hL2⟩, for_list (K := K) (a := b) (xs := rs.map V.ref)
      (fun i σ H' => Same H H' ∧ (∃ y, σ = [some (.ref a), some (.ref b), some (.ref p), y]) ∧ ∃ zs, H' p = some (.lst (zs.map V.ref)) ∧ Tups K H' rideV zs (roadsM rides (trips.take i)))
      ⟨s1, ⟨none, rfl⟩, qs, upd_same, ?_⟩ (fun i σ H' _ ⟨e, _⟩ => e.seq hL2) ?_ ?_⟩
    · have e : roadsM rides (trips.take 0) = rides := by simp [roadsM]
      rw [e]
      exact hT.same s1
    · rintro i x σ H' hi ⟨s2, ⟨y, rfl⟩, zs, hz, hzs⟩
      obtain ⟨p1, t, rfl, ht, hs⟩ := (hT2.same s2).at hi
      have e := roadsM_take (rides := rides) ht
      have hlen : i < trips.length := (List.getElem?_eq_some_iff.mp ht).1
      refine ⟨_, rfl, p1, _, 0, _, rfl, rfl, hs, atI_nat (j := 0) rfl, _, rfl, p1, _, 2, _, rfl, rfl, hs, atI_nat (j := 2) rfl, rfl, _, rfl, ?_⟩
      by_cases c : t.1 = t.2.2.1
      · have c2 : decide (V.str t.1 = V.str t.2.2.1) = true := decide_eq_true (by rw [c])
        rw [c2]
        refine if_f rfl ⟨s2, ⟨_, rfl⟩, zs, hz, ?_⟩
        rw [e]
        unfold roadOf
        rw [if_pos c, List.append_nil]
        exact hzs
      · have c2 : decide (V.str t.1 = V.str t.2.2.1) = false := decide_eq_false fun z => c (V.str.inj z)
        rw [c2]
        refine if_t rfl ⟨_, rfl, .inl ⟨rfl, _, sqL_of hz⟩, ?_⟩
        refine ⟨_, rfl, p1, _, 0, _, rfl, rfl, hs, atI_nat (j := 0) rfl, _, rfl, p1, _, 2, _, rfl, rfl, hs, atI_nat (j := 2) rfl, _, rfl, p1, _, 3, _, rfl, rfl, hs, atI_nat (j := 3) rfl, _, rfl, p1, _, 1, _, rfl, rfl, hs, atI_nat (j := 1) rfl, _, _, rfl, rfl, (by show 3 ≤ sizeLine; decide), fun q' nq => ?_⟩
        have npq : p ≠ q' := ne_of_none hz nq
        have hz2 : (upd H' q' (.tup [.str t.1, .str t.2.2.1, .int (t.2.2.2 - t.2.1)])) p = some (.lst (zs.map V.ref)) := by
          rw [upd_ne npq]
          exact hz
        have s3 : Same H' (upd H' q' (.tup [.str t.1, .str t.2.2.1, .int (t.2.2.2 - t.2.1)])) := same_upd nq
        refine ⟨p, _, _, rfl, rfl, hz2, ?_, ?_⟩
        · rw [List.length_map, hzs.1]
          have := roadsM_len rides (trips.take i)
          rw [List.length_take] at this
          have h1 := T.lenR
          have h2 := T.lenT
          exact small1000 (by omega)
        · refine ⟨same_put (s2.trans s3) np, ⟨_, rfl⟩, zs ++ [q'], ?_, ?_⟩
          · rw [upd_same, List.map_append]
            rfl
          · rw [e]
            unfold roadOf
            rw [if_neg c]
            exact Tups.add ((hzs.same s3).putL hz2) (seqT_putL hz2 (sqT_of upd_same))
    · rintro σ H' ⟨s2, ⟨y, rfl⟩, zs, hz, hzs⟩
      refine ⟨_, rfl, q H' p zs s2 np hz ?_⟩
      rw [List.length_map, hT2.1, List.take_length] at hzs
      exact hzs
end
end Fb
/-! What a law builds: cells of the script, names. -/
namespace Fb
open PySem PySem.Spec PyProof.Rows L2
/-! ### letters -/
def letL : List Nat := letters.cps.toList
theorem letL_len : letL.length = 26 := by decide +kernel
def lt (z : Int) : Nat := letL.getD z.toNat 97
theorem lt_at {z : Int} (h0 : 0 ≤ z) (h1 : z < 26) : atI letL z = some (lt z) := by
  have hz : z.toNat < letL.length := by rw [letL_len]; omega
  have e : letL[z.toNat]? = some (lt z) := by
    unfold lt
    rw [List.getD_eq_getElem?_getD, List.getElem?_eq_getElem hz]
    rfl
  have := atI_nat e
  rw [show ((z.toNat : Nat) : Int) = z by omega] at this
  exact this
theorem lt_in (z : Int) : lt z ∈ letters.cps.toList := by
  have h : ∀ n : Nat, letL.getD n 97 ∈ letL := fun n => by
    by_cases hn : n < letL.length
    · rw [List.getD_eq_getElem?_getD, List.getElem?_eq_getElem hn]
      exact List.getElem_mem hn
    · rw [List.getD_eq_getElem?_getD, List.getElem?_eq_none (by omega)]
      exact (by decide +kernel : 97 ∈ letL)
  exact h z.toNat
theorem lt_inj {a b : Int} (ha : 0 ≤ a) (ha1 : a < 26) (hb : 0 ≤ b) (hb1 : b < 26) (h : lt a = lt b) : a = b := by
  have key : ∀ i : Nat, i < 26 → ∀ j : Nat, j < 26 → letL.getD i 97 = letL.getD j 97 → i = j := by decide +kernel
  have := key a.toNat (by omega) b.toNat (by omega) h
  omega
theorem okPlace_of {l : List Nat} (h1 : 1 ≤ l.length) (h2 : l.length ≤ 12) (h : ∀ c ∈ l, c ∈ letters.cps.toList) : okPlace (SX.S l) := ⟨by rw [SX.S_len]; exact h1, by rw [SX.S_len]; exact h2, fun c hc => h c hc⟩
theorem nodup_range_map {β : Type} {f : Nat → β} {n : Nat} (h : ∀ i j, i < n → j < n → f i = f j → i = j) : ((List.range n).map f).Nodup := by
  unfold List.Nodup
  rw [List.pairwise_map]
  refine List.Pairwise.imp_of_mem (R := fun a b => a < b) ?_ List.pairwise_lt_range
  intro a b ha hb hlt e
  have := h a b (List.mem_range.mp ha) (List.mem_range.mp hb) e
  omega
/-! ### a sign, so many times -/
section
variable {X : Cx}
theorem op_mul_sign : OpR X (binaryOp .Mult) (fun x y H Q => ∃ (c : Nat) (k : Int), x = .str ⟨#[c]⟩ ∧ y = .int k ∧ -1000 ≤ k ∧ k ≤ 1000 ∧ Q (.str (SX.S (List.replicate k.toNat c))) H) := by
  intro pins s σ H x y v u Q I rx ry h
  obtain ⟨c, k, rfl, rfl, h1, h2, q⟩ := h
  obtain ⟨t, rfl⟩ := rx
  obtain ⟨t', rfl⟩ := ry
  refine SB.mul (mulOk_of 1 1000 (Nat.le_refl 1) h2 (by omega) (by decide) (by decide)) fun t' tk => ⟨.str (SX.S (List.replicate k.toNat c)), H, I.tok _, ⟨t', ?_⟩, q⟩
  have e : Txt.mul ⟨#[c]⟩ k = SX.S (List.replicate k.toNat c) := TL.ext_tl (mul_one_list c k)
  rw [e]
end
/-! ### cells -/
def cellAt (ns : List Int) (k : Int) : Int := ns.getD k.toNat 0
def spCellAt (K : PySem.W.Frag) : Sp := fun vs H Q _ => ∃ a ns k, vs = [.ref a, .int k] ∧ SqL K H a (ns.map V.int) ∧ 0 ≤ k ∧ Q (.int (cellAt ns k)) H
section
variable {P : Program} {w : World} {K : PySem.W.Frag} {mg : Str → Option Value} {base : Heap}
theorem cal_law_cell_at {f : Addr} {fd : FuncData} (F : Fn K "_law_cell_at" s_law_cell_at f fd) (g : mg "_law_cell_at" = some (.ref f)) (B : Bi mg) : C8.Cal P w K mg base 1 "_law_cell_at" (spCellAt K) [] := by
  refine cal_of F g sc_law_cell_at (bi_law_cell_at F) (fun vs H Q E h => ?_) (fun cdv A outer s H vs Q E hr h => ?_)
  · obtain ⟨a, ns, k, rfl, _⟩ := h
    rfl
  · obtain ⟨a, ns, k, rfl, hS, h0, q⟩ := h
    
    refine ⟨_, (pss_cons (ps_if (pt_cmpR op_lt (pv 1) (pe_callB call_len_seq (by rfl) B.len PySem.boot_len (pa_cons (pv 0) pa_nil)) (nomark _)) (pss_one (ps_ret (pe_ix (r := rIxL K) ix_list (pv 0) (pv 1) (fun _ _ => rfl)))) pss_nil) (pss_one (ps_ret pe_int))), ?_⟩
    refine ⟨_, rfl, _, rfl, a, _, rfl, .inl hS, k, _, rfl, rfl, _, rfl, ite2 (fun c => ?_) (fun c => ?_)⟩
    · have hk : k.toNat < ns.length := by
        have := of_decide_eq_true c
        rw [List.length_map] at this
        omega
      have e : (ns.map V.int)[k.toNat]? = some (.int (cellAt ns k)) := by
        unfold cellAt
        rw [List.getElem?_map, List.getElem?_eq_getElem hk, List.getD_eq_getElem?_getD, List.getElem?_eq_getElem hk]
        rfl
      have e2 := atI_nat e
      rw [show ((k.toNat : Nat) : Int) = k by omega] at e2
      exact ⟨_, rfl, _, rfl, a, _, k, _, rfl, rfl, hS, e2, q⟩
    · have hk : ns.length ≤ k.toNat := by
        have := of_decide_eq_false (Bool.eq_false_iff.mpr c)
        rw [List.length_map] at this
        omega
      have e : cellAt ns k = 0 := by
        unfold cellAt
        rw [List.getD_eq_getElem?_getD, List.getElem?_eq_none hk]
        rfl
      rw [e] at q
      exact q
/-! ### names -/
/-- names apart, each a place's -/
def NamesOk (names : List Str) : Prop := names.Nodup ∧ ∀ z ∈ names, okPlace z
def nameA (c k : Nat) : Str := SX.S (List.replicate (k + 1) c)
def nameB (f : Nat) (g : Int → Nat) (C : Int) (p q : Nat) (k : Nat) : Str := SX.S (List.replicate p f ++ (g (((k : Int) + C) % 26) :: List.replicate q f))
theorem namesA_ok {n : Nat} (hn : n ≤ 12) (z : Int) : NamesOk ((List.range n).map (nameA (lt z))) := by
  refine ⟨nodup_range_map fun i j _ _ e => ?_, fun x hx => ?_⟩
  · have := congrArg List.length (SX.S_inj e)
    rw [List.length_replicate, List.length_replicate] at this
    omega
  · obtain ⟨k, hk, rfl⟩ := List.mem_map.mp hx
    have := List.mem_range.mp hk
    refine okPlace_of ?_ ?_ fun c hc => ?_
    · rw [List.length_replicate]; omega
    · rw [List.length_replicate]; omega
    · rw [List.eq_of_mem_replicate hc]
      exact lt_in z
theorem namesB_ok {n p q : Nat} (hn : n ≤ 12) (hl : p + q + 1 ≤ 12) (z C : Int) : NamesOk ((List.range n).map (nameB (lt z) lt C p q)) := by
  refine ⟨nodup_range_map fun i j hi hj e => ?_, fun x hx => ?_⟩
  · have e1 := List.append_cancel_left (SX.S_inj e)
    have e2 := (List.cons.inj e1).1
    have := lt_inj (by omega) (by omega) (by omega) (by omega) e2
    omega
  · obtain ⟨k, hk, rfl⟩ := List.mem_map.mp hx
    refine okPlace_of ?_ ?_ fun c hc => ?_
    · simp; omega
    · simp; omega
    · rcases List.mem_append.mp hc with h | h
      · rw [List.eq_of_mem_replicate h]; exact lt_in z
      · rcases List.mem_cons.mp h with h | h
        · rw [h]; exact lt_in _
        · rw [List.eq_of_mem_replicate h]; exact lt_in z
def nSz (cell : Int) : Int := 1 + cell / 2 % 12
def nPl (cell : Int) : Int := cell / 2 / 12 % (1 + cell / 2 % 12)
def nFl (cell : Int) : Int := cell / 2 / 144 % 26
theorem nSz_le (cell : Int) : nSz cell ≤ 12 := by unfold nSz; omega
theorem nPl_lt (cell : Int) : 0 ≤ nPl cell ∧ nPl cell < nSz cell := ⟨Int.emod_nonneg _ (by omega), Int.emod_lt_of_pos _ (by omega)⟩
def spNames : Sp := fun vs H Q _ => ∃ (cell : Int) (many : Nat), vs = [.int cell, .int many] ∧ many ≤ 12 ∧
  ∀ H' p names, Same H H' → H p = none → H' p = some (.lst (names.map V.str)) → names.length = many → NamesOk names → Q (.ref p) H'
theorem cal_law_names {f : Addr} {fd : FuncData} (F : Fn K "_law_names" s_law_names f fd) (g : mg "_law_names" = some (.ref f)) (B : Bi mg) : C8.Cal P w K mg base 1 "_law_names" spNames [] := by
  refine cal_of F g sc_law_names (bi_law_names F) (fun vs H Q E h => ?_) (fun cdv A outer s H vs Q E hr h => ?_)
  · obtain ⟨cell, many, rfl, _⟩ := h
    rfl
  · obtain ⟨cell, many, rfl, hm, q⟩ := h
    
    refine ⟨_, (pss_cons (ps_set (i := 2) sc_law_names.nd rfl (Or.inr rfl) pe_str) (pss_cons (ps_if (pt_cmpR op_eq (pe_op op_mod (pv 0) pe_int) pe_int (nomark _)) (pss_one (ps_ret (pe_lc (own := [("_law_k", 3)]) (g := gName 3) (tt := tYes) rfl sc_law_names.nd (pi_range1 rfl B.range (pa_cons (pv 1) pa_nil)) (blkOk_by (N := ["_law_cell", "_law_many", "_law_some", "_law_k", "_law_size", "_law_place", "_law_fill", "_law_names_here", "_law_sign"]) (sc := defScope s_law_names) (by decide +kernel)) (fun _ _ _ _ _ => pg_name (i := 3) sc_law_names.nd rfl (Or.inl rfl)) (fun _ _ _ _ _ => pts_nil) (fun _ _ _ _ _ => (pe_op op_mul_sign (pe_ix ix_str (pv 2) (pe_op op_mod (pe_op op_fdiv (pv 0) pe_int) pe_int) (fun _ _ => rfl)) (pe_op op_add (pv 3) pe_int)))))) pss_nil) (pss_cons (ps_set (i := 0) sc_law_names.nd rfl (Or.inr rfl) (pe_op op_fdiv (pv 0) pe_int)) (pss_cons (ps_set (i := 4) sc_law_names.nd rfl (Or.inl rfl) (pe_op op_add pe_int (pe_op op_mod (pv 0) pe_int))) (pss_cons (ps_set (i := 5) sc_law_names.nd rfl (Or.inl rfl) (pe_op op_mod (pe_op op_fdiv (pv 0) pe_int) (pv 4))) (pss_cons (ps_set (i := 6) sc_law_names.nd rfl (Or.inl rfl) (pe_ix ix_str (pv 2) (pe_op op_mod (pe_op op_fdiv (pv 0) pe_int) pe_int) (fun _ _ => rfl))) (pss_cons (ps_set (i := 7) sc_law_names.nd rfl (Or.inl rfl) (pe_lst pa_nil)) (pss_cons (ps_for PassesOwn.never rfl (pi_range1 rfl B.range (pa_cons (pv 1) pa_nil)) (pg_name (i := 3) sc_law_names.nd rfl (Or.inl rfl)) (pss_cons (ps_set (i := 8) sc_law_names.nd rfl (Or.inl rfl) (pe_ix ix_str (pv 2) (pe_op op_mod (pe_op op_add (pv 3) (pe_op op_fdiv (pv 0) pe_int)) pe_int) (fun _ _ => rfl))) (pss_one (ps_expr (pe_bm PySem.F.plainAttrs_list PySem.F.slot_list_append PySem.F.type_list_append mt_append (pv 7) (pa_cons (pe_op op_add_str (pe_op op_add_str (pe_op op_mul_sign (pv 6) (pv 5)) (pv 8)) (pe_op op_mul_sign (pv 6) (pe_op op_sub (pe_op op_sub (pv 4) pe_int) (pv 5)))) pa_nil)))))) (pss_one (ps_ret (pv 7))))))))))), ?_⟩
    refine ⟨_, rfl, _, _, rfl, rfl, (by show (0 : Int) < 2; decide), rfl, _, rfl, ite2 (fun _ => ?_) (fun _ => ?_)⟩
    · -- names each a letter longer
      refine ⟨_, rfl, many, rfl, by omega, by omega, fun D hD => lc_range (lo := 0) (n := many)
        (fun i H' => Same H H' ∧ H' D = some (.lst (((List.range i).map (nameA (lt (cell / 2 % 26)))).map V.str))) ⟨same_upd hD, upd_same⟩ ?_ ?_⟩
      · rintro i H1 hi ⟨s1, e1⟩
        refine ⟨rfl, ?_⟩
        refine ⟨_, rfl, _, rfl, _, _, rfl, rfl, ⟨by decide, by decide⟩, _, _, rfl, rfl, (by show (0 : Int) < 26; decide), letters, cell / 2 % 26, _, rfl, rfl, by decide, lt_at (by omega) (by omega), ?_⟩
        refine ⟨_, rfl, _, _, rfl, rfl, _, _, rfl, rfl, by omega, by omega, _, e1, ?_, same_put s1 hD, ?_⟩
        · rw [List.length_map, List.length_map, List.length_range]
          exact small1000 (by omega)
        · rw [upd_same, List.range_succ, List.map_append, List.map_append]
          have e : (0 + (i : Int) + 1).toNat = i + 1 := by omega
          rw [e]
          rfl
      · rintro H1 ⟨s1, e1⟩
        refine q H1 D _ s1 hD e1 (by simp) (namesA_ok hm _)
    · -- names alike but at a place
      refine ⟨_, rfl, _, _, rfl, rfl, ⟨by decide, by decide⟩, ?_⟩
      refine ⟨_, rfl, _, _, rfl, rfl, (by show (0 : Int) < 12; decide), _, _, rfl, rfl, ?_⟩
      refine ⟨_, rfl, _, _, rfl, rfl, ⟨by decide, by decide⟩, _, rfl, _, _, rfl, rfl, (by show (0 : Int) < 1 + cell / 2 % 12; omega), ?_⟩
      refine ⟨_, rfl, _, rfl, _, _, rfl, rfl, ⟨by decide, by decide⟩, _, _, rfl, rfl, (by show (0 : Int) < 26; decide), letters, cell / 2 / 144 % 26, _, rfl, rfl, by decide, lt_at (by omega) (by omega), ?_⟩
      have hs0 := nSz_le cell
      have hp := nPl_lt cell
      refine ⟨Nat.zero_le _, fun D hD => ?_⟩
      refine ⟨_, rfl, many, rfl, by omega, by omega, for_range (lo := 0) (n := many)
        (fun i σ H' => Same H H' ∧ (∃ k y, σ = [some (.int (cell / 2)), some (.int many), some (.str letters), k, some (.int (nSz cell)), some (.int (nPl cell)), some (.str (SX.S [lt (nFl cell)])), some (.ref D), y]) ∧
          H' D = some (.lst (((List.range i).map (nameB (lt (nFl cell)) lt (cell / 2 / 3744) (nPl cell).toNat (nSz cell - 1 - nPl cell).toNat)).map V.str))) ⟨same_upd hD, ⟨none, none, rfl⟩, upd_same⟩ ?_ ?_⟩
      · rintro i σ H1 hi ⟨s1, ⟨k, y, rfl⟩, e1⟩
        refine ⟨_, rfl, _, rfl, _, rfl, _, _, rfl, rfl, ⟨by decide, by decide⟩, _, _, rfl, rfl, _, _, rfl, rfl, (by show (0 : Int) < 26; decide), letters, (0 + (i : Int) + cell / 2 / 3744) % 26, _, rfl, rfl, by decide, lt_at (by omega) (by omega), ?_⟩
        refine ⟨_, rfl, .inl ⟨rfl, _, sqL_of e1⟩, ?_⟩
        refine ⟨_, rfl, _, rfl, _, nPl cell, rfl, rfl, by omega, by omega, _, rfl, _, _, rfl, rfl, ?_, ?_⟩
        · rw [SX.S_len, List.length_replicate]
          show _ + 1 ≤ _
          have : (16777216 : Nat) = sizeLine := sizeLine_eq.symm
          omega
        refine ⟨_, rfl, _, rfl, _, _, rfl, rfl, _, rfl, _, _, rfl, rfl, _, nSz cell - 1 - nPl cell, rfl, rfl, by omega, by omega, _, _, rfl, rfl, ?_, ?_⟩
        · have : (16777216 : Nat) = sizeLine := sizeLine_eq.symm
          have e3 : (SX.S (List.replicate (nPl cell).toNat (lt (nFl cell))) ++ (⟨#[lt ((0 + (i : Int) + cell / 2 / 3744) % 26)]⟩ : Str)).length = (nPl cell).toNat + 1 := by
            rw [show (SX.S (List.replicate (nPl cell).toNat (lt (nFl cell))) ++ (⟨#[lt ((0 + (i : Int) + cell / 2 / 3744) % 26)]⟩ : Str)) = SX.S (List.replicate (nPl cell).toNat (lt (nFl cell)) ++ [lt ((0 + (i : Int) + cell / 2 / 3744) % 26)]) from SX.S_cat _ [_], SX.S_len, List.length_append, List.length_replicate]
            rfl
          rw [e3, SX.S_len, List.length_replicate]
          omega
        refine ⟨D, _, _, rfl, rfl, e1, ?_, same_put s1 hD, ⟨_, _, rfl⟩, ?_⟩
        · rw [List.length_map, List.length_map, List.length_range]
          exact small1000 (by omega)
        · rw [upd_same, List.range_succ, List.map_append, List.map_append]
          have e : nameB (lt (nFl cell)) lt (cell / 2 / 3744) (nPl cell).toNat (nSz cell - 1 - nPl cell).toNat i = SX.S (List.replicate (nPl cell).toNat (lt (nFl cell))) ++ (⟨#[lt ((0 + (i : Int) + cell / 2 / 3744) % 26)]⟩ : Str) ++ SX.S (List.replicate (nSz cell - 1 - nPl cell).toNat (lt (nFl cell))) := by
            rw [show (⟨#[lt ((0 + (i : Int) + cell / 2 / 3744) % 26)]⟩ : Str) = SX.S [lt ((0 + (i : Int) + cell / 2 / 3744) % 26)] from rfl, SX.S_cat, SX.S_cat, Int.zero_add, List.append_assoc]
            rfl
          rw [← e]
          rfl
      · rintro σ H1 ⟨s1, ⟨k, y, rfl⟩, e1⟩
        refine ⟨_, rfl, q H1 D _ s1 hD e1 (by simp) (namesB_ok hm ?_ _ _)⟩
        omega
end
end Fb
/-! What a law builds: rides, trips, roads, all of it. -/
namespace Fb
open PySem PySem.Spec PyProof.Rows L2
/-! ### names by place -/
def nm (names : List Str) (z : Int) : Str := names.getD z.toNat Str.empty
theorem nm_get {names : List Str} {z : Int} (h0 : 0 ≤ z) (h1 : z < names.length) : names[z.toNat]? = some (nm names z) := by
  have hz : z.toNat < names.length := by omega
  unfold nm
  rw [List.getD_eq_getElem?_getD, List.getElem?_eq_getElem hz]
  rfl
theorem nm_at {names : List Str} {z : Int} (h0 : 0 ≤ z) (h1 : z < names.length) : atI (names.map V.str) z = some (.str (nm names z)) := by
  have := atI_nat (xs := names.map V.str) (j := z.toNat) (v := .str (nm names z)) (by rw [List.getElem?_map, nm_get h0 h1]; rfl)
  rw [show ((z.toNat : Nat) : Int) = z by omega] at this
  exact this
theorem nm_ok {names : List Str} {z : Int} (hn : NamesOk names) (h0 : 0 ≤ z) (h1 : z < names.length) : okPlace (nm names z) := hn.2 _ (List.mem_of_getElem? (nm_get h0 h1))
theorem nm_ne {names : List Str} {y z : Int} (hn : NamesOk names) (h0 : 0 ≤ y) (h1 : y < names.length) (h2 : 0 ≤ z) (h3 : z < names.length) (h : y ≠ z) : nm names y ≠ nm names z := fun e => by
  have a := nm_get h0 h1
  have b := nm_get h2 h3
  rw [e] at a
  have := nd_ix hn.1 a b
  omega
/-- a new tuple is laid, the list at D gets it -/
theorem turn_add {β : Type} {f : β → List V} {ok : β → Prop} {K : PySem.W.Frag} {H1 : Hp} {D T : Addr} {qs : List Addr} {xs : List β} {m : Nat} (x : β) (hT : H1 T = none) (e1 : H1 D = some (.lst (qs.map V.ref))) (t1 : Tups K H1 f qs xs) (o1 : ∀ y ∈ xs, ok y) (n1 : xs.length = m) (ox : ok x) :
    ∃ qs' ys, (upd (upd H1 T (.tup (f x))) D (.lst (qs.map V.ref ++ [.ref T]))) D = some (.lst (qs'.map V.ref)) ∧ Tups K (upd (upd H1 T (.tup (f x))) D (.lst (qs.map V.ref ++ [.ref T]))) f qs' ys ∧ (∀ y ∈ ys, ok y) ∧ ys.length = m + 1 := by
  have nDT : D ≠ T := ne_of_none e1 hT
  refine ⟨qs ++ [T], xs ++ [x], ?_, Tups.add ((t1.same (same_upd hT)).putL (Eq.trans (upd_ne nDT) e1)) (seqT_putL (Eq.trans (upd_ne nDT) e1) (sqT_of upd_same)), fun y hy => ?_, ?_⟩
  · rw [upd_same, List.map_append]
    rfl
  · rcases List.mem_append.mp hy with h | h
    · exact o1 y h
    · rw [List.mem_singleton.mp h]
      exact ox
  · rw [List.length_append, n1]
    rfl
def rOne (L cell : Int) : Int := cell % L
def rOther (L cell : Int) : Int := (cell % L + 1 + cell / 8 % (if L - 1 > 1 then L - 1 else 1)) % L
theorem rOne_in {L cell : Int} (h : 0 < L) : 0 ≤ rOne L cell ∧ rOne L cell < L := ⟨Int.emod_nonneg _ (by omega), Int.emod_lt_of_pos _ h⟩
theorem rOther_in {L cell : Int} (h : 0 < L) : 0 ≤ rOther L cell ∧ rOther L cell < L := ⟨Int.emod_nonneg _ (by omega), Int.emod_lt_of_pos _ h⟩
def spRides (K : PySem.W.Frag) : Sp := fun vs H Q _ => ∃ (a : Addr) (ns : List Int) (place : Int) (n : Addr) (names : List Str) (size : Nat), vs = [.ref a, .int place, .ref n, .int size] ∧ SqL K H a (ns.map V.int) ∧ 0 ≤ place ∧ SqL K H n (names.map V.str) ∧ NamesOk names ∧ 1 ≤ names.length ∧ names.length ≤ 12 ∧ size ≤ 60 ∧
  ∀ H' p qs rides, Same H H' → H p = none → H' p = some (.lst (qs.map V.ref)) → Tups K H' rideV qs rides → (∀ r ∈ rides, okRide r) → rides.length ≤ size → Q (.ref p) H'
def spTrips (K : PySem.W.Frag) : Sp := fun vs H Q _ => ∃ (a : Addr) (ns : List Int) (place : Int) (n : Addr) (names : List Str) (size : Nat), vs = [.ref a, .int place, .ref n, .int size] ∧ SqL K H a (ns.map V.int) ∧ 0 ≤ place ∧ SqL K H n (names.map V.str) ∧ NamesOk names ∧ 1 ≤ names.length ∧ names.length ≤ 12 ∧ size ≤ 60 ∧
  ∀ H' p qs trips, Same H H' → H p = none → H' p = some (.lst (qs.map V.ref)) → Tups K H' tripV qs trips → (∀ t ∈ trips, okTrip t) → trips.length = size → Q (.ref p) H'
section
variable {P : Program} {w : World} {K : PySem.W.Frag} {mg : Str → Option Value} {base : Heap}
theorem cal_law_rides {f : Addr} {fd : FuncData} (F : Fn K "_law_rides" s_law_rides f fd) (g : mg "_law_rides" = some (.ref f)) (B : Bi mg) (c_cell : C8.Cal P w K mg base 1 "_law_cell_at" (spCellAt K) []) : C8.Cal P w K mg base 2 "_law_rides" (spRides K) [] := by
  refine cal_of F g sc_law_rides (bi_law_rides F) (fun vs H Q E h => ?_) (fun cdv A outer s H vs Q E hr h => ?_)
  · obtain ⟨a, ns, place, n, names, size, rfl, _⟩ := h
    rfl
  · obtain ⟨a, ns, place, n, names, size, rfl, hS, hp, hN, ok, l1, l12, l60, q⟩ := h
    
    refine ⟨_, (pss_cons (ps_set (i := 4) sc_law_rides.nd rfl (Or.inl rfl) (pe_lst pa_nil)) (pss_cons (ps_for PassesOwn.never rfl (pi_range1 rfl B.range (pa_cons (pv 3) pa_nil)) (pg_name (i := 5) sc_law_rides.nd rfl (Or.inl rfl)) (pss_cons (ps_set (i := 6) sc_law_rides.nd rfl (Or.inl rfl) (C8.pe_c c_cell hr (by decide) (by rfl) (pa_cons (pv 0) (pa_cons (pe_op op_add (pv 1) (pv 5)) pa_nil)))) (pss_cons (ps_set (i := 7) sc_law_rides.nd rfl (Or.inl rfl) (pe_op op_mod (pv 6) (pe_callB call_len_seq (by rfl) B.len PySem.boot_len (pa_cons (pv 2) pa_nil)))) (pss_cons (ps_set (i := 8) sc_law_rides.nd rfl (Or.inl rfl) (pe_op op_mod (pe_op op_add (pe_op op_add (pv 7) pe_int) (pe_op op_mod (pe_op op_fdiv (pv 6) pe_int) (pe_callB (call_max2 rfl) (by rfl) B.max (by decide +kernel) (pa_cons pe_int (pa_cons (pe_op op_sub (pe_callB call_len_seq (by rfl) B.len PySem.boot_len (pa_cons (pv 2) pa_nil)) pe_int) pa_nil))))) (pe_callB call_len_seq (by rfl) B.len PySem.boot_len (pa_cons (pv 2) pa_nil)))) (pss_cons (ps_set (i := 9) sc_law_rides.nd rfl (Or.inl rfl) (pe_op op_add pe_int (pe_op op_mod (pe_op op_fdiv (pv 6) pe_int) pe_int))) (pss_cons (ps_if (pt_cmpR op_eq (pe_op op_mod (pe_op op_fdiv (pv 6) pe_int) pe_int) pe_int (nomark _)) (pss_one (ps_set (i := 9) sc_law_rides.nd rfl (Or.inl rfl) (pe_op op_add pe_int (pe_op op_mod (pe_op op_fdiv (pv 6) pe_int) pe_int)))) pss_nil) (pss_one (ps_if (pt_cmpR op_ne (pv 7) (pv 8) (nomark _)) (pss_one (ps_expr (pe_bm PySem.F.plainAttrs_list PySem.F.slot_list_append PySem.F.type_list_append mt_append (pv 4) (pa_cons (pe_tup (pa_cons (pe_ix (r := rIxL K) ix_list (pv 2) (pv 7) (fun _ _ => rfl)) (pa_cons (pe_ix (r := rIxL K) ix_list (pv 2) (pv 8) (fun _ _ => rfl)) (pa_cons (pv 9) pa_nil)))) pa_nil)))) pss_nil)))))))) (pss_one (ps_ret (pv 4))))), ?_⟩
    have hlen : ((names.map V.str).length : Int) = names.length := by rw [List.length_map]
    have hpos : (0 : Int) < ((names.map V.str).length : Nat) := by rw [hlen]; omega
    refine ⟨Nat.zero_le _, fun D hD => ?_⟩
    refine ⟨_, rfl, size, rfl, by omega, by omega, for_range (lo := 0) (n := size)
      (fun i σ H' => Same H H' ∧ (∃ y5 y6 y7 y8 y9, σ = [some (.ref a), some (.int place), some (.ref n), some (.int size), some (.ref D), y5, y6, y7, y8, y9]) ∧
        ∃ qs rides, H' D = some (.lst (qs.map V.ref)) ∧ Tups K H' rideV qs rides ∧ (∀ r ∈ rides, okRide r) ∧ rides.length ≤ i) ⟨same_upd hD, ⟨none, none, none, none, none, rfl⟩, [], [], upd_same, Tups.nil, (fun _ h => nomatch h), Nat.le_refl _⟩ ?_ ?_⟩
    · rintro i σ H1 hi ⟨s1, ⟨y5, y6, y7, y8, y9, rfl⟩, qs, rides, e1, t1, o1, n1⟩
      have hS1 := s1.seq hS
      have hN1 := s1.seq hN
      refine ⟨_, rfl, _, rfl, _, rfl, _, _, rfl, rfl, a, ns, place + (0 + (i : Int)), rfl, hS1, by omega, ?_⟩
      generalize cellAt ns (place + (0 + (i : Int))) = cell
      refine ⟨_, rfl, _, rfl, n, _, rfl, .inl hN1, _, _, rfl, rfl, hpos, ?_⟩
      refine ⟨_, rfl, _, _, rfl, rfl, _, rfl, _, _, rfl, rfl, ⟨by decide, by decide⟩, _, rfl, n, _, rfl, .inl hN1, _, _, rfl, rfl, 1, ((names.map V.str).length : Int) - 1, rfl, _, _, rfl, rfl, ?_, _, _, rfl, rfl, _, rfl, n, _, rfl, .inl hN1, _, _, rfl, rfl, hpos, ?_⟩
      · show (0 : Int) < if ((names.map V.str).length : Int) - 1 > 1 then ((names.map V.str).length : Int) - 1 else 1
        split <;> omega
      refine ⟨_, rfl, _, _, rfl, rfl, ⟨by decide, by decide⟩, _, _, rfl, rfl, (by show (0 : Int) < 40; decide), _, _, rfl, rfl, ?_⟩
      have ha : 0 ≤ rOne ((names.map V.str).length : Int) cell ∧ rOne ((names.map V.str).length : Int) cell < names.length := ⟨(rOne_in hpos).1, Int.lt_of_lt_of_le (rOne_in hpos).2 (Int.le_of_eq hlen)⟩
      have hb : 0 ≤ rOther ((names.map V.str).length : Int) cell ∧ rOther ((names.map V.str).length : Int) cell < names.length := ⟨(rOther_in hpos).1, Int.lt_of_lt_of_le (rOther_in hpos).2 (Int.le_of_eq hlen)⟩
      refine ⟨_, rfl, _, _, rfl, rfl, ⟨by decide, by decide⟩, _, _, rfl, rfl, (by show (0 : Int) < 8; decide), rfl, _, rfl,
        ite2 (fun c => ⟨_, rfl, _, _, rfl, rfl, ⟨by decide, by decide⟩, _, _, rfl, rfl, (by show (0 : Int) < 9999; decide), _, _, rfl, rfl, ?_⟩) (fun c => ?_)⟩
      · refine ⟨_, rfl, _, rfl, rfl, _, rfl, ?_⟩
        by_cases ce : rOne ((names.map V.str).length : Int) cell = rOther ((names.map V.str).length : Int) cell
        · exact if_f (c := !decide (V.int (rOne ((names.map V.str).length : Int) cell) = V.int (rOther ((names.map V.str).length : Int) cell))) (by rw [ce]; simp) ⟨s1, ⟨_, _, _, _, _, rfl⟩, qs, rides, e1, t1, o1, by omega⟩
        · refine if_t (c := !decide (V.int (rOne ((names.map V.str).length : Int) cell) = V.int (rOther ((names.map V.str).length : Int) cell))) (by rw [decide_eq_false fun z => ce (V.int.inj z)]; rfl) ?_
          refine ⟨_, rfl, .inl ⟨rfl, _, sqL_of e1⟩, ?_⟩
          refine ⟨_, rfl, _, rfl, n, _, _, _, rfl, rfl, hN1, nm_at ha.1 ha.2, _, rfl, _, rfl, n, _, _, _, rfl, rfl, hN1, nm_at hb.1 hb.2, _, rfl, (by show 3 ≤ sizeLine; decide), fun T hT => ?_⟩
          have nDT : D ≠ T := ne_of_none e1 hT
          refine ⟨D, _, _, rfl, rfl, Eq.trans (upd_ne nDT) e1, ?_, same_put (s1.trans (same_upd hT)) hD, ⟨_, _, _, _, _, rfl⟩, ?_⟩
          · rw [List.length_map, t1.1]
            exact small1000 (by omega)
          · obtain ⟨qs', ys, z1, z2, z3, z4⟩ := turn_add (f := rideV) (ok := okRide) (nm names (rOne ((names.map V.str).length : Int) cell), nm names (rOther ((names.map V.str).length : Int) cell), 1 + cell / 512 % 9999) hT e1 t1 o1 rfl
              ⟨nm_ok ok ha.1 ha.2, nm_ok ok hb.1 hb.2, nm_ne ok ha.1 ha.2 hb.1 hb.2 ce, (by show (1 : Int) ≤ 1 + _ % _; omega), (by show 1 + _ % _ ≤ (9999 : Int); omega)⟩
            exact ⟨qs', ys, z1, z2, z3, by omega⟩
      · refine ⟨_, rfl, _, rfl, rfl, _, rfl, ?_⟩
        by_cases ce : rOne ((names.map V.str).length : Int) cell = rOther ((names.map V.str).length : Int) cell
        · exact if_f (c := !decide (V.int (rOne ((names.map V.str).length : Int) cell) = V.int (rOther ((names.map V.str).length : Int) cell))) (by rw [ce]; simp) ⟨s1, ⟨_, _, _, _, _, rfl⟩, qs, rides, e1, t1, o1, by omega⟩
        · refine if_t (c := !decide (V.int (rOne ((names.map V.str).length : Int) cell) = V.int (rOther ((names.map V.str).length : Int) cell))) (by rw [decide_eq_false fun z => ce (V.int.inj z)]; rfl) ?_
          refine ⟨_, rfl, .inl ⟨rfl, _, sqL_of e1⟩, ?_⟩
          refine ⟨_, rfl, _, rfl, n, _, _, _, rfl, rfl, hN1, nm_at ha.1 ha.2, _, rfl, _, rfl, n, _, _, _, rfl, rfl, hN1, nm_at hb.1 hb.2, _, rfl, (by show 3 ≤ sizeLine; decide), fun T hT => ?_⟩
          have nDT : D ≠ T := ne_of_none e1 hT
          refine ⟨D, _, _, rfl, rfl, Eq.trans (upd_ne nDT) e1, ?_, same_put (s1.trans (same_upd hT)) hD, ⟨_, _, _, _, _, rfl⟩, ?_⟩
          · rw [List.length_map, t1.1]
            exact small1000 (by omega)
          · obtain ⟨qs', ys, z1, z2, z3, z4⟩ := turn_add (f := rideV) (ok := okRide) (nm names (rOne ((names.map V.str).length : Int) cell), nm names (rOther ((names.map V.str).length : Int) cell), 1 + cell / 64 % 40) hT e1 t1 o1 rfl
              ⟨nm_ok ok ha.1 ha.2, nm_ok ok hb.1 hb.2, nm_ne ok ha.1 ha.2 hb.1 hb.2 ce, (by show (1 : Int) ≤ 1 + _ % _; omega), (by show 1 + _ % _ ≤ (9999 : Int); omega)⟩
            exact ⟨qs', ys, z1, z2, z3, by omega⟩
    · rintro σ H1 ⟨s1, ⟨y5, y6, y7, y8, y9, rfl⟩, qs, rides, e1, t1, o1, n1⟩
      exact ⟨_, rfl, q H1 D qs rides s1 hD e1 t1 o1 n1⟩
theorem cal_law_trips {f : Addr} {fd : FuncData} (F : Fn K "_law_trips" s_law_trips f fd) (g : mg "_law_trips" = some (.ref f)) (B : Bi mg) (c_cell : C8.Cal P w K mg base 1 "_law_cell_at" (spCellAt K) []) : C8.Cal P w K mg base 2 "_law_trips" (spTrips K) [] := by
  refine cal_of F g sc_law_trips (bi_law_trips F) (fun vs H Q E h => ?_) (fun cdv A outer s H vs Q E hr h => ?_)
  · obtain ⟨a, ns, place, n, names, size, rfl, _⟩ := h
    rfl
  · obtain ⟨a, ns, place, n, names, size, rfl, hS, hp, hN, ok, l1, l12, l60, q⟩ := h
    
    refine ⟨_, (pss_cons (ps_set (i := 4) sc_law_trips.nd rfl (Or.inl rfl) (pe_lst pa_nil)) (pss_cons (ps_for PassesOwn.never rfl (pi_range1 rfl B.range (pa_cons (pv 3) pa_nil)) (pg_name (i := 5) sc_law_trips.nd rfl (Or.inl rfl)) (pss_cons (ps_set (i := 6) sc_law_trips.nd rfl (Or.inl rfl) (C8.pe_c c_cell hr (by decide) (by rfl) (pa_cons (pv 0) (pa_cons (pe_op op_add (pv 1) (pv 5)) pa_nil)))) (pss_cons (ps_set (i := 7) sc_law_trips.nd rfl (Or.inl rfl) (pe_ix (r := rIxL K) ix_list (pv 2) (pe_op op_mod (pv 6) (pe_callB call_len_seq (by rfl) B.len PySem.boot_len (pa_cons (pv 2) pa_nil))) (fun _ _ => rfl))) (pss_cons (ps_set (i := 8) sc_law_trips.nd rfl (Or.inl rfl) (pe_ix (r := rIxL K) ix_list (pv 2) (pe_op op_mod (pe_op op_fdiv (pv 6) pe_int) (pe_callB call_len_seq (by rfl) B.len PySem.boot_len (pa_cons (pv 2) pa_nil))) (fun _ _ => rfl))) (pss_cons (ps_set (i := 9) sc_law_trips.nd rfl (Or.inl rfl) (pe_op op_mod (pe_op op_fdiv (pv 6) pe_int) pe_int)) (pss_cons (ps_set (i := 10) sc_law_trips.nd rfl (Or.inl rfl) (pe_op op_add pe_int (pe_op op_mod (pe_op op_fdiv (pv 6) pe_int) pe_int))) (pss_cons (ps_if (pt_cmpR op_eq (pe_op op_mod (pe_op op_fdiv (pv 6) pe_int) pe_int) pe_int (nomark _)) (pss_cons (ps_set (i := 9) sc_law_trips.nd rfl (Or.inl rfl) (pe_op op_mod (pe_op op_fdiv (pv 6) pe_int) pe_int)) (pss_one (ps_set (i := 10) sc_law_trips.nd rfl (Or.inl rfl) (pe_op op_add pe_int (pe_op op_mod (pe_op op_fdiv (pv 6) pe_int) pe_int))))) pss_nil) (pss_cons (ps_if (pt_cmpR op_eq (pe_op op_mod (pe_op op_fdiv (pv 6) pe_int) pe_int) pe_int (nomark _)) (pss_one (ps_set (i := 10) sc_law_trips.nd rfl (Or.inl rfl) (pe_op op_add pe_int (pe_op op_mod (pe_op op_fdiv (pv 6) pe_int) pe_int)))) pss_nil) (pss_one (ps_expr (pe_bm PySem.F.plainAttrs_list PySem.F.slot_list_append PySem.F.type_list_append mt_append (pv 4) (pa_cons (pe_tup (pa_cons (pv 7) (pa_cons (pv 9) (pa_cons (pv 8) (pa_cons (pe_op op_add (pv 9) (pv 10)) pa_nil))))) pa_nil)))))))))))) (pss_one (ps_ret (pv 4))))), ?_⟩
    have hlen : ((names.map V.str).length : Int) = names.length := by rw [List.length_map]
    have hpos : (0 : Int) < ((names.map V.str).length : Nat) := by rw [hlen]; omega
    refine ⟨Nat.zero_le _, fun D hD => ?_⟩
    refine ⟨_, rfl, size, rfl, by omega, by omega, for_range (lo := 0) (n := size)
      (fun i σ H' => Same H H' ∧ (∃ y5 y6 y7 y8 y9 y10, σ = [some (.ref a), some (.int place), some (.ref n), some (.int size), some (.ref D), y5, y6, y7, y8, y9, y10]) ∧
        ∃ qs trips, H' D = some (.lst (qs.map V.ref)) ∧ Tups K H' tripV qs trips ∧ (∀ t ∈ trips, okTrip t) ∧ trips.length = i) ⟨same_upd hD, ⟨none, none, none, none, none, none, rfl⟩, [], [], upd_same, Tups.nil, (fun _ h => nomatch h), rfl⟩ ?_ ?_⟩
    · rintro i σ H1 hi ⟨s1, ⟨y5, y6, y7, y8, y9, y10, rfl⟩, qs, trips, e1, t1, o1, n1⟩
      have hS1 := s1.seq hS
      have hN1 := s1.seq hN
      refine ⟨_, rfl, _, rfl, _, rfl, _, _, rfl, rfl, a, ns, place + (0 + (i : Int)), rfl, hS1, by omega, ?_⟩
      generalize cellAt ns (place + (0 + (i : Int))) = cell
      have ha0 : ∀ z : Int, 0 ≤ z % ((names.map V.str).length : Int) := fun z => Int.emod_nonneg _ (by omega)
      have ha1 : ∀ z : Int, z % ((names.map V.str).length : Int) < names.length := fun z => Int.lt_of_lt_of_le (Int.emod_lt_of_pos _ hpos) (Int.le_of_eq hlen)
      refine ⟨_, rfl, _, rfl, _, rfl, n, _, rfl, .inl hN1, _, _, rfl, rfl, hpos, n, _, _, _, rfl, rfl, hN1, nm_at (ha0 cell) (ha1 cell), ?_⟩
      refine ⟨_, rfl, _, rfl, _, _, rfl, rfl, ⟨by decide, by decide⟩, _, rfl, n, _, rfl, .inl hN1, _, _, rfl, rfl, hpos, n, _, _, _, rfl, rfl, hN1, nm_at (ha0 (cell / 13)) (ha1 (cell / 13)), ?_⟩
      refine ⟨_, rfl, _, _, rfl, rfl, ⟨by decide, by decide⟩, _, _, rfl, rfl, (by show (0 : Int) < 120; decide), ?_⟩
      refine ⟨_, rfl, _, _, rfl, rfl, ⟨by decide, by decide⟩, _, _, rfl, rfl, (by show (0 : Int) < 25; decide), _, _, rfl, rfl, ?_⟩
      have two : ∀ b : Bool, cell / 64 % 16 = 1 → cell / 64 % 16 = 2 → False := fun _ h1 h2 => by omega
      refine ⟨_, rfl, _, _, rfl, rfl, ⟨by decide, by decide⟩, _, _, rfl, rfl, (by show (0 : Int) < 16; decide), rfl, _, rfl,
        ite2 (fun c1 => ⟨_, rfl, _, _, rfl, rfl, ⟨by decide, by decide⟩, _, _, rfl, rfl, (by show (0 : Int) < 99000; decide), _, rfl, _, _, rfl, rfl, ⟨by decide, by decide⟩, _, _, rfl, rfl, (by show (0 : Int) < 999; decide), _, _, rfl, rfl, ?_⟩) (fun c1 => ?_)⟩
      · refine ⟨_, rfl, _, _, rfl, rfl, ⟨by decide, by decide⟩, _, _, rfl, rfl, (by show (0 : Int) < 16; decide), rfl, _, rfl,
          ite2 (fun c2 => ⟨_, rfl, _, _, rfl, rfl, ⟨by decide, by decide⟩, _, _, rfl, rfl, (by show (0 : Int) < 99000; decide), _, _, rfl, rfl, ?_⟩) (fun c2 => ?_)⟩
        · refine ⟨_, rfl, .inl ⟨rfl, _, sqL_of e1⟩, ?_⟩
          refine ⟨_, rfl, _, rfl, _, rfl, _, rfl, _, rfl, _, _, rfl, rfl, (by show 4 ≤ sizeLine; decide), fun T hT => ?_⟩
          have nDT : D ≠ T := ne_of_none e1 hT
          refine ⟨D, _, _, rfl, rfl, Eq.trans (upd_ne nDT) e1, ?_, same_put (s1.trans (same_upd hT)) hD, ⟨_, _, _, _, _, _, rfl⟩, ?_⟩
          · rw [List.length_map, t1.1]
            exact small1000 (by omega)
          · exact turn_add (f := tripV) (ok := okTrip) (nm names (cell % ((names.map V.str).length : Int)), cell / 1024 % 99000, nm names (cell / 13 % ((names.map V.str).length : Int)), cell / 1024 % 99000 + (1 + cell / 1024 % 99000)) hT e1 t1 o1 n1
              ⟨nm_ok ok (ha0 _) (ha1 _), nm_ok ok (ha0 _) (ha1 _), (by show (0 : Int) ≤ _ % _; omega), (by show _ % _ < _ % _ + (1 + _ % _); omega), (by
                show _ % _ + (1 + _ % _) ≤ (99999 : Int)
                first
                  | omega
                  | exact (two true (V.int.inj (of_decide_eq_true c1)) (V.int.inj (of_decide_eq_true c2))).elim)⟩
        · refine ⟨_, rfl, .inl ⟨rfl, _, sqL_of e1⟩, ?_⟩
          refine ⟨_, rfl, _, rfl, _, rfl, _, rfl, _, rfl, _, _, rfl, rfl, (by show 4 ≤ sizeLine; decide), fun T hT => ?_⟩
          have nDT : D ≠ T := ne_of_none e1 hT
          refine ⟨D, _, _, rfl, rfl, Eq.trans (upd_ne nDT) e1, ?_, same_put (s1.trans (same_upd hT)) hD, ⟨_, _, _, _, _, _, rfl⟩, ?_⟩
          · rw [List.length_map, t1.1]
            exact small1000 (by omega)
          · exact turn_add (f := tripV) (ok := okTrip) (nm names (cell % ((names.map V.str).length : Int)), cell / 1024 % 99000, nm names (cell / 13 % ((names.map V.str).length : Int)), cell / 1024 % 99000 + (1 + cell / 1024 % 999)) hT e1 t1 o1 n1
              ⟨nm_ok ok (ha0 _) (ha1 _), nm_ok ok (ha0 _) (ha1 _), (by show (0 : Int) ≤ _ % _; omega), (by show _ % _ < _ % _ + (1 + _ % _); omega), (by
                show _ % _ + (1 + _ % _) ≤ (99999 : Int)
                first
                  | omega
                  | exact (two true (V.int.inj (of_decide_eq_true c1)) (V.int.inj (of_decide_eq_true c2))).elim)⟩
      · refine ⟨_, rfl, _, _, rfl, rfl, ⟨by decide, by decide⟩, _, _, rfl, rfl, (by show (0 : Int) < 16; decide), rfl, _, rfl,
          ite2 (fun c2 => ⟨_, rfl, _, _, rfl, rfl, ⟨by decide, by decide⟩, _, _, rfl, rfl, (by show (0 : Int) < 99000; decide), _, _, rfl, rfl, ?_⟩) (fun c2 => ?_)⟩
        · refine ⟨_, rfl, .inl ⟨rfl, _, sqL_of e1⟩, ?_⟩
          refine ⟨_, rfl, _, rfl, _, rfl, _, rfl, _, rfl, _, _, rfl, rfl, (by show 4 ≤ sizeLine; decide), fun T hT => ?_⟩
          have nDT : D ≠ T := ne_of_none e1 hT
          refine ⟨D, _, _, rfl, rfl, Eq.trans (upd_ne nDT) e1, ?_, same_put (s1.trans (same_upd hT)) hD, ⟨_, _, _, _, _, _, rfl⟩, ?_⟩
          · rw [List.length_map, t1.1]
            exact small1000 (by omega)
          · exact turn_add (f := tripV) (ok := okTrip) (nm names (cell % ((names.map V.str).length : Int)), cell / 64 % 120, nm names (cell / 13 % ((names.map V.str).length : Int)), cell / 64 % 120 + (1 + cell / 1024 % 99000)) hT e1 t1 o1 n1
              ⟨nm_ok ok (ha0 _) (ha1 _), nm_ok ok (ha0 _) (ha1 _), (by show (0 : Int) ≤ _ % _; omega), (by show _ % _ < _ % _ + (1 + _ % _); omega), (by
                show _ % _ + (1 + _ % _) ≤ (99999 : Int)
                first
                  | omega
                  | exact (two true (V.int.inj (of_decide_eq_true c1)) (V.int.inj (of_decide_eq_true c2))).elim)⟩
        · refine ⟨_, rfl, .inl ⟨rfl, _, sqL_of e1⟩, ?_⟩
          refine ⟨_, rfl, _, rfl, _, rfl, _, rfl, _, rfl, _, _, rfl, rfl, (by show 4 ≤ sizeLine; decide), fun T hT => ?_⟩
          have nDT : D ≠ T := ne_of_none e1 hT
          refine ⟨D, _, _, rfl, rfl, Eq.trans (upd_ne nDT) e1, ?_, same_put (s1.trans (same_upd hT)) hD, ⟨_, _, _, _, _, _, rfl⟩, ?_⟩
          · rw [List.length_map, t1.1]
            exact small1000 (by omega)
          · exact turn_add (f := tripV) (ok := okTrip) (nm names (cell % ((names.map V.str).length : Int)), cell / 64 % 120, nm names (cell / 13 % ((names.map V.str).length : Int)), cell / 64 % 120 + (1 + cell / 7680 % 25)) hT e1 t1 o1 n1
              ⟨nm_ok ok (ha0 _) (ha1 _), nm_ok ok (ha0 _) (ha1 _), (by show (0 : Int) ≤ _ % _; omega), (by show _ % _ < _ % _ + (1 + _ % _); omega), (by
                show _ % _ + (1 + _ % _) ≤ (99999 : Int)
                first
                  | omega
                  | exact (two true (V.int.inj (of_decide_eq_true c1)) (V.int.inj (of_decide_eq_true c2))).elim)⟩
    · rintro σ H1 ⟨s1, ⟨y5, y6, y7, y8, y9, y10, rfl⟩, qs, trips, e1, t1, o1, n1⟩
      exact ⟨_, rfl, q H1 D qs trips s1 hD e1 t1 o1 n1⟩
end
end Fb
/-! What a law builds: its roads, all of it. -/
namespace Fb
open PySem PySem.Spec PyProof.Rows L2
def spLRoads (K : PySem.W.Frag) : Sp := fun vs H Q _ => ∃ a b rides trips, vs = [.ref a, .ref b] ∧ Rows K H rideV a rides ∧ Rows K H tripV b trips ∧ rides.length ≤ 100 ∧ trips.length ≤ 100 ∧
  ∀ H' p qs, Same H H' → H p = none → H' p = some (.lst (qs.map V.ref)) → Tups K H' rideV qs (roadsM rides trips) → Q (.ref p) H'
/-- what _law_built hands back: three new lists -/
structure BuiltAt (K : PySem.W.Frag) (H H' : Hp) (n r t : Addr) (names : List Str) (rides : List Ride) (trips : List Trip) (qr qt : List Addr) : Prop where
  same : Same H H'
  nn : H n = none
  nr : H r = none
  nt : H t = none
  rt : r ≠ t
  en : H' n = some (.lst (names.map V.str))
  er : H' r = some (.lst (qr.map V.ref))
  et : H' t = some (.lst (qt.map V.ref))
  tr : Tups K H' rideV qr rides
  tt : Tups K H' tripV qt trips
  okN : NamesOk names
  okR : ∀ x ∈ rides, okRide x
  okT : ∀ x ∈ trips, okTrip x
  n1 : 1 ≤ names.length
  n12 : names.length ≤ 12
  lr : rides.length ≤ 11
  lt : trips.length ≤ 10
theorem BuiltAt.grow {K : PySem.W.Frag} {H H1 H2 : Hp} {n r t : Addr} {names : List Str} {rides : List Ride} {trips : List Trip} {qr qt : List Addr} (b : BuiltAt K H H1 n r t names rides trips qr qt) (s : Same H1 H2) : BuiltAt K H H2 n r t names rides trips qr qt :=
  { b with same := b.same.trans s, en := s _ _ b.en, er := s _ _ b.er, et := s _ _ b.et, tr := b.tr.same s, tt := b.tt.same s }
theorem cut_take (xs : List V) (k : Nat) : cutV xs none (some (k : Int)) = xs.take k := by
  unfold cutV
  rw [show HT.sIx xs.length 0 none = 0 from HT.sIx_none _ _, show HT.sIx xs.length xs.length (some (k : Int)) = min k xs.length from HT.sIx_nat _ _ k, List.drop_zero, Nat.sub_zero]
  by_cases h : k ≤ xs.length
  · rw [Nat.min_eq_left h]
  · rw [Nat.min_eq_right (by omega), List.take_of_length_le (Nat.le_refl _), List.take_of_length_le (by omega)]
def stepOf (x y : Int) : Int := if y / 72 % 2 = 0 then 1 + x % 20 else 9990 + x % 9
theorem stepOf_in (x y : Int) : 1 ≤ stepOf x y ∧ stepOf x y ≤ 9998 := by unfold stepOf; split <;> omega
theorem stepOf_at (x y : Int) : atI [V.int (1 + x % 20), V.int (9990 + x % 9)] (y / 72 % 2) = some (.int (stepOf x y)) := by
  by_cases h : y / 72 % 2 = 0
  · have e : stepOf x y = 1 + x % 20 := if_pos h
    rw [h, e]
    exact atI_nat (j := 0) rfl
  · have e : stepOf x y = 9990 + x % 9 := if_neg h
    have h1 : y / 72 % 2 = 1 := by omega
    rw [h1, e]
    exact atI_nat (j := 1) rfl
def spBuilt (K : PySem.W.Frag) : Sp := fun vs H Q _ => ∃ (a : Addr) (ns : List Int), vs = [.ref a] ∧ SqL K H a (ns.map V.int) ∧
  ∀ (H' : Hp) (p n r t : Addr) (names : List Str) (rides : List Ride) (trips : List Trip) (qr qt : List Addr), BuiltAt K H H' n r t names rides trips qr qt → H' p = some (.tup [.ref n, .ref r, .ref t]) → Q (.ref p) H'
section
variable {P : Program} {w : World} {K : PySem.W.Frag} {mg : Str → Option Value} {base : Heap}
theorem cal_law_roads {f : Addr} {fd : FuncData} (F : Fn K "_law_roads" s_law_roads f fd) (g : mg "_law_roads" = some (.ref f)) (B : Bi mg) : C8.Cal P w K mg base 1 "_law_roads" (spLRoads K) [] := by
  refine cal_of F g sc_law_roads (bi_law_roads F) (fun vs H Q E h => ?_) (fun cdv A outer s H vs Q E hr h => ?_)
  · obtain ⟨a, b, rides, trips, rfl, _⟩ := h
    rfl
  · obtain ⟨a, b, rides, trips, rfl, ⟨qs, hL, hT⟩, ⟨rs, hL2, hT2⟩, lR, lT, q⟩ := h
    
    refine ⟨_, (pss_cons (ps_set (i := 2) sc_law_roads.nd rfl (Or.inl rfl) (pe_callTy call_list_of (by rfl) B.list (by decide +kernel) (pa_cons (pv 0) pa_nil))) (pss_cons (ps_for PassesOwn.never rfl (pi_list (pv 1)) (pg_name (i := 3) sc_law_roads.nd rfl (Or.inl rfl)) (pss_one (ps_if (pt_cmpR op_ne (pe_ix (r := rIxT K) ix_tup (pv 3) pe_int (fun _ _ => rfl)) (pe_ix (r := rIxT K) ix_tup (pv 3) pe_int (fun _ _ => rfl)) (nomark _)) (pss_one (ps_expr (pe_bm PySem.F.plainAttrs_list PySem.F.slot_list_append PySem.F.type_list_append mt_append (pv 2) (pa_cons (pe_tup (pa_cons (pe_ix (r := rIxT K) ix_tup (pv 3) pe_int (fun _ _ => rfl)) (pa_cons (pe_ix (r := rIxT K) ix_tup (pv 3) pe_int (fun _ _ => rfl)) (pa_cons (pe_op op_sub (pe_ix (r := rIxT K) ix_tup (pv 3) pe_int (fun _ _ => rfl)) (pe_ix (r := rIxT K) ix_tup (pv 3) pe_int (fun _ _ => rfl))) pa_nil)))) pa_nil)))) pss_nil))) (pss_one (ps_ret (pv 2))))), ?_⟩
    refine ⟨_, rfl, a, _, rfl, .inl hL, fun p np => ?_⟩
    have s1 : Same H (upd H p (.lst (qs.map V.ref))) := same_upd np
    refine ⟨_, rfl, b, rfl, ⟨_, s1.seq hL2⟩, for_list (K := K) (a := b) (xs := rs.map V.ref)
      (fun i σ H' => Same H H' ∧ (∃ y, σ = [some (.ref a), some (.ref b), some (.ref p), y]) ∧ ∃ zs, H' p = some (.lst (zs.map V.ref)) ∧ Tups K H' rideV zs (roadsM rides (trips.take i)))
      ⟨s1, ⟨none, rfl⟩, qs, upd_same, ?_⟩ (fun i σ H' _ ⟨e, _⟩ => e.seq hL2) ?_ ?_⟩
    · have e : roadsM rides (trips.take 0) = rides := by simp [roadsM]
      rw [e]
      exact hT.same s1
    · rintro i x σ H' hi ⟨s2, ⟨y, rfl⟩, zs, hz, hzs⟩
      obtain ⟨p1, t, rfl, ht, hs⟩ := (hT2.same s2).at hi
      have e := roadsM_take (rides := rides) ht
      have hlen : i < trips.length := (List.getElem?_eq_some_iff.mp ht).1
      refine ⟨_, rfl, p1, _, 0, _, rfl, rfl, hs, atI_nat (j := 0) rfl, _, rfl, p1, _, 2, _, rfl, rfl, hs, atI_nat (j := 2) rfl, rfl, _, rfl, ?_⟩
      by_cases c : t.1 = t.2.2.1
      · have c2 : decide (V.str t.1 = V.str t.2.2.1) = true := decide_eq_true (by rw [c])
        rw [c2]
        refine if_f rfl ⟨s2, ⟨_, rfl⟩, zs, hz, ?_⟩
        rw [e]
        unfold roadOf
        rw [if_pos c, List.append_nil]
        exact hzs
      · have c2 : decide (V.str t.1 = V.str t.2.2.1) = false := decide_eq_false fun z => c (V.str.inj z)
        rw [c2]
        refine if_t rfl ⟨_, rfl, .inl ⟨rfl, _, sqL_of hz⟩, ?_⟩
        refine ⟨_, rfl, p1, _, 0, _, rfl, rfl, hs, atI_nat (j := 0) rfl, _, rfl, p1, _, 2, _, rfl, rfl, hs, atI_nat (j := 2) rfl, _, rfl, p1, _, 3, _, rfl, rfl, hs, atI_nat (j := 3) rfl, _, rfl, p1, _, 1, _, rfl, rfl, hs, atI_nat (j := 1) rfl, _, _, rfl, rfl, (by show 3 ≤ sizeLine; decide), fun q' nq => ?_⟩
        have npq : p ≠ q' := ne_of_none hz nq
        have hz2 : (upd H' q' (.tup [.str t.1, .str t.2.2.1, .int (t.2.2.2 - t.2.1)])) p = some (.lst (zs.map V.ref)) := by
          rw [upd_ne npq]
          exact hz
        have s3 : Same H' (upd H' q' (.tup [.str t.1, .str t.2.2.1, .int (t.2.2.2 - t.2.1)])) := same_upd nq
        refine ⟨p, _, _, rfl, rfl, hz2, ?_, ?_⟩
        · rw [List.length_map, hzs.1]
          have := roadsM_len rides (trips.take i)
          rw [List.length_take] at this
          exact small1000 (by omega)
        · refine ⟨same_put (s2.trans s3) np, ⟨_, rfl⟩, zs ++ [q'], ?_, ?_⟩
          · rw [upd_same, List.map_append]
            rfl
          · rw [e]
            unfold roadOf
            rw [if_neg c]
            exact Tups.add ((hzs.same s3).putL hz2) (seqT_putL hz2 (sqT_of upd_same))
    · rintro σ H' ⟨s2, ⟨y, rfl⟩, zs, hz, hzs⟩
      refine ⟨_, rfl, q H' p zs s2 np hz ?_⟩
      rw [List.length_map, hT2.1, List.take_length] at hzs
      exact hzs
theorem cal_law_built {f : Addr} {fd : FuncData} (F : Fn K "_law_built" s_law_built f fd) (g : mg "_law_built" = some (.ref f)) (B : Bi mg) (c_cell : C8.Cal P w K mg base 1 "_law_cell_at" (spCellAt K) [])
    (c_names : C8.Cal P w K mg base 1 "_law_names" spNames []) (c_rides : C8.Cal P w K mg base 2 "_law_rides" (spRides K) []) (c_trips : C8.Cal P w K mg base 2 "_law_trips" (spTrips K) []) : C8.Cal P w K mg base 3 "_law_built" (spBuilt K) [] := by
  refine cal_of F g sc_law_built (bi_law_built F) (fun vs H Q E h => ?_) (fun cdv A outer s H vs Q E hr h => ?_)
  · obtain ⟨a, ns, rfl, _⟩ := h
    rfl
  · obtain ⟨a, ns, rfl, hS, q⟩ := h
    
    refine ⟨_, (pss_cons (ps_set (i := 1) sc_law_built.nd rfl (Or.inl rfl) (C8.pe_c c_cell hr (by decide) (by rfl) (pa_cons (pv 0) (pa_cons pe_int pa_nil)))) (pss_cons (ps_set (i := 2) sc_law_built.nd rfl (Or.inl rfl) (C8.pe_c c_cell hr (by decide) (by rfl) (pa_cons (pv 0) (pa_cons pe_int pa_nil)))) (pss_cons (ps_set (i := 3) sc_law_built.nd rfl (Or.inr rfl) (C8.pe_c c_names hr (by decide) (by rfl) (pa_cons (C8.pe_c c_cell hr (by decide) (by rfl) (pa_cons (pv 0) (pa_cons pe_int pa_nil))) (pa_cons (pe_op op_add pe_int (pe_op op_mod (pv 1) pe_int)) pa_nil)))) (pss_cons (ps_set (i := 4) sc_law_built.nd rfl (Or.inl rfl) (C8.pe_c c_rides hr (by decide) (by rfl) (pa_cons (pv 0) (pa_cons pe_int (pa_cons (pv 3) (pa_cons (pe_op op_mod (pe_op op_fdiv (pv 1) pe_int) pe_int) pa_nil)))))) (pss_cons (ps_set (i := 5) sc_law_built.nd rfl (Or.inl rfl) (C8.pe_c c_trips hr (by decide) (by rfl) (pa_cons (pv 0) (pa_cons pe_int (pa_cons (pv 3) (pa_cons (pe_op op_mod (pv 2) pe_int) pa_nil)))))) (pss_cons (ps_if (pt_cmpR op_eq (pe_op op_mod (pe_op op_fdiv (pv 2) pe_int) pe_int) pe_int (nomark _)) (pss_one (ps_set (i := 5) sc_law_built.nd rfl (Or.inl rfl) (pe_op op_cat (pv 5) (pe_slice sl_list (pv 5) po_none (po_some pe_int))))) pss_nil) (pss_cons (ps_if (pt_cmpR op_eq (pe_op op_mod (pe_op op_fdiv (pv 2) pe_int) pe_int) pe_int (nomark _)) (pss_cons (ps_set (i := 3) sc_law_built.nd rfl (Or.inr rfl) (C8.pe_c c_names hr (by decide) (by rfl) (pa_cons (C8.pe_c c_cell hr (by decide) (by rfl) (pa_cons (pv 0) (pa_cons pe_int pa_nil))) (pa_cons pe_int pa_nil)))) (pss_cons (ps_set (i := 6) sc_law_built.nd rfl (Or.inr rfl) (pe_ix (r := rIxL K) ix_list (pe_lst (pa_cons (pe_op op_add pe_int (pe_op op_mod (pv 1) pe_int)) (pa_cons (pe_op op_add pe_int (pe_op op_mod (pv 1) pe_int)) pa_nil))) (pe_op op_mod (pe_op op_fdiv (pv 2) pe_int) pe_int) (fun _ _ => rfl))) (pss_cons (ps_setLc (i := 4) (own := [("_law_k", 7)]) (g := gName 7) (tt := tYes) (by rfl) sc_law_built.nd rfl rfl (sw_true rfl rfl rfl (by decide +kernel)) (pi_range1 rfl B.range (pa_cons (pe_op op_add pe_int (pe_op op_mod (pv 1) pe_int)) pa_nil)) (blkOk_by (N := ["_law_script", "_law_first", "_law_second", "_law_names_here", "_law_rides_here", "_law_trips_here", "_law_step", "_law_k"]) (sc := defScope s_law_built) (by decide +kernel)) (fun _ _ _ _ _ => pg_name (i := 7) sc_law_built.nd rfl (Or.inl rfl)) (fun _ _ _ _ _ => pts_nil) (fun _ _ _ _ _ => (pe_tup (pa_cons (pe_ix (r := rIxL K) ix_list (pv 3) (pv 7) (fun _ _ => rfl)) (pa_cons (pe_ix (r := rIxL K) ix_list (pv 3) (pe_op op_add (pv 7) pe_int) (fun _ _ => rfl)) (pa_cons (pe_op op_add (pv 6) (pe_op op_mod (pv 7) pe_int)) pa_nil)))))) (pss_one (ps_set (i := 5) sc_law_built.nd rfl (Or.inl rfl) (C8.pe_c c_trips hr (by decide) (by rfl) (pa_cons (pv 0) (pa_cons pe_int (pa_cons (pv 3) (pa_cons (pe_op op_mod (pv 2) pe_int) pa_nil)))))))))) pss_nil) (pss_one (ps_ret (pe_tup (pa_cons (pv 3) (pa_cons (pv 4) (pa_cons (pv 5) pa_nil))))))))))))), ?_⟩
    refine ⟨_, rfl, a, ns, 0, rfl, hS, by omega, _, rfl, a, ns, 2, rfl, hS, by omega, ?_⟩
    -- names
    refine ⟨_, rfl, a, ns, 1, rfl, hS, by omega, _, rfl, _, _, rfl, rfl, (by show (0 : Int) < 6; decide), _, _, rfl, rfl, cellAt ns 1, (1 + cellAt ns 0 % 6).toNat, ?_, by omega, fun H1 n names s1 nn en ln okN => ?_⟩
    · show [V.int (cellAt ns 1), V.int (1 + cellAt ns 0 % 6)] = _
      rw [show (((1 + cellAt ns 0 % 6).toNat : Nat) : Int) = 1 + cellAt ns 0 % 6 by omega]
    have ln1 : 1 ≤ names.length := by omega
    have ln12 : names.length ≤ 12 := by omega
    -- rides
    refine ⟨_, rfl, _, rfl, _, rfl, _, _, rfl, rfl, ⟨by decide, by decide⟩, _, _, rfl, rfl, (by show (0 : Int) < 8; decide), a, ns, 4, n, names, (cellAt ns 0 / 6 % 8).toNat, ?_, s1.seq hS, by omega, sqL_of en, okN, ln1, ln12, by omega, fun H2 r qr rides s2 nr er tr okR lr => ?_⟩
    · show [V.ref a, V.int 4, V.ref n, V.int (cellAt ns 0 / 6 % 8)] = _
      rw [show (((cellAt ns 0 / 6 % 8).toNat : Nat) : Int) = cellAt ns 0 / 6 % 8 by omega]
    have s02 := s1.trans s2
    -- trips
    refine ⟨_, rfl, _, rfl, _, rfl, _, _, rfl, rfl, (by show (0 : Int) < 9; decide), a, ns, 12, n, names, (cellAt ns 2 % 9).toNat, ?_, s02.seq hS, by omega, sqL_of (s2 _ _ en), okN, ln1, ln12, by omega, fun H3 t qt trips s3 nt et tt okT lt => ?_⟩
    · show [V.ref a, V.int 12, V.ref n, V.int (cellAt ns 2 % 9)] = _
      rw [show (((cellAt ns 2 % 9).toNat : Nat) : Int) = cellAt ns 2 % 9 by omega]
    have b3 : BuiltAt K H H3 n r t names rides trips qr qt := ⟨s02.trans s3, nn, s1.free nr, s02.free nt, ne_of_none er nt, s3 _ _ (s2 _ _ en), s3 _ _ er, et, tr.same s3, tt, okN, okR, okT, ln1, ln12, by omega, by omega⟩
    refine ⟨_, rfl, _, _, rfl, rfl, ⟨by decide, by decide⟩, _, _, rfl, rfl, (by show (0 : Int) < 4; decide), rfl, _, rfl, ite2 (fun c1 => ?_) (fun c1 => ?_)⟩
    · refine ⟨_, rfl, _, rfl, 2, rfl, t, _, rfl, sqL_of et, fun c nc => ?_⟩
      have ntc : t ≠ c := ne_of_none et nc
      have s4 : Same H3 (upd H3 c (.lst (cutV (qt.map V.ref) none (some 2)))) := same_upd nc
      have e4 : (upd H3 c (.lst (cutV (qt.map V.ref) none (some 2)))) t = some (.lst (qt.map V.ref)) := s4 _ _ et
      refine ⟨t, c, _, _, rfl, rfl, e4, upd_same, ?_, fun d nd => ?_⟩
      · have h1 := cutV_length (qt.map V.ref) none (some 2)
        have h2 : (qt.map V.ref).length ≤ 10 := by
          rw [List.length_map, tt.1]
          omega
        have : sizeLine = 16777216 := sizeLine_eq
        omega
      have s5 := s4.trans (same_upd (o := .lst (qt.map V.ref ++ cutV (qt.map V.ref) none (some 2))) nd)
      have ec : qt.map V.ref ++ cutV (qt.map V.ref) none (some 2) = (qt ++ qt.take 2).map V.ref := by
        rw [show cutV (qt.map V.ref) none (some 2) = (qt.map V.ref).take 2 from cut_take _ 2, List.map_append, List.map_take]
      have okT5 : ∀ x ∈ trips ++ trips.take 2, okTrip x := fun x hx => by
        rcases List.mem_append.mp hx with h | h
        · exact okT x h
        · exact okT x (List.mem_of_mem_take h)
      have lt5 : (trips ++ trips.take 2).length ≤ 10 := by
        rw [List.length_append, List.length_take]
        omega
      have b5 : BuiltAt K H _ n r d names rides (trips ++ trips.take 2) qr (qt ++ qt.take 2) :=
        ⟨b3.same.trans s5, b3.nn, b3.nr, b3.same.free (s4.free nd), ne_of_none (s4 _ _ b3.er) nd, s5 _ _ b3.en, s5 _ _ b3.er, Eq.trans upd_same (by rw [ec]), b3.tr.same s5, (tt.append (tt.take 2)).same s5, okN, okR, okT5, ln1, ln12, b3.lr, lt5⟩
      -- in one of eight: places in a row
      have S5 := b5.same
      refine ⟨_, rfl, _, _, rfl, rfl, ⟨by decide, by decide⟩, _, _, rfl, rfl, (by show (0 : Int) < 8; decide), rfl, _, rfl, ite2 (fun c2 => ?_) (fun c2 => ?_)⟩
      · refine ⟨_, rfl, a, ns, 1, rfl, S5.seq hS, by omega, cellAt ns 1, 12, rfl, by omega, fun H6 n2 names2 s6 nn2 en2 ln2 okN2 => ?_⟩
        have S6 := S5.trans s6
        refine ⟨_, rfl, _, _, rfl, rfl, (by show (0 : Int) < 20; decide), _, _, rfl, rfl, _, rfl, _, _, rfl, rfl, (by show (0 : Int) < 9; decide), _, _, rfl, rfl, (by show 2 ≤ sizeLine; decide), fun l nl => ?_⟩
        refine ⟨_, rfl, _, _, rfl, rfl, ⟨by decide, by decide⟩, _, _, rfl, rfl, (by show (0 : Int) < 2; decide), l, _, _, _, rfl, rfl, sqL_of upd_same, stepOf_at (cellAt ns 0) (cellAt ns 2), ?_⟩
        have s7 : Same H6 (upd H6 l (.lst [.int (1 + cellAt ns 0 % 20), .int (9990 + cellAt ns 0 % 9)])) := same_upd nl
        have S7 := S6.trans s7
        refine ⟨_, rfl, _, _, rfl, rfl, (by show (0 : Int) < 10; decide), _, _, rfl, rfl, 2 + cellAt ns 0 % 10, rfl, by omega, by omega, fun D nD => ?_⟩
        refine lc_range (lo := 0) (n := (2 + cellAt ns 0 % 10).toNat) (fun i H' => Same (upd H6 l (.lst [.int (1 + cellAt ns 0 % 20), .int (9990 + cellAt ns 0 % 9)])) H' ∧
          ∃ qs rides, H' D = some (.lst (qs.map V.ref)) ∧ Tups K H' rideV qs rides ∧ (∀ r ∈ rides, okRide r) ∧ rides.length = i) ⟨same_upd nD, [], [], upd_same, Tups.nil, (fun _ h => nomatch h), rfl⟩ ?_ ?_
        · rintro i H8 hi ⟨s8, qs, rds, e8, t8, o8, n8⟩
          have hN8 : SqL K H8 n2 (names2.map V.str) := sqL_of (s8 _ _ (s7 _ _ en2))
          refine ⟨rfl, ?_⟩
          refine ⟨_, rfl, _, rfl, n2, _, _, _, rfl, rfl, hN8, nm_at (z := 0 + (i : Int)) (by omega) (by omega), _, rfl, _, rfl, _, _, rfl, rfl, n2, _, _, _, rfl, rfl, hN8, nm_at (z := 0 + (i : Int) + 1) (by omega) (by omega), ?_⟩
          refine ⟨_, rfl, _, rfl, _, _, rfl, rfl, (by show (0 : Int) < 2; decide), _, _, rfl, rfl, (by show 3 ≤ sizeLine; decide), fun T hT => ?_⟩
          have nDT : D ≠ T := ne_of_none e8 hT
          refine ⟨_, Eq.trans (upd_ne nDT) e8, ?_, same_put (s8.trans (same_upd hT)) nD, ?_⟩
          · rw [List.length_map, t8.1]
            exact small1000 (by omega)
          · have hst := stepOf_in (cellAt ns 0) (cellAt ns 2)
            exact turn_add (f := rideV) (ok := okRide) (nm names2 (0 + (i : Int)), nm names2 (0 + (i : Int) + 1), stepOf (cellAt ns 0) (cellAt ns 2) + (0 + (i : Int)) % 2) hT e8 t8 o8 n8
              ⟨nm_ok okN2 (by omega) (by omega), nm_ok okN2 (by omega) (by omega), nm_ne okN2 (by omega) (by omega) (by omega) (by omega) (by omega), (by show (1 : Int) ≤ stepOf _ _ + _ % 2; omega), (by show stepOf _ _ + _ % 2 ≤ (9999 : Int); omega)⟩
        · rintro H8 ⟨s8, qr2, rides2, er2, tr2, okR2, lr2⟩
          have S8 := S7.trans s8
          have nD0 : H D = none := S7.free nD
          refine ⟨_, rfl, _, rfl, _, rfl, _, _, rfl, rfl, (by show (0 : Int) < 5; decide), a, ns, 12, n2, names2, (cellAt ns 2 % 5).toNat, ?_, S8.seq hS, by omega, sqL_of (s8 _ _ (s7 _ _ en2)), okN2, by omega, by omega, by omega, fun H9 t2 qt2 trips2 s9 nt2 et2 tt2 okT2 lt2 => ?_⟩
          · show [V.ref a, V.int 12, V.ref n2, V.int (cellAt ns 2 % 5)] = _
            rw [show (((cellAt ns 2 % 5).toNat : Nat) : Int) = cellAt ns 2 % 5 by omega]
          have b9 : BuiltAt K H H9 n2 D t2 names2 rides2 trips2 qr2 qt2 := ⟨S8.trans s9, S5.free nn2, nD0, S8.free nt2, ne_of_none er2 nt2, s9 _ _ (s8 _ _ (s7 _ _ en2)), s9 _ _ er2, et2, tr2.same s9, tt2, okN2, okR2, okT2, by omega, by omega, by omega, by omega⟩
          exact ⟨_, rfl, _, rfl, _, rfl, (by show 3 ≤ sizeLine; decide), fun p np => q _ p n2 D t2 names2 rides2 trips2 qr2 qt2 (b9.grow (same_upd np)) upd_same⟩
      · exact ⟨_, rfl, _, rfl, _, rfl, (by show 3 ≤ sizeLine; decide), fun p np => q _ p _ _ _ _ _ _ _ _ (b5.grow (same_upd np)) upd_same⟩
    · have b5 := b3
      -- in one of eight: places in a row
      have S5 := b5.same
      refine ⟨_, rfl, _, _, rfl, rfl, ⟨by decide, by decide⟩, _, _, rfl, rfl, (by show (0 : Int) < 8; decide), rfl, _, rfl, ite2 (fun c2 => ?_) (fun c2 => ?_)⟩
      · refine ⟨_, rfl, a, ns, 1, rfl, S5.seq hS, by omega, cellAt ns 1, 12, rfl, by omega, fun H6 n2 names2 s6 nn2 en2 ln2 okN2 => ?_⟩
        have S6 := S5.trans s6
        refine ⟨_, rfl, _, _, rfl, rfl, (by show (0 : Int) < 20; decide), _, _, rfl, rfl, _, rfl, _, _, rfl, rfl, (by show (0 : Int) < 9; decide), _, _, rfl, rfl, (by show 2 ≤ sizeLine; decide), fun l nl => ?_⟩
        refine ⟨_, rfl, _, _, rfl, rfl, ⟨by decide, by decide⟩, _, _, rfl, rfl, (by show (0 : Int) < 2; decide), l, _, _, _, rfl, rfl, sqL_of upd_same, stepOf_at (cellAt ns 0) (cellAt ns 2), ?_⟩
        have s7 : Same H6 (upd H6 l (.lst [.int (1 + cellAt ns 0 % 20), .int (9990 + cellAt ns 0 % 9)])) := same_upd nl
        have S7 := S6.trans s7
        refine ⟨_, rfl, _, _, rfl, rfl, (by show (0 : Int) < 10; decide), _, _, rfl, rfl, 2 + cellAt ns 0 % 10, rfl, by omega, by omega, fun D nD => ?_⟩
        refine lc_range (lo := 0) (n := (2 + cellAt ns 0 % 10).toNat) (fun i H' => Same (upd H6 l (.lst [.int (1 + cellAt ns 0 % 20), .int (9990 + cellAt ns 0 % 9)])) H' ∧
          ∃ qs rides, H' D = some (.lst (qs.map V.ref)) ∧ Tups K H' rideV qs rides ∧ (∀ r ∈ rides, okRide r) ∧ rides.length = i) ⟨same_upd nD, [], [], upd_same, Tups.nil, (fun _ h => nomatch h), rfl⟩ ?_ ?_
        · rintro i H8 hi ⟨s8, qs, rds, e8, t8, o8, n8⟩
          have hN8 : SqL K H8 n2 (names2.map V.str) := sqL_of (s8 _ _ (s7 _ _ en2))
          refine ⟨rfl, ?_⟩
          refine ⟨_, rfl, _, rfl, n2, _, _, _, rfl, rfl, hN8, nm_at (z := 0 + (i : Int)) (by omega) (by omega), _, rfl, _, rfl, _, _, rfl, rfl, n2, _, _, _, rfl, rfl, hN8, nm_at (z := 0 + (i : Int) + 1) (by omega) (by omega), ?_⟩
          refine ⟨_, rfl, _, rfl, _, _, rfl, rfl, (by show (0 : Int) < 2; decide), _, _, rfl, rfl, (by show 3 ≤ sizeLine; decide), fun T hT => ?_⟩
          have nDT : D ≠ T := ne_of_none e8 hT
          refine ⟨_, Eq.trans (upd_ne nDT) e8, ?_, same_put (s8.trans (same_upd hT)) nD, ?_⟩
          · rw [List.length_map, t8.1]
            exact small1000 (by omega)
          · have hst := stepOf_in (cellAt ns 0) (cellAt ns 2)
            exact turn_add (f := rideV) (ok := okRide) (nm names2 (0 + (i : Int)), nm names2 (0 + (i : Int) + 1), stepOf (cellAt ns 0) (cellAt ns 2) + (0 + (i : Int)) % 2) hT e8 t8 o8 n8
              ⟨nm_ok okN2 (by omega) (by omega), nm_ok okN2 (by omega) (by omega), nm_ne okN2 (by omega) (by omega) (by omega) (by omega) (by omega), (by show (1 : Int) ≤ stepOf _ _ + _ % 2; omega), (by show stepOf _ _ + _ % 2 ≤ (9999 : Int); omega)⟩
        · rintro H8 ⟨s8, qr2, rides2, er2, tr2, okR2, lr2⟩
          have S8 := S7.trans s8
          have nD0 : H D = none := S7.free nD
          refine ⟨_, rfl, _, rfl, _, rfl, _, _, rfl, rfl, (by show (0 : Int) < 5; decide), a, ns, 12, n2, names2, (cellAt ns 2 % 5).toNat, ?_, S8.seq hS, by omega, sqL_of (s8 _ _ (s7 _ _ en2)), okN2, by omega, by omega, by omega, fun H9 t2 qt2 trips2 s9 nt2 et2 tt2 okT2 lt2 => ?_⟩
          · show [V.ref a, V.int 12, V.ref n2, V.int (cellAt ns 2 % 5)] = _
            rw [show (((cellAt ns 2 % 5).toNat : Nat) : Int) = cellAt ns 2 % 5 by omega]
          have b9 : BuiltAt K H H9 n2 D t2 names2 rides2 trips2 qr2 qt2 := ⟨S8.trans s9, S5.free nn2, nD0, S8.free nt2, ne_of_none er2 nt2, s9 _ _ (s8 _ _ (s7 _ _ en2)), s9 _ _ er2, et2, tr2.same s9, tt2, okN2, okR2, okT2, by omega, by omega, by omega, by omega⟩
          exact ⟨_, rfl, _, rfl, _, rfl, (by show 3 ≤ sizeLine; decide), fun p np => q _ p n2 D t2 names2 rides2 trips2 qr2 qt2 (b9.grow (same_upd np)) upd_same⟩
      · exact ⟨_, rfl, _, rfl, _, rfl, (by show 3 ≤ sizeLine; decide), fun p np => q _ p _ _ _ _ _ _ _ _ (b5.grow (same_upd np)) upd_same⟩
end
end Fb
/-! Data as a whole: rides and trips in lists, compared. -/
namespace Fb
open PySem PySem.Spec PyProof.Rows L2
/-- data of no more than n levels, as it can be compared -/
def Sh (n : Nat) (d : PyData) : Prop := d.canLay0 = true ∧ d.depth ≤ n
theorem Sh.up {n m : Nat} {d : PyData} (h : Sh n d) (l : n ≤ m) : Sh m d := ⟨h.1, Nat.le_trans h.2 l⟩
theorem Sh.ok {n : Nat} {d : PyData} (h : Sh n d) (l : n ≤ 64) : SeqAt.shaped d = true := by
  show (d.canLay0 && decide (d.depth ≤ 64)) = true
  rw [h.1, decide_eq_true (Nat.le_trans h.2 l)]
  rfl
theorem sh_int (i : Int) : Sh 0 (.int i) := ⟨by simp [PyData.canLay0], by simp [PyData.depth]⟩
theorem sh_bool (b : Bool) : Sh 0 (.bool b) := ⟨by simp [PyData.canLay0], by simp [PyData.depth]⟩
theorem sh_none : Sh 0 .none := ⟨by simp [PyData.canLay0], by simp [PyData.depth]⟩
theorem sh_all {n : Nat} : ∀ {ds : List PyData}, (∀ d ∈ ds, Sh n d) → PyData.canLayAll0 ds = true ∧ PyData.depthAll ds ≤ n
  | [], _ => ⟨by simp [PyData.canLayAll0], by simp [PyData.depthAll]⟩
  | d :: ds, h => by
    have h1 := h d List.mem_cons_self
    have h2 := sh_all (ds := ds) fun e he => h e (List.mem_cons_of_mem _ he)
    refine ⟨?_, ?_⟩
    · simp only [PyData.canLayAll0, h1.1, h2.1, Bool.and_self]
    · simp only [PyData.depthAll]
      exact Nat.max_le.mpr ⟨h1.2, h2.2⟩
theorem sh_list {n : Nat} {ds : List PyData} (h : ∀ d ∈ ds, Sh n d) : Sh (n + 1) (.list ds) := by
  have h1 := sh_all h
  exact ⟨by simp only [PyData.canLay0, h1.1], by simp only [PyData.depth]; omega⟩
theorem sh_tuple {n : Nat} {ds : List PyData} (h : ∀ d ∈ ds, Sh n d) : Sh (n + 1) (.tuple ds) := by
  have h1 := sh_all h
  exact ⟨by simp only [PyData.canLay0, h1.1], by simp only [PyData.depth]; omega⟩
theorem sh_str {z : Str} (h : okPlace z) : Sh 0 (.str z) := by
  refine ⟨?_, by simp [PyData.depth]⟩
  have h1 : PyData.strOk z = true := by
    show z.cps.all (· < 0x110000) = true
    rw [← Array.all_toList]
    refine List.all_eq_true.mpr fun c hc => decide_eq_true ?_
    have : ∀ c ∈ letters.cps.toList, c < 0x110000 := by decide +kernel
    exact this c (h.2.2 c hc)
  simp only [PyData.canLay0, h1]
theorem eqv_same {n : Nat} {d : PyData} (h : Sh n d) : PyData.eqv d d = true := PySem.SeqAt.eqv_refl_plain d (PySem.PyData.plain_of_canLay0 d h.1)
/-! ### rides and trips -/
def rideD (r : Ride) : PyData := .tuple [.str r.1, .str r.2.1, .int r.2.2]
def tripD (t : Trip) : PyData := .tuple [.str t.1, .int t.2.1, .str t.2.2.1, .int t.2.2.2]
theorem sh_ride {r : Ride} (h1 : okPlace r.1) (h2 : okPlace r.2.1) : Sh 1 (rideD r) := sh_tuple fun d hd => by
  rcases List.mem_cons.mp hd with rfl | hd
  · exact sh_str h1
  rcases List.mem_cons.mp hd with rfl | hd
  · exact sh_str h2
  rw [List.mem_singleton.mp hd]
  exact sh_int _
theorem sh_trip {t : Trip} (h : okTrip t) : Sh 1 (tripD t) := sh_tuple fun d hd => by
  rcases List.mem_cons.mp hd with rfl | hd
  · exact sh_str h.1
  rcases List.mem_cons.mp hd with rfl | hd
  · exact sh_int _
  rcases List.mem_cons.mp hd with rfl | hd
  · exact sh_str h.2.1
  rw [List.mem_singleton.mp hd]
  exact sh_int _
theorem dp_ride {K : PySem.W.Frag} {H : Hp} {q : Addr} {r : Ride} (h : SqT K H q (rideV r)) : Dp K H (.ref q) (rideD r) := .tup h (.cons (.str _) (.cons (.str _) (.cons (.int _) .nil)))
theorem dp_trip {K : PySem.W.Frag} {H : Hp} {q : Addr} {t : Trip} (h : SqT K H q (tripV t)) : Dp K H (.ref q) (tripD t) := .tup h (.cons (.str _) (.cons (.int _) (.cons (.str _) (.cons (.int _) .nil))))
theorem dp_tups {β : Type} {K : PySem.W.Frag} {H : Hp} {f : β → List V} {d : β → PyData} (hd : ∀ q x, SqT K H q (f x) → Dp K H (.ref q) (d x)) : ∀ {qs : List Addr} {xs : List β}, Tups K H f qs xs → DpAll K H (qs.map V.ref) (xs.map d)
  | [], [], _ => .nil
  | [], _ :: _, t => by have := t.1; simp at this
  | _ :: _, [], t => by have := t.1; simp at this
  | q :: qs, x :: xs, t => .cons (hd q x (t.2 0 q x rfl rfl)) (dp_tups hd (qs := qs) (xs := xs) ⟨by have := t.1; simpa using this, fun i q' x' h1 h2 => t.2 (i + 1) q' x' (by simpa using h1) (by simpa using h2)⟩)
theorem dp_rows {β : Type} {K : PySem.W.Frag} {H : Hp} {f : β → List V} {d : β → PyData} {a : Addr} {xs : List β} (hd : ∀ q x, SqT K H q (f x) → Dp K H (.ref q) (d x)) (r : Rows K H f a xs) : Dp K H (.ref a) (.list (xs.map d)) := by
  obtain ⟨qs, h, t⟩ := r
  exact .lst h (dp_tups hd t)
theorem dp_rides {K : PySem.W.Frag} {H : Hp} {a : Addr} {rides : List Ride} (r : Rows K H rideV a rides) : Dp K H (.ref a) (.list (rides.map rideD)) := dp_rows (fun _ _ => dp_ride) r
theorem dp_trips {K : PySem.W.Frag} {H : Hp} {a : Addr} {trips : List Trip} (r : Rows K H tripV a trips) : Dp K H (.ref a) (.list (trips.map tripD)) := dp_rows (fun _ _ => dp_trip) r
theorem sh_rides {rides : List Ride} (h : ∀ r ∈ rides, okPlace r.1 ∧ okPlace r.2.1) : Sh 2 (.list (rides.map rideD)) := sh_list fun d hd => by
  obtain ⟨r, hr, rfl⟩ := List.mem_map.mp hd
  exact sh_ride (h r hr).1 (h r hr).2
theorem sh_trips {trips : List Trip} (h : ∀ t ∈ trips, okTrip t) : Sh 2 (.list (trips.map tripD)) := sh_list fun d hd => by
  obtain ⟨t, ht, rfl⟩ := List.mem_map.mp hd
  exact sh_trip (h t ht)
theorem roadsM_places {rides : List Ride} {trips : List Trip} (h1 : ∀ r ∈ rides, okRide r) (h2 : ∀ t ∈ trips, okTrip t) : ∀ r ∈ roadsM rides trips, okPlace r.1 ∧ okPlace r.2.1 := fun r hr => by
  rcases List.mem_append.mp hr with h | h
  · exact ⟨(h1 r h).1, (h1 r h).2.1⟩
  · obtain ⟨t, ht, hm⟩ := List.mem_flatMap.mp h
    unfold roadOf at hm
    by_cases c : t.1 = t.2.2.1
    · rw [if_pos c] at hm
      cases hm
    · rw [if_neg c] at hm
      rw [List.mem_singleton.mp hm]
      exact ⟨(h2 t ht).1, (h2 t ht).2.1⟩
/-- two lists of lists of rides and of trips: handed == [rides, trips] -/
theorem dp_two {K : PySem.W.Frag} {H : Hp} {x a b : Addr} {rides : List Ride} {trips : List Trip} (hx : SqL K H x [.ref a, .ref b]) (h1 : Rows K H rideV a rides) (h2 : Rows K H tripV b trips) :
    Dp K H (.ref x) (.list [.list (rides.map rideD), .list (trips.map tripD)]) := .lst hx (.cons (dp_rides h1) (.cons (dp_trips h2) .nil))
theorem sh_two {rides : List Ride} {trips : List Trip} (h1 : ∀ r ∈ rides, okRide r) (h2 : ∀ t ∈ trips, okTrip t) : Sh 3 (.list [.list (rides.map rideD), .list (trips.map tripD)]) := sh_list fun d hd => by
  rcases List.mem_cons.mp hd with rfl | hd
  · exact sh_rides fun r hr => ⟨(h1 r hr).1, (h1 r hr).2.1⟩
  rw [List.mem_singleton.mp hd]
  exact sh_trips h2
end Fb
/-! _law_whole. -/
namespace Fb
open PySem PySem.Spec PyProof.Rows L2
def isIntV : V → Bool
  | .int _ => true
  | _ => false
def spLWhole (K : PySem.W.Frag) : Sp := fun vs H Q _ => ∃ (x : V) (k : Kd), vs = [x] ∧ Plain K H x k ∧ Q (.bl (isIntV x)) H
section
variable {P : Program} {w : World} {K : PySem.W.Frag} {mg : Str → Option Value} {base : Heap}
theorem cal_law_whole {f : Addr} {fd : FuncData} (F : Fn K "_law_whole" s_law_whole f fd) (g : mg "_law_whole" = some (.ref f)) (B : Bi mg) : C8.Cal P w K mg base 1 "_law_whole" (spLWhole K) [] := by
  refine cal_of F g sc_law_whole (bi_law_whole F) (fun vs H Q E h => ?_) (fun cdv A outer s H vs Q E hr h => ?_)
  · obtain ⟨x, k, rfl, _⟩ := h
    rfl
  · obtain ⟨x, k, rfl, p, q⟩ := h
    refine ⟨_, pss_one (ps_ret (pe_and (pe_callB call_isi (by rfl) B.isi (by decide +kernel) (pa_cons (pv 0) (pa_cons (pe_bltn (v := .ty "int") (u := .type "int") (by rfl) B.int (by decide +kernel) (by rfl)) pa_nil))) (pe_one (pe_not (pe_callB call_isi (by rfl) B.isi (by decide +kernel) (pa_cons (pv 0) (pa_cons (pe_bltn (v := .ty "bool") (u := .type "bool") (by rfl) B.bool (by decide +kernel) (by rfl)) pa_nil))))))), ?_⟩
    refine ⟨x, rfl, _, _, _, _, _, rfl, .ty _, (p).ty, kit_ty (kd_int k), _, rfl, ?_⟩
    cases p with
    | int i => exact if_t rfl ⟨.int i, rfl, _, _, _, _, _, rfl, .ty _, (Plain.int i).ty, kit_ty (kd_bool .int), _, rfl, q⟩
    | bool b => exact if_t rfl ⟨.bl b, rfl, _, _, _, _, _, rfl, .ty _, (Plain.bool b).ty, kit_ty (kd_bool .bool), _, rfl, q⟩
    | str z _ => exact if_f rfl q
    | non => exact if_f rfl q
    | lst h => exact if_f rfl q
    | tup h => exact if_f rfl q
end
end Fb
/-! Dicts as lists of pairs; the table of a search. -/
namespace Fb
open PySem PySem.Spec PyProof.Rows L2
section
variable {α β : Type} [DecidableEq α]
def dOf (kf : α → Key) (vf : β → V) (l : List (α × β)) : List (Key × V) := l.map fun p => (kf p.1, vf p.2)
theorem valV_dOf {kf : α → Key} {vf : β → V} (inj : ∀ a b, kf a = kf b → a = b) (k : α) : ∀ l : List (α × β), valV (dOf kf vf l) (kf k) = (look l k).map vf
  | [] => rfl
  | p :: r => by
    show valV ((kf p.1, vf p.2) :: dOf kf vf r) (kf k) = _
    by_cases e : p.1 = k
    · rw [valV_pos (p := (kf p.1, vf p.2)) (show kf p.1 = kf k by rw [e])]
      simp [look, e]
    · rw [valV_neg (p := (kf p.1, vf p.2)) (show ¬ kf p.1 = kf k from fun z => e (inj _ _ z)), valV_dOf inj k r]
      simp [look, e]
theorem any_dOf {kf : α → Key} {vf : β → V} (inj : ∀ a b, kf a = kf b → a = b) (k : α) (l : List (α × β)) : ((dOf kf vf l).any fun kv => decide (kv.1 = kf k)) = (look l k).isSome := by
  rw [valV_any, valV_dOf inj]
  cases look l k <;> rfl
theorem map_keep {kf : α → Key} {vf : β → V} (inj : ∀ a b, kf a = kf b → a = b) {k : α} {v : β} : ∀ {l : List (α × β)}, k ∉ l.map (·.1) → (dOf kf vf l).map (fun kv => if kv.1 = kf k then (kv.1, vf v) else kv) = dOf kf vf l
  | [], _ => rfl
  | p :: r, h => by
    have hp : ¬ p.1 = k := fun z => h (by rw [← z]; exact List.mem_cons_self)
    have ih := map_keep (vf := vf) inj (k := k) (v := v) (l := r) fun z => h (List.mem_cons_of_mem _ z)
    show (if kf p.1 = kf k then (kf p.1, vf v) else (kf p.1, vf p.2)) :: (dOf kf vf r).map _ = (kf p.1, vf p.2) :: dOf kf vf r
    rw [if_neg fun z => hp (inj _ _ z), ih]
theorem map_put {kf : α → Key} {vf : β → V} (inj : ∀ a b, kf a = kf b → a = b) {k : α} {v : β} : ∀ {l : List (α × β)}, (l.map (·.1)).Nodup → look l k ≠ none → (dOf kf vf l).map (fun kv => if kv.1 = kf k then (kv.1, vf v) else kv) = dOf kf vf (put l k v)
  | [], _, h => absurd rfl h
  | p :: r, nd, h => by
    have nd2 : p.1 ∉ r.map (·.1) ∧ (r.map (·.1)).Nodup := List.nodup_cons.mp nd
    show (if kf p.1 = kf k then (kf p.1, vf v) else (kf p.1, vf p.2)) :: (dOf kf vf r).map _ = _
    by_cases c : p.1 = k
    · rw [if_pos (by rw [c]), map_keep inj (c ▸ nd2.1)]
      simp [put, c, dOf]
    · rw [if_neg fun z => c (inj _ _ z), map_put inj nd2.2 (by simpa [look, c] using h)]
      simp [put, c, dOf]
theorem putK_dOf {kf : α → Key} {vf : β → V} (inj : ∀ a b, kf a = kf b → a = b) {k : α} {v : β} : ∀ {l : List (α × β)}, (l.map (·.1)).Nodup → putK (dOf kf vf l) (kf k) (vf v) = dOf kf vf (put l k v) := by
  intro l nd
  unfold putK
  rw [any_dOf inj]
  cases e : look l k with
  | none =>
    rw [if_neg (by simp)]
    have : ∀ l : List (α × β), look l k = none → put l k v = l ++ [(k, v)] := fun l => by
      induction l with
      | nil => intro _; rfl
      | cons p r ih =>
        intro h
        by_cases c : p.1 = k
        · simp [look, c] at h
        · simp only [look, c, if_false] at h
          simp only [put, c, if_false, List.cons_append]
          rw [ih h]
    rw [this l e]
    unfold dOf
    rw [List.map_append]
    rfl
  | some w =>
    rw [if_pos (by simp)]
    exact map_put inj nd (by rw [e]; exact fun z => nomatch z)
theorem dOf_len {kf : α → Key} {vf : β → V} (l : List (α × β)) : (dOf kf vf l).length = l.length := by
  unfold dOf
  rw [List.length_map]
end
/-! ### places to minutes; numbers to numbers -/
theorem inr_inj : ∀ a b : Str, (Sum.inr a : Key) = Sum.inr b → a = b := fun _ _ h => Sum.inr.inj h
theorem inl_inj : ∀ a b : Nat, (Sum.inl (a : Int) : Key) = Sum.inl (b : Int) → a = b := fun _ _ h => Int.ofNat.inj (Sum.inl.inj h)
abbrev dS (l : List (Str × Int)) : List (Key × V) := dOf Sum.inr V.int l
abbrev dN (l : List (Nat × Nat)) : List (Key × V) := dOf (fun n : Nat => (Sum.inl (n : Int) : Key)) (fun n : Nat => V.int (n : Int)) l
theorem get_d {H : Hp} {p : Addr} {l : List (Str × Int)} (h : H p = some (.dK (dS l))) (k : Str) : DGet H p (.str k) ((look l k).map V.int) := .inl ⟨dS l, .inr k, .inl h, rfl, (valV_dOf inr_inj k l).symm⟩
/-- the table of the least minutes from x -/
structure Tab (R : List Ride) (x : Str) (l : List (Str × Int)) : Prop where
  told : Told R x l
  all : ∀ y, look l y = dist R x y
end Fb
/-! spread: the least minutes from a place. -/
namespace Fb
open PySem PySem.Spec PyProof.Rows L2
def spNeedP : Sp := fun vs H Q _ => ∃ z, vs = [.str z] ∧ okPlace z ∧ Q .non H
def spSpread (K : PySem.W.Frag) : Sp := fun vs H Q _ => ∃ (a b : Addr) (rides : List Ride) (trips : List Trip) (z : Str), vs = [.ref a, .ref b, .str z] ∧ Told2 K H a b rides trips ∧ okPlace z ∧
  ∀ H' p l, Same H H' → H p = none → H' p = some (.dK (dS l)) → Tab (roadsM rides trips) z l → Q (.ref p) H'
theorem pass_more {R : List Ride} {l : List (Str × Int)} {i : Nat} {r : Ride} (h : R[i]? = some r) : pass (R.take (i + 1)) l = relax (pass (R.take i) l) r := by
  unfold pass
  rw [List.take_add_one, h, List.foldl_append]
  rfl
theorem put_ne {l : List (Str × Int)} {k : Str} {v : Int} (h : look l k ≠ some v) : put l k v ≠ l := fun e => by
  have := look_put l k k v
  rw [if_pos rfl, e] at this
  exact h this
section
variable {P : Program} {w : World} {K : PySem.W.Frag} {mg : Str → Option Value} {base : Heap}
theorem cal_need_place {f : Addr} {fd : FuncData} (F : Fn K "need_place" s_need_place f fd) (g : mg "need_place" = some (.ref f)) (c_is_place : C8.Cal P w K mg base 1 "is_place" (spPlace K) []) : C8.Cal P w K mg base 2 "need_place" spNeedP [] := by
  refine cal_of F g sc_need_place (bi_need_place F) (fun vs H Q E h => ?_) (fun cdv A outer s H vs Q E hr h => ?_)
  · obtain ⟨z, rfl, _⟩ := h
    rfl
  · obtain ⟨z, rfl, ok, q⟩ := h
    
    refine ⟨_, (pss_one (ps_if (pt_not (pt_val (C8.pe_c c_is_place hr (by decide) (by rfl) (pa_cons (pv 0) pa_nil)))) (pss_one ps_never) pss_nil)), ?_⟩
    refine ⟨_, rfl, _, _, rfl, plain_of ok, ?_⟩
    rw [isPlace_ok ok]
    exact ⟨_, rfl, if_f rfl q⟩
theorem cal_spread {f : Addr} {fd : FuncData} (F : Fn K "spread" s_spread f fd) (g : mg "spread" = some (.ref f)) (c_roads : C8.Cal P w K mg base 4 "roads" (spRoads K) []) (c_need_place : C8.Cal P w K mg base 2 "need_place" spNeedP []) : C8.Cal P w K mg base 5 "spread" (spSpread K) [] := by
  refine cal_of F g sc_spread (bi_spread F) (fun vs H Q E h => ?_) (fun cdv A outer s H vs Q E hr h => ?_)
  · obtain ⟨a, b, rides, trips, z, rfl, _⟩ := h
    rfl
  · obtain ⟨a, b, rides, trips, z, rfl, T, okz, q⟩ := h
    have hu := hu_of hr
    
    refine ⟨_, (pss_cons (ps_set (i := 3) sc_spread.nd rfl (Or.inl rfl) (C8.pe_c c_roads hr (by decide) (by rfl) (pa_cons (pv 0) (pa_cons (pv 1) pa_nil)))) (pss_cons (ps_expr (C8.pe_c c_need_place hr (by decide) (by rfl) (pa_cons (pv 2) pa_nil))) (pss_cons (ps_set (i := 4) sc_spread.nd rfl (Or.inl rfl) (pe_disp (pps_cons (pv 2) pe_int pps_nil) (by rfl) (by rfl) (fun z => by cases z) (by decide))) (pss_cons (ps_set (i := 5) sc_spread.nd rfl (Or.inl rfl) pe_bl) (pss_cons (ps_while PassesOwn.never (pt_val (pv 5)) (pss_cons (ps_set (i := 5) sc_spread.nd rfl (Or.inl rfl) pe_bl) (pss_one (ps_for PassesOwn.never rfl (pi_list (pv 3)) (pg_name (i := 6) sc_spread.nd rfl (Or.inl rfl)) (pss_one (ps_if (pt_cmp (pc_din hu (pe_ix (r := rIxT K) ix_tup (pv 6) pe_int (fun _ _ => rfl)) (pv 4))) (pss_cons (ps_set (i := 7) sc_spread.nd rfl (Or.inl rfl) (pe_op op_add (pe_dget hu (pv 4) (pe_ix (r := rIxT K) ix_tup (pv 6) pe_int (fun _ _ => rfl)) (fun _ _ => rfl)) (pe_ix (r := rIxT K) ix_tup (pv 6) pe_int (fun _ _ => rfl)))) (pss_one (ps_if (PW.pt (pw_or (pt_cmp (pc_dnotin hu (pe_ix (r := rIxT K) ix_tup (pv 6) pe_int (fun _ _ => rfl)) (pv 4))) (pw_or1 (pt_cmpR op_lt (pv 7) (pe_dget hu (pv 4) (pe_ix (r := rIxT K) ix_tup (pv 6) pe_int (fun _ _ => rfl)) (fun _ _ => rfl)) (nomark _))))) (pss_cons (ps_dput hu (pv 4) (pe_ix (r := rIxT K) ix_tup (pv 6) pe_int (fun _ _ => rfl)) (pv 7) rfl) (pss_one (ps_set (i := 5) sc_spread.nd rfl (Or.inl rfl) pe_bl))) pss_nil))) pss_nil)))))) (pss_one (ps_ret (pv 4)))))))), ?_⟩
    have hp := posR T.okR T.okT
    have lM := roadsM_len rides trips
    have h100 := T.lenR
    have h101 := T.lenT
    refine ⟨_, rfl, _, rfl, a, b, rides, trips, rfl, T, fun H1 ro qs s1 nro ero tro => ?_⟩
    refine ⟨_, rfl, z, rfl, okz, ?_⟩
    intro p np
    refine ⟨_, rfl, upd_same, [(.inr z, .int 0)], rfl, (by show 1 ≤ 15; decide), ?_⟩
    obtain ⟨R, hR⟩ : ∃ R, R = roadsM rides trips := ⟨_, rfl⟩
    rw [← hR] at tro hp lM q
    have np0 : H p = none := s1.free np
    refine ⟨fun m σ H' => ∃ (k : Nat) (c : Bool) (y6 y7 : Option V), σ = [some (.ref a), some (.ref b), some (.str z), some (.ref ro), some (.ref p), some (.bl c), y6, y7] ∧ Same H1 H' ∧ H' p = some (.dK (dS (times R z k))) ∧
      (c = true → m + k = R.length + 1 ∧ k ≤ R.length) ∧ (c = false → m = 0 ∧ ∀ y, look (times R z k) y = dist R z y), ⟨R.length + 1, 0, true, none, none, rfl, ?_, ?_, fun _ => ⟨rfl, Nat.zero_le _⟩, fun h => nomatch h⟩, ?_⟩
    · exact same_put (same_upd np) np
    · rw [upd_same]
      rfl
    rintro m σ H2 ⟨k, c, y6, y7, rfl, s2, e2, hc, hc'⟩
    refine ⟨_, rfl, c, rfl, ?_⟩
    cases c with
    | false => exact if_f rfl ⟨_, rfl, q H2 p _ (s1.trans s2) np0 e2 ⟨times_told hp z k, (hc' rfl).2⟩⟩
    | true =>
      obtain ⟨hm, hk⟩ := hc rfl
      refine if_t rfl ⟨fun σ' H' => ∃ (c : Bool) (y6 y7 : Option V), σ' = [some (.ref a), some (.ref b), some (.str z), some (.ref ro), some (.ref p), some (.bl c), y6, y7] ∧ Same H1 H' ∧ H' p = some (.dK (dS (times R z (k + 1)))) ∧
        (c = false → ∀ y, look (times R z (k + 1)) y = dist R z y) ∧ (c = true → k < R.length), ?_, ?_⟩
      · rintro σ' H' ⟨c, y6, y7, rfl, s3, e3, g1, g2⟩
        cases c with
        | false => exact ⟨0, by omega, k + 1, false, y6, y7, rfl, s3, e3, (fun h => nomatch h), fun _ => ⟨rfl, g1 rfl⟩⟩
        | true =>
          have := g2 rfl
          exact ⟨m - 1, by omega, k + 1, true, y6, y7, rfl, s3, e3, fun _ => ⟨by omega, by omega⟩, fun h => nomatch h⟩
      · -- all roads, once
        have t0 := times_told hp z k
        refine ⟨_, rfl, ro, rfl, ⟨_, sqL_of (s2 _ _ ero)⟩, for_list (K := K) (a := ro) (xs := qs.map V.ref) (fun i σ H' => Same H1 H' ∧ H' p = some (.dK (dS (pass (R.take i) (times R z k)))) ∧
          ∃ (c : Bool) (y6 y7 : Option V), σ = [some (.ref a), some (.ref b), some (.str z), some (.ref ro), some (.ref p), some (.bl c), y6, y7] ∧
          (c = false → pass (R.take i) (times R z k) = times R z k ∧ ∀ r ∈ R.take i, relax (times R z k) r = times R z k) ∧ (c = true → ∃ r ∈ R, relax (times R z k) r ≠ times R z k))
          ⟨s2, e2, false, y6, y7, rfl, fun _ => ⟨rfl, fun _ h => nomatch h⟩, fun h => nomatch h⟩ (fun i σ H' _ ⟨s, _⟩ => sqL_of (s _ _ ero)) ?_ ?_⟩
        · rintro i x σ H3 hi ⟨s3, e3, c, y6, y7, rfl, g1, g2⟩
          obtain ⟨p1, r, rfl, hr1, hs⟩ := (tro.same s3).at hi
          have hrR : r ∈ R := List.mem_of_getElem? hr1
          have em := pass_more (l := times R z k) hr1
          have ti := (pass_told hp (R.take i) (fun _ h => List.mem_of_mem_take h) t0).1
          have tl := ti.len
          generalize hl : pass (R.take i) (times R z k) = l at *
          have take1 : R.take (i + 1) = R.take i ++ [r] := by
            rw [List.take_add_one, hr1]
            rfl
          -- nothing new: the same state
          have keep : relax l r = l → ∀ y : Option V, (Same H1 H3 ∧ H3 p = some (.dK (dS (pass (R.take (i + 1)) (times R z k)))) ∧
              ∃ (c' : Bool) (y6 y7 : Option V), [some (.ref a), some (.ref b), some (.str z), some (.ref ro), some (.ref p), some (.bl c), some (.ref p1), y] = [some (.ref a), some (.ref b), some (.str z), some (.ref ro), some (.ref p), some (.bl c'), y6, y7] ∧
              (c' = false → pass (R.take (i + 1)) (times R z k) = times R z k ∧ ∀ r ∈ R.take (i + 1), relax (times R z k) r = times R z k) ∧ (c' = true → ∃ r ∈ R, relax (times R z k) r ≠ times R z k)) := fun hk y => by
            refine ⟨s3, by rw [em, hk]; exact e3, c, _, _, rfl, fun hc => ?_, g2⟩
            obtain ⟨h1, h2⟩ := g1 hc
            refine ⟨by rw [em, hk]; exact h1, fun r' hr' => ?_⟩
            rw [take1] at hr'
            rcases List.mem_append.mp hr' with h | h
            · exact h2 r' h
            · rw [List.mem_singleton.mp h, ← h1]
              exact hk
          have get : ∀ k' : Str, DGet H3 p (.str k') ((look l k').map V.int) := fun k' => by
            have := DGet.k (k := (.inr k' : Key)) e3
            rw [valV_dOf inr_inj] at this
            exact this
          refine ⟨_, rfl, p1, _, 0, _, rfl, rfl, hs, atI_nat (j := 0) rfl, _, rfl, p, _, rfl, get r.1, _, rfl, ?_⟩
          cases h1 : look l r.1 with
          | none => exact if_f rfl (keep (relax_none h1) _)
          | some m1 =>
            refine if_t rfl ⟨_, rfl, _, rfl, p1, _, 0, _, rfl, rfl, hs, atI_nat (j := 0) rfl, p, .int m1, rfl, (by have := get r.1; rw [h1] at this; exact this), _, rfl, p1, _, 2, _, rfl, rfl, hs, atI_nat (j := 2) rfl, _, _, rfl, rfl, ?_⟩
            refine ⟨_, rfl, p1, _, 1, _, rfl, rfl, hs, atI_nat (j := 1) rfl, _, rfl, p, _, rfl, get r.2.1, _, rfl, ?_⟩
            -- a place told with less than it was
            have newer : relax l r = put l r.2.1 (m1 + r.2.2) → look l r.2.1 ≠ some (m1 + r.2.2) → (Same H1 (upd H3 p (.dK (putK (dS l) (.inr r.2.1) (.int (m1 + r.2.2))))) ∧ (upd H3 p (.dK (putK (dS l) (.inr r.2.1) (.int (m1 + r.2.2))))) p = some (.dK (dS (pass (R.take (i + 1)) (times R z k)))) ∧
                ∃ (c' : Bool) (y6 y7 : Option V), [some (.ref a), some (.ref b), some (.str z), some (.ref ro), some (.ref p), some (.bl true), some (.ref p1), some (.int (m1 + r.2.2))] = [some (.ref a), some (.ref b), some (.str z), some (.ref ro), some (.ref p), some (.bl c'), y6, y7] ∧
                (c' = false → pass (R.take (i + 1)) (times R z k) = times R z k ∧ ∀ r ∈ R.take (i + 1), relax (times R z k) r = times R z k) ∧ (c' = true → ∃ r ∈ R, relax (times R z k) r ≠ times R z k)) := fun hx hy => by
              refine ⟨same_put s3 np, ?_, true, _, _, rfl, (fun h => nomatch h), fun _ => ?_⟩
              · rw [upd_same, em, hx]
                exact congrArg (fun x => some (HO.dK x)) (putK_dOf inr_inj ti.nd)
              · cases c with
                | true => exact g2 rfl
                | false =>
                  refine ⟨r, hrR, ?_⟩
                  rw [← (g1 rfl).1, hx]
                  exact put_ne hy
            have hput : ∀ v : Int, DPut H3 p (.str r.2.1) (.int v) (upd H3 p (.dK (putK (dS l) (.inr r.2.1) (.int v)))) := fun v => DPut.k (k := (.inr r.2.1 : Key)) e3 (by
              rw [dOf_len]
              have : sizeLine = 16777216 := sizeLine_eq
              omega)
            cases h2 : look l r.2.1 with
            | none =>
              refine if_t rfl (if_t rfl ⟨_, rfl, _, rfl, _, rfl, p1, _, 1, _, rfl, rfl, hs, atI_nat (j := 1) rfl, p, _, rfl, hput _, ?_⟩)
              exact newer (relax_new h1 h2) (by rw [h2]; exact fun z => nomatch z)
            | some v =>
              refine if_f rfl ⟨_, rfl, _, rfl, _, rfl, p1, _, 1, _, rfl, rfl, hs, atI_nat (j := 1) rfl, p, .int v, rfl, (by have := get r.2.1; rw [h2] at this; exact this), _, _, rfl, rfl, _, rfl, ite2 (fun cc => ?_) (fun cc => ?_)⟩
              · have cc := of_decide_eq_true cc
                refine ⟨_, rfl, _, rfl, _, rfl, p1, _, 1, _, rfl, rfl, hs, atI_nat (j := 1) rfl, p, _, rfl, hput _, ?_⟩
                exact newer (relax_less h1 h2 cc) (by rw [h2]; exact fun z => by have := Option.some.inj z; omega)
              · exact keep (relax_keep h1 h2 (of_decide_eq_false (Bool.eq_false_iff.mpr cc))) _
        · rintro σ H3 ⟨s3, e3, c, y6, y7, rfl, g1, g2⟩
          have eR : R.take (qs.map V.ref).length = R := List.take_of_length_le (by rw [List.length_map, tro.1]; exact Nat.le_refl _)
          rw [eR] at e3 g1
          refine ⟨c, y6, y7, rfl, s3, e3, fun hc => ?_, fun hc => ?_⟩
          · have := g1 hc
            show ∀ y, look (pass R (times R z k)) y = dist R z y
            rw [this.1]
            exact t0.still hp this.2
          · obtain ⟨r, hr1, hne⟩ := g2 hc
            refine Nat.lt_of_le_of_ne hk fun e => hne ?_
            exact Told.keeps hp (times_all hp z (by omega)) hr1
end
end Fb
/-! Whether a bus can do a trip behind another one: the law of it, plain. -/
namespace Fb
open PySem PySem.Spec PyProof.Rows L2
def comesB (o : Option Int) (t1 t2 : Trip) : Bool := match o with
  | none => false
  | some m => decide (t1.2.2.2 + m ≤ t2.2.1)
noncomputable def canM (R : List Ride) (t1 t2 : Trip) : Bool := comesB (dist R t1.2.2.1 t2.1) t1 t2
theorem canM_iff {R : List Ride} {t1 t2 : Trip} : canM R t1 t2 = true ↔ ∃ m, dist R t1.2.2.1 t2.1 = some m ∧ t1.2.2.2 + m ≤ t2.2.1 := by
  unfold canM comesB
  cases dist R t1.2.2.1 t2.1 with
  | none => simp
  | some m => simp
theorem canM_begin {R : List Ride} {t1 t2 : Trip} (hp : PosR R) (h1 : okTrip t1) (h : canM R t1 t2 = true) : t1.2.1 < t2.2.1 := by
  obtain ⟨m, hm, hle⟩ := canM_iff.mp h
  have h0 := dist_nonneg hp hm
  have := h1.2.2.2.1
  omega
theorem canM_not {R : List Ride} {t1 t2 : Trip} (hp : PosR R) (h1 : okTrip t1) (h2 : okTrip t2) (h : canM R t1 t2 = true) : canM R t2 t1 = false := by
  cases e : canM R t2 t1 with
  | false => rfl
  | true =>
    have a := canM_begin hp h1 h
    have b := canM_begin hp h2 e
    omega
theorem canM_irr {R : List Ride} {t : Trip} (hp : PosR R) (h1 : okTrip t) : canM R t t = false := by
  cases e : canM R t t with
  | false => rfl
  | true =>
    have a := canM_begin hp h1 e
    omega
/-- the way of a trip itself -/
theorem trip_path {rides : List Ride} {trips : List Trip} {t : Trip} (h : t ∈ trips) (ok : okTrip t) : ∃ m, Path (roadsM rides trips) t.1 t.2.2.1 m ∧ m ≤ t.2.2.2 - t.2.1 := by
  by_cases c : t.1 = t.2.2.1
  · refine ⟨0, ?_, ?_⟩
    · rw [← c]
      exact .nil
    · have := ok.2.2.2.1
      omega
  · refine ⟨0 + (t.2.2.2 - t.2.1), Path.snoc .nil ?_, by omega⟩
    refine List.mem_append_right _ (List.mem_flatMap.mpr ⟨t, h, ?_⟩)
    unfold roadOf
    rw [if_neg c]
    exact List.mem_singleton.mpr rfl
theorem canM_trans {rides : List Ride} {trips : List Trip} {t1 t2 t3 : Trip} (hp : PosR (roadsM rides trips)) (hm : t2 ∈ trips) (ok : okTrip t2) (h : canM (roadsM rides trips) t1 t2 = true) (h' : canM (roadsM rides trips) t2 t3 = true) : canM (roadsM rides trips) t1 t3 = true := by
  obtain ⟨a, ha, la⟩ := canM_iff.mp h
  obtain ⟨b, hb, lb⟩ := canM_iff.mp h'
  obtain ⟨c, pc, lc⟩ := trip_path (rides := rides) hm ok
  obtain ⟨d, hd, ld⟩ := dist_path hp (((dist_eq.mp ha).1.trans pc).trans (dist_eq.mp hb).1)
  exact canM_iff.mpr ⟨d, hd, by omega⟩
end Fb
/-! comes: whether a bus comes in time to a trip. -/
namespace Fb
open PySem PySem.Spec PyProof.Rows L2
def spComes (K : PySem.W.Frag) : Sp := fun vs H Q _ => ∃ (p q1 q2 : Addr) (l : List (Str × Int)) (t1 t2 : Trip), vs = [.ref p, .ref q1, .ref q2] ∧ H p = some (.dK (dS l)) ∧ SqT K H q1 (tripV t1) ∧ SqT K H q2 (tripV t2) ∧ Q (.bl (comesB (look l t2.1) t1 t2)) H
section
variable {P : Program} {w : World} {K : PySem.W.Frag} {mg : Str → Option Value} {base : Heap}
theorem cal_comes {f : Addr} {fd : FuncData} (F : Fn K "comes" s_comes f fd) (g : mg "comes" = some (.ref f)) : C8.Cal P w K mg base 1 "comes" (spComes K) [] := by
  refine cal_of F g sc_comes (bi_comes F) (fun vs H Q E h => ?_) (fun cdv A outer s H vs Q E hr h => ?_)
  · obtain ⟨p, q1, q2, l, t1, t2, rfl, _⟩ := h
    rfl
  · obtain ⟨p, q1, q2, l, t1, t2, rfl, ep, h1, h2, q⟩ := h
    have hu := hu_of hr
    
    refine ⟨_, (pss_one (ps_ret (pe_and (pe_cmp (pc_din hu (pe_ix (r := rIxT K) ix_tup (pv 2) pe_int (fun _ _ => rfl)) (pv 0)) (by rfl)) (pe_one (pe_cmpR op_le (pe_op op_add (pe_ix (r := rIxT K) ix_tup (pv 1) pe_int (fun _ _ => rfl)) (pe_dget hu (pv 0) (pe_ix (r := rIxT K) ix_tup (pv 2) pe_int (fun _ _ => rfl)) (fun _ _ => rfl))) (pe_ix (r := rIxT K) ix_tup (pv 2) pe_int (fun _ _ => rfl)) (nomark _)))))), ?_⟩
    refine ⟨_, rfl, q2, _, 0, _, rfl, rfl, h2, atI_nat (j := 0) rfl, _, rfl, p, _, rfl, get_d ep t2.1, _, rfl, ?_⟩
    cases e : look l t2.1 with
    | none =>
      rw [e] at q
      exact if_f rfl q
    | some m =>
      rw [e] at q
      refine if_t rfl ⟨_, rfl, q1, _, 3, _, rfl, rfl, h1, atI_nat (j := 3) rfl, _, rfl, _, rfl, q2, _, 0, _, rfl, rfl, h2, atI_nat (j := 0) rfl, p, .int m, rfl, ?_, _, _, rfl, rfl, _, rfl, q2, _, 1, _, rfl, rfl, h2, atI_nat (j := 1) rfl, _, _, rfl, rfl, q⟩
      have := get_d ep t2.1
      rw [e] at this
      exact this
end
end Fb
/-! can: whether a bus can do a trip behind another one. -/
namespace Fb
open PySem PySem.Spec PyProof.Rows L2
def spNeedN (K : PySem.W.Frag) : Sp := fun vs H Q _ => ∃ (b : Addr) (xs : List V) (i : Int), vs = [.ref b, .int i] ∧ SqL K H b xs ∧ 0 ≤ i ∧ i < xs.length ∧ Q .non H
def spCan (K : PySem.W.Frag) : Sp := fun vs H Q _ => ∃ (a b : Addr) (rides : List Ride) (trips : List Trip) (i j : Nat) (t1 t2 : Trip), vs = [.ref a, .ref b, .int i, .int j] ∧ Told2 K H a b rides trips ∧ trips[i]? = some t1 ∧ trips[j]? = some t2 ∧
  ∀ H', Same H H' → Q (.bl (canM (roadsM rides trips) t1 t2)) H'
section
variable {P : Program} {w : World} {K : PySem.W.Frag} {mg : Str → Option Value} {base : Heap}
theorem cal_need_number {f : Addr} {fd : FuncData} (F : Fn K "need_number" s_need_number f fd) (g : mg "need_number" = some (.ref f)) (B : Bi mg) (c_is_whole : C8.Cal P w K mg base 1 "is_whole" (spWhole K) []) : C8.Cal P w K mg base 2 "need_number" (spNeedN K) [] := by
  refine cal_of F g sc_need_number (bi_need_number F) (fun vs H Q E h => ?_) (fun cdv A outer s H vs Q E hr h => ?_)
  · obtain ⟨b, xs, i, rfl, _⟩ := h
    rfl
  · obtain ⟨b, xs, i, rfl, hS, h0, h1, q⟩ := h
    
    refine ⟨_, (pss_one (ps_if (pt_not (pt_val (C8.pe_c c_is_whole hr (by decide) (by rfl) (pa_cons (pv 1) (pa_cons pe_int (pa_cons (pe_op op_sub (pe_callB call_len_seq (by rfl) B.len PySem.boot_len (pa_cons (pv 0) pa_nil)) pe_int) pa_nil)))))) (pss_one ps_never) pss_nil)), ?_⟩
    refine ⟨_, rfl, _, rfl, b, _, rfl, .inl hS, _, _, rfl, rfl, .int i, .int, 0, (xs.length : Int) - 1, rfl, .int i, ?_⟩
    rw [show isWhole (.int i) 0 ((xs.length : Int) - 1) = true by
      show (decide (0 ≤ i) && decide (i ≤ (xs.length : Int) - 1)) = true
      rw [decide_eq_true h0, decide_eq_true (by omega)]
      rfl]
    exact ⟨_, rfl, if_f rfl q⟩
theorem cal_can {f : Addr} {fd : FuncData} (F : Fn K "can" s_can f fd) (g : mg "can" = some (.ref f)) (c_looked : C8.Cal P w K mg base 3 "looked" (spLooked K) []) (c_need_number : C8.Cal P w K mg base 2 "need_number" (spNeedN K) [])
    (c_spread : C8.Cal P w K mg base 5 "spread" (spSpread K) []) (c_comes : C8.Cal P w K mg base 1 "comes" (spComes K) []) : C8.Cal P w K mg base 6 "can" (spCan K) [] := by
  refine cal_of F g sc_can (bi_can F) (fun vs H Q E h => ?_) (fun cdv A outer s H vs Q E hr h => ?_)
  · obtain ⟨a, b, rides, trips, i, j, t1, t2, rfl, _⟩ := h
    rfl
  · obtain ⟨a, b, rides, trips, i, j, t1, t2, rfl, T, h1, h2, q⟩ := h
    
    refine ⟨_, (pss_cons (ps_expr (C8.pe_c c_looked hr (by decide) (by rfl) (pa_cons (pv 0) (pa_cons (pv 1) pa_nil)))) (pss_cons (ps_expr (C8.pe_c c_need_number hr (by decide) (by rfl) (pa_cons (pv 1) (pa_cons (pv 2) pa_nil)))) (pss_cons (ps_expr (C8.pe_c c_need_number hr (by decide) (by rfl) (pa_cons (pv 1) (pa_cons (pv 3) pa_nil)))) (pss_one (ps_ret (C8.pe_c c_comes hr (by decide) (by rfl) (pa_cons (C8.pe_c c_spread hr (by decide) (by rfl) (pa_cons (pv 0) (pa_cons (pv 1) (pa_cons (pe_ix (r := rIxT K) ix_tup (pe_ix (r := rIxL K) ix_list (pv 1) (pv 2) (fun _ _ => rfl)) pe_int (fun _ _ => rfl)) pa_nil)))) (pa_cons (pe_ix (r := rIxL K) ix_list (pv 1) (pv 2) (fun _ _ => rfl)) (pa_cons (pe_ix (r := rIxL K) ix_list (pv 1) (pv 3) (fun _ _ => rfl)) pa_nil))))))))), ?_⟩
    obtain ⟨qs, hL, hT⟩ := T.lT
    obtain ⟨p1, hp1, hs1⟩ := hT.addr h1
    obtain ⟨p2, hp2, hs2⟩ := hT.addr h2
    have li : i < trips.length := (List.getElem?_eq_some_iff.mp h1).1
    have lj : j < trips.length := (List.getElem?_eq_some_iff.mp h2).1
    have ll : (qs.map V.ref).length = trips.length := by rw [List.length_map, hT.1]
    have at1 : atI (qs.map V.ref) (i : Int) = some (.ref p1) := atI_nat (by rw [List.getElem?_map, hp1]; rfl)
    have at2 : atI (qs.map V.ref) (j : Int) = some (.ref p2) := atI_nat (by rw [List.getElem?_map, hp2]; rfl)
    refine ⟨_, rfl, _, rfl, a, b, rides, trips, rfl, T, ?_⟩
    refine ⟨_, rfl, _, rfl, b, _, _, rfl, hL, by omega, by omega, ?_⟩
    refine ⟨_, rfl, _, rfl, b, _, _, rfl, hL, by omega, by omega, ?_⟩
    refine ⟨_, rfl, _, rfl, _, rfl, _, rfl, b, _, _, _, rfl, rfl, hL, at1, p1, _, 2, _, rfl, rfl, hs1, atI_nat (j := 2) rfl, a, b, rides, trips, t1.2.2.1, rfl, T, (T.okT t1 (List.mem_of_getElem? h1)).2.1, fun H1 p l s1 np ep tab => ?_⟩
    refine ⟨_, rfl, _, rfl, b, _, _, _, rfl, rfl, s1.seq hL, at1, _, rfl, _, rfl, b, _, _, _, rfl, rfl, s1.seq hL, at2, p, p1, p2, l, t1, t2, rfl, ep, same_seqT s1 hs1, same_seqT s1 hs2, ?_⟩
    rw [tab.all]
    exact q H1 s1
end
end Fb
/-! _law_least: the least minutes by going over all roads. -/
namespace Fb
open PySem PySem.Spec PyProof.Rows L2
def spLeast (K : PySem.W.Frag) : Sp := fun vs H Q _ => ∃ (t : Addr) (x : Str) (R : List Ride), vs = [.ref t, .str x] ∧ Rows K H rideV t R ∧ R.length ≤ 200 ∧ PosR R ∧
  ∀ H' p l, Same H H' → H p = none → H' p = some (.dK (dS l)) → Tab R x l → Q (.ref p) H'
section
variable {P : Program} {w : World} {K : PySem.W.Frag} {mg : Str → Option Value} {base : Heap}
theorem cal_law_least {f : Addr} {fd : FuncData} (F : Fn K "_law_least" s_law_least f fd) (g : mg "_law_least" = some (.ref f)) (B : Bi mg) : C8.Cal P w K mg base 1 "_law_least" (spLeast K) [] := by
  refine cal_of F g sc_law_least (bi_law_least F) (fun vs H Q E h => ?_) (fun cdv A outer s H vs Q E hr h => ?_)
  · obtain ⟨t, x, R, rfl, _⟩ := h
    rfl
  · obtain ⟨t, x, R, rfl, ⟨qs, hL, hT⟩, hlen, hp, q⟩ := h
    have hu := hu_of hr
    
    refine ⟨_, (pss_cons (ps_set (i := 2) sc_law_least.nd rfl (Or.inl rfl) (pe_disp (pps_cons (pv 1) pe_int pps_nil) (by rfl) (by rfl) (fun z => by cases z) (by decide))) (pss_cons (ps_for PassesOwn.never rfl (pi_range1 rfl B.range (pa_cons (pe_op op_add (pe_callB call_len_seq (by rfl) B.len PySem.boot_len (pa_cons (pv 0) pa_nil)) pe_int) pa_nil)) (pg_name (i := 3) sc_law_least.nd rfl (Or.inl rfl)) (pss_one (ps_for PassesOwn.never rfl (pi_list (pv 0)) (pg_name (i := 4) sc_law_least.nd rfl (Or.inl rfl)) (pss_one (ps_if (pt_cmp (pc_din hu (pe_ix (r := rIxT K) ix_tup (pv 4) pe_int (fun _ _ => rfl)) (pv 2))) (pss_cons (ps_set (i := 5) sc_law_least.nd rfl (Or.inl rfl) (pe_op op_add (pe_dget hu (pv 2) (pe_ix (r := rIxT K) ix_tup (pv 4) pe_int (fun _ _ => rfl)) (fun _ _ => rfl)) (pe_ix (r := rIxT K) ix_tup (pv 4) pe_int (fun _ _ => rfl)))) (pss_one (ps_if (pt_cmpR op_lt (pv 5) (pe_dget2 hu (pv 2) (pe_ix (r := rIxT K) ix_tup (pv 4) pe_int (fun _ _ => rfl)) (pe_op op_add (pv 5) pe_int) ⟨by rfl, by rfl, by rfl, by rfl⟩) (nomark _)) (pss_one (ps_dput hu (pv 2) (pe_ix (r := rIxT K) ix_tup (pv 4) pe_int (fun _ _ => rfl)) (pv 5) rfl)) pss_nil))) pss_nil))))) (pss_one (ps_ret (pv 2))))), ?_⟩
    intro p np
    refine ⟨_, rfl, upd_same, [(.inr x, .int 0)], rfl, (by show 1 ≤ 15; decide), ?_⟩
    have s0 : Same H (upd (upd H p (.dK [])) p (.dK (mergeK [] [(.inr x, .int 0)]))) := same_put (same_upd np) np
    have ll : (qs.map V.ref).length = R.length := by rw [List.length_map, hT.1]
    have lz : ((qs.map V.ref).length : Int) + 1 < 2 ^ 62 := by rw [ll]; omega
    refine ⟨_, rfl, t, _, rfl, .inl (s0.seq hL), _, _, rfl, rfl, ((qs.map V.ref).length : Int) + 1, rfl, by omega, lz, for_range (lo := 0) (n := (((qs.map V.ref).length : Int) + 1).toNat) (fun k σ H' => Same H H' ∧ (∃ y3 y4 y5, σ = [some (.ref t), some (.str x), some (.ref p), y3, y4, y5]) ∧ H' p = some (.dK (dS (times R x k))))
      ⟨s0, ⟨none, none, none, rfl⟩, ?_⟩ ?_ ?_⟩
    · rw [upd_same]
      rfl
    · rintro k σ H1 hk ⟨s1, ⟨y3, y4, y5, rfl⟩, e1⟩
      have t0 := times_told hp x k
      refine ⟨_, rfl, t, rfl, ⟨_, s1.seq hL⟩, for_list (K := K) (a := t) (xs := qs.map V.ref) (fun i σ H' => Same H H' ∧ H' p = some (.dK (dS (pass (R.take i) (times R x k)))) ∧ ∃ y4 y5, σ = [some (.ref t), some (.str x), some (.ref p), some (.int (0 + (k : Int))), y4, y5])
        ⟨s1, e1, y4, y5, rfl⟩ (fun i σ H' _ ⟨s, _⟩ => s.seq hL) ?_ ?_⟩
      · rintro i v σ H3 hi ⟨s3, e3, y4, y5, rfl⟩
        obtain ⟨p1, r, rfl, hr1, hs⟩ := (hT.same s3).at hi
        have em := pass_more (l := times R x k) hr1
        have ti := (pass_told hp (R.take i) (fun _ h => List.mem_of_mem_take h) t0).1
        have tl := ti.len
        generalize pass (R.take i) (times R x k) = l at *
        have get := get_d e3
        have hput : ∀ v : Int, DPut H3 p (.str r.2.1) (.int v) (upd H3 p (.dK (putK (dS l) (.inr r.2.1) (.int v)))) := fun v => DPut.k (k := (.inr r.2.1 : Key)) e3 (by
          rw [dOf_len]
          exact small1000 (by omega))
        have newer : ∀ m1 : Int, relax l r = put l r.2.1 (m1 + r.2.2) → (upd H3 p (.dK (putK (dS l) (.inr r.2.1) (.int (m1 + r.2.2))))) p = some (.dK (dS (pass (R.take (i + 1)) (times R x k)))) := fun m1 hx => by
          rw [upd_same, em, hx]
          exact congrArg (fun x => some (HO.dK x)) (putK_dOf inr_inj ti.nd)
        refine ⟨_, rfl, p1, _, 0, _, rfl, rfl, hs, atI_nat (j := 0) rfl, _, rfl, p, _, rfl, get r.1, _, rfl, ?_⟩
        cases h1 : look l r.1 with
        | none =>
          refine if_f rfl ⟨s3, ?_, _, _, rfl⟩
          rw [em, relax_none h1]
          exact e3
        | some m1 =>
          refine if_t rfl ⟨_, rfl, _, rfl, p1, _, 0, _, rfl, rfl, hs, atI_nat (j := 0) rfl, p, .int m1, rfl, (by have := get r.1; rw [h1] at this; exact this), _, rfl, p1, _, 2, _, rfl, rfl, hs, atI_nat (j := 2) rfl, _, _, rfl, rfl, ?_⟩
          refine ⟨_, rfl, _, rfl, p, rfl, .inl ⟨_, .inl e3⟩, _, rfl, p1, _, 1, _, rfl, rfl, hs, atI_nat (j := 1) rfl, _, rfl, _, _, rfl, rfl, _, get r.2.1, ?_⟩
          cases h2 : look l r.2.1 with
          | none =>
            refine ⟨_, _, rfl, rfl, _, rfl, if_t (decide_eq_true (by omega)) ⟨_, rfl, _, rfl, _, rfl, p1, _, 1, _, rfl, rfl, hs, atI_nat (j := 1) rfl, p, _, rfl, hput _, same_put s3 np, newer m1 (relax_new h1 h2), _, _, rfl⟩⟩
          | some v =>
            refine ⟨_, _, rfl, rfl, _, rfl, ite2 (fun cc => ?_) (fun cc => ?_)⟩
            · exact ⟨_, rfl, _, rfl, _, rfl, p1, _, 1, _, rfl, rfl, hs, atI_nat (j := 1) rfl, p, _, rfl, hput _, same_put s3 np, newer m1 (relax_less h1 h2 (of_decide_eq_true cc)), _, _, rfl⟩
            · refine ⟨s3, ?_, _, _, rfl⟩
              rw [em, relax_keep h1 h2 (of_decide_eq_false (Bool.eq_false_iff.mpr cc))]
              exact e3
      · rintro σ H3 ⟨s3, e3, y4, y5, rfl⟩
        have eR : R.take (qs.map V.ref).length = R := List.take_of_length_le (by rw [ll]; exact Nat.le_refl _)
        rw [eR] at e3
        exact ⟨s3, ⟨_, _, _, rfl⟩, e3⟩
    · rintro σ H1 ⟨s1, ⟨y3, y4, y5, rfl⟩, e1⟩
      exact ⟨_, rfl, q H1 p _ s1 np e1 ⟨times_told hp x _, times_all hp x (by rw [ll]; omega)⟩⟩
end
end Fb
/-! _law_can: by the least minutes by going over all roads. -/
namespace Fb
open PySem PySem.Spec PyProof.Rows L2
def spLCan (K : PySem.W.Frag) : Sp := fun vs H Q _ => ∃ (t q1 q2 : Addr) (R : List Ride) (t1 t2 : Trip), vs = [.ref t, .ref q1, .ref q2] ∧ Rows K H rideV t R ∧ R.length ≤ 200 ∧ PosR R ∧ SqT K H q1 (tripV t1) ∧ SqT K H q2 (tripV t2) ∧
  ∀ H', Same H H' → Q (.bl (canM R t1 t2)) H'
section
variable {P : Program} {w : World} {K : PySem.W.Frag} {mg : Str → Option Value} {base : Heap}
theorem cal_law_can {f : Addr} {fd : FuncData} (F : Fn K "_law_can" s_law_can f fd) (g : mg "_law_can" = some (.ref f)) (c_least : C8.Cal P w K mg base 1 "_law_least" (spLeast K) []) : C8.Cal P w K mg base 2 "_law_can" (spLCan K) [] := by
  refine cal_of F g sc_law_can (bi_law_can F) (fun vs H Q E h => ?_) (fun cdv A outer s H vs Q E hr h => ?_)
  · obtain ⟨t, q1, q2, R, t1, t2, rfl, _⟩ := h
    rfl
  · obtain ⟨t, q1, q2, R, t1, t2, rfl, hR, hlen, hp, h1, h2, q⟩ := h
    have hu := hu_of hr
    
    refine ⟨_, (pss_cons (ps_set (i := 3) sc_law_can.nd rfl (Or.inl rfl) (C8.pe_c c_least hr (by decide) (by rfl) (pa_cons (pv 0) (pa_cons (pe_ix (r := rIxT K) ix_tup (pv 1) pe_int (fun _ _ => rfl)) pa_nil)))) (pss_one (ps_ret (pe_and (pe_cmp (pc_din hu (pe_ix (r := rIxT K) ix_tup (pv 2) pe_int (fun _ _ => rfl)) (pv 3)) (by rfl)) (pe_one (pe_cmpR op_le (pe_op op_add (pe_ix (r := rIxT K) ix_tup (pv 1) pe_int (fun _ _ => rfl)) (pe_dget hu (pv 3) (pe_ix (r := rIxT K) ix_tup (pv 2) pe_int (fun _ _ => rfl)) (fun _ _ => rfl))) (pe_ix (r := rIxT K) ix_tup (pv 2) pe_int (fun _ _ => rfl)) (nomark _))))))), ?_⟩
    refine ⟨_, rfl, _, rfl, q1, _, 2, _, rfl, rfl, h1, atI_nat (j := 2) rfl, t, _, R, rfl, hR, hlen, hp, fun H1 p l s1 np ep tab => ?_⟩
    have g1 := same_seqT s1 h1
    have g2 := same_seqT s1 h2
    refine ⟨_, rfl, q2, _, 0, _, rfl, rfl, g2, atI_nat (j := 0) rfl, _, rfl, p, _, rfl, get_d ep t2.1, _, rfl, ?_⟩
    have qq : Q (.bl (comesB (look l t2.1) t1 t2)) H1 := by
      rw [tab.all]
      exact q H1 s1
    cases e : look l t2.1 with
    | none =>
      rw [e] at qq
      exact if_f rfl qq
    | some m =>
      rw [e] at qq
      refine if_t rfl ⟨_, rfl, q1, _, 3, _, rfl, rfl, g1, atI_nat (j := 3) rfl, _, rfl, _, rfl, q2, _, 0, _, rfl, rfl, g2, atI_nat (j := 0) rfl, p, .int m, rfl, ?_, _, _, rfl, rfl, _, rfl, q2, _, 1, _, rfl, rfl, g2, atI_nat (j := 1) rfl, _, _, rfl, rfl, qq⟩
      have := get_d ep t2.1
      rw [e] at this
      exact this
end
end Fb
/-! Which trip can be done behind which, by their numbers. -/
namespace Fb
open PySem PySem.Spec PyProof.Rows L2
noncomputable def Cm (R : List Ride) (trips : List Trip) (i j : Nat) : Bool := match trips[i]?, trips[j]? with
  | some x, some y => canM R x y
  | _, _ => false
theorem Cm_eq {R : List Ride} {trips : List Trip} {i j : Nat} {x y : Trip} (hx : trips[i]? = some x) (hy : trips[j]? = some y) : Cm R trips i j = canM R x y := by
  unfold Cm
  rw [hx, hy]
theorem Cm_get {R : List Ride} {trips : List Trip} {i j : Nat} (h : Cm R trips i j = true) : ∃ x y, trips[i]? = some x ∧ trips[j]? = some y ∧ canM R x y = true := by
  unfold Cm at h
  cases hx : trips[i]? with
  | none =>
    rw [hx] at h
    cases h
  | some x =>
    cases hy : trips[j]? with
    | none =>
      rw [hx, hy] at h
      cases h
    | some y =>
      rw [hx, hy] at h
      exact ⟨x, y, rfl, rfl, h⟩
theorem Cm_lt {R : List Ride} {trips : List Trip} {i j : Nat} (h : Cm R trips i j = true) : i < trips.length ∧ j < trips.length := by
  obtain ⟨x, y, hx, hy, _⟩ := Cm_get h
  exact ⟨(List.getElem?_eq_some_iff.mp hx).1, (List.getElem?_eq_some_iff.mp hy).1⟩
theorem Cm_not {R : List Ride} {trips : List Trip} {i j : Nat} (hp : PosR R) (ok : ∀ t ∈ trips, okTrip t) (h : Cm R trips i j = true) : Cm R trips j i = false := by
  obtain ⟨x, y, hx, hy, hc⟩ := Cm_get h
  rw [Cm_eq hy hx]
  exact canM_not hp (ok x (List.mem_of_getElem? hx)) (ok y (List.mem_of_getElem? hy)) hc
theorem Cm_irr {R : List Ride} {trips : List Trip} {i : Nat} (hp : PosR R) (ok : ∀ t ∈ trips, okTrip t) : Cm R trips i i = false := by
  cases e : Cm R trips i i with
  | false => rfl
  | true =>
    have := Cm_not hp ok e
    rw [e] at this
    cases this
theorem Cm_trans {rides : List Ride} {trips : List Trip} {i j k : Nat} (hp : PosR (roadsM rides trips)) (ok : ∀ t ∈ trips, okTrip t) (h : Cm (roadsM rides trips) trips i j = true) (h' : Cm (roadsM rides trips) trips j k = true) : Cm (roadsM rides trips) trips i k = true := by
  obtain ⟨x, y, hx, hy, hc⟩ := Cm_get h
  obtain ⟨y', z, hy', hz, hc'⟩ := Cm_get h'
  rw [hy] at hy'
  cases hy'
  rw [Cm_eq hx hz]
  exact canM_trans hp (List.mem_of_getElem? hy) (ok y (List.mem_of_getElem? hy)) hc hc'
theorem Cm_begin {R : List Ride} {trips : List Trip} {i j : Nat} {x y : Trip} (hp : PosR R) (ok : ∀ t ∈ trips, okTrip t) (hx : trips[i]? = some x) (hy : trips[j]? = some y) (h : Cm R trips i j = true) : x.2.1 < y.2.1 := by
  rw [Cm_eq hx hy] at h
  exact canM_begin hp (ok x (List.mem_of_getElem? hx)) h
theorem Tups.set {β : Type} {K : PySem.W.Frag} {H : Hp} {f : β → List V} {qs : List Addr} {xs : List β} (t : Tups K H f qs xs) {q : Addr} {x : β} (k : Nat) (h : SqT K H q (f x)) : Tups K H f (qs.set k q) (xs.set k x) := by
  refine ⟨by rw [List.length_set, List.length_set, t.1], fun i q' x' h1 h2 => ?_⟩
  by_cases e : k = i
  · subst e
    rw [List.getElem?_set] at h1 h2
    rw [if_pos rfl] at h1 h2
    by_cases hk : k < qs.length
    · rw [if_pos hk] at h1
      rw [if_pos (t.1 ▸ hk)] at h2
      cases h1
      cases h2
      exact h
    · rw [if_neg hk] at h1
      cases h1
  · rw [List.getElem?_set_ne e] at h1 h2
    exact t.2 i q' x' h1 h2
/-- lists of truths at these addresses, one a row, apart from the list at af -/
structure BRows (H : Hp) (af : Addr) (n : Nat) (C : Nat → Nat → Bool) (rows : List Addr) : Prop where
  at_ : H af = some (.lst (rows.map V.ref))
  row : ∀ (j : Nat) (q : Addr), rows[j]? = some q → q ≠ af ∧ H q = some (.lst ((List.range n).map fun k => V.bl (C j k)))
theorem BRows.same {H H' : Hp} {af : Addr} {n : Nat} {C : Nat → Nat → Bool} {rows : List Addr} (b : BRows H af n C rows) (s : Same H H') : BRows H' af n C rows := ⟨s _ _ b.at_, fun j q h => ⟨(b.row j q h).1, s _ _ (b.row j q h).2⟩⟩
theorem BRows.other {H : Hp} {af p : Addr} {o : HO} {n : Nat} {C : Nat → Nat → Bool} {rows : List Addr} (b : BRows H af n C rows) (h1 : p ≠ af) (h2 : p ∉ rows) : BRows (upd H p o) af n C rows :=
  ⟨by rw [upd_ne h1.symm]; exact b.at_, fun j q h => ⟨(b.row j q h).1, by rw [upd_ne (fun e : q = p => h2 (e ▸ List.mem_of_getElem? h))]; exact (b.row j q h).2⟩⟩
theorem BRows.free {H : Hp} {af p : Addr} {n : Nat} {C : Nat → Nat → Bool} {rows : List Addr} (b : BRows H af n C rows) (h : H p = none) : p ≠ af ∧ p ∉ rows := by
  refine ⟨fun e => ?_, fun hm => ?_⟩
  · rw [e, b.at_] at h
    cases h
  · obtain ⟨j, hj, e⟩ := List.mem_iff_getElem.mp hm
    have := (b.row j p (by rw [List.getElem?_eq_getElem hj, e])).2
    rw [h] at this
    cases this
theorem BRows.add {H : Hp} {af p : Addr} {n : Nat} {C : Nat → Nat → Bool} {rows : List Addr} (b : BRows H af n C rows) (h1 : p ≠ af) (h2 : H p = some (.lst ((List.range n).map fun k => V.bl (C rows.length k)))) : BRows (upd H af (.lst (rows.map V.ref ++ [.ref p]))) af n C (rows ++ [p]) := by
  refine ⟨by rw [upd_same, List.map_append]; rfl, fun j q h => ?_⟩
  by_cases hj : j < rows.length
  · rw [List.getElem?_append_left hj] at h
    have := b.row j q h
    exact ⟨this.1, by rw [upd_ne this.1]; exact this.2⟩
  · rw [List.getElem?_append_right (Nat.le_of_not_lt hj)] at h
    have hj0 : j - rows.length = 0 := by
      cases e : j - rows.length with
      | zero => rfl
      | succ m =>
        rw [e] at h
        simp at h
    rw [hj0] at h
    have e : p = q := Option.some.inj h
    subst e
    have ej : j = rows.length := by omega
    subst ej
    exact ⟨h1, by rw [upd_ne h1]; exact h2⟩
theorem brow_at {C : Nat → Bool} {n k : Nat} (h : k < n) : atI ((List.range n).map fun k => V.bl (C k)) (k : Int) = some (.bl (C k)) := atI_nat (by rw [List.getElem?_map, List.getElem?_range h]; rfl)
end Fb
/-! A quickest way, as a list of places; plain. -/
namespace Fb
open PySem PySem.Spec PyProof.Rows L2
def StepOk (R : List Ride) (x u v : Str) : Prop := ∃ w a, (u, v, w) ∈ R ∧ dist R x u = some a ∧ dist R x v = some (a + w)
/-- from y back to here -/
structure Back (R : List Ride) (x y : Str) (l : List Str) (here : Str) : Prop where
  form : ∃ fs, l = fs ++ [here]
  first : l[0]? = some y
  step : ∀ i v u, l[i]? = some v → l[i + 1]? = some u → StepOk R x u v
structure Way (R : List Ride) (x y : Str) (ps : List Str) : Prop where
  first : ps[0]? = some x
  last : ∃ fs, ps = fs ++ [y]
  step : ∀ i u v, ps[i]? = some u → ps[i + 1]? = some v → StepOk R x u v
  len : ps.length ≤ R.length + 1
theorem Back.start (R : List Ride) (x y : Str) : Back R x y [y] y := ⟨⟨[], rfl⟩, rfl, fun i v u _ h => by simp at h⟩
theorem Back.add {R : List Ride} {x y here u : Str} {l : List Str} (b : Back R x y l here) (h : StepOk R x u here) : Back R x y (l ++ [u]) u := by
  obtain ⟨fs, e⟩ := b.form
  have hl : 0 < l.length := by rw [e]; simp
  refine ⟨⟨l, rfl⟩, by rw [List.getElem?_append_left hl]; exact b.first, fun i v u' h1 h2 => ?_⟩
  by_cases hi : i + 1 < l.length
  · rw [List.getElem?_append_left (by omega)] at h1
    rw [List.getElem?_append_left hi] at h2
    exact b.step i v u' h1 h2
  · have hlt : i + 1 < (l ++ [u]).length := (List.getElem?_eq_some_iff.mp h2).1
    rw [List.length_append] at hlt
    have hi2 : i + 1 = l.length := by simp at hlt; omega
    have hl2 : l.length = fs.length + 1 := by rw [e]; simp
    rw [List.getElem?_append_right (by omega), hi2, Nat.sub_self] at h2
    have e2 : u = u' := Option.some.inj h2
    rw [List.getElem?_append_left (by omega), e, List.getElem?_append_right (by omega), show i - fs.length = 0 by omega] at h1
    have e1 : here = v := Option.some.inj h1
    rw [← e1, ← e2]
    exact h
theorem Back.way {R : List Ride} {x y : Str} {l : List Str} (b : Back R x y l x) (hn : l.length ≤ R.length + 1) : Way R x y l.reverse := by
  obtain ⟨fs, e⟩ := b.form
  have hl : l.length = fs.length + 1 := by rw [e]; simp
  refine ⟨by rw [e]; simp, ?_, fun i u v h1 h2 => ?_, by rw [List.length_reverse]; exact hn⟩
  · cases l with
    | nil => simp at hl
    | cons a r =>
      have := b.first
      have ea : a = y := Option.some.inj this
      refine ⟨r.reverse, ?_⟩
      rw [List.reverse_cons, ea]
  · have hi2 : i + 1 < l.length := by
      have := (List.getElem?_eq_some_iff.mp h2).1
      rw [List.length_reverse] at this
      exact this
    rw [List.getElem?_reverse (by omega)] at h1
    rw [List.getElem?_reverse hi2] at h2
    refine b.step (l.length - 1 - (i + 1)) v u h2 ?_
    rw [show l.length - 1 - (i + 1) + 1 = l.length - 1 - i by omega]
    exact h1
/-- how far here is from the way's beginning, in turns -/
noncomputable def turnsLeft (R : List Ride) (x v : Str) : Nat := if v = x then 0 else match dist R x v with
  | some d => nearer R x d + 1
  | none => 0
theorem into_target {R : List Ride} (hp : PosR R) {x v : Str} {d : Int} (hd : dist R x v = some d) (hne : v ≠ x) : v ∈ R.map (·.2.1) := by
  obtain ⟨y2, w2, m2, hr2, _, _⟩ := dist_pred hp hd hne
  exact List.mem_map_of_mem (f := fun r : Ride => r.2.1) hr2
theorem turns_le {R : List Ride} (hp : PosR R) (x v : Str) : turnsLeft R x v ≤ R.length := by
  unfold turnsLeft
  by_cases c : v = x
  · rw [if_pos c]
    exact Nat.zero_le _
  · rw [if_neg c]
    cases hd : dist R x v with
    | none => exact Nat.zero_le _
    | some d => exact nearer_le hd (into_target hp hd c)
theorem turns_lt {R : List Ride} (hp : PosR R) {x u v : Str} (h : StepOk R x u v) (hne : v ≠ x) : turnsLeft R x u < turnsLeft R x v := by
  obtain ⟨w, a, hr, hu, hv⟩ := h
  have hw := hp _ hr
  simp only at hw
  unfold turnsLeft
  rw [if_neg hne, hv]
  by_cases c : u = x
  · rw [if_pos c]
    exact Nat.succ_pos _
  · rw [if_neg c, hu]
    exact Nat.succ_lt_succ (nearer_lt hu (into_target hp hu c) (by omega))
/-- the roads between two neighbours of a quickest way: none is quicker -/
theorem step_min {R : List Ride} (hp : PosR R) {x u v : Str} {w a : Int} (hu : dist R x u = some a) (hv : dist R x v = some (a + w)) {w' : Int} (hr : (u, v, w') ∈ R) : w ≤ w' := by
  obtain ⟨m, hm, hle⟩ := dist_road hp hu hr
  rw [hv] at hm
  have := Option.some.inj hm
  omega
theorem Way.one {R : List Ride} (hp : PosR R) {x : Str} {ps : List Str} (h : Way R x x ps) : ps = [x] := by
  obtain ⟨fs, e⟩ := h.last
  rcases List.eq_nil_or_concat fs with hf | ⟨gs, u, hf⟩
  · rw [e, hf]
    rfl
  · have e2 : ps = gs ++ [u, x] := by rw [e, hf]; simp
    obtain ⟨w, a, hr, hu, hx⟩ := h.step gs.length u x (by rw [e2]; simp) (by rw [e2]; simp)
    rw [dist_self hp] at hx
    have := Option.some.inj hx
    have := hp _ hr
    have := dist_nonneg hp hu
    simp only at *
    omega
end Fb
/-! way: a quickest way. -/
namespace Fb
open PySem PySem.Spec PyProof.Rows L2
theorem get_of {H : Hp} {p : Addr} {l : List (Str × Int)} (h : Rd H p (.dK (dS l))) (k : Str) : DGet H p (.str k) ((look l k).map V.int) := .inl ⟨dS l, .inr k, h, rfl, (valV_dOf inr_inj k l).symm⟩
def spWay (K : PySem.W.Frag) : Sp := fun vs H Q _ => ∃ (a b : Addr) (rides : List Ride) (trips : List Trip) (x y : Str), vs = [.ref a, .ref b, .str x, .str y] ∧ Told2 K H a b rides trips ∧ okPlace x ∧ okPlace y ∧
  (dist (roadsM rides trips) x y = none → ∀ H', Same H H' → Q .non H') ∧
  ∀ H' p ps, Same H H' → H p = none → H' p = some (.lst (ps.map V.str)) → (∃ d, dist (roadsM rides trips) x y = some d) → Way (roadsM rides trips) x y ps → Q (.ref p) H'
section
variable {P : Program} {w : World} {K : PySem.W.Frag} {mg : Str → Option Value} {base : Heap}
theorem cal_way {f : Addr} {fd : FuncData} (F : Fn K "way" s_way f fd) (g : mg "way" = some (.ref f)) (c_roads : C8.Cal P w K mg base 4 "roads" (spRoads K) []) (c_need_place : C8.Cal P w K mg base 2 "need_place" spNeedP []) (c_spread : C8.Cal P w K mg base 5 "spread" (spSpread K) []) : C8.Cal P w K mg base 6 "way" (spWay K) [] := by
  refine cal_of F g sc_way (bi_way F) (fun vs H Q E h => ?_) (fun cdv A outer s H vs Q E hr h => ?_)
  · obtain ⟨a, b, rides, trips, x, y, rfl, _⟩ := h
    rfl
  · obtain ⟨a, b, rides, trips, x, y, rfl, T, okx, oky, qn, q⟩ := h
    have hu := hu_of hr
    refine ⟨_, (pss_cons (ps_set (i := 4) sc_way.nd rfl (Or.inl rfl) (C8.pe_c c_roads hr (by decide) (by rfl) (pa_cons (pv 0) (pa_cons (pv 1) pa_nil)))) (pss_cons (ps_expr (C8.pe_c c_need_place hr (by decide) (by rfl) (pa_cons (pv 2) pa_nil))) (pss_cons (ps_expr (C8.pe_c c_need_place hr (by decide) (by rfl) (pa_cons (pv 3) pa_nil))) (pss_cons (ps_set (i := 5) sc_way.nd rfl (Or.inl rfl) (C8.pe_c c_spread hr (by decide) (by rfl) (pa_cons (pv 0) (pa_cons (pv 1) (pa_cons (pv 2) pa_nil))))) (pss_cons (ps_if (pt_cmp (pc_dnotin hu (pv 3) (pv 5))) (pss_one (ps_ret pe_non)) pss_nil) (pss_cons (ps_set (i := 6) sc_way.nd rfl (Or.inl rfl) (pe_lst (pa_cons (pv 3) pa_nil))) (pss_cons (ps_while PassesOwn.never (pt_cmpR op_ne (pe_ix (r := rIxL K) ix_list (pv 6) (pe_un un_neg pe_int) (fun _ _ => rfl)) (pv 2) (nomark _)) (pss_cons (ps_set (i := 7) sc_way.nd rfl (Or.inl rfl) (pe_ix (r := rIxL K) ix_list (pv 6) (pe_un un_neg pe_int) (fun _ _ => rfl))) (pss_cons (ps_set (i := 8) sc_way.nd rfl (Or.inl rfl) pe_str) (pss_cons (ps_for PassesOwn.never rfl (pi_list (pv 4)) (pg_name (i := 9) sc_way.nd rfl (Or.inl rfl)) (pss_one (ps_if (PW.pt (pw_and (pt_cmpR op_eq (pv 8) pe_str (nomark _)) (pw_and (pt_cmpR op_eq (pe_ix (r := rIxT K) ix_tup (pv 9) pe_int (fun _ _ => rfl)) (pv 7) (nomark _)) (pw_and (pt_cmp (pc_din hu (pe_ix (r := rIxT K) ix_tup (pv 9) pe_int (fun _ _ => rfl)) (pv 5))) (pw_and1 (pt_cmpR op_eq (pe_op op_add (pe_dget hu (pv 5) (pe_ix (r := rIxT K) ix_tup (pv 9) pe_int (fun _ _ => rfl)) (fun _ _ => rfl)) (pe_ix (r := rIxT K) ix_tup (pv 9) pe_int (fun _ _ => rfl))) (pe_dget hu (pv 5) (pv 7) (fun _ _ => rfl)) (nomark _))))))) (pss_one (ps_set (i := 8) sc_way.nd rfl (Or.inl rfl) (pe_ix (r := rIxT K) ix_tup (pv 9) pe_int (fun _ _ => rfl)))) pss_nil))) (pss_one (ps_expr (pe_bm PySem.F.plainAttrs_list PySem.F.slot_list_append PySem.F.type_list_append mt_append (pv 6) (pa_cons (pv 8) pa_nil)))))))) (pss_one (ps_ret (pe_revL (pv 6))))))))))), ?_⟩
    have hp := posR T.okR T.okT
    have okP := roadsM_places T.okR T.okT
    have lM := roadsM_len rides trips
    have h100 := T.lenR
    have h101 := T.lenT
    refine ⟨_, rfl, _, rfl, a, b, rides, trips, rfl, T, fun H1 ro qs s1 nro ero tro => ?_⟩
    obtain ⟨R, hR⟩ : ∃ R, R = roadsM rides trips := ⟨_, rfl⟩
    rw [← hR] at tro hp lM qn q okP
    refine ⟨_, rfl, x, rfl, okx, _, rfl, y, rfl, oky, ?_⟩
    refine ⟨_, rfl, _, rfl, _, rfl, a, b, rides, trips, x, rfl, T.same s1, okx, fun H2 mi l s2 nmi emi tab => ?_⟩
    rw [← hR] at tab
    have s12 := s1.trans s2
    refine ⟨_, rfl, _, rfl, mi, _, rfl, get_of (.inl emi) y, _, rfl, ?_⟩
    cases hy : look l y with
    | none => exact if_t rfl (qn ((tab.all y).symm.trans hy) H2 s12)
    | some dy =>
      have hdy := (tab.all y).symm.trans hy
      refine if_f rfl ⟨_, rfl, Nat.succ_le_of_lt (by decide), fun f nf => ?_⟩
      have nf0 : H f = none := s12.free nf
      refine ⟨fun m σ H' => ∃ (ls : List Str) (here : Str) (d : Int) (y7 y8 y9 : Option V), σ = [some (.ref a), some (.ref b), some (.str x), some (.str y), some (.ref ro), some (.ref mi), some (.ref f), y7, y8, y9] ∧ Same H2 H' ∧ H' f = some (.lst (ls.map V.str)) ∧ Back R x y ls here ∧ dist R x here = some d ∧
        m = turnsLeft R x here ∧ ls.length + turnsLeft R x here ≤ R.length + 1, ⟨_, [y], y, dy, none, none, none, rfl, same_upd nf, upd_same, Back.start R x y, hdy, rfl, ?_⟩, ?_⟩
      · have := turns_le hp x y
        show 1 + turnsLeft R x y ≤ R.length + 1
        omega
      rintro m σ H3 ⟨ls, here, d, y7, y8, y9, rfl, s3, e3, bk, hd, rfl, hl⟩
      obtain ⟨fs, efs⟩ := bk.form
      have alast : atI (ls.map V.str) (-1) = some (.str here) := by
        rw [efs, List.map_append]
        exact atI_last _ _
      refine ⟨_, rfl, _, rfl, f, _, _, _, rfl, rfl, sqL_of e3, alast, _, rfl, rfl, _, rfl, ?_⟩
      by_cases c : here = x
      · subst c
        refine if_f (by simp) ⟨_, rfl, f, _, rfl, sqL_of e3, fun p np => ?_⟩
        have s4 := s3.trans (same_upd (o := .lst (ls.map V.str).reverse) np)
        exact q _ p ls.reverse (s12.trans s4) (s12.free (s3.free np)) (by rw [upd_same, List.map_reverse]) ⟨_, hdy⟩ (bk.way (by omega))
      · refine if_t (by rw [decide_eq_false fun z => c (V.str.inj z)]; rfl) ⟨fun σ' H' => ∃ (ls : List Str) (here' : Str) (d : Int) (y7 y8 y9 : Option V), σ' = [some (.ref a), some (.ref b), some (.str x), some (.str y), some (.ref ro), some (.ref mi), some (.ref f), y7, y8, y9] ∧ Same H2 H' ∧ H' f = some (.lst (ls.map V.str)) ∧ Back R x y ls here' ∧ dist R x here' = some d ∧
          turnsLeft R x here' < turnsLeft R x here ∧ ls.length + turnsLeft R x here' ≤ R.length + 1, ?_, ?_⟩
        · rintro σ' H' ⟨ls', here', d', z7, z8, z9, rfl, s4, e4, bk', hd', lt', hl'⟩
          exact ⟨_, lt', ls', here', d', z7, z8, z9, rfl, s4, e4, bk', hd', rfl, hl'⟩
        · refine ⟨_, rfl, _, rfl, f, _, _, _, rfl, rfl, sqL_of e3, alast, ?_⟩
          have gh : ∀ k, DGet H3 mi (.str k) ((look l k).map V.int) := get_of (.inl (s3 _ _ emi))
          have lhere : look l here = some d := (tab.all here).trans hd
          -- a road that leads here with just so much
          refine ⟨_, rfl, ro, rfl, ⟨_, sqL_of ((s2.trans s3) _ _ ero)⟩, for_list (K := K) (a := ro) (xs := qs.map V.ref) (fun i σ H' => H' = H3 ∧ ∃ (ah : Str) (y9 : Option V), σ = [some (.ref a), some (.ref b), some (.str x), some (.str y), some (.ref ro), some (.ref mi), some (.ref f), some (.str here), some (.str ah), y9] ∧
            ((ah = "" ∧ ∀ r ∈ R.take i, ¬ (r.2.1 = here ∧ ∃ e, look l r.1 = some e ∧ e + r.2.2 = d)) ∨ (ah ≠ "" ∧ ∃ r ∈ R, r.1 = ah ∧ r.2.1 = here ∧ ∃ e, look l r.1 = some e ∧ e + r.2.2 = d)))
            ⟨rfl, "", y9, rfl, .inl ⟨rfl, fun _ h => nomatch h⟩⟩ (fun i σ H' _ ⟨e, _⟩ => e ▸ sqL_of ((s2.trans s3) _ _ ero)) ?_ ?_⟩
          · rintro i v σ H4 hi ⟨rfl, ah, z9, rfl, hah⟩
            obtain ⟨p1, r, rfl, hr1, hs⟩ := (tro.same (s2.trans s3)).at hi
            have hrR := List.mem_of_getElem? hr1
            have take1 : R.take (i + 1) = R.take i ++ [r] := by
              rw [List.take_add_one, hr1]
              rfl
            refine ⟨_, rfl, rfl, _, rfl, ?_⟩
            rcases hah with ⟨rfl, hno⟩ | ⟨hne, hex⟩
            · have keep : ¬ (r.2.1 = here ∧ ∃ e, look l r.1 = some e ∧ e + r.2.2 = d) → ∀ r' ∈ R.take (i + 1), ¬ (r'.2.1 = here ∧ ∃ e, look l r'.1 = some e ∧ e + r'.2.2 = d) := fun hn r' hr' => by
                rw [take1] at hr'
                rcases List.mem_append.mp hr' with h | h
                · exact hno r' h
                · rw [List.mem_singleton.mp h]
                  exact hn
              refine if_t rfl ⟨_, rfl, p1, _, 1, _, rfl, rfl, hs, atI_nat (j := 1) rfl, _, rfl, rfl, _, rfl, ite2 (fun c1 => ?_) (fun c1 => ?_)⟩
              · have c1 : r.2.1 = here := V.str.inj (of_decide_eq_true c1)
                refine ⟨_, rfl, p1, _, 0, _, rfl, rfl, hs, atI_nat (j := 0) rfl, _, rfl, mi, _, rfl, gh r.1, _, rfl, ?_⟩
                cases he : look l r.1 with
                | none => exact if_f rfl (if_f rfl ⟨rfl, _, _, rfl, .inl ⟨rfl, keep fun ⟨_, e, h, _⟩ => by rw [he] at h; cases h⟩⟩)
                | some e =>
                  have ge : DGet H4 mi (.str r.1) (some (.int e)) := by
                    have := gh r.1
                    rw [he] at this
                    exact this
                  have gd : DGet H4 mi (.str here) (some (.int d)) := by
                    have := gh here
                    rw [lhere] at this
                    exact this
                  refine if_t rfl ⟨_, rfl, _, rfl, p1, _, 0, _, rfl, rfl, hs, atI_nat (j := 0) rfl, mi, _, rfl, ge, _, rfl, p1, _, 2, _, rfl, rfl, hs, atI_nat (j := 2) rfl, _, _, rfl, rfl, _, rfl, _, rfl, mi, _, rfl, gd, rfl, _, rfl, ite2 (fun c2 => ?_) (fun c2 => ?_)⟩
                  · have c2 : e + r.2.2 = d := V.int.inj (of_decide_eq_true c2)
                    refine ⟨_, rfl, p1, _, 0, _, rfl, rfl, hs, atI_nat (j := 0) rfl, rfl, _, _, rfl, .inr ⟨fun z => ?_, r, hrR, rfl, c1, e, he, c2⟩⟩
                    have h1 := (okP r hrR).1.1
                    rw [z] at h1
                    exact absurd h1 (by decide)
                  · exact ⟨rfl, _, _, rfl, .inl ⟨rfl, keep fun ⟨_, e', h, h'⟩ => by
                      rw [he] at h
                      have e1 : e = e' := Option.some.inj h
                      subst e1
                      exact absurd (decide_eq_true (show V.int (e + r.2.2) = V.int d by rw [h'])) c2⟩⟩
              · exact if_f rfl ⟨rfl, _, _, rfl, .inl ⟨rfl, keep fun ⟨h, _⟩ => absurd (decide_eq_true (show V.str r.2.1 = V.str here by rw [h])) c1⟩⟩
            · exact if_f (decide_eq_false fun z => hne (V.str.inj z)) (if_f rfl ⟨rfl, _, _, rfl, .inr ⟨hne, hex⟩⟩)
          · rintro σ H4 ⟨rfl, ah, z9, rfl, hah⟩
            obtain ⟨u, w', m', hr', hu', hsum⟩ := dist_pred hp hd c
            have hfull : (qs.map V.ref).length = R.length := by rw [List.length_map, tro.1]
            rw [hfull, List.take_length] at hah
            rcases hah with ⟨rfl, hno⟩ | ⟨hne, r, hrR, h1, h2, e, he, hsum2⟩
            · exact absurd ⟨rfl, m', (tab.all u).trans hu', hsum⟩ (hno _ hr')
            · have hde := (tab.all r.1).symm.trans he
              have hst : StepOk R x ah here := ⟨r.2.2, e, by rw [← h1, ← h2]; exact hrR, by rw [← h1]; exact hde, by rw [hsum2]; exact hd⟩
              have hlt := turns_lt hp hst c
              refine ⟨_, rfl, .inl ⟨rfl, _, sqL_of e3⟩, _, rfl, f, _, _, rfl, rfl, e3, ?_, ls ++ [ah], ah, e, _, _, _, rfl, same_put s3 nf, ?_, bk.add hst, by rw [← h1]; exact hde, hlt, ?_⟩
              · rw [List.length_map]
                exact small1000 (by omega)
              · rw [upd_same, List.map_append]
                rfl
              · rw [List.length_append]
                show ls.length + 1 + turnsLeft R x ah ≤ R.length + 1
                omega
end
end Fb
/-! Lists of numbers, lists of these, dicts of numbers. -/
namespace Fb
open PySem PySem.Spec PyProof.Rows L2
abbrev nV (l : List Nat) : List V := l.map fun k : Nat => V.int (k : Int)
theorem nV_add (l : List Nat) (j : Nat) : nV (l ++ [j]) = nV l ++ [V.int (j : Int)] := by
  unfold nV
  rw [List.map_append]
  rfl
theorem nV_at {l : List Nat} {i x : Nat} (h : l[i]? = some x) : atI (nV l) (i : Int) = some (.int x) := atI_nat (by rw [List.getElem?_map, h]; rfl)
theorem nV_get {l : List Nat} {i : Nat} {v : V} (h : (nV l)[i]? = some v) : ∃ x : Nat, v = .int x ∧ l[i]? = some x := by
  rw [List.getElem?_map] at h
  cases e : l[i]? with
  | none =>
    rw [e] at h
    cases h
  | some x =>
    rw [e] at h
    exact ⟨x, (Option.some.inj h).symm, rfl⟩
theorem get_n {H : Hp} {p : Addr} {l : List (Nat × Nat)} (h : H p = some (.dK (dN l))) (k : Nat) : DGet H p (.int k) ((look l k).map fun n : Nat => V.int (n : Int)) := .inl ⟨dN l, .inl k, .inl h, rfl, (valV_dOf inl_inj k l).symm⟩
theorem put_n {H : Hp} {p : Addr} {l : List (Nat × Nat)} (h : H p = some (.dK (dN l))) (nd : (l.map (·.1)).Nodup) (hl : l.length ≤ 1000) (k v : Nat) : DPut H p (.int k) (.int v) (upd H p (.dK (dN (put l k v)))) := by
  have h1 := DPut.k (k := (.inl (k : Int) : Key)) (v := .int v) h (by rw [dOf_len]; exact small1000 hl)
  have h2 : putK (dN l) (.inl (k : Int)) (.int v) = dN (put l k v) := putK_dOf (kf := fun n : Nat => (Sum.inl (n : Int) : Key)) (vf := fun n : Nat => V.int (n : Int)) inl_inj nd
  rw [h2] at h1
  exact h1
theorem put_len {l : List (Nat × Nat)} {k v : Nat} : (put l k v).length ≤ l.length + 1 := by
  have h1 := congrArg List.length (put_keys l k v)
  rw [List.length_map] at h1
  rw [h1]
  split <;> simp
/-- lists of numbers at these addresses, apart from the list that holds them -/
structure LL (H : Hp) (af : Addr) (qs : List Addr) (L : List (List Nat)) : Prop where
  at_ : H af = some (.lst (qs.map V.ref))
  len : qs.length = L.length
  row : ∀ (j : Nat) (q : Addr) (l : List Nat), qs[j]? = some q → L[j]? = some l → q ≠ af ∧ H q = some (.lst (nV l))
theorem LL.same {H H' : Hp} {af : Addr} {qs : List Addr} {L : List (List Nat)} (b : LL H af qs L) (s : Same H H') : LL H' af qs L := ⟨s _ _ b.at_, b.len, fun j q l h h' => ⟨(b.row j q l h h').1, s _ _ (b.row j q l h h').2⟩⟩
theorem LL.nil {H : Hp} {af : Addr} (h : H af = some (.lst [])) : LL H af [] [] := ⟨h, rfl, fun j q l h => by simp at h⟩
theorem LL.free {H : Hp} {af p : Addr} {qs : List Addr} {L : List (List Nat)} (b : LL H af qs L) (h : H p = none) : p ≠ af ∧ p ∉ qs := by
  refine ⟨fun e => ?_, fun hm => ?_⟩
  · rw [e, b.at_] at h
    cases h
  · obtain ⟨j, hj, e⟩ := List.mem_iff_getElem.mp hm
    have := (b.row j p _ (by rw [List.getElem?_eq_getElem hj, e]) (List.getElem?_eq_getElem (b.len ▸ hj))).2
    rw [h] at this
    cases this
theorem LL.other {H : Hp} {af p : Addr} {o : HO} {qs : List Addr} {L : List (List Nat)} (b : LL H af qs L) (h1 : p ≠ af) (h2 : p ∉ qs) : LL (upd H p o) af qs L :=
  ⟨by rw [upd_ne h1.symm]; exact b.at_, b.len, fun j q l h h' => ⟨(b.row j q l h h').1, by rw [upd_ne (fun e : q = p => h2 (e ▸ List.mem_of_getElem? h))]; exact (b.row j q l h h').2⟩⟩
theorem LL.add {H : Hp} {af p : Addr} {qs : List Addr} {L : List (List Nat)} {l : List Nat} (b : LL H af qs L) (h1 : p ≠ af) (h2 : H p = some (.lst (nV l))) : LL (upd H af (.lst (qs.map V.ref ++ [.ref p]))) af (qs ++ [p]) (L ++ [l]) := by
  refine ⟨by rw [upd_same, List.map_append]; rfl, by rw [List.length_append, List.length_append, b.len]; rfl, fun j q l' h h' => ?_⟩
  by_cases hj : j < qs.length
  · rw [List.getElem?_append_left hj] at h
    rw [List.getElem?_append_left (b.len ▸ hj)] at h'
    have := b.row j q l' h h'
    exact ⟨this.1, by rw [upd_ne this.1]; exact this.2⟩
  · rw [List.getElem?_append_right (Nat.le_of_not_lt hj)] at h
    rw [List.getElem?_append_right (b.len ▸ Nat.le_of_not_lt hj), ← b.len] at h'
    cases e : j - qs.length with
    | zero =>
      rw [e] at h h'
      cases h
      cases h'
      exact ⟨h1, by rw [upd_ne h1]; exact h2⟩
    | succ m =>
      rw [e] at h
      simp at h
/-- the i-th of them -/
theorem LL.get {H : Hp} {af : Addr} {qs : List Addr} {L : List (List Nat)} (b : LL H af qs L) {i : Nat} (hi : i < L.length) : ∃ q l, atI (qs.map V.ref) (i : Int) = some (.ref q) ∧ L[i]? = some l ∧ H q = some (.lst (nV l)) ∧ q ≠ af := by
  have hi' : i < qs.length := by rw [b.len]; exact hi
  have hq : qs[i]? = some qs[i] := List.getElem?_eq_getElem hi'
  have hl : L[i]? = some L[i] := List.getElem?_eq_getElem hi
  exact ⟨_, _, atI_nat (by rw [List.getElem?_map, hq]; rfl), hl, (b.row i _ _ hq hl).2, (b.row i _ _ hq hl).1⟩
def Adj (L : List (List Nat)) (i j : Nat) : Prop := ∃ l, L[i]? = some l ∧ j ∈ l
theorem Adj.of {L : List (List Nat)} {i j : Nat} {l : List Nat} (h : L[i]? = some l) : Adj L i j ↔ j ∈ l := by
  constructor
  · rintro ⟨l', h', hj⟩
    rw [h] at h'
    cases h'
    exact hj
  · exact fun hj => ⟨l, h, hj⟩
theorem Adj.lt {L : List (List Nat)} {i j : Nat} (h : Adj L i j) : i < L.length := by
  obtain ⟨l, h, _⟩ := h
  exact (List.getElem?_eq_some_iff.mp h).1
/-- which can be done behind which: a row for each -/
noncomputable def afterM (R : List Ride) (trips : List Trip) : List (List Nat) := (List.range trips.length).map fun i => (List.range trips.length).filter fun j => Cm R trips i j
theorem afterM_len (R : List Ride) (trips : List Trip) : (afterM R trips).length = trips.length := by
  unfold afterM
  rw [List.length_map, List.length_range]
theorem afterM_get {R : List Ride} {trips : List Trip} {i : Nat} (h : i < trips.length) : (afterM R trips)[i]? = some ((List.range trips.length).filter fun j => Cm R trips i j) := by
  unfold afterM
  rw [List.getElem?_map, List.getElem?_range h]
  rfl
theorem adj_after {R : List Ride} {trips : List Trip} {i j : Nat} : Adj (afterM R trips) i j ↔ Cm R trips i j = true := by
  constructor
  · intro h
    have hi := h.lt
    rw [afterM_len] at hi
    have := (Adj.of (afterM_get hi)).mp h
    exact (List.mem_filter.mp this).2
  · intro h
    have hl := Cm_lt h
    exact (Adj.of (afterM_get hl.1)).mpr (List.mem_filter.mpr ⟨List.mem_range.mpr hl.2, h⟩)
theorem dp_nats {K : PySem.W.Frag} {H : Hp} : ∀ l : List Nat, DpAll K H (nV l) (l.map fun k : Nat => PyData.int (k : Int))
  | [] => .nil
  | k :: l => .cons (.int k) (dp_nats l)
theorem sh_nats (l : List Nat) : Sh 1 (.list (l.map fun k : Nat => PyData.int (k : Int))) := sh_list fun d hd => by
  obtain ⟨k, _, rfl⟩ := List.mem_map.mp hd
  exact sh_int k
theorem sh_nil0 : Sh 1 (.list []) := sh_list fun _ h => nomatch h
/-- l != [] of numbers -/
theorem ne_nil_of {K : PySem.W.Frag} {H : Hp} {a b : Addr} {l : List Nat} (h1 : H a = some (.lst (nV l))) (h2 : H b = some (.lst [])) : ∃ d e, Dp K H (.ref a) d ∧ Dp K H (.ref b) e ∧ SeqAt.shaped d = true ∧ SeqAt.shaped e = true ∧ PyData.eqv d e = l.isEmpty := by
  refine ⟨_, _, .lst (sqL_of h1) (dp_nats l), .lst (sqL_of h2) .nil, (sh_nats l).ok (by decide), sh_nil0.ok (by decide), ?_⟩
  cases l with
  | nil => simp [PyData.eqv, PyData.eqvAll]
  | cons k l => simp [PyData.eqv, PyData.eqvAll]
end Fb
/-! The stops of a bus's day; plain. -/
namespace Fb
open PySem PySem.Spec PyProof.Rows L2
abbrev Stop : Type := Str × Int
def stopV (s : Stop) : List V := [.str s.1, .int s.2]
noncomputable def toD (R : List Ride) (x : Str) (m : Int) (z : Str) : Stop := (z, m + (dist R x z).getD 0)
noncomputable def legOf (R : List Ride) (x : Str) (m : Int) (ps : List Str) : List Stop := (ps.drop 1).map (toD R x m)
def two (t : Trip) : List Stop := [(t.1, t.2.1), (t.2.2.1, t.2.2.2)]
/-- the leg between two trips -/
def Leg (R : List Ride) (t u : Trip) (seg : List Stop) : Prop := ∃ ps, Way R t.2.2.1 u.1 ps ∧ (∃ d, dist R t.2.2.1 u.1 = some d) ∧ seg = legOf R t.2.2.1 t.2.2.2 ps
structure DayOk (R : List Ride) (ts : List Trip) (parts : List (List Stop)) : Prop where
  len : parts.length = ts.length
  part : ∀ k t, ts[k]? = some t → ∃ seg, parts[k]? = some (seg ++ two t) ∧ (k = 0 → seg = []) ∧ ∀ t', k ≠ 0 → ts[k - 1]? = some t' → Leg R t' t seg
theorem DayOk.nil (R : List Ride) : DayOk R [] [] := ⟨rfl, fun k t h => by simp at h⟩
theorem DayOk.add {R : List Ride} {ts : List Trip} {parts : List (List Stop)} (d : DayOk R ts parts) {t : Trip} {seg : List Stop} (h0 : ts = [] → seg = []) (h1 : ∀ t', ts[ts.length - 1]? = some t' → ts ≠ [] → Leg R t' t seg) : DayOk R (ts ++ [t]) (parts ++ [seg ++ two t]) := by
  refine ⟨by rw [List.length_append, List.length_append, d.len]; rfl, fun k u hu => ?_⟩
  by_cases hk : k < ts.length
  · rw [List.getElem?_append_left hk] at hu
    obtain ⟨sg, e1, e2, e3⟩ := d.part k u hu
    refine ⟨sg, by rw [List.getElem?_append_left (d.len ▸ hk)]; exact e1, e2, fun t' hk0 h => e3 t' hk0 ?_⟩
    rw [List.getElem?_append_left (by omega)] at h
    exact h
  · have hk2 := (List.getElem?_eq_some_iff.mp hu).1
    rw [List.length_append] at hk2
    have hk3 : k = ts.length := by
      have : k < ts.length + 1 := hk2
      omega
    subst hk3
    rw [List.getElem?_append_right (Nat.le_refl _), Nat.sub_self] at hu
    have e : t = u := Option.some.inj hu
    subst e
    refine ⟨seg, by rw [← d.len, List.getElem?_append_right (Nat.le_refl _), Nat.sub_self]; rfl, fun h => h0 (List.length_eq_zero_iff.mp h), fun t' hk0 h => ?_⟩
    rw [List.getElem?_append_left (by omega)] at h
    exact h1 t' h fun e => hk0 (by rw [e]; rfl)
theorem way_last {R : List Ride} {x y : Str} {ps : List Str} (h : Way R x y ps) : ps[ps.length - 1]? = some y ∧ 1 ≤ ps.length := by
  obtain ⟨fs, e⟩ := h.last
  rw [e]
  refine ⟨by simp, by simp⟩
/-- all places of a way are reached; none but the last is its last one -/
theorem way_dist {R : List Ride} {x y : Str} {ps : List Str} (hp : PosR R) (h : Way R x y ps) : ∀ (i : Nat) (u : Str), ps[i]? = some u → ∃ a, dist R x u = some a
  | 0, u, hu => by
    rw [h.first] at hu
    cases hu
    exact ⟨0, dist_self hp x⟩
  | i + 1, u, hu => by
    have hi := (List.getElem?_eq_some_iff.mp hu).1
    obtain ⟨w, a, _, _, e⟩ := h.step i ps[i] u (List.getElem?_eq_getElem (by omega)) hu
    exact ⟨_, e⟩
theorem way_up {R : List Ride} {x y : Str} {ps : List Str} (hp : PosR R) (h : Way R x y ps) : ∀ (k i : Nat) (u v : Str) (a b : Int), ps[i]? = some u → ps[i + k + 1]? = some v → dist R x u = some a → dist R x v = some b → a < b
  | 0, i, u, v, a, b, hu, hv, ha, hb => by
    obtain ⟨w, a', hr, h1, h2⟩ := h.step i u v hu hv
    rw [ha] at h1
    rw [hb] at h2
    have := hp _ hr
    have := Option.some.inj h1
    have := Option.some.inj h2
    simp only at *
    omega
  | k + 1, i, u, v, a, b, hu, hv, ha, hb => by
    have hi := (List.getElem?_eq_some_iff.mp hv).1
    have hm : ps[i + k + 1]? = some ps[i + k + 1] := List.getElem?_eq_getElem (by omega)
    obtain ⟨c, hc⟩ := way_dist hp h _ _ hm
    have h1 := way_up hp h k i u _ a c hu hm ha hc
    obtain ⟨w, a', hr, h3, h2⟩ := h.step (i + k + 1) _ v hm hv
    rw [hc] at h3
    rw [hb] at h2
    have := hp _ hr
    have := Option.some.inj h3
    have := Option.some.inj h2
    simp only at *
    omega
theorem way_ne {R : List Ride} {x y : Str} {ps : List Str} (hp : PosR R) (h : Way R x y ps) {i : Nat} {u : Str} (hu : ps[i]? = some u) (hi : i + 1 < ps.length) : u ≠ y := fun e => by
  have hl := (way_last h).1
  obtain ⟨a, ha⟩ := way_dist hp h i u hu
  rw [← e] at hl
  have := way_up hp h (ps.length - 1 - i - 1) i u u a a hu (by rw [show i + (ps.length - 1 - i - 1) + 1 = ps.length - 1 by omega]; exact hl) ha ha
  omega
end Fb
/-! ridden: the stops along a way. -/
namespace Fb
open PySem PySem.Spec PyProof.Rows L2
theorem sz_ok {n : Nat} (h : n ≤ 16000000) : n < sizeLine := by
  have : sizeLine = 16777216 := sizeLine_eq
  omega
def spRidden (K : PySem.W.Frag) : Sp := fun vs H Q _ => ∃ (t p : Addr) (m : Int) (R : List Ride) (x y : Str) (ps : List Str), vs = [.ref t, .ref p, .int m] ∧ Rows K H rideV t R ∧ R.length ≤ 200 ∧ PosR R ∧ H p = some (.lst (ps.map V.str)) ∧ Way R x y ps ∧
  ∀ H' q qs, Same H H' → H q = none → H' q = some (.lst (qs.map V.ref)) → Tups K H' stopV qs (legOf R x m ps) → Q (.ref q) H'
section
variable {P : Program} {w : World} {K : PySem.W.Frag} {mg : Str → Option Value} {base : Heap}
theorem cal_ridden {f : Addr} {fd : FuncData} (F : Fn K "ridden" s_ridden f fd) (g : mg "ridden" = some (.ref f)) (B : Bi mg) : C8.Cal P w K mg base 1 "ridden" (spRidden K) [] := by
  refine cal_of F g sc_ridden (bi_ridden F) (fun vs H Q E h => ?_) (fun cdv A outer s H vs Q E hr h => ?_)
  · obtain ⟨t, p, m, R, x, y, ps, rfl, _⟩ := h
    rfl
  · obtain ⟨t, p, m, R, x, y, ps, rfl, ⟨qs, hR, hT⟩, hlen, hp, hLl, way, q⟩ := h
    refine ⟨_, (pss_cons (ps_set (i := 3) sc_ridden.nd rfl (Or.inl rfl) (pe_lst pa_nil)) (pss_cons (ps_for PassesOwn.never rfl (pi_range2 (by rfl) B.range (pa_cons pe_int (pa_cons (pe_callB (r := rLenS K) call_len_seq (by rfl) B.len PySem.boot_len (pa_cons (pv 1) pa_nil)) pa_nil))) (pg_name (i := 4) sc_ridden.nd rfl (Or.inr rfl)) (pss_cons (ps_setLc (i := 5) (own := [("row", 6)]) (g := gName 6)  (by rfl) sc_ridden.nd rfl rfl (sw_true rfl rfl rfl (by decide +kernel)) (pi_list (pv 0)) (blkOk_by (N := ["rows", "places", "minute", "found", "k", "least", "row"]) (sc := defScope s_ridden) (by decide +kernel)) (fun _ _ _ _ _ => pg_name (i := 6) sc_ridden.nd rfl (Or.inl rfl)) (fun _ _ _ _ _ => (pts_one (PW.pt (pw_and (pt_cmpR op_eq (pe_ix (r := rIxT K) ix_tup (pv 6) pe_int (fun _ _ => rfl)) (pe_ix (r := rIxL K) ix_list (pv 1) (pe_op op_sub (pv 4) pe_int) (fun _ _ => rfl)) (nomark _)) (pw_and1 (pt_cmpR op_eq (pe_ix (r := rIxT K) ix_tup (pv 6) pe_int (fun _ _ => rfl)) (pe_ix (r := rIxL K) ix_list (pv 1) (pv 4) (fun _ _ => rfl)) (nomark _))))))) (fun _ _ _ _ _ => (pe_ix (r := rIxT K) ix_tup (pv 6) pe_int (fun _ _ => rfl)))) (pss_cons (ps_set (i := 2) sc_ridden.nd rfl (Or.inl rfl) (pe_op op_add (pv 2) (pe_callB (r := rMin K) (cr_min rfl) (by rfl) B.min (by decide +kernel) (pa_cons (pv 5) pa_nil)))) (pss_one (ps_expr (pe_bm PySem.F.plainAttrs_list PySem.F.slot_list_append PySem.F.type_list_append mt_append (pv 3) (pa_cons (pe_tup (pa_cons (pe_ix (r := rIxL K) ix_list (pv 1) (pv 4) (fun _ _ => rfl)) (pa_cons (pv 2) pa_nil))) pa_nil))))))) (pss_one (ps_ret (pv 3))))), ?_⟩
    have hL := sqL_of (K := K) hLl
    have hl1 := (way_last way).2
    have hl2 := way.len
    have lps : (ps.map V.str).length = ps.length := by rw [List.length_map]
    have at_ : ∀ {i : Nat} {u : Str}, ps[i]? = some u → atI (ps.map V.str) (i : Int) = some (.str u) := fun h => atI_nat (by rw [List.getElem?_map, h]; rfl)
    refine ⟨Nat.zero_le _, fun fo nfo => ?_⟩
    have s1 : Same H (upd H fo (.lst [])) := same_upd nfo
    refine ⟨_, rfl, p, _, rfl, .inl (s1.seq hL), 1, ((ps.map V.str).length : Nat), rfl, ⟨by decide, by decide, by omega, by omega⟩, for_range (lo := 1) (n := (((ps.map V.str).length : Int) - 1).toNat)
      (fun i σ H' => Same H H' ∧ ∃ (mi : Int) (u : Str) (y4 y5 : Option V), σ = [some (.ref t), some (.ref p), some (.int (m + mi)), some (.ref fo), y4, y5, none] ∧ ps[i]? = some u ∧ dist R x u = some mi ∧ ∃ qf, H' fo = some (.lst (qf.map V.ref)) ∧ Tups K H' stopV qf (((ps.drop 1).take i).map (toD R x m)))
      ⟨s1, 0, x, none, none, by rw [Int.add_zero]; rfl, way.first, dist_self hp x, [], upd_same, Tups.nil⟩ ?_ ?_⟩
    · rintro i σ H2 hi ⟨s2, mi, u, y4, y5, rfl, hu, hmi, qf, ef, tf⟩
      have hi1 : i + 1 < ps.length := by omega
      obtain ⟨v, hv⟩ : ∃ v, ps[i + 1]? = some v := ⟨_, List.getElem?_eq_getElem hi1⟩
      obtain ⟨w', a', hr', hdu, hdv⟩ := way.step i u v hu hv
      rw [hmi] at hdu
      cases hdu
      have ek1 : (1 + (i : Int)) - 1 = (i : Nat) := by omega
      have ek2 : (1 + (i : Int)) = ((i + 1 : Nat) : Int) := by omega
      have au : atI (ps.map V.str) (1 + (i : Int) - 1) = some (.str u) := by rw [ek1]; exact at_ hu
      have av : atI (ps.map V.str) (1 + (i : Int)) = some (.str v) := by rw [ek2]; exact at_ hv
      refine ⟨_, rfl, t, rfl, ⟨_, s2.seq hR⟩, fun D nD => ?_⟩
      refine lc_list (K := K) (a := t) (xs := qs.map V.ref) (fun j H' => Same H2 H' ∧ ∃ ms : List Int, H' D = some (.lst (ms.map V.int)) ∧ (∀ m ∈ ms, (u, v, m) ∈ R) ∧ (∀ r ∈ R.take j, r.1 = u → r.2.1 = v → r.2.2 ∈ ms) ∧ ms.length ≤ j)
        ⟨same_upd nD, [], upd_same, (fun _ h => nomatch h), (fun _ h => nomatch h), Nat.le_refl _⟩ (fun j H' _ ⟨s, _⟩ => s.seq (s2.seq hR)) ?_ ?_
      · rintro j q1 H3 hj ⟨s3, ms, e3, i1, i2, i3⟩
        obtain ⟨p1, r, rfl, hr1, hs⟩ := (hT.same (s2.trans s3)).at hj
        have hrR := List.mem_of_getElem? hr1
        have hjl : j < R.length := (List.getElem?_eq_some_iff.mp hr1).1
        have take1 : R.take (j + 1) = R.take j ++ [r] := by
          rw [List.take_add_one, hr1]
          rfl
        have hL3 := (s2.trans s3).seq hL
        have keep : ¬ (r.1 = u ∧ r.2.1 = v) → ∀ r' ∈ R.take (j + 1), r'.1 = u → r'.2.1 = v → r'.2.2 ∈ ms := fun hn r' hr' h1 h2 => by
          rw [take1] at hr'
          rcases List.mem_append.mp hr' with h | h
          · exact i2 r' h h1 h2
          · rw [List.mem_singleton.mp h] at h1 h2
            exact absurd ⟨h1, h2⟩ hn
        refine ⟨rfl, ?_⟩
        refine ⟨_, rfl, p1, _, 0, _, rfl, rfl, hs, atI_nat (j := 0) rfl, _, rfl, _, rfl, _, _, rfl, rfl, p, _, _, _, rfl, rfl, hL3, au, rfl, _, rfl, ite2 (fun c1 => ?_) (fun c1 => ?_)⟩
        · refine ⟨_, rfl, p1, _, 1, _, rfl, rfl, hs, atI_nat (j := 1) rfl, _, rfl, _, rfl, p, _, _, _, rfl, rfl, hL3, av, rfl, _, rfl, ite2 (fun c2 => ?_) (fun c2 => ?_)⟩
          · have c1 : r.1 = u := V.str.inj (of_decide_eq_true c1)
            have c2 : r.2.1 = v := V.str.inj (of_decide_eq_true c2)
            refine ⟨_, rfl, p1, _, 2, _, rfl, rfl, hs, atI_nat (j := 2) rfl, _, e3, ?_, same_put s3 nD, ms ++ [r.2.2], ?_, ?_, ?_, ?_⟩
            · rw [List.length_map]
              exact small1000 (by omega)
            · rw [upd_same, List.map_append]
              rfl
            · intro m hm
              rcases List.mem_append.mp hm with h | h
              · exact i1 m h
              · rw [List.mem_singleton.mp h, ← c1, ← c2]
                exact hrR
            · intro r' hr' h1 h2
              rw [take1] at hr'
              rcases List.mem_append.mp hr' with h | h
              · exact List.mem_append_left _ (i2 r' h h1 h2)
              · rw [List.mem_singleton.mp h]
                exact List.mem_append_right _ List.mem_cons_self
            · rw [List.length_append]
              show ms.length + 1 ≤ j + 1
              omega
          · exact ⟨s3, ms, e3, i1, keep fun ⟨_, h⟩ => absurd (decide_eq_true (show V.str r.2.1 = V.str v by rw [h])) c2, by omega⟩
        · exact if_f rfl ⟨s3, ms, e3, i1, keep fun ⟨h, _⟩ => absurd (decide_eq_true (show V.str r.1 = V.str u by rw [h])) c1, by omega⟩
      · rintro H3 ⟨s3, ms, e3, i1, i2, i3⟩
        have hfull : (qs.map V.ref).length = R.length := by rw [List.length_map, hT.1]
        rw [hfull, List.take_length] at i2
        have hw : w' ∈ ms := i2 _ hr' rfl rfl
        have hpos : 0 < ms.length := List.length_pos_of_mem hw
        have s23 := s2.trans s3
        have ef3 := s3 _ _ ef
        refine ⟨_, rfl, _, rfl, D, ms, rfl, sqL_of e3, hpos, fun mm hm hmin => ?_⟩
        have em : mm = w' := by
          have h1 := hmin w' hw
          have h2 := step_min hp hmi hdv (i1 mm hm)
          omega
        subst em
        refine ⟨_, _, rfl, rfl, ?_⟩
        refine ⟨_, rfl, .inl ⟨rfl, _, sqL_of ef3⟩, _, rfl, _, rfl, p, _, _, _, rfl, rfl, s23.seq hL, av, _, rfl, (by show 2 ≤ sizeLine; decide), fun T hT2 => ?_⟩
        have sT : Same H3 (upd H3 T (.tup [.str v, .int (m + mi + mm)])) := same_upd hT2
        have tl : qf.length ≤ i := by
          rw [tf.1, List.length_map, List.length_take]
          omega
        have edrop : (ps.drop 1).take (i + 1) = (ps.drop 1).take i ++ [v] := by
          rw [List.take_add_one, List.getElem?_drop, Nat.add_comm 1 i, hv]
          rfl
        refine ⟨fo, _, _, rfl, rfl, sT _ _ ef3, ?_, same_put (s23.trans sT) nfo, mi + mm, v, some (.int (1 + (i : Int))), some (.ref D), ?_, hv, hdv, qf ++ [T], ?_, ?_⟩
        · rw [List.length_map]
          exact small1000 (by omega)
        · rw [← Int.add_assoc]
          rfl
        · rw [upd_same, List.map_append]
          rfl
        · rw [edrop, List.map_append]
          refine (((tf.same s3).same sT).putL (sT _ _ ef3)).add ?_
          have e2 : toD R x m v = (v, m + mi + mm) := by
            unfold toD
            rw [hdv, Int.add_assoc]
            rfl
          rw [e2]
          exact seqT_putL (sT _ _ ef3) (sqT_of upd_same)
    · rintro σ H2 ⟨s2, mi, u, y4, y5, rfl, hu, hmi, qf, ef, tf⟩
      rw [List.take_of_length_le (by rw [List.length_drop]; omega)] at tf
      exact ⟨_, rfl, q H2 fo qf s2 nfo ef tf⟩
end
end Fb
/-! day: the stops of a bus's day, in time. -/
namespace Fb
open PySem PySem.Spec PyProof.Rows L2
def stopD (s : Stop) : PyData := .tuple [.str s.1, .int s.2]
theorem sh_stop {s : Stop} (h : okPlace s.1) : Sh 1 (stopD s) := sh_tuple fun d hd => by
  rcases List.mem_cons.mp hd with rfl | hd
  · exact sh_str h
  rw [List.mem_singleton.mp hd]
  exact sh_int _
theorem sh_stops {ss : List Stop} (h : ∀ s ∈ ss, okPlace s.1) : Sh 2 (.list (ss.map stopD)) := sh_list fun d hd => by
  obtain ⟨s, hs, rfl⟩ := List.mem_map.mp hd
  exact sh_stop (h s hs)
theorem dp_stops {K : PySem.W.Frag} {H : Hp} {qs : List Addr} {ss : List Stop} (t : Tups K H stopV qs ss) : DpAll K H (qs.map V.ref) (ss.map stopD) := dp_tups (d := stopD) (fun q x h => .tup h (.cons (.str _) (.cons (.int _) .nil))) t
/-- stops == [] -/
theorem stops_nil {K : PySem.W.Frag} {H : Hp} {a b : Addr} {qs : List Addr} {ss : List Stop} (h1 : H a = some (.lst (qs.map V.ref))) (t : Tups K H stopV qs ss) (ok : ∀ s ∈ ss, okPlace s.1) (h2 : H b = some (.lst [])) : ∃ d e, Dp K H (.ref a) d ∧ Dp K H (.ref b) e ∧ SeqAt.shaped d = true ∧ SeqAt.shaped e = true ∧ PyData.eqv d e = ss.isEmpty := by
  refine ⟨_, _, .lst (sqL_of h1) (dp_stops t), .lst (sqL_of h2) .nil, (sh_stops ok).ok (by decide), sh_nil0.ok (by decide), ?_⟩
  cases ss with
  | nil => simp [PyData.eqv, PyData.eqvAll]
  | cons k l => simp [PyData.eqv, PyData.eqvAll]
theorem leg_ok {R : List Ride} {x y : Str} {ps : List Str} {m : Int} (okP : ∀ r ∈ R, okPlace r.1 ∧ okPlace r.2.1) (h : Way R x y ps) : ∀ s ∈ legOf R x m ps, okPlace s.1 := fun s hs => by
  obtain ⟨z, hz, rfl⟩ := List.mem_map.mp hs
  obtain ⟨i, hi, e⟩ := List.mem_iff_getElem.mp hz
  have hg : ps[i + 1]? = some z := by
    rw [Nat.add_comm, ← List.getElem?_drop, List.getElem?_eq_getElem hi, e]
  have hi2 := (List.getElem?_eq_some_iff.mp hg).1
  obtain ⟨w, a, hr, _, _⟩ := h.step i ps[i] z (List.getElem?_eq_getElem (by omega)) hg
  exact (okP _ hr).2
theorem leg_len {R : List Ride} {x y : Str} {ps : List Str} {m : Int} (h : Way R x y ps) : (legOf R x m ps).length ≤ R.length := by
  unfold legOf
  rw [List.length_map, List.length_drop]
  have := h.len
  omega
theorem day_last {R : List Ride} {ts : List Trip} {parts : List (List Stop)} (d : DayOk R ts parts) {t : Trip} (h : ts[ts.length - 1]? = some t) : ∃ Y, parts.flatten = Y ++ [(t.2.2.1, t.2.2.2)] := by
  have hl := (List.getElem?_eq_some_iff.mp h).1
  obtain ⟨sg, e, _, _⟩ := d.part _ t h
  rcases List.eq_nil_or_concat parts with rfl | ⟨ps, x, rfl⟩
  · have := d.len
    simp at this
    omega
  · rw [List.concat_eq_append] at e d ⊢
    have hn : ts.length - 1 = ps.length := by
      have := d.len
      rw [List.length_append] at this
      have : ps.length + 1 = ts.length := this
      omega
    rw [hn, List.getElem?_append_right (Nat.le_refl _), Nat.sub_self] at e
    have e : x = sg ++ two t := Option.some.inj e
    refine ⟨ps.flatten ++ sg ++ [(t.1, t.2.1)], ?_⟩
    rw [List.flatten_append, e]
    simp [two]
/-- the last of things at these addresses -/
theorem Tups.last {β : Type} {K : PySem.W.Frag} {H : Hp} {f : β → List V} {qs : List Addr} {Y : List β} {z : β} (t : Tups K H f qs (Y ++ [z])) : ∃ q, atI (qs.map V.ref) (-1) = some (.ref q) ∧ SqT K H q (f z) := by
  have hl := t.1
  rw [List.length_append] at hl
  rcases List.eq_nil_or_concat qs with rfl | ⟨qs', q, rfl⟩
  · cases hl
  · rw [List.concat_eq_append] at hl t ⊢
    rw [List.length_append] at hl
    have hl : qs'.length + 1 = Y.length + 1 := hl
    refine ⟨q, ?_, t.2 qs'.length q z (by rw [List.getElem?_append_right (Nat.le_refl _), Nat.sub_self]; rfl) (by rw [show qs'.length = Y.length by omega, List.getElem?_append_right (Nat.le_refl _), Nat.sub_self]; rfl)⟩
    rw [List.map_append]
    exact atI_last _ _
/-- the trips of a row -/
def RowT (trips : List Trip) (row : List Nat) (ts : List Trip) : Prop := ts.length = row.length ∧ ∀ (k n : Nat), row[k]? = some n → ∃ t, trips[n]? = some t ∧ ts[k]? = some t
def spDay (K : PySem.W.Frag) : Sp := fun vs H Q _ => ∃ (a b rw : Addr) (rides : List Ride) (trips : List Trip) (row : List Nat) (ts : List Trip), vs = [.ref a, .ref b, .ref rw] ∧ Told2 K H a b rides trips ∧ SqL K H rw (nV row) ∧ row.length ≤ 100 ∧ RowT trips row ts ∧
  (∀ k t u, ts[k]? = some t → ts[k + 1]? = some u → canM (roadsM rides trips) t u = true) ∧
  ∀ H' q qs parts, Same H H' → H q = none → H' q = some (.lst (qs.map V.ref)) → Tups K H' stopV qs parts.flatten → DayOk (roadsM rides trips) ts parts → (∀ s ∈ parts.flatten, okPlace s.1) → parts.flatten.length ≤ 300 * row.length → Q (.ref q) H'
theorem can_dist {R : List Ride} {t u : Trip} (h : canM R t u = true) : ∃ d, dist R t.2.2.1 u.1 = some d ∧ t.2.2.2 + d ≤ u.2.1 := by
  unfold canM comesB at h
  cases e : dist R t.2.2.1 u.1 with
  | none =>
    rw [e] at h
    cases h
  | some d =>
    rw [e] at h
    exact ⟨d, rfl, of_decide_eq_true h⟩
section
variable {P : Program} {w : World} {K : PySem.W.Frag} {mg : Str → Option Value} {base : Heap}
theorem cal_day {f : Addr} {fd : FuncData} (F : Fn K "day" s_day f fd) (g : mg "day" = some (.ref f)) (B : Bi mg) (c_roads : C8.Cal P w K mg base 4 "roads" (spRoads K) []) (c_need_number : C8.Cal P w K mg base 2 "need_number" (spNeedN K) []) (c_can : C8.Cal P w K mg base 6 "can" (spCan K) []) (c_way : C8.Cal P w K mg base 6 "way" (spWay K) []) (c_ridden : C8.Cal P w K mg base 1 "ridden" (spRidden K) []) : C8.Cal P w K mg base 7 "day" (spDay K) [] := by
  refine cal_of F g sc_day (bi_day F) (fun vs H Q E h => ?_) (fun cdv A outer s H vs Q E hr h => ?_)
  · obtain ⟨a, b, rw, rides, trips, row, ts, rfl, _⟩ := h
    rfl
  · obtain ⟨a, b, rw_, rides, trips, row, ts, rfl, T, hrow, hlen, ⟨htl, hts⟩, hcan, q⟩ := h
    refine ⟨_, (pss_cons (ps_set (i := 3) sc_day.nd rfl (Or.inl rfl) (C8.pe_c c_roads hr (by decide) (by rfl) (pa_cons (pv 0) (pa_cons (pv 1) pa_nil)))) (pss_cons (ps_for PassesOwn.never rfl (pi_list (pv 2)) (pg_name (i := 4) sc_day.nd rfl (Or.inl rfl)) (pss_one (ps_expr (C8.pe_c c_need_number hr (by decide) (by rfl) (pa_cons (pv 1) (pa_cons (pv 4) pa_nil)))))) (pss_cons (ps_for PassesOwn.never rfl (pi_range2 (by rfl) B.range (pa_cons pe_int (pa_cons (pe_callB (r := rLenS K) call_len_seq (by rfl) B.len PySem.boot_len (pa_cons (pv 2) pa_nil)) pa_nil))) (pg_name (i := 5) sc_day.nd rfl (Or.inl rfl)) (pss_one (ps_if (pt_not (pt_val (C8.pe_c c_can hr (by decide) (by rfl) (pa_cons (pv 0) (pa_cons (pv 1) (pa_cons (pe_ix (r := rIxL K) ix_list (pv 2) (pe_op op_sub (pv 5) pe_int) (fun _ _ => rfl)) (pa_cons (pe_ix (r := rIxL K) ix_list (pv 2) (pv 5) (fun _ _ => rfl)) pa_nil))))))) (pss_one ps_never) pss_nil))) (pss_cons (ps_set (i := 6) sc_day.nd rfl (Or.inl rfl) (pe_lst pa_nil)) (pss_cons (ps_for PassesOwn.never rfl (pi_list (pv 2)) (pg_name (i := 4) sc_day.nd rfl (Or.inl rfl)) (pss_cons (ps_set (i := 7) sc_day.nd rfl (Or.inl rfl) (pe_ix (r := rIxL K) ix_list (pv 1) (pv 4) (fun _ _ => rfl))) (C8.pss_cut (ps_if (pt_cmpR (op_neD hr.units) (pv 6) (pe_lst pa_nil) (nomark _)) (pss_cons (ps_set (i := 8) sc_day.nd rfl (Or.inl rfl) (C8.pe_c c_way hr (by decide) (by rfl) (pa_cons (pv 0) (pa_cons (pv 1) (pa_cons (pe_ix (r := rIxT K) ix_tup (pe_ix (r := rIxL K) ix_list (pv 6) (pe_un un_neg pe_int) (fun _ _ => rfl)) pe_int (fun _ _ => rfl)) (pa_cons (pe_ix (r := rIxT K) ix_tup (pv 7) pe_int (fun _ _ => rfl)) pa_nil)))))) (pss_one (ps_expr (pe_bm PySem.F.plainAttrs_list PySem.F.slot_list_extend PySem.F.type_list_extend mt_extend (pv 6) (pa_cons (C8.pe_c c_ridden hr (by decide) (by rfl) (pa_cons (pv 3) (pa_cons (pv 8) (pa_cons (pe_ix (r := rIxT K) ix_tup (pe_ix (r := rIxL K) ix_list (pv 6) (pe_un un_neg pe_int) (fun _ _ => rfl)) pe_int (fun _ _ => rfl)) pa_nil)))) pa_nil))))) pss_nil) (pss_cons (ps_expr (pe_bm PySem.F.plainAttrs_list PySem.F.slot_list_append PySem.F.type_list_append mt_append (pv 6) (pa_cons (pe_tup (pa_cons (pe_ix (r := rIxT K) ix_tup (pv 7) pe_int (fun _ _ => rfl)) (pa_cons (pe_ix (r := rIxT K) ix_tup (pv 7) pe_int (fun _ _ => rfl)) pa_nil))) pa_nil))) (pss_one (ps_expr (pe_bm PySem.F.plainAttrs_list PySem.F.slot_list_append PySem.F.type_list_append mt_append (pv 6) (pa_cons (pe_tup (pa_cons (pe_ix (r := rIxT K) ix_tup (pv 7) pe_int (fun _ _ => rfl)) (pa_cons (pe_ix (r := rIxT K) ix_tup (pv 7) pe_int (fun _ _ => rfl)) pa_nil))) pa_nil)))))))) (pss_one (ps_ret (pv 6)))))))), ?_⟩
    obtain ⟨qt, hqt, hTt⟩ := T.lT
    have hp := posR T.okR T.okT
    have lM := roadsM_len rides trips
    have h100 := T.lenR
    have h101 := T.lenT
    have okT := T.okT
    have okP := roadsM_places T.okR T.okT
    have lrow : (nV row).length = row.length := by rw [List.length_map]
    have ll : (qt.map V.ref).length = trips.length := by rw [List.length_map, hTt.1]
    have tat : ∀ {H' : Hp}, Same H H' → ∀ {i : Nat} {x : Trip}, trips[i]? = some x → ∃ q', atI (qt.map V.ref) (i : Int) = some (.ref q') ∧ SqT K H' q' (tripV x) := fun s i x hx => by
      obtain ⟨q', hq, hs⟩ := (hTt.same s).addr hx
      exact ⟨q', atI_nat (by rw [List.getElem?_map, hq]; rfl), hs⟩
    refine ⟨_, rfl, _, rfl, a, b, rides, trips, rfl, T, fun H1 ro qo s1 nro ero tro => ?_⟩
    obtain ⟨R, hR⟩ : ∃ R, R = roadsM rides trips := ⟨_, rfl⟩
    rw [← hR] at tro hp lM q okP hcan
    -- all are numbers
    refine ⟨_, rfl, rw_, rfl, ⟨_, s1.seq hrow⟩, for_list (K := K) (a := rw_) (xs := nV row) (fun i σ H' => H' = H1 ∧ ∃ y4, σ = [some (.ref a), some (.ref b), some (.ref rw_), some (.ref ro), y4, none, none, none, none]) ⟨rfl, none, rfl⟩ (fun i σ H' _ ⟨e, _⟩ => e ▸ s1.seq hrow) ?_ ?_⟩
    · rintro i v σ H2 hi ⟨rfl, y4, rfl⟩
      obtain ⟨n, rfl, hn⟩ := nV_get hi
      obtain ⟨t, ht, _⟩ := hts i n hn
      have hnl := (List.getElem?_eq_some_iff.mp ht).1
      exact ⟨_, rfl, _, rfl, b, _, n, rfl, s1.seq hqt, by omega, by rw [ll]; omega, rfl, _, rfl⟩
    rintro σ H2 ⟨rfl, y4, rfl⟩
    -- each in time
    refine ⟨_, rfl, rw_, _, rfl, .inl (s1.seq hrow), 1, ((nV row).length : Nat), rfl, ⟨by decide, by decide, by omega, by omega⟩, for_range (lo := 1) (n := (((nV row).length : Int) - 1).toNat) (fun i σ H' => Same H2 H' ∧ ∃ y5, σ = [some (.ref a), some (.ref b), some (.ref rw_), some (.ref ro), y4, y5, none, none, none]) ⟨Same.refl _, none, rfl⟩ ?_ ?_⟩
    · rintro i σ H3 hi ⟨s3, y5, rfl⟩
      have S3 := s1.trans s3
      obtain ⟨u, hu⟩ : ∃ u, row[i]? = some u := ⟨_, List.getElem?_eq_getElem (by omega)⟩
      obtain ⟨v, hv⟩ : ∃ v, row[i + 1]? = some v := ⟨_, List.getElem?_eq_getElem (by omega)⟩
      obtain ⟨tu, htu, htu2⟩ := hts i u hu
      obtain ⟨tv, htv, htv2⟩ := hts (i + 1) v hv
      have ek1 : (1 + (i : Int)) - 1 = (i : Nat) := by omega
      have ek2 : (1 + (i : Int)) = ((i + 1 : Nat) : Int) := by omega
      have au : atI (nV row) (1 + (i : Int) - 1) = some (.int u) := by rw [ek1]; exact nV_at hu
      have av : atI (nV row) (1 + (i : Int)) = some (.int v) := by rw [ek2]; exact nV_at hv
      refine ⟨_, rfl, _, rfl, _, rfl, _, rfl, _, _, rfl, rfl, rw_, _, _, _, rfl, rfl, S3.seq hrow, au, _, rfl, _, rfl, rw_, _, _, _, rfl, rfl, S3.seq hrow, av, a, b, rides, trips, u, v, tu, tv, rfl, T.same S3, htu, htv, fun H4 s4 => ⟨_, rfl, ?_⟩⟩
      rw [← hR, hcan i tu tv htu2 htv2]
      exact if_f rfl ⟨s3.trans s4, _, rfl⟩
    rintro σ H3 ⟨s3, y5, rfl⟩
    have S3 := s1.trans s3
    refine ⟨Nat.zero_le _, fun fo nfo => ?_⟩
    have nfo0 : H fo = none := S3.free nfo
    have sf : Same H3 (upd H3 fo (.lst [])) := same_upd nfo
    refine ⟨_, rfl, rw_, rfl, ⟨_, (S3.trans sf).seq hrow⟩, for_list (K := K) (a := rw_) (xs := nV row) (fun i σ H' => Same H3 H' ∧ ∃ (y4 y7 y8 : Option V) (qs : List Addr) (parts : List (List Stop)), σ = [some (.ref a), some (.ref b), some (.ref rw_), some (.ref ro), y4, y5, some (.ref fo), y7, y8] ∧
      H' fo = some (.lst (qs.map V.ref)) ∧ Tups K H' stopV qs parts.flatten ∧ DayOk R (ts.take i) parts ∧ (∀ s ∈ parts.flatten, okPlace s.1) ∧ parts.flatten.length ≤ 300 * i)
      ⟨sf, y4, none, none, [], [], rfl, upd_same, Tups.nil, DayOk.nil R, (fun _ h => nomatch h), Nat.zero_le _⟩ (fun i σ H' _ ⟨s, _⟩ => (S3.trans s).seq hrow) ?_ ?_⟩
    · rintro i v0 σ H4 hi ⟨s4, z4, y7, y8, qs, parts, rfl, efo, tfo, dk, okS, hpl⟩
      obtain ⟨n, rfl, hn⟩ := nV_get hi
      have hir := (List.getElem?_eq_some_iff.mp hn).1
      obtain ⟨t, ht, ht2⟩ := hts i n hn
      have okt := okT t (List.mem_of_getElem? ht)
      have S4 := S3.trans s4
      obtain ⟨p2, at2, hs2⟩ := tat S4 ht
      have etk : ts.take (i + 1) = ts.take i ++ [t] := by
        rw [List.take_add_one, ht2]
        rfl
      have ltk : (ts.take i).length = i := by rw [List.length_take]; omega
      refine ⟨_, rfl, _, rfl, b, _, _, _, rfl, rfl, S4.seq hqt, at2, ?_⟩
      -- on the way
      refine ⟨fun σ H' => Same H3 H' ∧ ∃ (y8 : Option V) (qs : List Addr) (seg : List Stop), σ = [some (.ref a), some (.ref b), some (.ref rw_), some (.ref ro), some (.int (n : Int)), y5, some (.ref fo), some (.ref p2), y8] ∧
        H' fo = some (.lst (qs.map V.ref)) ∧ Tups K H' stopV qs (parts.flatten ++ seg) ∧ (ts.take i = [] → seg = []) ∧ (∀ t', (ts.take i)[(ts.take i).length - 1]? = some t' → ts.take i ≠ [] → Leg R t' t seg) ∧ (∀ s ∈ seg, okPlace s.1) ∧ seg.length ≤ 200, ?_, ?_⟩
      · refine ⟨_, rfl, Nat.zero_le _, fun e1 n1 => ?_⟩
        have se : Same H4 (upd H4 e1 (.lst [])) := same_upd n1
        obtain ⟨d, e, D1, D2, S1, S2, E1⟩ := stops_nil (K := K) (se _ _ efo) (tfo.same se) okS (upd_same (a := e1))
        refine ⟨d, e, D1, D2, S1, S2, ?_⟩
        rw [E1]
        generalize upd H4 e1 (.lst []) = H5 at *
        have efo5 := se _ _ efo
        have tfo5 := tfo.same se
        have S5 := S4.trans se
        have s35 := s4.trans se
        by_cases h0 : i = 0
        · subst h0
          have hparts : parts = [] := List.length_eq_zero_iff.mp dk.len
          subst hparts
          exact ⟨_, rfl, if_f rfl ⟨s35, _, qs, [], rfl, efo5, tfo5, fun _ => rfl, fun t' _ h => absurd rfl h, (fun _ h => nomatch h), Nat.zero_le _⟩⟩
        · obtain ⟨t', ht'⟩ : ∃ t', ts[i - 1]? = some t' := ⟨_, List.getElem?_eq_getElem (by omega)⟩
          have htk' : (ts.take i)[(ts.take i).length - 1]? = some t' := by
            rw [ltk, List.getElem?_take, if_pos (by omega)]
            exact ht'
          obtain ⟨Y, hY⟩ := day_last dk htk'
          have hc := hcan (i - 1) t' t ht' (by rw [show i - 1 + 1 = i by omega]; exact ht2)
          obtain ⟨dd, hdd, _⟩ := can_dist hc
          obtain ⟨m, hm, hm2⟩ : ∃ m, row[i - 1]? = some m ∧ trips[m]? = some t' := by
            obtain ⟨m, hm⟩ : ∃ m, row[i - 1]? = some m := ⟨_, List.getElem?_eq_getElem (by omega)⟩
            obtain ⟨t2, h1, h2⟩ := hts (i - 1) m hm
            rw [ht'] at h2
            cases h2
            exact ⟨m, hm, h1⟩
          have okt' := okT t' (List.mem_of_getElem? hm2)
          rw [hY] at tfo5
          obtain ⟨q1, al, hq1⟩ := tfo5.last
          have hne : (!parts.flatten.isEmpty) = true := by
            rw [hY]
            cases Y <;> rfl
          refine ⟨_, rfl, if_t hne ?_⟩
          refine ⟨_, rfl, _, rfl, _, rfl, _, rfl, fo, _, _, _, rfl, rfl, sqL_of efo5, al, q1, _, 0, _, rfl, rfl, hq1, atI_nat (j := 0) rfl, _, rfl, p2, _, 0, _, rfl, rfl, same_seqT se hs2, atI_nat (j := 0) rfl, a, b, rides, trips, t'.2.2.1, t.1, rfl, T.same S5, okt'.2.1, okt.1, fun hno => ?_, fun H6 pw ps s6 npw epw hex way => ?_⟩
          · rw [← hR, hdd] at hno
            cases hno
          rw [← hR] at way hex
          have efo6 := s6 _ _ efo5
          have hq6 := same_seqT s6 hq1
          refine ⟨_, rfl, .inl ⟨rfl, _, sqL_of efo6⟩, ?_⟩
          refine ⟨_, rfl, _, rfl, _, rfl, _, rfl, fo, _, _, _, rfl, rfl, sqL_of efo6, al, q1, _, 1, _, rfl, rfl, hq6, atI_nat (j := 1) rfl, ro, pw, t'.2.2.2, R, t'.2.2.1, t.1, ps, rfl, ⟨qo, sqL_of ((s3.trans (s35.trans s6)) _ _ ero), tro.same (s3.trans (s35.trans s6))⟩, by omega, hp, epw, way, fun H7 rd qd s7 nrd erd trd => ?_⟩
          have efo7 := s7 _ _ efo6
          have s67 := s6.trans s7
          have hql : qs.length ≤ 30000 := by
            rw [tfo.1]
            omega
          have hqd : qd.length ≤ 200 := by
            rw [trd.1]
            have := leg_len (m := t'.2.2.2) way
            omega
          refine ⟨fo, rd, _, _, rfl, rfl, efo7, erd, ?_, same_put (s35.trans s67) nfo, _, qs ++ qd, legOf R t'.2.2.1 t'.2.2.2 ps, rfl, ?_, ?_, fun h => ?_, fun t2 h2 _ => ?_, leg_ok okP way, ?_⟩
          · rw [List.length_map, List.length_map]
            exact Nat.le_of_lt (sz_ok (by omega))
          · rw [upd_same, List.map_append]
          · exact (((tfo.same se).same s67).putL efo7).append (trd.putL efo7)
          · have := congrArg List.length h
            rw [ltk] at this
            exact absurd this h0
          · rw [htk'] at h2
            cases h2
            exact ⟨ps, way, hex, rfl⟩
          · have := leg_len (m := t'.2.2.2) way
            omega
      · rintro σ H5 ⟨s5, w8, qs5, seg, rfl, efo5, tfo5, i0, i1, okg, hgl⟩
        have S5 := S3.trans s5
        obtain ⟨p2', at2', hs2'⟩ := tat S5 ht
        rw [at2] at at2'
        cases at2'
        have hq5 : qs5.length ≤ 30200 := by
          rw [tfo5.1, List.length_append]
          omega
        refine ⟨_, rfl, .inl ⟨rfl, _, sqL_of efo5⟩, _, rfl, p2, _, 0, _, rfl, rfl, hs2', atI_nat (j := 0) rfl, _, rfl, p2, _, 1, _, rfl, rfl, hs2', atI_nat (j := 1) rfl, (by show 2 ≤ sizeLine; decide), fun x1 nx1 => ?_⟩
        have sx1 : Same H5 (upd H5 x1 (.tup [.str t.1, .int t.2.1])) := same_upd nx1
        refine ⟨fo, _, _, rfl, rfl, sx1 _ _ efo5, ?_, ?_⟩
        · rw [List.length_map]
          exact sz_ok (by omega)
        obtain ⟨H6, hH6⟩ : ∃ H6, H6 = upd (upd H5 x1 (.tup [.str t.1, .int t.2.1])) fo (.lst (qs5.map V.ref ++ [.ref x1])) := ⟨_, rfl⟩
        have s36 : Same H3 H6 := hH6 ▸ same_put (s5.trans sx1) nfo
        have efo6 : H6 fo = some (.lst ((qs5 ++ [x1]).map V.ref)) := by
          rw [hH6, upd_same, List.map_append]
          rfl
        have tfo6 : Tups K H6 stopV (qs5 ++ [x1]) (parts.flatten ++ seg ++ [(t.1, t.2.1)]) := by
          rw [hH6]
          exact ((tfo5.same sx1).putL (sx1 _ _ efo5)).add (seqT_putL (sx1 _ _ efo5) (sqT_of upd_same))
        rw [← hH6]
        obtain ⟨p3, at3, hs3⟩ := tat (S3.trans s36) ht
        rw [at2] at at3
        cases at3
        refine ⟨_, rfl, .inl ⟨rfl, _, sqL_of efo6⟩, _, rfl, p2, _, 2, _, rfl, rfl, hs3, atI_nat (j := 2) rfl, _, rfl, p2, _, 3, _, rfl, rfl, hs3, atI_nat (j := 3) rfl, (by show 2 ≤ sizeLine; decide), fun x2 nx2 => ?_⟩
        have sx2 : Same H6 (upd H6 x2 (.tup [.str t.2.2.1, .int t.2.2.2])) := same_upd nx2
        have efl : (parts ++ [seg ++ two t]).flatten = parts.flatten ++ seg ++ [(t.1, t.2.1)] ++ [(t.2.2.1, t.2.2.2)] := by
          rw [List.flatten_append]
          simp [two]
        refine ⟨fo, _, _, rfl, rfl, sx2 _ _ efo6, ?_, same_put (s36.trans sx2) nfo, _, _, _, qs5 ++ [x1] ++ [x2], parts ++ [seg ++ two t], rfl, ?_, ?_, ?_, fun s hs => ?_, ?_⟩
        · rw [List.length_map, List.length_append]
          exact sz_ok (by show qs5.length + 1 ≤ _; omega)
        · rw [upd_same]
          exact congrArg (fun x => some (HO.lst x)) (List.map_append (f := V.ref) (l₁ := qs5 ++ [x1]) (l₂ := [x2])).symm
        · rw [efl]
          exact ((tfo6.same sx2).putL (sx2 _ _ efo6)).add (seqT_putL (sx2 _ _ efo6) (sqT_of upd_same))
        · rw [etk]
          exact dk.add i0 i1
        · rw [efl] at hs
          rcases List.mem_append.mp hs with h | h
          · rcases List.mem_append.mp h with h | h
            · rcases List.mem_append.mp h with h | h
              · exact okS s h
              · exact okg s h
            · rw [List.mem_singleton.mp h]
              exact okt.1
          · rw [List.mem_singleton.mp h]
            exact okt.2.1
        · rw [efl]
          simp only [List.length_append, List.length_cons, List.length_nil]
          omega
    · rintro σ H4 ⟨s4, z4, y7, y8, qs, parts, rfl, efo, tfo, dk, okS, hpl⟩
      rw [lrow] at dk hpl
      rw [List.take_of_length_le (by omega)] at dk
      exact ⟨_, rfl, q H4 fo qs parts (S3.trans s4) nfo0 efo tfo dk okS hpl⟩
end
end Fb
/-! _law_walked of law_k05 (from S8): the stops gone over from the first, the legs' minutes too. -/
namespace Fb
open PySem PySem.Spec PyProof.Rows L2
theorem cut_two {xs : List V} {k : Nat} {a b : V} (ha : xs[k]? = some a) (hb : xs[k + 1]? = some b) : cutV xs (some (k : Int)) (some (((k + 2 : Nat)) : Int)) = [a, b] := by
  obtain ⟨hk, eb⟩ := List.getElem?_eq_some_iff.mp hb
  obtain ⟨hk0, ea⟩ := List.getElem?_eq_some_iff.mp ha
  unfold cutV
  rw [show HT.sIx xs.length 0 (some (k : Int)) = min k xs.length from HT.sIx_nat _ _ k, show HT.sIx xs.length xs.length (some ((k + 2 : Nat) : Int)) = min (k + 2) xs.length from HT.sIx_nat _ _ (k + 2), Nat.min_eq_left (by omega), Nat.min_eq_left (by omega), Nat.add_sub_cancel_left, List.drop_eq_getElem_cons hk0, List.drop_eq_getElem_cons hk, ea, eb]
  rfl
theorem flat_get {α : Type} {parts : List (List α)} {i j : Nat} {p : List α} {s : α} (h : parts[i]? = some p) (hj : p[j]? = some s) : parts.flatten[(parts.take i).flatten.length + j]? = some s := by
  obtain ⟨hi, e⟩ := List.getElem?_eq_some_iff.mp h
  have hs : parts = parts.take i ++ p :: parts.drop (i + 1) := by rw [← e, ← List.drop_eq_getElem_cons hi, List.take_append_drop]
  have hl := (List.getElem?_eq_some_iff.mp hj).1
  have hf : parts.flatten = (parts.take i).flatten ++ (p ++ (parts.drop (i + 1)).flatten) := by
    rw [← List.flatten_cons, ← List.flatten_append, ← hs]
  rw [hf, List.getElem?_append_right (by omega), Nat.add_sub_cancel_left, List.getElem?_append_left hl]
  exact hj
theorem flat_more {α : Type} {parts : List (List α)} {i : Nat} {p : List α} (h : parts[i]? = some p) : (parts.take (i + 1)).flatten.length = (parts.take i).flatten.length + p.length := by
  rw [List.take_add_one, h, List.flatten_append, List.length_append]
  simp
theorem DayOk.take {R : List Ride} {ts : List Trip} {parts : List (List Stop)} (d : DayOk R ts parts) (i : Nat) : DayOk R (ts.take i) (parts.take i) := by
  refine ⟨by rw [List.length_take, List.length_take, d.len], fun k t h => ?_⟩
  rw [List.getElem?_take] at h
  by_cases hk : k < i
  · rw [if_pos hk] at h
    obtain ⟨sg, e1, e2, e3⟩ := d.part k t h
    refine ⟨sg, by rw [List.getElem?_take, if_pos hk]; exact e1, e2, fun t' h0 h' => e3 t' h0 ?_⟩
    rw [List.getElem?_take, if_pos (by omega)] at h'
    exact h'
  · rw [if_neg hk] at h
    cases h
theorem dpInts {K : PySem.W.Frag} {H : Hp} : ∀ l : List Int, DpAll K H (l.map V.int) (l.map PyData.int)
  | [] => .nil
  | k :: l => .cons (.int k) (dpInts l)
theorem shInts (l : List Int) : Sh 1 (.list (l.map PyData.int)) := sh_list fun d hd => by
  obtain ⟨k, _, rfl⟩ := List.mem_map.mp hd
  exact sh_int k
def spWalked (K : PySem.W.Frag) : Sp := fun vs H Q _ => ∃ (td b rw st : Addr) (R : List Ride) (trips : List Trip) (row : List Nat) (ts : List Trip) (qs : List Addr) (parts : List (List Stop)), vs = [.ref td, .ref b, .ref rw, .ref st, .bl true] ∧ Rows K H rideV td R ∧ R.length ≤ 200 ∧ PosR R ∧ Rows K H tripV b trips ∧ (∀ t ∈ trips, okTrip t) ∧ SqL K H rw (nV row) ∧ row.length ≤ 100 ∧ RowT trips row ts ∧
  (∀ k t u, ts[k]? = some t → ts[k + 1]? = some u → canM R t u = true) ∧ H st = some (.lst (qs.map V.ref)) ∧ Tups K H stopV qs parts.flatten ∧ DayOk R ts parts ∧ parts.flatten.length ≤ 300 * row.length ∧ ∀ H', Same H H' → Q (.bl true) H'
section
variable {P : Program} {w : World} {K : PySem.W.Frag} {mg : Str → Option Value} {base : Heap}
theorem cal_law_walked {f : Addr} {fd : FuncData} (F : Fn K "_law_walked" s_law_walked f fd) (g : mg "_law_walked" = some (.ref f)) (B : Bi mg) (c_least : C8.Cal P w K mg base 1 "_law_least" (spLeast K) []) : C8.Cal P w K mg base 2 "_law_walked" (spWalked K) [] := by
  refine cal_of F g sc_law_walked (bi_law_walked F) (fun vs H Q E h => ?_) (fun cdv A outer s H vs Q E hr h => ?_)
  · obtain ⟨td, b, rw, st, R, trips, row, ts, qs, parts, rfl, _⟩ := h
    rfl
  · obtain ⟨td, b, rw_, st, R, trips, row, ts, qs, parts, rfl, ⟨qr, hR, hTr⟩, hlen, hp, ⟨qt, hqt, hTt⟩, okT, hrow, hrl, ⟨htl, hts⟩, hcan, est, tst, dk, hfl, q⟩ := h
    have hu := hu_of hr
    refine ⟨_, (pss_cons (ps_set (i := 5) sc_law_walked.nd rfl (Or.inr rfl) pe_int) (pss_cons (ps_for PassesOwn.never rfl (pi_range1 (by rfl) B.range (pa_cons (pe_callB (r := rLenS K) call_len_seq (by rfl) B.len PySem.boot_len (pa_cons (pv 2) pa_nil)) pa_nil)) (pg_name (i := 6) sc_law_walked.nd rfl (Or.inl rfl)) (pss_cons (ps_set (i := 7) sc_law_walked.nd rfl (Or.inl rfl) (pe_ix (r := rIxL K) ix_list (pv 1) (pe_ix (r := rIxL K) ix_list (pv 2) (pv 6) (fun _ _ => rfl)) (fun _ _ => rfl))) (C8.pss_cut (ps_if (pt_cmpR op_gt (pv 6) pe_int (nomark _)) (pss_cons (ps_set (i := 8) sc_law_walked.nd rfl (Or.inr rfl) (pe_ix (r := rIxL K) ix_list (pv 3) (pe_op op_sub (pv 5) pe_int) (fun _ _ => rfl))) (pss_cons (ps_while PassesOwn.never (PW.pt (pw_and (pt_cmpR op_lt (pv 5) (pe_callB (r := rLenS K) call_len_seq (by rfl) B.len PySem.boot_len (pa_cons (pv 3) pa_nil)) (nomark _)) (pw_and1 (PW.pt (pw_or (pt_cmpR op_ne (pe_ix (r := rIxT K) ix_tup (pv 8) pe_int (fun _ _ => rfl)) (pe_ix (r := rIxT K) ix_tup (pv 7) pe_int (fun _ _ => rfl)) (nomark _)) (pw_or1 (pt_cmpR op_ne (pe_ix (r := rIxT K) ix_tup (pe_ix (r := rIxL K) ix_list (pv 3) (pv 5) (fun _ _ => rfl)) pe_int (fun _ _ => rfl)) (pe_ix (r := rIxT K) ix_tup (pv 7) pe_int (fun _ _ => rfl)) (nomark _)))))))) (pss_cons (ps_setLc (i := 9) (own := [("_law_road", 11)]) (g := gName 11)  (by rfl) sc_law_walked.nd rfl rfl (sw_true rfl rfl rfl (by decide +kernel)) (pi_list (pv 0)) (blkOk_by (N := ["_law_told", "_law_trips_here", "_law_row_here", "_law_stops_here", "_law_exact", "_law_at", "_law_k", "_law_trip", "_law_here", "_law_steps", "_law_ahead", "_law_road"]) (sc := defScope s_law_walked) (by decide +kernel)) (fun _ _ _ _ _ => pg_name (i := 11) sc_law_walked.nd rfl (Or.inl rfl)) (fun _ _ _ _ _ => (pts_one (PW.pt (pw_and (pt_cmpR op_eq (pe_ix (r := rIxT K) ix_tup (pv 11) pe_int (fun _ _ => rfl)) (pe_ix (r := rIxT K) ix_tup (pv 8) pe_int (fun _ _ => rfl)) (nomark _)) (pw_and1 (pt_cmpR op_eq (pe_ix (r := rIxT K) ix_tup (pv 11) pe_int (fun _ _ => rfl)) (pe_ix (r := rIxT K) ix_tup (pe_ix (r := rIxL K) ix_list (pv 3) (pv 5) (fun _ _ => rfl)) pe_int (fun _ _ => rfl)) (nomark _))))))) (fun _ _ _ _ _ => (pe_ix (r := rIxT K) ix_tup (pv 11) pe_int (fun _ _ => rfl)))) (pss_cons (ps_if (PW.pt (pw_or (pt_cmpR (op_eqD hr.units) (pv 9) (pe_lst pa_nil) (nomark _)) (pw_or1 (pt_cmpR op_ne (pe_op op_add (pe_ix (r := rIxT K) ix_tup (pv 8) pe_int (fun _ _ => rfl)) (pe_callB (r := rMin K) (cr_min rfl) (by rfl) B.min (by decide +kernel) (pa_cons (pv 9) pa_nil))) (pe_ix (r := rIxT K) ix_tup (pe_ix (r := rIxL K) ix_list (pv 3) (pv 5) (fun _ _ => rfl)) pe_int (fun _ _ => rfl)) (nomark _))))) (pss_one (ps_ret pe_bl)) pss_nil) (pss_cons (ps_set (i := 8) sc_law_walked.nd rfl (Or.inr rfl) (pe_ix (r := rIxL K) ix_list (pv 3) (pv 5) (fun _ _ => rfl))) (pss_one (ps_set (i := 5) sc_law_walked.nd rfl (Or.inr rfl) (pe_op op_add (pv 5) pe_int))))))) (pss_cons (ps_if (PW.pt (pw_or (pt_cmpR op_ne (pe_ix (r := rIxT K) ix_tup (pv 8) pe_int (fun _ _ => rfl)) (pe_ix (r := rIxT K) ix_tup (pv 7) pe_int (fun _ _ => rfl)) (nomark _)) (pw_or1 (pt_cmpR op_gt (pe_ix (r := rIxT K) ix_tup (pv 8) pe_int (fun _ _ => rfl)) (pe_ix (r := rIxT K) ix_tup (pv 7) pe_int (fun _ _ => rfl)) (nomark _))))) (pss_one (ps_ret pe_bl)) pss_nil) (pss_cons (ps_set (i := 10) sc_law_walked.nd rfl (Or.inl rfl) (pe_ix (r := rIxL K) ix_list (pv 1) (pe_ix (r := rIxL K) ix_list (pv 2) (pe_op op_sub (pv 6) pe_int) (fun _ _ => rfl)) (fun _ _ => rfl))) (pss_one (ps_if (PW.pt (pw_and (pt_val (pv 4)) (pw_and1 (pt_cmpR op_ne (pe_ix (r := rIxT K) ix_tup (pv 8) pe_int (fun _ _ => rfl)) (pe_op op_add (pe_ix (r := rIxT K) ix_tup (pv 10) pe_int (fun _ _ => rfl)) (pe_dget hu (C8.pe_c c_least hr (by decide) (by rfl) (pa_cons (pv 0) (pa_cons (pe_ix (r := rIxT K) ix_tup (pv 10) pe_int (fun _ _ => rfl)) pa_nil))) (pe_ix (r := rIxT K) ix_tup (pv 7) pe_int (fun _ _ => rfl)) (fun _ _ => rfl))) (nomark _))))) (pss_one (ps_ret pe_bl)) pss_nil)))))) pss_nil) (pss_cons (ps_if (pt_cmpR (op_neD hr.units) (pe_slice sl_list (pv 3) (po_some (pv 5)) (po_some (pe_op op_add (pv 5) pe_int))) (pe_lst (pa_cons (pe_tup (pa_cons (pe_ix (r := rIxT K) ix_tup (pv 7) pe_int (fun _ _ => rfl)) (pa_cons (pe_ix (r := rIxT K) ix_tup (pv 7) pe_int (fun _ _ => rfl)) pa_nil))) (pa_cons (pe_tup (pa_cons (pe_ix (r := rIxT K) ix_tup (pv 7) pe_int (fun _ _ => rfl)) (pa_cons (pe_ix (r := rIxT K) ix_tup (pv 7) pe_int (fun _ _ => rfl)) pa_nil))) pa_nil))) (nomark _)) (pss_one (ps_ret pe_bl)) pss_nil) (pss_one (ps_set (i := 5) sc_law_walked.nd rfl (Or.inr rfl) (pe_op op_add (pv 5) pe_int))))))) (pss_one (ps_ret (pe_cmpR op_eq (pv 5) (pe_callB (r := rLenS K) call_len_seq (by rfl) B.len PySem.boot_len (pa_cons (pv 3) pa_nil)) (nomark _)))))), ?_⟩
    have lrow : (nV row).length = row.length := by rw [List.length_map]
    have lq : (qs.map V.ref).length = parts.flatten.length := by rw [List.length_map, tst.1]
    have tat : ∀ {H' : Hp}, Same H H' → ∀ {i : Nat} {x : Trip}, trips[i]? = some x → ∃ q', atI (qt.map V.ref) (i : Int) = some (.ref q') ∧ SqT K H' q' (tripV x) := fun s i x hx => by
      obtain ⟨q', hq, hs⟩ := (hTt.same s).addr hx
      exact ⟨q', atI_nat (by rw [List.getElem?_map, hq]; rfl), hs⟩
    have sat : ∀ {k : Nat} {x : Stop}, parts.flatten[k]? = some x → ∃ q', qs[k]? = some q' ∧ (∀ z : Int, z = k → atI (qs.map V.ref) z = some (.ref q')) ∧ SqT K H q' (stopV x) := fun {k x} hx => by
      obtain ⟨q', hq, hs⟩ := tst.addr hx
      exact ⟨q', hq, fun z e => by rw [e]; exact atI_nat (by rw [List.getElem?_map, hq]; rfl), hs⟩
    have stl : ∀ {H' : Hp}, Same H H' → SqL K H' st (qs.map V.ref) := fun s => sqL_of (s _ _ est)
    refine ⟨_, rfl, rw_, _, rfl, .inl hrow, ((nV row).length : Nat), rfl, by omega, by omega, for_range (lo := 0) (n := (nV row).length)
      (fun i σ H' => Same H H' ∧ ∃ (z : Int) (y5 y6 y7 y8 y9 : Option V), σ = [some (.ref td), some (.ref b), some (.ref rw_), some (.ref st), some (.bl true), some (.int z), y5, y6, y7, y8, y9, none] ∧ z = ((parts.take i).flatten.length : Nat)) ⟨Same.refl _, 0, none, none, none, none, none, rfl, rfl⟩ ?_ ?_⟩
    · rintro i σ H1 hi ⟨s1, z, y5, y6, y7, y8, y9, rfl, hz⟩
      rw [lrow] at hi
      obtain ⟨n, hn⟩ : ∃ n, row[i]? = some n := ⟨_, List.getElem?_eq_getElem hi⟩
      obtain ⟨t, ht, ht2⟩ := hts i n hn
      have an : atI (nV row) (0 + (i : Int)) = some (.int n) := by rw [Int.zero_add]; exact nV_at hn
      obtain ⟨pt, at2, hs2⟩ := tat (Same.refl H) ht
      obtain ⟨sg, ep, esg0, eleg⟩ := dk.part i t ht2
      have okt := okT t (List.mem_of_getElem? ht)
      have g1 : parts.flatten[(parts.take i).flatten.length + sg.length]? = some (t.1, t.2.1) := flat_get ep (by rw [List.getElem?_append_right (Nat.le_refl _), Nat.sub_self]; rfl)
      have g2 : parts.flatten[(parts.take i).flatten.length + sg.length + 1]? = some (t.2.2.1, t.2.2.2) := by
        have := flat_get (j := sg.length + 1) ep (s := (t.2.2.1, t.2.2.2)) (by rw [List.getElem?_append_right (by omega), Nat.add_sub_cancel_left]; rfl)
        rw [← Nat.add_assoc] at this
        exact this
      have gsg : ∀ {j : Nat} {x : Stop}, sg[j]? = some x → parts.flatten[(parts.take i).flatten.length + j]? = some x := fun {j x} h => flat_get ep (by
        rw [List.getElem?_append_left (List.getElem?_eq_some_iff.mp h).1]
        exact h)
      have hmore := flat_more ep
      have eplen : (sg ++ two t).length = sg.length + 2 := by rw [List.length_append]; rfl
      rw [eplen] at hmore
      generalize hA : (parts.take i).flatten.length = A0 at *
      refine ⟨_, rfl, _, rfl, _, rfl, rw_, _, _, _, rfl, rfl, s1.seq hrow, an, b, _, _, _, rfl, rfl, s1.seq hqt, at2, ?_⟩
      refine ⟨fun σ H' => Same H H' ∧ ∃ (z : Int) (y7 y8 y9 : Option V), σ = [some (.ref td), some (.ref b), some (.ref rw_), some (.ref st), some (.bl true), some (.int z), some (.int (0 + (i : Int))), some (.ref pt), y7, y8, y9, none] ∧ z = ((A0 + sg.length : Nat) : Int), ?_, ?_⟩
      · refine ⟨_, rfl, _, _, rfl, rfl, _, rfl, ite2 (fun c1 => ?_) (fun c1 => ?_)⟩
        · have h0 : i ≠ 0 := fun e => by
            have := of_decide_eq_true c1
            omega
          obtain ⟨t', ht'⟩ : ∃ t', ts[i - 1]? = some t' := ⟨_, List.getElem?_eq_getElem (by omega)⟩
          obtain ⟨ps, way, hex, esg⟩ := eleg t' h0 ht'
          have hc := hcan (i - 1) t' t ht' (by rw [show i - 1 + 1 = i by omega]; exact ht2)
          obtain ⟨dd, hdd, hdle⟩ := can_dist hc
          have hpl := way_last way
          have hsl : sg.length + 1 = ps.length := by
            rw [esg]
            unfold legOf
            rw [List.length_map, List.length_drop]
            omega
          have htk : (ts.take i)[(ts.take i).length - 1]? = some t' := by
            have : (ts.take i).length = i := by rw [List.length_take]; omega
            rw [this, List.getElem?_take, if_pos (by omega)]
            exact ht'
          obtain ⟨Y, hY⟩ := day_last (dk.take i) htk
          have hAY : A0 = Y.length + 1 := by
            rw [← hA, hY, List.length_append]
            rfl
          have gl : parts.flatten[Y.length]? = some (t'.2.2.1, t'.2.2.2) := by
            have e1 := congrArg List.flatten (List.take_append_drop i parts)
            rw [List.flatten_append, hY] at e1
            rw [← e1, List.append_assoc, List.getElem?_append_right (Nat.le_refl _), Nat.sub_self]
            rfl
          obtain ⟨q0, _, aq0, hq0⟩ := sat gl
          refine ⟨_, rfl, _, rfl, _, _, rfl, rfl, st, _, _, _, rfl, rfl, stl s1, aq0 (z - 1) (by omega), ?_⟩
          -- along the way
          refine ⟨fun mm σ H' => Same H H' ∧ ∃ (z : Int) (j : Nat) (u : Str) (d : Int) (q1 : Addr) (y8 y9 : Option V), σ = [some (.ref td), some (.ref b), some (.ref rw_), some (.ref st), some (.bl true), some (.int z), some (.int (0 + (i : Int))), some (.ref pt), some (.ref q1), y8, y9, none] ∧ z = ((A0 + j : Nat) : Int) ∧ ps[j]? = some u ∧ dist R t'.2.2.1 u = some d ∧ SqT K H q1 (stopV (u, t'.2.2.2 + d)) ∧ mm = ps.length - j,
            ⟨_, s1, z, 0, t'.2.2.1, 0, q0, y8, y9, rfl, hz, way.first, dist_self hp _, by rw [Int.add_zero]; exact hq0, rfl⟩, ?_⟩
          rintro mm σ H2 ⟨s2, z2, j, u, d, q1, w8, w9, rfl, hz2, hu, hd, hq1, rfl⟩
          have hj := (List.getElem?_eq_some_iff.mp hu).1
          have hlt : z2 < ((qs.map V.ref).length : Nat) := by
            rw [lq]
            have := (List.getElem?_eq_some_iff.mp g1).1
            omega
          have h1 := same_seqT s2 hq1
          have ht3 := same_seqT s2 hs2
          refine ⟨_, rfl, _, rfl, st, _, rfl, .inl (stl s2), _, _, rfl, rfl, _, rfl, if_t (decide_eq_true hlt) ?_⟩
          refine ⟨_, rfl, q1, _, 0, _, rfl, rfl, h1, atI_nat (j := 0) rfl, _, rfl, pt, _, 0, _, rfl, rfl, ht3, atI_nat (j := 0) rfl, rfl, _, rfl, ?_⟩
          by_cases hend : j + 1 = ps.length
          · -- there
            have hy : u = t.1 := by
              have e := hpl.1
              rw [show ps.length - 1 = j by omega, hu] at e
              exact Option.some.inj e
            subst hy
            have hjs : j = sg.length := by omega
            subst hjs
            obtain ⟨q2, _, aq2, hq2⟩ := sat g1
            refine if_f (by simp) ⟨_, rfl, _, rfl, st, _, _, _, rfl, rfl, stl s2, aq2 z2 hz2, q2, _, 0, _, rfl, rfl, same_seqT s2 hq2, atI_nat (j := 0) rfl, _, rfl, pt, _, 0, _, rfl, rfl, ht3, atI_nat (j := 0) rfl, rfl, _, rfl, if_f (by simp [stopV, tripV]) ?_⟩
            rw [hdd] at hd
            cases hd
            refine ⟨_, rfl, q1, _, 0, _, rfl, rfl, h1, atI_nat (j := 0) rfl, _, rfl, pt, _, 0, _, rfl, rfl, ht3, atI_nat (j := 0) rfl, rfl, _, rfl, if_f (by simp) ?_⟩
            refine ⟨_, rfl, q1, _, 1, _, rfl, rfl, h1, atI_nat (j := 1) rfl, _, rfl, pt, _, 1, _, rfl, rfl, ht3, atI_nat (j := 1) rfl, _, _, rfl, rfl, _, rfl, if_f (decide_eq_false (by show ¬ (t'.2.2.2 + dd > t.2.1); omega)) ?_⟩
            obtain ⟨n', hn'⟩ : ∃ n', row[i - 1]? = some n' := ⟨_, List.getElem?_eq_getElem (by omega)⟩
            obtain ⟨t2, ht2a, ht2b⟩ := hts (i - 1) n' hn'
            rw [ht'] at ht2b
            cases ht2b
            have an' : atI (nV row) (0 + (i : Int) - 1) = some (.int n') := by
              rw [show 0 + (i : Int) - 1 = ((i - 1 : Nat) : Int) by omega]
              exact nV_at hn'
            obtain ⟨pa, at3, hs3⟩ := tat s2 ht2a
            refine ⟨_, rfl, _, rfl, _, rfl, _, _, rfl, rfl, rw_, _, _, _, rfl, rfl, s2.seq hrow, an', b, _, _, _, rfl, rfl, s2.seq hqt, at3, ?_⟩
            refine ⟨_, rfl, true, rfl, if_t rfl ?_⟩
            refine ⟨_, rfl, q1, _, 1, _, rfl, rfl, h1, atI_nat (j := 1) rfl, _, rfl, pa, _, 3, _, rfl, rfl, hs3, atI_nat (j := 3) rfl, _, rfl, _, rfl, pa, _, 2, _, rfl, rfl, hs3, atI_nat (j := 2) rfl, td, t'.2.2.1, R, rfl, ⟨qr, s2.seq hR, hTr.same s2⟩, hlen, hp, fun H3 le l s3 nle ele tab => ?_⟩
            have g3 : DGet H3 le (.str t.1) (some (.int dd)) := by
              have := get_d ele t.1
              rw [tab.all, hdd] at this
              exact this
            exact ⟨_, rfl, pt, _, 0, _, rfl, rfl, same_seqT s3 ht3, atI_nat (j := 0) rfl, le, _, rfl, g3, _, _, rfl, rfl, rfl, _, rfl, if_f (by simp [stopV, tripV]) ⟨s2.trans s3, z2, _, _, _, rfl, hz2⟩⟩
          · -- a step
            have hj1 : j + 1 < ps.length := by omega
            obtain ⟨v, hv⟩ : ∃ v, ps[j + 1]? = some v := ⟨_, List.getElem?_eq_getElem hj1⟩
            obtain ⟨w', a', hr', hdu, hdv⟩ := way.step j u v hu hv
            rw [hd] at hdu
            cases hdu
            have hne := way_ne hp way hu hj1
            have gv : parts.flatten[A0 + j]? = some (v, t'.2.2.2 + (d + w')) := gsg (by
              rw [esg]
              unfold legOf
              rw [List.getElem?_map, List.getElem?_drop, Nat.add_comm 1 j, hv]
              show some (v, t'.2.2.2 + (dist R t'.2.2.1 v).getD 0) = _
              rw [hdv]
              rfl)
            obtain ⟨q2, _, aq2, hq2⟩ := sat gv
            have aq2z := aq2 z2 hz2
            refine if_t (by
              rw [decide_eq_false fun z => hne (V.str.inj z)]
              rfl) (if_t rfl ⟨fun σ' H' => Same H H' ∧ ∃ (z : Int) (u' : Str) (d' : Int) (q1 : Addr) (y8 y9 : Option V), σ' = [some (.ref td), some (.ref b), some (.ref rw_), some (.ref st), some (.bl true), some (.int z), some (.int (0 + (i : Int))), some (.ref pt), some (.ref q1), y8, y9, none] ∧ z = ((A0 + (j + 1) : Nat) : Int) ∧ ps[j + 1]? = some u' ∧ dist R t'.2.2.1 u' = some d' ∧ SqT K H q1 (stopV (u', t'.2.2.2 + d')), ?_, ?_⟩)
            · rintro σ' H' ⟨s3, z3, u3, d3, q3, x8, x9, rfl, r1, r2, r3, r4⟩
              exact ⟨ps.length - (j + 1), by omega, s3, z3, j + 1, u3, d3, q3, x8, x9, rfl, r1, r2, r3, r4, rfl⟩
            · refine ⟨_, rfl, td, rfl, ⟨_, s2.seq hR⟩, fun D nD => ?_⟩
              refine lc_list (K := K) (a := td) (xs := qr.map V.ref) (fun k H' => Same H2 H' ∧ ∃ ms : List Int, H' D = some (.lst (ms.map V.int)) ∧ (∀ m ∈ ms, (u, v, m) ∈ R) ∧ (∀ r ∈ R.take k, r.1 = u → r.2.1 = v → r.2.2 ∈ ms) ∧ ms.length ≤ k)
                ⟨same_upd nD, [], upd_same, (fun _ h => nomatch h), (fun _ h => nomatch h), Nat.le_refl _⟩ (fun k H' _ ⟨s, _⟩ => s.seq (s2.seq hR)) ?_ ?_
              · rintro k q4 H3 hk ⟨s3, ms, e3, i1, i2, i3⟩
                obtain ⟨p1, r, rfl, hr1, hs⟩ := (hTr.same (s2.trans s3)).at hk
                have hrR := List.mem_of_getElem? hr1
                have hjl : k < R.length := (List.getElem?_eq_some_iff.mp hr1).1
                have take1 : R.take (k + 1) = R.take k ++ [r] := by
                  rw [List.take_add_one, hr1]
                  rfl
                have s23 := s2.trans s3
                have keep : ¬ (r.1 = u ∧ r.2.1 = v) → ∀ r' ∈ R.take (k + 1), r'.1 = u → r'.2.1 = v → r'.2.2 ∈ ms := fun hn r' hr' h1 h2 => by
                  rw [take1] at hr'
                  rcases List.mem_append.mp hr' with h | h
                  · exact i2 r' h h1 h2
                  · rw [List.mem_singleton.mp h] at h1 h2
                    exact absurd ⟨h1, h2⟩ hn
                refine ⟨rfl, ?_⟩
                refine ⟨_, rfl, p1, _, 0, _, rfl, rfl, hs, atI_nat (j := 0) rfl, _, rfl, q1, _, 0, _, rfl, rfl, same_seqT s23 hq1, atI_nat (j := 0) rfl, rfl, _, rfl, ite2 (fun c1 => ?_) (fun c1 => ?_)⟩
                · refine ⟨_, rfl, p1, _, 1, _, rfl, rfl, hs, atI_nat (j := 1) rfl, _, rfl, _, rfl, st, _, _, _, rfl, rfl, stl s23, aq2z, q2, _, 0, _, rfl, rfl, same_seqT s23 hq2, atI_nat (j := 0) rfl, rfl, _, rfl, ite2 (fun c2 => ?_) (fun c2 => ?_)⟩
                  · have c1 : r.1 = u := V.str.inj (of_decide_eq_true c1)
                    have c2 : r.2.1 = v := V.str.inj (of_decide_eq_true c2)
                    refine ⟨_, rfl, p1, _, 2, _, rfl, rfl, hs, atI_nat (j := 2) rfl, _, e3, ?_, same_put s3 nD, ms ++ [r.2.2], ?_, ?_, ?_, ?_⟩
                    · rw [List.length_map]
                      exact small1000 (by omega)
                    · rw [upd_same, List.map_append]
                      rfl
                    · intro m hm
                      rcases List.mem_append.mp hm with h | h
                      · exact i1 m h
                      · rw [List.mem_singleton.mp h, ← c1, ← c2]
                        exact hrR
                    · intro r' hr' h1 h2
                      rw [take1] at hr'
                      rcases List.mem_append.mp hr' with h | h
                      · exact List.mem_append_left _ (i2 r' h h1 h2)
                      · rw [List.mem_singleton.mp h]
                        exact List.mem_append_right _ List.mem_cons_self
                    · rw [List.length_append]
                      show ms.length + 1 ≤ k + 1
                      omega
                  · exact ⟨s3, ms, e3, i1, keep fun ⟨_, h⟩ => absurd (decide_eq_true (show V.str r.2.1 = V.str v by rw [h])) c2, by omega⟩
                · exact if_f rfl ⟨s3, ms, e3, i1, keep fun ⟨h, _⟩ => absurd (decide_eq_true (show V.str r.1 = V.str u by rw [h])) c1, by omega⟩
              · rintro H3 ⟨s3, ms, e3, i1, i2, i3⟩
                have hfull : (qr.map V.ref).length = R.length := by rw [List.length_map, hTr.1]
                rw [hfull, List.take_length] at i2
                have hw : w' ∈ ms := i2 _ hr' rfl rfl
                have hpos : 0 < ms.length := List.length_pos_of_mem hw
                have s23 := s2.trans s3
                refine ⟨_, rfl, Nat.zero_le _, fun e2 n2 => ?_⟩
                have s4 : Same H3 (upd H3 e2 (.lst [])) := same_upd n2
                have ev2 : PyData.eqv (.list (ms.map PyData.int)) (.list []) = false := by
                  cases ms with
                  | nil => cases hw
                  | cons _ _ => simp [PyData.eqv, PyData.eqvAll]
                refine ⟨_, _, .lst (sqL_of (s4 _ _ e3)) (dpInts ms), .lst (sqL_of upd_same) .nil, (shInts ms).ok (by decide), sh_nil0.ok (by decide), ?_⟩
                rw [ev2]
                have s24 := s23.trans s4
                refine ⟨_, rfl, if_f rfl ?_⟩
                refine ⟨_, rfl, q1, _, 1, _, rfl, rfl, same_seqT s24 hq1, atI_nat (j := 1) rfl, _, rfl, D, ms, rfl, sqL_of (s4 _ _ e3), hpos, fun mm hm hmin => ?_⟩
                have em : mm = w' := by
                  have h1 := hmin w' hw
                  have h2 := step_min hp hd hdv (i1 mm hm)
                  omega
                subst em
                refine ⟨_, _, rfl, rfl, _, rfl, _, rfl, st, _, _, _, rfl, rfl, stl s24, aq2z, q2, _, 1, _, rfl, rfl, same_seqT s24 hq2, atI_nat (j := 1) rfl, rfl, _, rfl, if_f (by
                  show (!decide (V.int (t'.2.2.2 + d + mm) = V.int (t'.2.2.2 + (d + mm)))) = false
                  rw [Int.add_assoc, decide_eq_true rfl]
                  rfl) ?_⟩
                refine ⟨_, rfl, _, rfl, st, _, _, _, rfl, rfl, stl s24, aq2z, _, rfl, _, _, rfl, rfl, s24, _, v, d + mm, q2, _, _, rfl, by omega, hv, hdv, hq2⟩
        · have h0 : i = 0 := by
            have := of_decide_eq_false (Bool.eq_false_iff.mpr c1)
            omega
          have hs0 := esg0 h0
          subst hs0
          exact ⟨s1, z, _, _, _, rfl, by rw [hz]; rfl⟩
      · rintro σ H2 ⟨s2, z2, w7, w8, w9, rfl, hz2⟩
        obtain ⟨qa, ga, _, ha⟩ := sat g1
        obtain ⟨qb, gb, _, hb⟩ := sat g2
        have ht3 := same_seqT s2 hs2
        have ecut : cutV (qs.map V.ref) (some z2) (some (z2 + 2)) = [.ref qa, .ref qb] := by
          have := cut_two (xs := qs.map V.ref) (k := A0 + sg.length) (a := .ref qa) (b := .ref qb) (by rw [List.getElem?_map, ga]; rfl) (by rw [List.getElem?_map, gb]; rfl)
          rw [hz2]
          exact this
        refine ⟨_, rfl, _, rfl, z2, rfl, _, rfl, _, _, rfl, rfl, z2 + 2, rfl, st, _, rfl, stl s2, fun c nc => ?_⟩
        rw [ecut]
        obtain ⟨H3, hH3⟩ : ∃ H3, H3 = upd H2 c (.lst [.ref qa, .ref qb]) := ⟨_, rfl⟩
        have s3 : Same H2 H3 := hH3 ▸ same_upd nc
        have ec : H3 c = some (.lst [.ref qa, .ref qb]) := hH3 ▸ upd_same
        rw [← hH3]
        have ht4 := same_seqT s3 ht3
        refine ⟨_, rfl, pt, _, 0, _, rfl, rfl, ht4, atI_nat (j := 0) rfl, _, rfl, pt, _, 1, _, rfl, rfl, ht4, atI_nat (j := 1) rfl, (by show 2 ≤ sizeLine; decide), fun x1 nx1 => ?_⟩
        obtain ⟨H4, hH4⟩ : ∃ H4, H4 = upd H3 x1 (.tup [.str t.1, .int t.2.1]) := ⟨_, rfl⟩
        have s4 : Same H3 H4 := hH4 ▸ same_upd nx1
        have e1 : H4 x1 = some (.tup [.str t.1, .int t.2.1]) := hH4 ▸ upd_same
        have eH4 : upd H3 x1 (.tup [.str t.1, .int t.2.1]) = H4 := hH4.symm
        rw [eH4]
        have ht5 := same_seqT s4 ht4
        refine ⟨_, rfl, pt, _, 2, _, rfl, rfl, ht5, atI_nat (j := 2) rfl, _, rfl, pt, _, 3, _, rfl, rfl, ht5, atI_nat (j := 3) rfl, (by show 2 ≤ sizeLine; decide), fun x2 nx2 => ?_⟩
        obtain ⟨H5, hH5⟩ : ∃ H5, H5 = upd H4 x2 (.tup [.str t.2.2.1, .int t.2.2.2]) := ⟨_, rfl⟩
        have s5 : Same H4 H5 := hH5 ▸ same_upd nx2
        have e2 : H5 x2 = some (.tup [.str t.2.2.1, .int t.2.2.2]) := hH5 ▸ upd_same
        have eH5 : upd H4 x2 (.tup [.str t.2.2.1, .int t.2.2.2]) = H5 := hH5.symm
        rw [eH5]
        refine ⟨(by show 2 ≤ sizeLine; decide), fun x3 nx3 => ?_⟩
        have s6 : Same H5 (upd H5 x3 (.lst [.ref x1, .ref x2])) := same_upd nx3
        have s36 := (s4.trans s5).trans s6
        have S6 := (s2.trans s3).trans s36
        have dA : DpAll K (upd H5 x3 (.lst [.ref x1, .ref x2])) [.ref qa, .ref qb] [stopD (t.1, t.2.1), stopD (t.2.2.1, t.2.2.2)] := .cons (.tup (same_seqT S6 ha) (.cons (.str _) (.cons (.int _) .nil))) (.cons (.tup (same_seqT S6 hb) (.cons (.str _) (.cons (.int _) .nil))) .nil)
        have dB : DpAll K (upd H5 x3 (.lst [.ref x1, .ref x2])) [.ref x1, .ref x2] [stopD (t.1, t.2.1), stopD (t.2.2.1, t.2.2.2)] := .cons (.tup (sqT_of (s6 _ _ (s5 _ _ e1))) (.cons (.str _) (.cons (.int _) .nil))) (.cons (.tup (sqT_of (s6 _ _ e2)) (.cons (.str _) (.cons (.int _) .nil))) .nil)
        have sh : Sh 2 (.list [stopD (t.1, t.2.1), stopD (t.2.2.1, t.2.2.2)]) := sh_stops (ss := two t) fun s hs => by
          rcases List.mem_cons.mp hs with rfl | hs
          · exact okt.1
          · rw [List.mem_singleton.mp hs]
            exact okt.2.1
        refine ⟨_, _, .lst (sqL_of (s36 _ _ ec)) dA, .lst (sqL_of upd_same) dB, sh.ok (by decide), sh.ok (by decide), ?_⟩
        rw [eqv_same sh]
        exact ⟨_, rfl, if_f rfl ⟨_, rfl, _, _, rfl, rfl, S6, _, _, _, _, _, _, rfl, by omega⟩⟩
    · rintro σ H1 ⟨s1, z, y5, y6, y7, y8, y9, rfl, hz⟩
      rw [lrow, List.take_of_length_le (by rw [dk.len]; omega)] at hz
      refine ⟨_, rfl, _, rfl, st, _, rfl, .inl (stl s1), rfl, ?_⟩
      rw [hz, lq, decide_eq_true rfl]
      exact q _ s1
end
end Fb
/-! _law_stops, _law_row of law_k05. -/
namespace Fb
open PySem PySem.Spec PyProof.Rows L2
def spLStops (K : PySem.W.Frag) : Sp := fun vs H Q _ => ∃ (st : Addr) (qs : List Addr) (ss : List Stop), vs = [.ref st] ∧ H st = some (.lst (qs.map V.ref)) ∧ Tups K H stopV qs ss ∧ ss.length ≤ 30000 ∧ Q (.bl true) H
def spLRow (K : PySem.W.Frag) : Sp := fun vs H Q _ => ∃ (a td t : Addr) (ns : List Int) (R : List Ride) (trips : List Trip), vs = [.ref a, .ref td, .ref t] ∧ SqL K H a (ns.map V.int) ∧ Rows K H rideV td R ∧ R.length ≤ 200 ∧ PosR R ∧ Rows K H tripV t trips ∧ (∀ x ∈ trips, okTrip x) ∧ trips.length ≤ 12 ∧
  ∀ H' p row, Same H H' → H p = none → H' p = some (.lst (nV row)) → (∀ x ∈ row, x < trips.length) → row.length ≤ 12 → Q (.ref p) H'
section
variable {P : Program} {w : World} {K : PySem.W.Frag} {mg : Str → Option Value} {base : Heap}
theorem cal_law_stops {f : Addr} {fd : FuncData} (F : Fn K "_law_stops" s_law_stops f fd) (g : mg "_law_stops" = some (.ref f)) (B : Bi mg) (c_whole : C8.Cal P w K mg base 1 "_law_whole" (spLWhole K) []) : C8.Cal P w K mg base 2 "_law_stops" (spLStops K) [] := by
  refine cal_of F g sc_law_stops (bi_law_stops F) (fun vs H Q E h => ?_) (fun cdv A outer s H vs Q E hr h => ?_)
  · obtain ⟨st, qs, ss, rfl, _⟩ := h
    rfl
  · obtain ⟨st, qs, ss, rfl, est, tst, hl, q⟩ := h
    refine ⟨_, (pss_cons (ps_if (pt_not (pt_val (pe_callB (r := rIsi K) call_isi (by rfl) B.isi (by decide +kernel) (pa_cons (pv 0) (pa_cons (pe_bltn (v := .ty "list") (u := .type "list") (by rfl) B.list (by decide +kernel) (by rfl)) pa_nil))))) (pss_one (ps_ret pe_bl)) pss_nil) (pss_cons (ps_for PassesOwn.never rfl (pi_list (pv 0)) (pg_name (i := 1) sc_law_stops.nd rfl (Or.inl rfl)) (pss_one (ps_if (PW.pt (pw_or (pt_not (pt_val (pe_callB (r := rIsi K) call_isi (by rfl) B.isi (by decide +kernel) (pa_cons (pv 1) (pa_cons (pe_bltn (v := .ty "tuple") (u := .type "tuple") (by rfl) B.tuple (by decide +kernel) (by rfl)) pa_nil))))) (pw_or (pt_cmpR op_ne (pe_callB (r := rLenS K) call_len_seq (by rfl) B.len PySem.boot_len (pa_cons (pv 1) pa_nil)) pe_int (nomark _)) (pw_or (pt_not (pt_val (pe_callB (r := rIsi K) call_isi (by rfl) B.isi (by decide +kernel) (pa_cons (pe_ix (r := rIxT K) ix_tup (pv 1) pe_int (fun _ _ => rfl)) (pa_cons (pe_bltn (v := .ty "str") (u := .type "str") (by rfl) B.str (by decide +kernel) (by rfl)) pa_nil))))) (pw_or1 (pt_not (pt_val (C8.pe_c c_whole hr (by decide) (by rfl) (pa_cons (pe_ix (r := rIxT K) ix_tup (pv 1) pe_int (fun _ _ => rfl)) pa_nil))))))))) (pss_one (ps_ret pe_bl)) pss_nil))) (pss_one (ps_ret pe_bl)))), ?_⟩
    refine ⟨_, rfl, _, _, _, _, _, rfl, .ty _, ty_lst (sqL_of est), kit_ty (b := "list") (r := true) (by decide +kernel), _, rfl, if_f rfl ?_⟩
    refine ⟨_, rfl, st, rfl, ⟨_, sqL_of est⟩, for_list (K := K) (a := st) (xs := qs.map V.ref) (fun i σ H' => H' = H ∧ ∃ y1, σ = [some (.ref st), y1]) ⟨rfl, none, rfl⟩ (fun i σ H' _ ⟨e, _⟩ => e ▸ sqL_of est) ?_ ?_⟩
    · rintro i v σ H2 hi ⟨rfl, y1, rfl⟩
      obtain ⟨q1, x, rfl, hx, hs⟩ := tst.at hi
      refine ⟨_, rfl, _, _, _, _, _, rfl, .ty _, ty_tup hs, kit_ty (b := "tuple") (r := true) (by decide +kernel), _, rfl, if_f rfl ?_⟩
      refine ⟨_, rfl, q1, _, rfl, .inr hs, rfl, _, rfl, if_f rfl ?_⟩
      refine ⟨_, rfl, q1, _, 0, _, rfl, rfl, hs, atI_nat (j := 0) rfl, _, _, _, _, _, rfl, .ty _, .base (.str _), kit_ty (b := "str") (r := true) (by decide +kernel), _, rfl, if_f rfl ?_⟩
      exact ⟨_, rfl, q1, _, 1, _, rfl, rfl, hs, atI_nat (j := 1) rfl, .int x.2, _, rfl, .int _, _, rfl, if_f rfl ⟨rfl, _, rfl⟩⟩
    · rintro σ H2 ⟨rfl, y1, rfl⟩
      exact q
theorem cal_law_row {f : Addr} {fd : FuncData} (F : Fn K "_law_row" s_law_row f fd) (g : mg "_law_row" = some (.ref f)) (B : Bi mg) (c_cell : C8.Cal P w K mg base 1 "_law_cell_at" (spCellAt K) []) (c_lcan : C8.Cal P w K mg base 2 "_law_can" (spLCan K) []) : C8.Cal P w K mg base 3 "_law_row" (spLRow K) [] := by
  refine cal_of F g sc_law_row (bi_law_row F) (fun vs H Q E h => ?_) (fun cdv A outer s H vs Q E hr h => ?_)
  · obtain ⟨a, td, t, ns, R, trips, rfl, _⟩ := h
    rfl
  · obtain ⟨a, td, t, ns, R, trips, rfl, hS, hR, hlen, hp, hT, okT, hn, q⟩ := h
    refine ⟨_, (pss_cons (ps_if (pt_cmpR (op_eqD hr.units) (pv 2) (pe_lst pa_nil) (nomark _)) (pss_one (ps_ret (pe_lst pa_nil))) pss_nil) (pss_cons (ps_set (i := 3) sc_law_row.nd rfl (Or.inl rfl) (C8.pe_c c_cell hr (by decide) (by rfl) (pa_cons (pv 0) (pa_cons pe_int pa_nil)))) (pss_cons (ps_if (pt_cmpR op_eq (pe_op op_mod (pv 3) pe_int) pe_int (nomark _)) (pss_one (ps_ret (pe_lc (own := [("_law_k", 8)]) (g := gName 8) (tt := tYes) rfl sc_law_row.nd (pi_range1 (by rfl) B.range (pa_cons (pe_op op_mod (pe_op op_fdiv (pv 3) pe_int) pe_int) pa_nil)) (blkOk_by (N := ["_law_script", "_law_told", "_law_trips_here", "_law_cell", "_law_row_here", "_law_numbers", "_law_begin", "_law_number", "_law_k"]) (sc := defScope s_law_row) (by decide +kernel)) (fun _ _ _ _ _ => pg_name (i := 8) sc_law_row.nd rfl (Or.inl rfl)) (fun _ _ _ _ _ => pts_nil) (fun _ _ _ _ _ => (pe_op op_mod (C8.pe_c c_cell hr (by decide) (by rfl) (pa_cons (pv 0) (pa_cons (pe_op op_add pe_int (pv 8)) pa_nil))) (pe_callB (r := rLenS K) call_len_seq (by rfl) B.len PySem.boot_len (pa_cons (pv 2) pa_nil))))))) pss_nil) (pss_cons (ps_set (i := 4) sc_law_row.nd rfl (Or.inl rfl) (pe_lst pa_nil)) (pss_cons (ps_set (i := 5) sc_law_row.nd rfl (Or.inl rfl) (pe_callB (r := rSortedP K) cr_sortedP (by rfl) B.sorted (by decide +kernel) (pa_cons (pe_lc (own := [("_law_k", 8)]) (g := gName 8) (tt := tYes) rfl sc_law_row.nd (pi_range1 (by rfl) B.range (pa_cons (pe_callB (r := rLenS K) call_len_seq (by rfl) B.len PySem.boot_len (pa_cons (pv 2) pa_nil)) pa_nil)) (blkOk_by (N := ["_law_script", "_law_told", "_law_trips_here", "_law_cell", "_law_row_here", "_law_numbers", "_law_begin", "_law_number", "_law_k"]) (sc := defScope s_law_row) (by decide +kernel)) (fun _ _ _ _ _ => pg_name (i := 8) sc_law_row.nd rfl (Or.inl rfl)) (fun _ _ _ _ _ => pts_nil) (fun _ _ _ _ _ => (pe_tup (pa_cons (pe_ix (r := rIxT K) ix_tup (pe_ix (r := rIxL K) ix_list (pv 2) (pv 8) (fun _ _ => rfl)) pe_int (fun _ _ => rfl)) (pa_cons (pv 8) pa_nil))))) pa_nil))) (pss_cons (ps_for PassesOwn.never rfl (pi_list (pv 5)) (pg_tup (by rfl) (pgs_cons (pg_name (i := 6) sc_law_row.nd rfl (Or.inl rfl)) (pgs_cons (pg_name (i := 7) sc_law_row.nd rfl (Or.inl rfl)) pgs_nil))) (pss_one (ps_if (PW.pt (pw_or (pt_cmpR (op_eqD hr.units) (pv 4) (pe_lst pa_nil) (nomark _)) (pw_or1 (pt_val (C8.pe_c c_lcan hr (by decide) (by rfl) (pa_cons (pv 1) (pa_cons (pe_ix (r := rIxL K) ix_list (pv 2) (pe_ix (r := rIxL K) ix_list (pv 4) (pe_un un_neg pe_int) (fun _ _ => rfl)) (fun _ _ => rfl)) (pa_cons (pe_ix (r := rIxL K) ix_list (pv 2) (pv 7) (fun _ _ => rfl)) pa_nil)))))))) (pss_one (ps_expr (pe_bm PySem.F.plainAttrs_list PySem.F.slot_list_append PySem.F.type_list_append mt_append (pv 4) (pa_cons (pv 7) pa_nil)))) pss_nil))) (pss_one (ps_ret (pv 4))))))))), ?_⟩
    refine ⟨_, rfl, Nat.zero_le _, fun x nx => ?_⟩
    have sx : Same H (upd H x (.lst [])) := same_upd nx
    obtain ⟨qt, hqt, hTt⟩ := hT
    have ll : (qt.map V.ref).length = trips.length := by rw [List.length_map, hTt.1]
    have sh2 := sh_trips okT
    have E1 : PyData.eqv (.list (trips.map tripD)) (.list []) = trips.isEmpty := by
      cases trips with
      | nil => simp [PyData.eqv, PyData.eqvAll]
      | cons k l => simp [PyData.eqv, PyData.eqvAll]
    refine ⟨_, _, dp_trips ⟨qt, sx.seq hqt, hTt.same sx⟩, .lst (sqL_of upd_same) .nil, sh2.ok (by decide), sh_nil0.ok (by decide), ?_⟩
    rw [E1]
    generalize upd H x (.lst []) = H1 at *
    have tat : ∀ {H' : Hp}, Same H H' → ∀ {i : Nat} {x : Trip}, trips[i]? = some x → ∃ q', atI (qt.map V.ref) (i : Int) = some (.ref q') ∧ SqT K H' q' (tripV x) := fun s i x hx => by
      obtain ⟨q', hq, hs⟩ := (hTt.same s).addr hx
      exact ⟨q', atI_nat (by rw [List.getElem?_map, hq]; rfl), hs⟩
    cases he : trips.isEmpty with
    | true => exact ⟨_, rfl, if_t rfl ⟨Nat.zero_le _, fun p np => q _ p [] (sx.trans (same_upd np)) (sx.free np) upd_same (fun _ h => nomatch h) (Nat.zero_le _)⟩⟩
    | false =>
      have hpos : 0 < trips.length := by
        cases trips with
        | nil => cases he
        | cons _ _ => exact Nat.succ_pos _
      refine ⟨_, rfl, if_f rfl ?_⟩
      refine ⟨_, rfl, a, ns, 24, rfl, sx.seq hS, by omega, ?_⟩
      generalize hcell : cellAt ns 24 = cell
      refine ⟨_, rfl, _, _, rfl, rfl, (by show (0 : Int) < 2; decide), rfl, _, rfl, ite2 (fun c1 => ?_) (fun c1 => ?_)⟩
      · refine ⟨_, rfl, _, _, rfl, rfl, ⟨by decide, by decide⟩, _, _, rfl, rfl, (by show (0 : Int) < 5; decide), cell / 2 % 5, rfl, by omega, by omega, fun D nD => ?_⟩
        refine lc_range (lo := 0) (n := (cell / 2 % 5).toNat) (fun j H' => Same H1 H' ∧ ∃ row, H' D = some (.lst (nV row)) ∧ (∀ x ∈ row, x < trips.length) ∧ row.length = j) ⟨same_upd nD, [], upd_same, (fun _ h => nomatch h), rfl⟩ ?_ ?_
        · rintro j H2 hj ⟨s2, row, e2, hlt, hl⟩
          have S2 := sx.trans s2
          refine ⟨rfl, ?_⟩
          have h0 : (0 : Int) < ((qt.map V.ref).length : Nat) := by omega
          have hx0 := Int.emod_nonneg (cellAt ns (25 + (0 + (j : Int)))) (show (((qt.map V.ref).length : Nat) : Int) ≠ 0 by omega)
          have hx1 := Int.emod_lt_of_pos (cellAt ns (25 + (0 + (j : Int)))) h0
          refine ⟨_, rfl, _, rfl, _, _, rfl, rfl, a, ns, _, rfl, S2.seq hS, by omega, _, rfl, t, _, rfl, .inl (S2.seq hqt), _, _, rfl, rfl, h0, _, e2, ?_, same_put s2 nD, row ++ [(cellAt ns (25 + (0 + (j : Int))) % ((qt.map V.ref).length : Nat)).toNat], ?_, fun x hx => ?_, ?_⟩
          · rw [List.length_map]
            exact small1000 (by omega)
          · rw [upd_same, nV_add]
            rw [show (((cellAt ns (25 + (0 + (j : Int))) % ((qt.map V.ref).length : Nat)).toNat : Nat) : Int) = cellAt ns (25 + (0 + (j : Int))) % ((qt.map V.ref).length : Nat) by omega]
          · rcases List.mem_append.mp hx with h | h
            · exact hlt x h
            · rw [List.mem_singleton.mp h]
              omega
          · rw [List.length_append, hl]
            rfl
        · rintro H2 ⟨s2, row, e2, hlt, hl⟩
          exact q _ D row (sx.trans s2) (sx.free nD) e2 hlt (by omega)
      · refine ⟨Nat.zero_le _, fun rw_ nrw => ?_⟩
        have nrw0 : H rw_ = none := sx.free nrw
        have srw : Same H1 (upd H1 rw_ (.lst [])) := same_upd nrw
        have erw : (upd H1 rw_ (.lst [])) rw_ = some (.lst (nV [])) := upd_same
        generalize upd H1 rw_ (.lst []) = H2 at *
        have S2 := sx.trans srw
        refine ⟨_, rfl, t, _, rfl, .inl (S2.seq hqt), ((qt.map V.ref).length : Nat), rfl, by omega, by omega, fun D nD => ?_⟩
        refine lc_range (lo := 0) (n := (qt.map V.ref).length) (fun j H' => Same H2 H' ∧ ∃ ps : List Addr, H' D = some (.lst (ps.map V.ref)) ∧ ps.length = j ∧ ∀ q1 ∈ ps, ∃ (b : Int) (k : Nat), k < trips.length ∧ H' q1 = some (.tup [.int b, .int (k : Int)])) ⟨same_upd nD, [], upd_same, rfl, (fun _ h => nomatch h)⟩ ?_ ?_
        · rintro j H4 hj ⟨s4, ps, e4, hps, hall⟩
          rw [ll] at hj
          obtain ⟨x, hx⟩ : ∃ x, trips[j]? = some x := ⟨_, List.getElem?_eq_getElem hj⟩
          obtain ⟨q1, at1, hs1⟩ := tat (S2.trans s4) hx
          have at1' : atI (qt.map V.ref) (0 + (j : Int)) = some (.ref q1) := by rw [Int.zero_add]; exact at1
          refine ⟨rfl, ?_⟩
          refine ⟨_, rfl, _, rfl, t, _, _, _, rfl, rfl, (S2.trans s4).seq hqt, at1', q1, _, 1, _, rfl, rfl, hs1, atI_nat (j := 1) rfl, _, rfl, (by show 2 ≤ sizeLine; decide), fun T hT => ?_⟩
          have s5 : Same H4 (upd H4 T (.tup [.int x.2.1, .int (0 + (j : Int))])) := same_upd hT
          refine ⟨_, s5 _ _ e4, ?_, same_put (s4.trans s5) nD, ps ++ [T], ?_, ?_, fun q2 hq2 => ?_⟩
          · rw [List.length_map, hps]
            exact small1000 (by omega)
          · rw [upd_same, List.map_append]
            rfl
          · rw [List.length_append, hps]
            rfl
          · have keep : ∀ {k : Addr} {ys : List V}, (upd H4 T (.tup [.int x.2.1, .int (0 + (j : Int))])) k = some (.tup ys) → (upd (upd H4 T (.tup [.int x.2.1, .int (0 + (j : Int))])) D (.lst (ps.map V.ref ++ [.ref T]))) k = some (.tup ys) := fun {k ys} h => by
              rw [upd_ne fun e : k = D => by
                rw [e, s5 _ _ e4] at h
                cases h]
              exact h
            rcases List.mem_append.mp hq2 with h | h
            · obtain ⟨b, k, h1, h2⟩ := hall q2 h
              exact ⟨b, k, h1, keep (s5 _ _ h2)⟩
            · rw [List.mem_singleton.mp h]
              exact ⟨_, j, hj, keep (by rw [upd_same, Int.zero_add])⟩
        · rintro H4 ⟨s4, ps, e4, hps, hall⟩
          refine ⟨D, _, rfl, sqL_of e4, fun y hy => ?_, fun ys p0 hperm np0 => ?_⟩
          · obtain ⟨q1, hq, rfl⟩ := List.mem_map.mp hy
            obtain ⟨b, k, _, h2⟩ := hall q1 hq
            exact ⟨q1, b, k, rfl, h2⟩
          have s5 : Same H4 (upd H4 p0 (.lst ys)) := same_upd np0
          have e5 : (upd H4 p0 (.lst ys)) p0 = some (.lst ys) := upd_same
          have nrw4 : rw_ ≠ p0 := ne_of_none (s4 _ _ erw) np0
          have erw5 : (upd H4 p0 (.lst ys)) rw_ = some (.lst (nV [])) := s5 _ _ (s4 _ _ erw)
          have hyl : ys.length = trips.length := by rw [hperm.length_eq, List.length_map, hps, ll]
          generalize upd H4 p0 (.lst ys) = H5 at *
          have S5 := (S2.trans s4).trans s5
          refine ⟨_, rfl, p0, rfl, ⟨_, sqL_of e5⟩, for_list (K := K) (a := p0) (xs := ys) (fun i σ H' => Same H H' ∧ (∀ b o, b ≠ rw_ → H5 b = some o → H' b = some o) ∧ ∃ (row : List Nat) (y6 y7 : Option V), σ = [some (.ref a), some (.ref td), some (.ref t), some (.int cell), some (.ref rw_), some (.ref p0), y6, y7, none] ∧ H' rw_ = some (.lst (nV row)) ∧ (∀ x ∈ row, x < trips.length) ∧ row.length ≤ i)
            ⟨S5, (fun _ _ _ h => h), [], none, none, rfl, erw5, (fun _ h => nomatch h), Nat.le_refl _⟩ (fun i σ H' _ ⟨_, k, _⟩ => sqL_of (k p0 _ nrw4.symm e5)) ?_ ?_⟩
          · rintro i y σ H6 hi ⟨s6, keep, row, y6, y7, rfl, er, hlt, hl⟩
            obtain ⟨q1, hq, rfl⟩ := List.mem_map.mp (hperm.mem_iff.mp (List.mem_of_getElem? hi))
            obtain ⟨b, k, hk, h2⟩ := hall q1 hq
            have hq1 : q1 ≠ rw_ := fun e => by
              rw [e, s4 _ _ erw] at h2
              cases h2
            have h6 := keep q1 _ hq1 (s5 _ _ h2)
            have hil : i < trips.length := by
              rw [← hyl]
              exact (List.getElem?_eq_some_iff.mp hi).1
            refine ⟨q1, _, rfl, sqT_of h6, rfl, _, _, rfl, _, _, rfl, rfl, ?_⟩
            refine ⟨_, rfl, Nat.zero_le _, fun e nE => ?_⟩
            have s7 : Same H6 (upd H6 e (.lst [])) := same_upd nE
            obtain ⟨d, e', D1, D2, S1, S2', E2⟩ := ne_nil_of (K := K) (s7 _ _ er) (upd_same (a := e))
            refine ⟨d, e', D1, D2, S1, S2', ?_⟩
            rw [E2]
            have keep7 : ∀ b o, b ≠ rw_ → H5 b = some o → (upd H6 e (.lst [])) b = some o := fun b o hb h => s7 _ _ (keep b o hb h)
            have er7 := s7 _ _ er
            have s67 := s6.trans s7
            generalize upd H6 e (.lst []) = H7 at *
            have app : ∀ H8, Same H7 H8 → ∃ acc, H8 rw_ = some (.lst acc) ∧ acc.length < sizeLine ∧ Same H (upd H8 rw_ (.lst (acc ++ [.int (k : Int)]))) ∧ (∀ b o, b ≠ rw_ → H5 b = some o → (upd H8 rw_ (.lst (acc ++ [.int (k : Int)]))) b = some o) ∧ ∃ row' : List Nat, (upd H8 rw_ (.lst (acc ++ [.int (k : Int)]))) rw_ = some (.lst (nV row')) ∧ (∀ x ∈ row', x < trips.length) ∧ row'.length ≤ i + 1 := fun H8 s8 => by
              refine ⟨_, s8 _ _ er7, ?_, same_put (s67.trans s8) nrw0, fun b o hb h => ?_, row ++ [k], ?_, fun x hx => ?_, ?_⟩
              · rw [List.length_map]
                exact small1000 (by omega)
              · rw [upd_ne hb]
                exact s8 _ _ (keep7 b o hb h)
              · rw [upd_same, nV_add]
              · rcases List.mem_append.mp hx with h | h
                · exact hlt x h
                · rw [List.mem_singleton.mp h]
                  exact hk
              · rw [List.length_append]
                show _ + 1 ≤ _
                omega
            rcases List.eq_nil_or_concat row with rfl | ⟨row', last, rfl⟩
            · obtain ⟨acc, a1, a2, a3, a4, row2, a5, a6, a7⟩ := app H7 (Same.refl _)
              exact ⟨_, rfl, if_t rfl (if_t rfl ⟨_, rfl, .inl ⟨rfl, _, sqL_of a1⟩, _, rfl, rw_, acc, _, rfl, rfl, a1, a2, a3, a4, row2, _, _, rfl, a5, a6, a7⟩)⟩
            · rw [List.concat_eq_append] at *
              have hne : (row' ++ [last]).isEmpty = false := by cases row' <;> rfl
              rw [hne]
              have al : atI (nV (row' ++ [last])) (-1) = some (.int last) := by
                rw [nV_add]
                exact atI_last _ _
              obtain ⟨x1, hx1⟩ : ∃ x, trips[last]? = some x := ⟨_, List.getElem?_eq_getElem (hlt last (List.mem_append_right _ List.mem_cons_self))⟩
              obtain ⟨x2, hx2⟩ : ∃ x, trips[k]? = some x := ⟨_, List.getElem?_eq_getElem hk⟩
              obtain ⟨p1, at1, g1⟩ := tat s67 hx1
              obtain ⟨p2, at2, g2⟩ := tat s67 hx2
              refine ⟨_, rfl, if_f rfl ?_⟩
              refine ⟨_, rfl, _, rfl, _, rfl, _, rfl, rw_, _, _, _, rfl, rfl, sqL_of er7, al, t, _, _, _, rfl, rfl, s67.seq hqt, at1, _, rfl, _, rfl, t, _, _, _, rfl, rfl, s67.seq hqt, at2, td, p1, p2, R, x1, x2, rfl, hR.same s67, hlen, hp, g1, g2, fun H8 s8 => ⟨_, rfl, ?_⟩⟩
              cases canM R x1 x2 with
              | true =>
                obtain ⟨acc, a1, a2, a3, a4, row2, a5, a6, a7⟩ := app H8 s8
                exact if_t rfl ⟨_, rfl, .inl ⟨rfl, _, sqL_of a1⟩, _, rfl, rw_, acc, _, rfl, rfl, a1, a2, a3, a4, row2, _, _, rfl, a5, a6, a7⟩
              | false => exact if_f rfl ⟨s67.trans s8, fun b o hb h => s8 _ _ (keep7 b o hb h), row' ++ [last], _, _, rfl, s8 _ _ er7, hlt, by omega⟩
          · rintro σ H6 ⟨s6, keep, row, y6, y7, rfl, er, hlt, hl⟩
            exact ⟨_, rfl, q H6 rw_ row s6 nrw0 er hlt (by omega)⟩
end
end Fb
/-! day of a row that is not in time; _law_refused of law_k05. -/
namespace Fb
open PySem PySem.Spec PyProof.Rows L2
def spDayLate (K : PySem.W.Frag) (C : Addr) : Sp := fun vs H _ E => ∃ (a b rw : Addr) (rides : List Ride) (trips : List Trip) (row : List Nat) (ts : List Trip), vs = [.ref a, .ref b, .ref rw] ∧ Told2 K H a b rides trips ∧ SqL K H rw (nV row) ∧ row.length ≤ 100 ∧ RowT trips row ts ∧
  (∃ k t u, ts[k]? = some t ∧ ts[k + 1]? = some u ∧ canM (roadsM rides trips) t u = false) ∧ ∀ H', Same H H' → E (.ref C) none H'
def spRefused (K : PySem.W.Frag) : Sp := fun vs H Q _ => ∃ (a b rw : Addr) (rides : List Ride) (trips : List Trip) (row : List Nat) (ts : List Trip), vs = [.ref a, .ref b, .ref rw] ∧ Told2 K H a b rides trips ∧ SqL K H rw (nV row) ∧ row.length ≤ 100 ∧ RowT trips row ts ∧
  (∃ k t u, ts[k]? = some t ∧ ts[k + 1]? = some u ∧ canM (roadsM rides trips) t u = false) ∧ ∀ H', Same H H' → Q (.bl true) H'
theorem call_isX {X : Cx} {a D : Addr} {oe : Obj} {cls : Value} {d : Option Addr} {pn : List (Addr × Obj)} (C : ExcC X.K D) (hz : Zc cls d oe) (hf : ∃ vs, oe.data = .fields vs) : CallR (X.suite a ((a, oe) :: pn)) (.builtin "isinstance") (fun xs H Q => cls = .ref D ∧ d = none ∧ rIsE X.K D a xs H Q) := by
  intro pins s σ H xs us Q I r h
  obtain ⟨ec, ed, h⟩ := h
  subst ec
  subst ed
  exact call_isE C hz hf pins s σ H xs us Q I r h
section
variable {P : Program} {w : World} {K : PySem.W.Frag} {mg : Str → Option Value} {base : Heap}
theorem ok_day_late {f : Addr} {fd : FuncData} {C : Addr} (F : Fn K "day" s_day f fd) (B : Bi mg) (c_roads : C8.Cal P w K mg base 4 "roads" (spRoads K) []) (c_need_number : C8.Cal P w K mg base 2 "need_number" (spNeedN K) []) (c_can : C8.Cal P w K mg base 6 "can" (spCan K) [])
    (gC : mg "NotInTime" = some (.ref C)) (qC : PySem.W.excIn K C He.veBase "ValueError.__new__" = true) (kC : PySem.W.keepIn K (.ref C) = true) (exC : PySem.W.subIn K (.ref C) (.type "BaseException") = some true) (tyC : PySem.W.typeIn K (.ref C) = some (.type "type")) :
    FnOk P w K mg base (L2.CX P w) 7 f fd ["rides", "trips", "row"] (spDayLate K C) := by
  refine F.ok sc_day (fun vs H Q E h => ?_) (fun cdv A outer s H vs Q E hr h => ?_)
  · obtain ⟨a, b, rw, rides, trips, row, ts, rfl, _⟩ := h
    rfl
  · obtain ⟨a, b, rw_, rides, trips, row, ts, rfl, T, hrow, hlen, ⟨htl, hts⟩, ⟨kl, tl, ul, htl1, hul1, hlate⟩, q⟩ := h
    refine ⟨_, (pss_cons (ps_set (i := 3) sc_day.nd rfl (Or.inl rfl) (C8.pe_c c_roads hr (by decide) (by rfl) (pa_cons (pv 0) (pa_cons (pv 1) pa_nil)))) (pss_cons (ps_for (passes_of rfl) rfl (pi_list (pv 2)) (pg_name (i := 4) sc_day.nd rfl (Or.inl rfl)) (pss_one (ps_expr (C8.pe_c c_need_number hr (by decide) (by rfl) (pa_cons (pv 1) (pa_cons (pv 4) pa_nil)))))) (pss_cons (ps_for (passes_of rfl) rfl (pi_range2 (by rfl) B.range (pa_cons pe_int (pa_cons (pe_callB (r := rLenS K) call_len_seq (by rfl) B.len PySem.boot_len (pa_cons (pv 2) pa_nil)) pa_nil))) (pg_name (i := 5) sc_day.nd rfl (Or.inl rfl)) (pss_one (ps_if (pt_not (pt_val (C8.pe_c c_can hr (by decide) (by rfl) (pa_cons (pv 0) (pa_cons (pv 1) (pa_cons (pe_ix (r := rIxL K) ix_list (pv 2) (pe_op op_sub (pv 5) pe_int) (fun _ _ => rfl)) (pa_cons (pe_ix (r := rIxL K) ix_list (pv 2) (pv 5) (fun _ _ => rfl)) pa_nil))))))) (pss_one (ps_raise rfl (takes_of rfl rfl rfl rfl) (pmk_own PySem.F.excBase_ValueError qC gC kC (raises_own exC tyC) rfl))) pss_nil))) pss_never))), ?_⟩
    obtain ⟨qt, hqt, hTt⟩ := T.lT
    have h101 := T.lenT
    have lrow : (nV row).length = row.length := by rw [List.length_map]
    have ll : (qt.map V.ref).length = trips.length := by rw [List.length_map, hTt.1]
    refine ⟨_, rfl, _, rfl, a, b, rides, trips, rfl, T, fun H1 ro qo s1 nro ero tro => ?_⟩
    refine ⟨_, rfl, rw_, rfl, ⟨_, s1.seq hrow⟩, for_list (K := K) (a := rw_) (xs := nV row) (fun i σ H' => H' = H1 ∧ ∃ y4, σ = [some (.ref a), some (.ref b), some (.ref rw_), some (.ref ro), y4, none, none, none, none]) ⟨rfl, none, rfl⟩ (fun i σ H' _ ⟨e, _⟩ => e ▸ s1.seq hrow) ?_ ?_⟩
    · rintro i v σ H2 hi ⟨rfl, y4, rfl⟩
      obtain ⟨n, rfl, hn⟩ := nV_get hi
      obtain ⟨t, ht, _⟩ := hts i n hn
      have hnl := (List.getElem?_eq_some_iff.mp ht).1
      exact ⟨_, rfl, _, rfl, b, _, n, rfl, s1.seq hqt, by omega, by rw [ll]; omega, rfl, _, rfl⟩
    rintro σ H2 ⟨rfl, y4, rfl⟩
    refine ⟨_, rfl, rw_, _, rfl, .inl (s1.seq hrow), 1, ((nV row).length : Nat), rfl, ⟨by decide, by decide, by omega, by omega⟩, for_range (lo := 1) (n := (((nV row).length : Int) - 1).toNat) (fun i σ H' => Same H2 H' ∧ (∃ y5, σ = [some (.ref a), some (.ref b), some (.ref rw_), some (.ref ro), y4, y5, none, none, none]) ∧ ∀ k t u, k < i → ts[k]? = some t → ts[k + 1]? = some u → canM (roadsM rides trips) t u = true) ⟨Same.refl _, ⟨none, rfl⟩, fun k t u h => absurd h (Nat.not_lt_zero k)⟩ ?_ ?_⟩
    · rintro i σ H3 hi ⟨s3, ⟨y5, rfl⟩, hok⟩
      have S3 := s1.trans s3
      obtain ⟨u, hu⟩ : ∃ u, row[i]? = some u := ⟨_, List.getElem?_eq_getElem (by omega)⟩
      obtain ⟨v, hv⟩ : ∃ v, row[i + 1]? = some v := ⟨_, List.getElem?_eq_getElem (by omega)⟩
      obtain ⟨tu, htu, htu2⟩ := hts i u hu
      obtain ⟨tv, htv, htv2⟩ := hts (i + 1) v hv
      have ek1 : (1 + (i : Int)) - 1 = (i : Nat) := by omega
      have ek2 : (1 + (i : Int)) = ((i + 1 : Nat) : Int) := by omega
      have au : atI (nV row) (1 + (i : Int) - 1) = some (.int u) := by rw [ek1]; exact nV_at hu
      have av : atI (nV row) (1 + (i : Int)) = some (.int v) := by rw [ek2]; exact nV_at hv
      refine ⟨_, rfl, _, rfl, _, rfl, _, rfl, _, _, rfl, rfl, rw_, _, _, _, rfl, rfl, S3.seq hrow, au, _, rfl, _, rfl, rw_, _, _, _, rfl, rfl, S3.seq hrow, av, a, b, rides, trips, u, v, tu, tv, rfl, T.same S3, htu, htv, fun H4 s4 => ⟨_, rfl, ?_⟩⟩
      cases hc : canM (roadsM rides trips) tu tv with
      | true =>
        refine if_f rfl ⟨s3.trans s4, ⟨_, rfl⟩, fun k t' u' hk h1 h2 => ?_⟩
        by_cases e : k = i
        · subst e
          rw [htu2] at h1
          rw [htv2] at h2
          cases h1
          cases h2
          exact hc
        · exact hok k t' u' (by omega) h1 h2
      | false => exact if_t rfl (q H4 (S3.trans s4))
    rintro σ H3 ⟨s3, _, hok⟩
    have hk := (List.getElem?_eq_some_iff.mp hul1).1
    have := hok kl tl ul (by omega) htl1 hul1
    rw [hlate] at this
    cases this
theorem cal_law_refused {f fD : Addr} {fd fdD : FuncData} {C CB : Addr} (F : Fn K "_law_refused" s_law_refused f fd) (g : mg "_law_refused" = some (.ref f)) (B : Bi mg) (FD : Fn K "day" s_day fD fdD) (gD : mg "day" = some (.ref fD)) (G : FnOk P w K mg base (L2.CX P w) 7 fD fdD ["rides", "trips", "row"] (spDayLate K C))
    (gC : mg "NotInTime" = some (.ref C)) (gB : mg "BusError" = some (.ref CB)) (te : PySem.W.exmOne K (.ref C) (.ref CB) = some true) (XC : ExcC K C) (k1 : PySem.W.kitOne K (.ref C) (.ref C) = some true) (k2 : PySem.W.kitOne K (.ref C) (.type "ValueError") = some true) (fV : mg "ValueError" = none) :
    C8.Cal P w K mg base 8 "_law_refused" (spRefused K) [] := by
  refine cal_of F g sc_law_refused (bi_law_refused F) (fun vs H Q E h => ?_) (fun cdv A outer s H vs Q E hr h => ?_)
  · obtain ⟨a, b, rw, rides, trips, row, ts, rfl, _⟩ := h
    rfl
  · obtain ⟨a, b, rw_, rides, trips, row, ts, rfl, T, hrow, hlen, hrt, hlate, q⟩ := h
    have bD := bi_day FD
    refine ⟨_, pss_cons (ps_try_as (i := 3) (tb := fun W => _) (ts := fun a cls d => _) (Wout := fun _ _ _ _ => False) rfl rfl sc_law_refused.nd rfl rfl ⟨rfl, by decide, Or.inl gB⟩ takes0
      (fun W pn xe tk _ => pss_one (ps_expr (by exact (pe_callS G hr rfl gD FD.kp bD (fun σ => passAt tk σ) (by exact (pa_cons (pv 0) (pa_cons (pv 1) (pa_cons (pv 2) pa_nil))))))))
      (fun a oe cls d pn hz hf => pss_one (ps_ret (pe_and (pe_callB (call_isX XC hz hf) (by rfl) B.isi (by decide +kernel) (pa_cons (pv 3) (pa_cons (pe_glob (v := .ref C) rfl gC rfl) pa_nil)))
        (pe_one (pe_callB (call_isX XC hz hf) (by rfl) B.isi (by decide +kernel) (pa_cons (pv 3) (pa_cons (pe_bltn (v := .ty "ValueError") (u := .type "ValueError") (by rfl) fV (by decide +kernel) (by rfl)) pa_nil)))))))) (pss_one (ps_ret pe_bl)), ?_⟩
    refine ⟨_, rfl, _, rfl, _, rfl, a, b, rw_, rides, trips, row, ts, rfl, T, hrow, hlen, hrt, hlate, fun H1 s1 => ⟨true, te, fun _ a0 _ => ?_, fun z => Bool.noConfusion z⟩⟩
    refine ⟨_, rfl, rfl, rfl, _, _, true, rfl, fun _ h => h, k1, _, rfl, if_t rfl ?_⟩
    exact ⟨_, rfl, rfl, rfl, _, _, true, rfl, fun _ h => h, k2, q _ s1⟩
end
end Fb
/-! law_k05: day. -/
namespace Fb
open PySem PySem.Spec PyProof.Rows L2
abbrev lawLevel : Nat := 9
def spLaw (K : PySem.W.Frag) : Sp := fun vs H Q _ => ∃ (a : Addr) (ns : List Int), vs = [.ref a] ∧ SqL K H a (ns.map V.int) ∧ ns.length ≤ 63 ∧ ∀ H', Q (.bl true) H'
def tsOf (trips : List Trip) (row : List Nat) : List Trip := row.map fun n => trips[n]?.getD (("", 0, "", 0) : Trip)
theorem tsOf_len (trips : List Trip) (row : List Nat) : (tsOf trips row).length = row.length := List.length_map _
theorem rowT_of {trips : List Trip} {row : List Nat} (h : ∀ x ∈ row, x < trips.length) : RowT trips row (tsOf trips row) := by
  refine ⟨tsOf_len trips row, fun k n hk => ?_⟩
  have hn := h n (List.mem_of_getElem? hk)
  refine ⟨trips[n], List.getElem?_eq_getElem hn, ?_⟩
  unfold tsOf
  rw [List.getElem?_map, hk]
  show some (trips[n]?.getD _) = _
  rw [List.getElem?_eq_getElem hn]
  rfl
theorem dp_three {K : PySem.W.Frag} {H : Hp} {x a b c : Addr} {rides : List Ride} {trips : List Trip} {row : List Nat} (hx : SqL K H x [.ref a, .ref b, .ref c]) (h1 : Rows K H rideV a rides) (h2 : Rows K H tripV b trips) (h3 : SqL K H c (nV row)) :
    Dp K H (.ref x) (.list [.list (rides.map rideD), .list (trips.map tripD), .list (row.map fun k : Nat => PyData.int (k : Int))]) := .lst hx (.cons (dp_rides h1) (.cons (dp_trips h2) (.cons (.lst h3 (dp_nats row)) .nil)))
theorem sh_three {rides : List Ride} {trips : List Trip} {row : List Nat} (h1 : ∀ r ∈ rides, okRide r) (h2 : ∀ t ∈ trips, okTrip t) : Sh 3 (.list [.list (rides.map rideD), .list (trips.map tripD), .list (row.map fun k : Nat => PyData.int (k : Int))]) := sh_list fun d hd => by
  rcases List.mem_cons.mp hd with rfl | hd
  · exact sh_rides fun r hr => ⟨(h1 r hr).1, (h1 r hr).2.1⟩
  rcases List.mem_cons.mp hd with rfl | hd
  · exact sh_trips h2
  rw [List.mem_singleton.mp hd]
  exact (sh_nats row).up (by decide)
section
variable {P : Program} {w : World} {K : PySem.W.Frag} {mg : Str → Option Value} {base : Heap}
theorem cal_law {f : Addr} {fd : FuncData} (F : Fn K "law" s_law f fd) (B : Bi mg) (c_built : C8.Cal P w K mg base 3 "_law_built" (spBuilt K) [])
    (c_lroads : C8.Cal P w K mg base 1 "_law_roads" (spLRoads K) []) (c_row : C8.Cal P w K mg base 3 "_law_row" (spLRow K) []) (c_lcan : C8.Cal P w K mg base 2 "_law_can" (spLCan K) []) (c_day : C8.Cal P w K mg base 7 "day" (spDay K) [])
    (c_refused : C8.Cal P w K mg base 8 "_law_refused" (spRefused K) []) (c_stops : C8.Cal P w K mg base 2 "_law_stops" (spLStops K) []) (c_walked : C8.Cal P w K mg base 2 "_law_walked" (spWalked K) []) : FnOk P w K mg base CX0 9 f fd ["_law_script"] (spLaw K) := by
  refine F.ok sc_law (fun vs H Q E h => ?_) (fun cdv A outer s H vs Q E hr h => ?_)
  · obtain ⟨a, ns, rfl, _⟩ := h
    rfl
  · obtain ⟨a, ns, rfl, hS, hlen, q⟩ := h
    have hu := hu_of hr
    refine ⟨_, PSs.nox (pss_cons (ps_asg (C8.pe_c c_built hr (by decide) (by rfl) (pa_cons (pv 0) pa_nil)) (pg_tup (by rfl) (pgs_cons (pg_name (i := 1) sc_law.nd rfl (Or.inl rfl)) (pgs_cons (pg_name (i := 2) sc_law.nd rfl (Or.inl rfl)) (pgs_cons (pg_name (i := 3) sc_law.nd rfl (Or.inr rfl)) pgs_nil))))) (pss_cons (ps_set (i := 4) sc_law.nd rfl (Or.inr rfl) (C8.pe_c c_lroads hr (by decide) (by rfl) (pa_cons (pv 2) (pa_cons (pv 3) pa_nil)))) (pss_cons (ps_set (i := 5) sc_law.nd rfl (Or.inr rfl) (C8.pe_c c_row hr (by decide) (by rfl) (pa_cons (pv 0) (pa_cons (pv 4) (pa_cons (pv 3) pa_nil))))) (pss_cons (ps_set (i := 6) sc_law.nd rfl (Or.inl rfl) (pe_lst (pa_cons (pe_callTy call_list_of (by rfl) B.list (by decide +kernel) (pa_cons (pv 2) pa_nil)) (pa_cons (pe_callTy call_list_of (by rfl) B.list (by decide +kernel) (pa_cons (pv 3) pa_nil)) (pa_cons (pe_callTy call_list_of (by rfl) B.list (by decide +kernel) (pa_cons (pv 5) pa_nil)) pa_nil))))) (pss_cons (ps_setLc (i := 7) (own := [("_law_k", 10)]) (g := gName 10)  (by rfl) sc_law.nd rfl rfl (sw_true rfl rfl rfl (by decide +kernel)) (pi_range2 (by rfl) B.range (pa_cons pe_int (pa_cons (pe_callB (r := rLenS K) call_len_seq (by rfl) B.len PySem.boot_len (pa_cons (pv 5) pa_nil)) pa_nil))) (blkOk_by (N := ["_law_script", "_law_names_here", "_law_rides_here", "_law_trips_here", "_law_told", "_law_row_here", "_law_handed", "_law_late", "_law_turn", "_law_found", "_law_k"]) (sc := defScope s_law) (by decide +kernel)) (fun _ _ _ _ _ => pg_name (i := 10) sc_law.nd rfl (Or.inl rfl)) (fun _ _ _ _ _ => (pts_one (pt_not (pt_val (C8.pe_c c_lcan hr (by decide) (by rfl) (pa_cons (pv 4) (pa_cons (pe_ix (r := rIxL K) ix_list (pv 3) (pe_ix (r := rIxL K) ix_list (pv 5) (pe_op op_sub (pv 10) pe_int) (fun _ _ => rfl)) (fun _ _ => rfl)) (pa_cons (pe_ix (r := rIxL K) ix_list (pv 3) (pe_ix (r := rIxL K) ix_list (pv 5) (pv 10) (fun _ _ => rfl)) (fun _ _ => rfl)) pa_nil)))))))) (fun _ _ _ _ _ => (pv 10))) (pss_cons (ps_if (pt_cmpR (op_neD hr.units) (pv 7) (pe_lst pa_nil) (nomark _)) (pss_one (ps_ret (pe_and (C8.pe_c c_refused hr (by decide) (by rfl) (pa_cons (pe_ix (r := rIxL K) ix_list (pv 6) pe_int (fun _ _ => rfl)) (pa_cons (pe_ix (r := rIxL K) ix_list (pv 6) pe_int (fun _ _ => rfl)) (pa_cons (pe_ix (r := rIxL K) ix_list (pv 6) pe_int (fun _ _ => rfl)) pa_nil)))) (pe_one (pe_cmpR (op_eqD hr.units) (pv 6) (pe_lst (pa_cons (pv 2) (pa_cons (pv 3) (pa_cons (pv 5) pa_nil)))) (nomark _)))))) pss_nil) (pss_cons (ps_for PassesOwn.never rfl (pi_range1 (by rfl) B.range (pa_cons pe_int pa_nil)) (pg_name (i := 8) sc_law.nd rfl (Or.inl rfl)) (pss_cons (ps_set (i := 9) sc_law.nd rfl (Or.inl rfl) (C8.pe_c c_day hr (by decide) (by rfl) (pa_cons (pe_ix (r := rIxL K) ix_list (pv 6) pe_int (fun _ _ => rfl)) (pa_cons (pe_ix (r := rIxL K) ix_list (pv 6) pe_int (fun _ _ => rfl)) (pa_cons (pe_ix (r := rIxL K) ix_list (pv 6) pe_int (fun _ _ => rfl)) pa_nil))))) (pss_cons (ps_if (PW.pt (pw_or (pt_not (pt_val (C8.pe_c c_stops hr (by decide) (by rfl) (pa_cons (pv 9) pa_nil)))) (pw_or1 (pt_not (pt_val (C8.pe_c c_walked hr (by decide) (by rfl) (pa_cons (pv 4) (pa_cons (pv 3) (pa_cons (pv 5) (pa_cons (pv 9) (pa_cons pe_bl pa_nil))))))))))) (pss_one (ps_ret pe_bl)) pss_nil) (pss_one (ps_expr (pe_bm PySem.F.plainAttrs_list PySem.F.slot_list_append PySem.F.type_list_append mt_append (pv 9) (pa_cons (pe_tup (pa_cons pe_str (pa_cons pe_int pa_nil))) pa_nil))))))) (pss_one (ps_ret (pe_cmpR (op_eqD hr.units) (pv 6) (pe_lst (pa_cons (pv 2) (pa_cons (pv 3) (pa_cons (pv 5) pa_nil)))) (nomark _))))))))))), ?_⟩
    refine ⟨_, rfl, a, ns, rfl, hS, fun H1 p n r t names rides trips qr qt b ep => ?_⟩
    refine ⟨p, _, rfl, sqT_of ep, rfl, _, _, rfl, _, _, rfl, _, _, rfl, rfl, ?_⟩
    have S1 := b.same
    have hlr := b.lr
    have hlt := b.lt
    have okR := b.okR
    have okT := b.okT
    have hp := posR okR okT
    have lM := roadsM_len rides trips
    have R1 : Rows K H1 rideV r rides := ⟨qr, sqL_of b.er, b.tr⟩
    have T1 : Rows K H1 tripV t trips := ⟨qt, sqL_of b.et, b.tt⟩
    refine ⟨_, rfl, _, rfl, r, t, rides, trips, rfl, R1, T1, by omega, by omega, fun H2 td qd s2 ntd etd ttd => ?_⟩
    have hTd : Rows K H2 rideV td (roadsM rides trips) := ⟨qd, sqL_of etd, ttd⟩
    refine ⟨_, rfl, _, rfl, _, rfl, a, td, t, ns, roadsM rides trips, trips, rfl, (S1.trans s2).seq hS, hTd, by omega, hp, T1.same s2, okT, by omega, fun H3 rw_ row s3 nrw erw hrlt hrl => ?_⟩
    have s13 := s2.trans s3
    have hrt := rowT_of hrlt
    -- handed
    refine ⟨_, rfl, r, _, rfl, .inl (sqL_of (s13 _ _ b.er)), fun h0 n0 => ?_⟩
    have s0 : Same H3 (upd H3 h0 (.lst (qr.map V.ref))) := same_upd n0
    refine ⟨_, rfl, t, _, rfl, .inl (sqL_of ((s13.trans s0) _ _ b.et)), fun h1 n1 => ?_⟩
    have s1 : Same (upd H3 h0 (.lst (qr.map V.ref))) (upd (upd H3 h0 (.lst (qr.map V.ref))) h1 (.lst (qt.map V.ref))) := same_upd n1
    have e0 : (upd (upd H3 h0 (.lst (qr.map V.ref))) h1 (.lst (qt.map V.ref))) h0 = some (.lst (qr.map V.ref)) := s1 _ _ upd_same
    have e1 : (upd (upd H3 h0 (.lst (qr.map V.ref))) h1 (.lst (qt.map V.ref))) h1 = some (.lst (qt.map V.ref)) := upd_same
    have s01 := s0.trans s1
    generalize upd (upd H3 h0 (.lst (qr.map V.ref))) h1 (.lst (qt.map V.ref)) = H4 at *
    refine ⟨_, rfl, rw_, _, rfl, .inl (sqL_of (s01 _ _ erw)), fun h2 n2 => ?_⟩
    have s22 : Same H4 (upd H4 h2 (.lst (nV row))) := same_upd n2
    have e2 : (upd H4 h2 (.lst (nV row))) h2 = some (.lst (nV row)) := upd_same
    refine ⟨by show 3 ≤ sizeLine; decide, fun hd nd => ?_⟩
    obtain ⟨H7, hH7⟩ : ∃ H7, H7 = upd (upd H4 h2 (.lst (nV row))) hd (.lst [.ref h0, .ref h1, .ref h2]) := ⟨_, rfl⟩
    have s37 : Same H3 H7 := hH7 ▸ (s01.trans s22).trans (same_upd nd)
    have e70 : H7 h0 = some (.lst (qr.map V.ref)) := hH7 ▸ (s22.trans (same_upd nd)) _ _ e0
    have e71 : H7 h1 = some (.lst (qt.map V.ref)) := hH7 ▸ (s22.trans (same_upd nd)) _ _ e1
    have e72 : H7 h2 = some (.lst (nV row)) := hH7 ▸ (same_upd nd) _ _ e2
    have e7d : H7 hd = some (.lst [.ref h0, .ref h1, .ref h2]) := hH7 ▸ upd_same
    rw [← hH7]
    have s17 := s13.trans s37
    have R7 := R1.same s17
    have T7 := T1.same s17
    have D7 : Rows K H7 rideV td (roadsM rides trips) := hTd.same (s3.trans s37)
    have erw7 := s37 _ _ erw
    have Th : Told2 K H7 h0 h1 rides trips := ⟨⟨qr, sqL_of e70, b.tr.same s17⟩, ⟨qt, sqL_of e71, b.tt.same s17⟩, okR, okT, by omega, by omega⟩
    have ll : (qt.map V.ref).length = trips.length := by rw [List.length_map, b.tt.1]
    have lrow : (nV row).length = row.length := by rw [List.length_map]
    have tL : ∀ {H' : Hp}, Same H7 H' → SqL K H' t (qt.map V.ref) := fun s => sqL_of (s _ _ (s17 _ _ b.et))
    have tat : ∀ {H' : Hp}, Same H7 H' → ∀ {i : Nat} {x : Trip}, trips[i]? = some x → ∃ q', atI (qt.map V.ref) (i : Int) = some (.ref q') ∧ SqT K H' q' (tripV x) := fun s i x hx => by
      obtain ⟨q', hq, hs⟩ := ((b.tt.same s17).same s).addr hx
      exact ⟨q', atI_nat (by rw [List.getElem?_map, hq]; rfl), hs⟩
    have sh3 := sh_three (row := row) okR okT
    have fin : ∀ (H' : Hp), Same H7 H' → ∀ (z : Addr), H' z = none → ∃ d e, Dp K (upd H' z (.lst [.ref r, .ref t, .ref rw_])) (.ref hd) d ∧ Dp K (upd H' z (.lst [.ref r, .ref t, .ref rw_])) (.ref z) e ∧ SeqAt.shaped d = true ∧ SeqAt.shaped e = true ∧ PyData.eqv d e = true := fun H' s z nz => by
      have s14 := s.trans (same_upd (o := .lst [.ref r, .ref t, .ref rw_]) nz)
      exact ⟨_, _, dp_three (sqL_of (s14 _ _ e7d)) (Th.lR.same s14) (Th.lT.same s14) (sqL_of (s14 _ _ e72)), dp_three (sqL_of upd_same) (R7.same s14) (T7.same s14) (sqL_of (s14 _ _ erw7)), sh3.ok (by decide), sh3.ok (by decide), eqv_same sh3⟩
    -- which are late
    refine ⟨_, rfl, rw_, _, rfl, .inl (sqL_of erw7), 1, ((nV row).length : Nat), rfl, ⟨by decide, by decide, by omega, by omega⟩, fun D nD => ?_⟩
    refine lc_range (lo := 1) (n := (((nV row).length : Int) - 1).toNat) (fun j H' => Same H7 H' ∧ ∃ ms : List Int, H' D = some (.lst (ms.map V.int)) ∧ ms.length ≤ j ∧ (ms = [] → ∀ k x y, k < j → (tsOf trips row)[k]? = some x → (tsOf trips row)[k + 1]? = some y → canM (roadsM rides trips) x y = true) ∧
      (ms ≠ [] → ∃ k x y, (tsOf trips row)[k]? = some x ∧ (tsOf trips row)[k + 1]? = some y ∧ canM (roadsM rides trips) x y = false))
      ⟨same_upd nD, [], upd_same, Nat.le_refl _, fun _ k x y h => absurd h (Nat.not_lt_zero k), fun h => absurd rfl h⟩ ?_ ?_
    · rintro j H8 hj ⟨s8, ms, e8, hml, i1, i2⟩
      obtain ⟨u, hu'⟩ : ∃ u, row[j]? = some u := ⟨_, List.getElem?_eq_getElem (by omega)⟩
      obtain ⟨v, hv⟩ : ∃ v, row[j + 1]? = some v := ⟨_, List.getElem?_eq_getElem (by omega)⟩
      obtain ⟨tu, htu, htu2⟩ := hrt.2 j u hu'
      obtain ⟨tv, htv, htv2⟩ := hrt.2 (j + 1) v hv
      have ek1 : (1 + (j : Int)) - 1 = (j : Nat) := by omega
      have ek2 : (1 + (j : Int)) = ((j + 1 : Nat) : Int) := by omega
      have au : atI (nV row) (1 + (j : Int) - 1) = some (.int u) := by rw [ek1]; exact nV_at hu'
      have av : atI (nV row) (1 + (j : Int)) = some (.int v) := by rw [ek2]; exact nV_at hv
      obtain ⟨p1, at1, g1⟩ := tat s8 htu
      obtain ⟨p2, at2, g2⟩ := tat s8 htv
      have erw8 := sqL_of (K := K) (s8 _ _ erw7)
      refine ⟨rfl, ?_⟩
      refine ⟨_, rfl, _, rfl, _, rfl, _, rfl, _, _, rfl, rfl, rw_, _, _, _, rfl, rfl, erw8, au, t, _, _, _, rfl, rfl, tL s8, at1, ?_⟩
      refine ⟨_, rfl, _, rfl, _, rfl, rw_, _, _, _, rfl, rfl, erw8, av, t, _, _, _, rfl, rfl, tL s8, at2, td, p1, p2, roadsM rides trips, tu, tv, rfl, D7.same s8, by omega, hp, g1, g2, fun H9 s9 => ⟨_, rfl, ?_⟩⟩
      cases hc : canM (roadsM rides trips) tu tv with
      | true =>
        refine if_f rfl ⟨s8.trans s9, ms, s9 _ _ e8, by omega, fun hm k x y hk h1 h2 => ?_, i2⟩
        by_cases e : k = j
        · subst e
          rw [htu2] at h1
          rw [htv2] at h2
          cases h1
          cases h2
          exact hc
        · exact i1 hm k x y (by omega) h1 h2
      | false =>
        refine if_t rfl ⟨_, rfl, _, s9 _ _ e8, ?_, same_put (s8.trans s9) nD, ms ++ [1 + (j : Int)], ?_, ?_, fun hm => ?_, fun _ => ⟨j, tu, tv, htu2, htv2, hc⟩⟩
        · rw [List.length_map]
          exact small1000 (by omega)
        · rw [upd_same, List.map_append]
          rfl
        · rw [List.length_append]
          show _ + 1 ≤ _
          omega
        · have := congrArg List.length hm
          rw [List.length_append] at this
          cases this
    · rintro H8 ⟨s8, ms, e8, hml, i1, i2⟩
      refine ⟨_, rfl, Nat.zero_le _, fun e nE => ?_⟩
      have s9 : Same H8 (upd H8 e (.lst [])) := same_upd nE
      have E1 : PyData.eqv (.list (ms.map PyData.int)) (.list []) = ms.isEmpty := by
        cases ms with
        | nil => simp [PyData.eqv, PyData.eqvAll]
        | cons _ _ => simp [PyData.eqv, PyData.eqvAll]
      refine ⟨_, _, .lst (sqL_of (s9 _ _ e8)) (dpInts ms), .lst (sqL_of upd_same) .nil, (shInts ms).ok (by decide), sh_nil0.ok (by decide), ?_⟩
      rw [E1]
      have S9 := s8.trans s9
      generalize upd H8 e (.lst []) = H9 at *
      have ehd : ∀ {H' : Hp}, Same H7 H' → SqL K H' hd [.ref h0, .ref h1, .ref h2] := fun s => sqL_of (s _ _ e7d)
      cases ms with
      | cons m ms' =>
        refine ⟨_, rfl, if_t rfl ?_⟩
        refine ⟨_, rfl, hd, _, 0, _, rfl, rfl, ehd S9, atI_nat (j := 0) rfl, _, rfl, hd, _, 1, _, rfl, rfl, ehd S9, atI_nat (j := 1) rfl, _, rfl, hd, _, 2, _, rfl, rfl, ehd S9, atI_nat (j := 2) rfl, h0, h1, h2, rides, trips, row, _, rfl, Th.same S9, sqL_of (S9 _ _ e72), by omega, hrt, i2 (fun z => nomatch z), fun H10 s10 => ⟨_, rfl, if_t rfl ?_⟩⟩
        refine ⟨_, rfl, _, rfl, _, rfl, _, rfl, (by show 3 ≤ sizeLine; decide), fun z nz => ?_⟩
        obtain ⟨d, e', d1, d2, d3, d4, d5⟩ := fin H10 (S9.trans s10) z nz
        refine ⟨d, e', d1, d2, d3, d4, ?_⟩
        rw [d5]
        exact q _
      | nil =>
        have hcan : ∀ k x y, (tsOf trips row)[k]? = some x → (tsOf trips row)[k + 1]? = some y → canM (roadsM rides trips) x y = true := fun k x y hx hy => by
          have hk := (List.getElem?_eq_some_iff.mp hy).1
          rw [tsOf_len] at hk
          exact i1 rfl k x y (by omega) hx hy
        refine ⟨_, rfl, if_f rfl ?_⟩
        refine ⟨2, rfl, by decide, by decide, for_range (lo := 0) (n := 2) (fun i σ H' => Same H7 H' ∧ ∃ y8 y9, σ = [some (.ref a), some (.ref n), some (.ref r), some (.ref t), some (.ref td), some (.ref rw_), some (.ref hd), some (.ref D), y8, y9, none]) ⟨S9, none, none, rfl⟩ ?_ ?_⟩
        · rintro i σ H10 hi ⟨s10, y8, y9, rfl⟩
          refine ⟨_, rfl, hd, _, 0, _, rfl, rfl, ehd s10, atI_nat (j := 0) rfl, _, rfl, hd, _, 1, _, rfl, rfl, ehd s10, atI_nat (j := 1) rfl, _, rfl, hd, _, 2, _, rfl, rfl, ehd s10, atI_nat (j := 2) rfl, h0, h1, h2, rides, trips, row, _, rfl, Th.same s10, sqL_of (s10 _ _ e72), by omega, hrt, hcan, fun H11 sp qs parts s11 nsp esp tsp dk okS hpl => ?_⟩
          have S11 := s10.trans s11
          refine ⟨_, rfl, sp, qs, _, rfl, esp, tsp, by omega, _, rfl, if_f rfl ?_⟩
          refine ⟨_, rfl, _, rfl, _, rfl, _, rfl, td, t, rw_, sp, roadsM rides trips, trips, row, _, qs, parts, rfl, D7.same S11, by omega, hp, T7.same S11, okT, sqL_of (S11 _ _ erw7), by omega, hrt, hcan, esp, tsp, dk, hpl, fun H12 s12 => ⟨_, rfl, if_f rfl ?_⟩⟩
          have esp12 := s12 _ _ esp
          refine ⟨_, rfl, .inl ⟨rfl, _, sqL_of esp12⟩, (by show 2 ≤ sizeLine; decide), fun z nz => ?_⟩
          have sz : Same H12 (upd H12 z (.tup [.str "a", .int 1])) := same_upd nz
          refine ⟨sp, _, _, rfl, rfl, sz _ _ esp12, ?_, s10.trans (same_put ((s11.trans s12).trans sz) nsp), _, _, rfl⟩
          rw [List.length_map, tsp.1]
          exact sz_ok (by omega)
        · rintro σ H10 ⟨s10, y8, y9, rfl⟩
          refine ⟨_, rfl, _, rfl, _, rfl, _, rfl, (by show 3 ≤ sizeLine; decide), fun z nz => ?_⟩
          obtain ⟨d, e', d1, d2, d3, d4, d5⟩ := fin H10 s10 z nz
          refine ⟨d, e', d1, d2, d3, d4, ?_⟩
          rw [d5]
          exact q _
end
end Fb
namespace Fb
open PySem PySem.Spec PyProof.Rows L2
abbrev dd (x : Str) (i : Nat) : He.DefD := ⟨(x, none), x, x, defArgs (top i), defBody (top i), defScope (top i), [], []⟩
def fn : List He.DefD := [dd "is_whole" 11, dd "is_place" 12, dd "is_ride" 13, dd "is_trip" 14, dd "looked" 15, dd "need_place" 16, dd "need_number" 17, dd "roads" 19, dd "spread" 20, dd "way" 21, dd "comes" 23, dd "can" 24, dd "ridden" 25, dd "day" 26, dd "_law_whole" 28, dd "_law_cell_at" 29, dd "_law_names" 30, dd "_law_rides" 31, dd "_law_trips" 32, dd "_law_roads" 33, dd "_law_least" 34, dd "_law_can" 35, dd "_law_built" 36, dd "_law_walked" 37, dd "_law_stops" 38, dd "_law_row" 39, dd "_law_refused" 40, dd "law" 41]
def fa : List He.Fa := [.glo "is_whole", .glo "is_place", .glo "is_ride", .glo "is_trip", .glo "looked", .glo "need_place", .glo "need_number", .glo "roads", .glo "spread", .glo "way", .glo "comes", .glo "can", .glo "ridden", .glo "day", .glo "_law_whole", .glo "_law_cell_at", .glo "_law_names", .glo "_law_rides", .glo "_law_trips", .glo "_law_roads", .glo "_law_least", .glo "_law_can", .glo "_law_built", .glo "_law_walked", .glo "_law_stops", .glo "_law_row", .glo "_law_refused", .glo "law", .free "len", .free "isinstance", .free "int", .free "bool", .free "str", .free "tuple", .free "list", .free "dict", .free "range", .free "max", .free "min", .free "sorted", .str "LETTERS" "abcdefghijklmnopqrstuvwxyz", .int "MOST_RIDE" 9999, .int "MOST_MINUTE" 99999, .glo "NotInTime", .glo "BusError", .exc "NotInTime", .exm "NotInTime" "BusError" true, .free "ValueError"]
abbrev R : PySem.W.OpenRow := PySem.W.OpenLaw.row PySem.Challenge.rw_fewbuses_k05_day
def exB (K : PySem.W.Frag) : Bool :=
  He.eqO (PySem.W.findIn K (.ref (He.ga K "NotInTime")) "__getattribute__") (some (some (.builtin "BaseException.__getattribute__"))) && (He.eqO (PySem.W.findIn K (.ref (He.ga K "NotInTime")) "__getattr__") (some none) &&
  (decide (PySem.W.subIn K (.ref (He.ga K "NotInTime")) (.type "BaseException") = some true) && (PySem.W.hasDictIn K (He.ga K "NotInTime") &&
  (He.eqO (PySem.W.findIn K (.ref (He.ga K "NotInTime")) "__class__") (some (some (.builtin "object.__class__"))) && (He.eqO (PySem.W.specialIn K (.builtin "object.__class__") "__get__") (some (some (.builtin "getset_descriptor.__get__"))) &&
  (decide (PySem.W.takesIn K (.builtin "object.__class__") = some true) && (decide (PySem.W.mroIn K (He.ga K "NotInTime") (.type "object") = some true) &&
  (decide (PySem.W.kitOne K (.ref (He.ga K "NotInTime")) (.ref (He.ga K "NotInTime")) = some true) && decide (PySem.W.kitOne K (.ref (He.ga K "NotInTime")) (.type "ValueError") = some true)))))))))
structure ExOk (K : PySem.W.Frag) : Prop where
  c : ExcC K (He.ga K "NotInTime")
  k1 : PySem.W.kitOne K (.ref (He.ga K "NotInTime")) (.ref (He.ga K "NotInTime")) = some true
  k2 : PySem.W.kitOne K (.ref (He.ga K "NotInTime")) (.type "ValueError") = some true
theorem ex_ok {K : PySem.W.Frag} (h : exB K = true) : ExOk K := by
  obtain ⟨h1, h⟩ := He.ba h
  obtain ⟨h2, h⟩ := He.ba h
  obtain ⟨h3, h⟩ := He.ba h
  obtain ⟨h4, h⟩ := He.ba h
  obtain ⟨h5, h⟩ := He.ba h
  obtain ⟨h6, h⟩ := He.ba h
  obtain ⟨h7, h⟩ := He.ba h
  obtain ⟨h8, h⟩ := He.ba h
  obtain ⟨h9, h10⟩ := He.ba h
  exact ⟨⟨He.eqO_ok h1, He.eqO_ok h2, of_decide_eq_true h3, h4, He.eqO_ok h5, He.eqO_ok h6, of_decide_eq_true h7, of_decide_eq_true h8⟩, of_decide_eq_true h9, of_decide_eq_true h10⟩
abbrev AlY : Type := He.AlD × Bool
def obsY (g : Addr → Option Obj) : AlY := (He.obsD fa fn (He.frG g (He.asD g 4)), exB (He.frG g (He.asD g 4)))
def hkY : PySem.W.Hook where
  α := AlY
  obs := fun s => obsY s.heap.get?
  val := fun _ => (He.valD fn, true)
  says := fun _ h => ∃ K : PySem.W.Frag, K.In h ∧ He.SaysD fa fn K ∧ exB K = true
  of := fun _ _ e => ⟨_, He.frG_in, congrArg (fun z : AlY => z.1) e, congrArg (fun z : AlY => z.2) e⟩
  keeps := fun _ _ _ ⟨K, hK, c⟩ k => ⟨K, PySem.W.Frag.In.keeps hK k, c⟩
abbrev hk : PySem.W.Hook := hkY
def ob (s : PySem.W.SharedT) : AlY := obsY (HandSHeadRun.getT s)
theorem ob_eq (s : PySem.W.SharedT) : ob s = hk.obs s.abs := by
  have e : HandSHeadRun.getT s = s.abs.heap.get? := funext fun a => HandSHeadRun.getT_eq s a
  show obsY _ = obsY _
  rw [e]
def loose : List Str := (["BusError", "NoRide", "NoTrip", "NoPlace", "NoNumber", "NotInTime", "LETTERS", "MOST_RIDE", "MOST_MINUTE", "is_whole", "is_place", "is_ride", "is_trip", "looked", "need_place", "need_number", "roads", "spread", "way", "comes"] : List Str) ++ (["can", "ridden", "day", "_law_whole", "_law_cell_at", "_law_names", "_law_rides", "_law_trips", "_law_roads", "_law_least", "_law_can", "_law_built", "_law_walked", "_law_stops", "_law_row", "_law_refused"] : List Str)
set_option maxHeartbeats 0 in
theorem run (w : World) : HandSHeadRun.RunEq R (PySem.W.view R.prog [41]) hk ob 6000 loose w := by
  intro os
  kernel_rfl
theorem facts {P : Program} {w : World} {K : PySem.W.Frag} {h : Heap} {mg : Str → Option Value} {f : Addr} (X : K.In h) (G : h.Ns mainGlobals mg) (hfa : mg ("law" : Str) = some (.ref f)) (c : He.SaysD fa fn K) (xc : exB K = true) :
    ∃ fd : FuncData, (∀ (s : Shared) (v : Value), BindsTo s fd ⟨[v], []⟩ [("_law_script", v)]) ∧ ∀ base : Heap, K.In base → base.Ns mainGlobals mg → FnOk P w K mg base CX0 lawLevel f fd ["_law_script"] (spLaw K) := by
  obtain ⟨d_is_whole, F_is_whole⟩ := c.def_ 0 (d := dd "is_whole" 11) rfl
  obtain ⟨d_is_place, F_is_place⟩ := c.def_ 1 (d := dd "is_place" 12) rfl
  obtain ⟨d_is_ride, F_is_ride⟩ := c.def_ 2 (d := dd "is_ride" 13) rfl
  obtain ⟨d_is_trip, F_is_trip⟩ := c.def_ 3 (d := dd "is_trip" 14) rfl
  obtain ⟨d_looked, F_looked⟩ := c.def_ 4 (d := dd "looked" 15) rfl
  obtain ⟨d_need_place, F_need_place⟩ := c.def_ 5 (d := dd "need_place" 16) rfl
  obtain ⟨d_need_number, F_need_number⟩ := c.def_ 6 (d := dd "need_number" 17) rfl
  obtain ⟨d_roads, F_roads⟩ := c.def_ 7 (d := dd "roads" 19) rfl
  obtain ⟨d_spread, F_spread⟩ := c.def_ 8 (d := dd "spread" 20) rfl
  obtain ⟨d_way, F_way⟩ := c.def_ 9 (d := dd "way" 21) rfl
  obtain ⟨d_comes, F_comes⟩ := c.def_ 10 (d := dd "comes" 23) rfl
  obtain ⟨d_can, F_can⟩ := c.def_ 11 (d := dd "can" 24) rfl
  obtain ⟨d_ridden, F_ridden⟩ := c.def_ 12 (d := dd "ridden" 25) rfl
  obtain ⟨d_day, F_day⟩ := c.def_ 13 (d := dd "day" 26) rfl
  obtain ⟨d_law_whole, F_law_whole⟩ := c.def_ 14 (d := dd "_law_whole" 28) rfl
  obtain ⟨d_law_cell_at, F_law_cell_at⟩ := c.def_ 15 (d := dd "_law_cell_at" 29) rfl
  obtain ⟨d_law_names, F_law_names⟩ := c.def_ 16 (d := dd "_law_names" 30) rfl
  obtain ⟨d_law_rides, F_law_rides⟩ := c.def_ 17 (d := dd "_law_rides" 31) rfl
  obtain ⟨d_law_trips, F_law_trips⟩ := c.def_ 18 (d := dd "_law_trips" 32) rfl
  obtain ⟨d_law_roads, F_law_roads⟩ := c.def_ 19 (d := dd "_law_roads" 33) rfl
  obtain ⟨d_law_least, F_law_least⟩ := c.def_ 20 (d := dd "_law_least" 34) rfl
  obtain ⟨d_law_can, F_law_can⟩ := c.def_ 21 (d := dd "_law_can" 35) rfl
  obtain ⟨d_law_built, F_law_built⟩ := c.def_ 22 (d := dd "_law_built" 36) rfl
  obtain ⟨d_law_walked, F_law_walked⟩ := c.def_ 23 (d := dd "_law_walked" 37) rfl
  obtain ⟨d_law_stops, F_law_stops⟩ := c.def_ 24 (d := dd "_law_stops" 38) rfl
  obtain ⟨d_law_row, F_law_row⟩ := c.def_ 25 (d := dd "_law_row" 39) rfl
  obtain ⟨d_law_refused, F_law_refused⟩ := c.def_ 26 (d := dd "_law_refused" 40) rfl
  obtain ⟨d_law, F_law⟩ := c.def_ 27 (d := dd "law" 41) rfl
  have g_is_whole := He.glo_ok X G (c.fact 0 (f := .glo "is_whole") rfl)
  have g_is_place := He.glo_ok X G (c.fact 1 (f := .glo "is_place") rfl)
  have g_is_ride := He.glo_ok X G (c.fact 2 (f := .glo "is_ride") rfl)
  have g_is_trip := He.glo_ok X G (c.fact 3 (f := .glo "is_trip") rfl)
  have g_looked := He.glo_ok X G (c.fact 4 (f := .glo "looked") rfl)
  have g_need_place := He.glo_ok X G (c.fact 5 (f := .glo "need_place") rfl)
  have g_need_number := He.glo_ok X G (c.fact 6 (f := .glo "need_number") rfl)
  have g_roads := He.glo_ok X G (c.fact 7 (f := .glo "roads") rfl)
  have g_spread := He.glo_ok X G (c.fact 8 (f := .glo "spread") rfl)
  have g_way := He.glo_ok X G (c.fact 9 (f := .glo "way") rfl)
  have g_comes := He.glo_ok X G (c.fact 10 (f := .glo "comes") rfl)
  have g_can := He.glo_ok X G (c.fact 11 (f := .glo "can") rfl)
  have g_ridden := He.glo_ok X G (c.fact 12 (f := .glo "ridden") rfl)
  have g_day := He.glo_ok X G (c.fact 13 (f := .glo "day") rfl)
  have g_law_whole := He.glo_ok X G (c.fact 14 (f := .glo "_law_whole") rfl)
  have g_law_cell_at := He.glo_ok X G (c.fact 15 (f := .glo "_law_cell_at") rfl)
  have g_law_names := He.glo_ok X G (c.fact 16 (f := .glo "_law_names") rfl)
  have g_law_rides := He.glo_ok X G (c.fact 17 (f := .glo "_law_rides") rfl)
  have g_law_trips := He.glo_ok X G (c.fact 18 (f := .glo "_law_trips") rfl)
  have g_law_roads := He.glo_ok X G (c.fact 19 (f := .glo "_law_roads") rfl)
  have g_law_least := He.glo_ok X G (c.fact 20 (f := .glo "_law_least") rfl)
  have g_law_can := He.glo_ok X G (c.fact 21 (f := .glo "_law_can") rfl)
  have g_law_built := He.glo_ok X G (c.fact 22 (f := .glo "_law_built") rfl)
  have g_law_walked := He.glo_ok X G (c.fact 23 (f := .glo "_law_walked") rfl)
  have g_law_stops := He.glo_ok X G (c.fact 24 (f := .glo "_law_stops") rfl)
  have g_law_row := He.glo_ok X G (c.fact 25 (f := .glo "_law_row") rfl)
  have g_law_refused := He.glo_ok X G (c.fact 26 (f := .glo "_law_refused") rfl)
  have g_law := He.glo_ok X G (c.fact 27 (f := .glo "law") rfl)
  have f_len := He.free_ok X G (c.fact 28 (f := .free "len") rfl)
  have f_isinstance := He.free_ok X G (c.fact 29 (f := .free "isinstance") rfl)
  have f_int := He.free_ok X G (c.fact 30 (f := .free "int") rfl)
  have f_bool := He.free_ok X G (c.fact 31 (f := .free "bool") rfl)
  have f_str := He.free_ok X G (c.fact 32 (f := .free "str") rfl)
  have f_tuple := He.free_ok X G (c.fact 33 (f := .free "tuple") rfl)
  have f_list := He.free_ok X G (c.fact 34 (f := .free "list") rfl)
  have f_dict := He.free_ok X G (c.fact 35 (f := .free "dict") rfl)
  have f_range := He.free_ok X G (c.fact 36 (f := .free "range") rfl)
  have f_max := He.free_ok X G (c.fact 37 (f := .free "max") rfl)
  have f_min := He.free_ok X G (c.fact 38 (f := .free "min") rfl)
  have f_sorted := He.free_ok X G (c.fact 39 (f := .free "sorted") rfl)
  have c_LETTERS := He.str_ok X G (c.fact 40 (f := .str "LETTERS" "abcdefghijklmnopqrstuvwxyz") rfl)
  have c_MOST_RIDE := He.int_ok X G (c.fact 41 (f := .int "MOST_RIDE" 9999) rfl)
  have c_MOST_MINUTE := He.int_ok X G (c.fact 42 (f := .int "MOST_MINUTE" 99999) rfl)
  have g_NotInTime := He.glo_ok X G (c.fact 43 (f := .glo "NotInTime") rfl)
  have g_BusError := He.glo_ok X G (c.fact 44 (f := .glo "BusError") rfl)
  have x_NotInTime := He.exc_ok (c.fact 45 (f := .exc "NotInTime") rfl)
  have m_NotInTime := He.exm_ok (c.fact 46 (f := .exm "NotInTime" "BusError" true) rfl)
  have f_ValueError := He.free_ok X G (c.fact 47 (f := .free "ValueError") rfl)
  have e := hfa.symm.trans g_law
  cases e
  have B : Bi mg := ⟨f_len, f_isinstance, f_int, f_bool, f_str, f_tuple, f_list, f_dict, f_range, f_max, f_min, f_sorted⟩
  have b := FunD.bindsA (ps := ["_law_script"]) F_law fun _ _ _ _ _ _ us hl => match us, hl with | [_], _ => rfl
  refine ⟨d_law, fun s v => b s [v] rfl, fun base _ _ => ?_⟩
  have c_is_whole := cal_is_whole (P := P) (w := w) (base := base) F_is_whole g_is_whole B
  have c_is_place := cal_is_place (P := P) (w := w) (base := base) F_is_place g_is_place B c_LETTERS
  have c_is_ride := cal_is_ride (P := P) (w := w) (base := base) F_is_ride g_is_ride B c_MOST_RIDE c_is_place c_is_whole
  have c_is_trip := cal_is_trip (P := P) (w := w) (base := base) F_is_trip g_is_trip B c_MOST_MINUTE c_is_place c_is_whole
  have c_looked := cal_looked (P := P) (w := w) (base := base) F_looked g_looked c_is_ride c_is_trip
  have c_roads := cal_roads (P := P) (w := w) (base := base) F_roads g_roads B c_looked
  have c_cell := cal_law_cell_at (P := P) (w := w) (base := base) F_law_cell_at g_law_cell_at B
  have c_names := cal_law_names (P := P) (w := w) (base := base) F_law_names g_law_names B
  have c_rides := cal_law_rides (P := P) (w := w) (base := base) F_law_rides g_law_rides B c_cell
  have c_trips := cal_law_trips (P := P) (w := w) (base := base) F_law_trips g_law_trips B c_cell
  have c_lroads := cal_law_roads (P := P) (w := w) (base := base) F_law_roads g_law_roads B
  have c_built := cal_law_built (P := P) (w := w) (base := base) F_law_built g_law_built B c_cell c_names c_rides c_trips
  have c_need_place := cal_need_place (P := P) (w := w) (base := base) F_need_place g_need_place c_is_place
  have c_spread := cal_spread (P := P) (w := w) (base := base) F_spread g_spread c_roads c_need_place
  have c_need_number := cal_need_number (P := P) (w := w) (base := base) F_need_number g_need_number B c_is_whole
  have c_comes := cal_comes (P := P) (w := w) (base := base) F_comes g_comes
  have c_can := cal_can (P := P) (w := w) (base := base) F_can g_can c_looked c_need_number c_spread c_comes
  have c_way := cal_way (P := P) (w := w) (base := base) F_way g_way c_roads c_need_place c_spread
  have c_ridden := cal_ridden (P := P) (w := w) (base := base) F_ridden g_ridden B
  have c_day := cal_day (P := P) (w := w) (base := base) F_day g_day B c_roads c_need_number c_can c_way c_ridden
  have c_least := cal_law_least (P := P) (w := w) (base := base) F_law_least g_law_least B
  have c_lcan := cal_law_can (P := P) (w := w) (base := base) F_law_can g_law_can c_least
  have c_whole := cal_law_whole (P := P) (w := w) (base := base) F_law_whole g_law_whole B
  have c_walked := cal_law_walked (P := P) (w := w) (base := base) F_law_walked g_law_walked B c_least
  have c_stops := cal_law_stops (P := P) (w := w) (base := base) F_law_stops g_law_stops B c_whole
  have c_row := cal_law_row (P := P) (w := w) (base := base) F_law_row g_law_row B c_cell c_lcan
  have XO := ex_ok xc
  have G0 := ok_day_late (P := P) (w := w) (base := base) F_day B c_roads c_need_number c_can g_NotInTime x_NotInTime.1 x_NotInTime.2.1 x_NotInTime.2.2.1 x_NotInTime.2.2.2
  have c_refused := cal_law_refused F_law_refused g_law_refused B F_day g_day G0 g_NotInTime g_BusError m_NotInTime XO.c XO.k1 XO.k2 f_ValueError
  exact cal_law F_law B c_built c_lroads c_row c_lcan c_day c_refused c_stops c_walked
end Fb
open PySem PySem.W PySem.Calls PyProof.Rows
set_option maxHeartbeats 0 in
theorem PySem.Challenge.cw_fewbuses_k05_day_holds : PySem.Challenge.rw_fewbuses_k05_day.Holds := by
  w_on; o_law
  refine HandSHeadRun.head_any (r := OpenLaw.row PySem.Challenge.rw_fewbuses_k05_day) (q := view (OpenLaw.row PySem.Challenge.rw_fewbuses_k05_day).prog [41]) (H := Fb.hk) (ob := Fb.ob) (M := 6000) (loose := Fb.loose) (d := HandSHeadRun.topDef (OpenLaw.row PySem.Challenge.rw_fewbuses_k05_day).prog 41) (kwd := []) Fb.ob_eq
    (by kernel_rfl) (fun s => by kernel_rfl) Fb.run (by kernel_rfl) (by kernel_rfl) (by kernel_rfl) (by rfl) (by first | assumption | decide +kernel) (by decide +kernel) ⟨rfl, rfl, rfl, rfl, rfl, by decide +kernel⟩ ?hw ?hc
  case hw => w_witness2
  case hc =>
    refine L2.walk_ofE (l := PySem.Challenge.rw_fewbuses_k05_day) (n := 63) (k := Fb.lawLevel) (x := "_law_script") (CX := L2.CX0) rfl (by decide) (by kernel_rfl) ⟨rfl, by decide, by decide⟩ ?F (fun _ _ _ _ z => z)
    intro w mg fa h Y G hmg0
    obtain ⟨K, KX, c, xc⟩ := Y
    have hmg : mg ("law" : PySem.Str) = some (.ref fa) := by
      have e : (HandSHeadRun.topDef (OpenLaw.row PySem.Challenge.rw_fewbuses_k05_day).prog 41).name = ("law" : PySem.Str) := by kernel_rfl
      rw [← e]
      exact hmg0
    obtain ⟨fd, hb, hF⟩ := Fb.facts (P := (PySem.Challenge.rw_fewbuses_k05_day).prog) (w := w) KX G hmg c xc
    exact ⟨K, fd, Fb.spLaw K, KX, hb, fun H a ns hl _ hS => ⟨a, ns, rfl, hS, hl, fun _ => rfl⟩, hF⟩
#print axioms PySem.Challenge.cw_fewbuses_k05_day_holds
