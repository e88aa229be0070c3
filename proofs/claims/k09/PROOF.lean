import PyProof.Rows.All
import Wide.All
import OpenK.AllK
import Wide.FinOn
import KE.KStateDown
import Lean
import HandS.ForMost
import HandS.WordsExc
import HandS.Defaults
import HandS.Codes
import KE.DataEq
import HandS.IsInst
import HandS.Conv
import HandS.Walk
import HandS.Style
import HandS.Deep
import HandS.Sort
import HandS.SortInts
import HandS.DictComp
import HandS.More
import HandS.Head0
import HandS.Head1
import HandS.Head2
import HandS.HeadEnd
import HandS.HeadHook1
import HandS.HeadHook2
import HandS.ExcIs
import PySem.Challenge.RW_fewbuses_k09_holds
set_option Elab.async false
set_option linter.all false
set_option maxRecDepth 100000
set_option maxHeartbeats 4000000
/-! Roads, ways along them, the least minutes, and going over all roads again and again: plain Lean, no program. -/
namespace Fb
section
variable {α : Type}
/-- a way from x along the roads R: to where, in how many minutes -/
inductive Path (R : List (α × α × Int)) (x : α) : α → Int → Prop
  | nil : Path R x x 0
  | snoc {y z : α} {m w : Int} : Path R x y m → (y, z, w) ∈ R → Path R x z (m + w)
def PosR (R : List (α × α × Int)) : Prop := ∀ r ∈ R, 1 ≤ r.2.2
theorem Path.nonneg {R : List (α × α × Int)} {x y : α} {m : Int} (hp : PosR R) (p : Path R x y m) : 0 ≤ m := by
  induction p with
  | nil => exact Int.le_refl 0
  | snoc p h ih =>
    have := hp _ h
    simp only at this
    omega
def Least (R : List (α × α × Int)) (x y : α) (m : Int) : Prop := Path R x y m ∧ ∀ m', Path R x y m' → m ≤ m'
theorem least_of {R : List (α × α × Int)} {x y : α} (hp : PosR R) : ∀ (n : Nat) (m : Int), m.toNat = n → Path R x y m → ∃ m', Least R x y m' := by
  intro n
  induction n using Nat.strongRecOn with
  | _ n ih =>
    intro m hm p
    by_cases h : ∃ m', Path R x y m' ∧ m' < m
    · obtain ⟨m', p', l⟩ := h
      have h0 := p'.nonneg hp
      have h1 := p.nonneg hp
      exact ih m'.toNat (by omega) m' rfl p'
    · refine ⟨m, p, fun m' p' => ?_⟩
      exact Int.not_lt.mp fun z => h ⟨m', p', z⟩
theorem Path.least {R : List (α × α × Int)} {x y : α} {m : Int} (hp : PosR R) (p : Path R x y m) : ∃ m', Least R x y m' ∧ m' ≤ m := by
  obtain ⟨m', h⟩ := least_of hp _ m rfl p
  exact ⟨m', h, h.2 _ p⟩
theorem Least.one {R : List (α × α × Int)} {x y : α} {m m' : Int} (h : Least R x y m) (h' : Least R x y m') : m = m' := by
  have := h.2 _ h'.1
  have := h'.2 _ h.1
  omega
theorem Path.trans {R : List (α × α × Int)} {x y z : α} {m m' : Int} (p : Path R x y m) (q : Path R y z m') : Path R x z (m + m') := by
  induction q with
  | nil => rw [Int.add_zero]; exact p
  | snoc q h ih => rw [← Int.add_assoc]; exact ih.snoc h
open Classical in
/-- the least minutes from x to y -/
noncomputable def dist (R : List (α × α × Int)) (x y : α) : Option Int := if h : ∃ m, Least R x y m then some (choose h) else none
theorem dist_eq {R : List (α × α × Int)} {x y : α} {m : Int} : dist R x y = some m ↔ Least R x y m := by
  unfold dist
  by_cases h : ∃ m, Least R x y m
  · rw [dif_pos h]
    have hs := Classical.choose_spec h
    constructor
    · intro e
      rw [← Option.some.inj e]
      exact hs
    · intro l
      rw [hs.one l]
  · rw [dif_neg h]
    constructor
    · intro e
      cases e
    · intro l
      exact absurd ⟨m, l⟩ h
theorem dist_none {R : List (α × α × Int)} {x y : α} (hp : PosR R) : dist R x y = none ↔ ∀ m, ¬ Path R x y m := by
  constructor
  · intro e m p
    obtain ⟨m', l, _⟩ := p.least hp
    rw [dist_eq.mpr l] at e
    cases e
  · intro h
    cases e : dist R x y with
    | none => rfl
    | some m => exact absurd (dist_eq.mp e).1 (h m)
theorem dist_self {R : List (α × α × Int)} (hp : PosR R) (x : α) : dist R x x = some 0 := dist_eq.mpr ⟨.nil, fun _ p => p.nonneg hp⟩
theorem dist_nonneg {R : List (α × α × Int)} (hp : PosR R) {x y : α} {m : Int} (h : dist R x y = some m) : 0 ≤ m := (dist_eq.mp h).1.nonneg hp
theorem dist_path {R : List (α × α × Int)} (hp : PosR R) {x y : α} {m : Int} (p : Path R x y m) : ∃ m', dist R x y = some m' ∧ m' ≤ m := by
  obtain ⟨m', l, h⟩ := p.least hp
  exact ⟨m', dist_eq.mpr l, h⟩
theorem dist_road {R : List (α × α × Int)} (hp : PosR R) {x y z : α} {m w : Int} (h : dist R x y = some m) (hr : (y, z, w) ∈ R) : ∃ m', dist R x z = some m' ∧ m' ≤ m + w :=
  dist_path hp ((dist_eq.mp h).1.snoc hr)
theorem dist_tri {R : List (α × α × Int)} (hp : PosR R) {x y z : α} {m w : Int} (h : dist R x y = some m) (h2 : dist R y z = some w) : ∃ m', dist R x z = some m' ∧ m' ≤ m + w :=
  dist_path hp ((dist_eq.mp h).1.trans (dist_eq.mp h2).1)
/-- the last road of a quickest way -/
theorem dist_pred {R : List (α × α × Int)} (hp : PosR R) {x z : α} {m : Int} (h : dist R x z = some m) (hne : z ≠ x) : ∃ y w m', (y, z, w) ∈ R ∧ dist R x y = some m' ∧ m' + w = m := by
  obtain ⟨p, l⟩ := dist_eq.mp h
  cases p with
  | nil => exact absurd rfl hne
  | @snoc y _ m0 w p hr =>
    obtain ⟨m', hl, hle⟩ := p.least hp
    refine ⟨y, w, m', hr, dist_eq.mpr hl, ?_⟩
    have := l _ (hl.1.snoc hr)
    omega
/-- what tells ways alone and is undercut by no road is the least -/
theorem dist_only {R : List (α × α × Int)} (hp : PosR R) {x : α} {f : α → Option Int} (h0 : f x = some 0) (h1 : ∀ y m, f y = some m → Path R x y m)
    (h2 : ∀ r ∈ R, ∀ m, f r.1 = some m → ∃ m', f r.2.1 = some m' ∧ m' ≤ m + r.2.2) (y : α) : f y = dist R x y := by
  have key : ∀ y m, Path R x y m → ∃ m', f y = some m' ∧ m' ≤ m := by
    intro y m p
    induction p with
    | nil => exact ⟨0, h0, Int.le_refl 0⟩
    | @snoc y z m w p hr ih =>
      obtain ⟨m', e, l⟩ := ih
      obtain ⟨m2, e2, l2⟩ := h2 _ hr m' e
      refine ⟨m2, e2, ?_⟩
      simp only at l2
      omega
  cases e : f y with
  | none =>
    refine ((dist_none hp).mpr fun m p => ?_).symm
    obtain ⟨m', e', _⟩ := key y m p
    rw [e] at e'
    cases e'
  | some m =>
    refine (dist_eq.mpr ⟨h1 y m e, fun m' p => ?_⟩).symm
    obtain ⟨m2, e2, l⟩ := key y m' p
    rw [e] at e2
    cases e2
    exact l
end
/-! ### a table from places to minutes, as a list of pairs -/
section
variable {α β : Type} [DecidableEq α]
def look : List (α × β) → α → Option β
  | [], _ => none
  | p :: r, k => if p.1 = k then some p.2 else look r k
def put : List (α × β) → α → β → List (α × β)
  | [], k, v => [(k, v)]
  | p :: r, k, v => if p.1 = k then (p.1, v) :: r else p :: put r k v
theorem look_put : ∀ (l : List (α × β)) (k j : α) (v : β), look (put l k v) j = if j = k then some v else look l j
  | [], k, j, v => by
    by_cases e : k = j
    · subst e
      simp [put, look]
    · have e' : ¬ j = k := fun z => e z.symm
      simp [put, look, e, e']
  | p :: r, k, j, v => by
    by_cases e : p.1 = k
    · subst e
      by_cases e2 : p.1 = j
      · subst e2
        simp [put, look]
      · have e' : ¬ j = p.1 := fun z => e2 z.symm
        simp [put, look, e2, e']
    · by_cases e2 : p.1 = j
      · have e' : ¬ j = k := fun z => e (e2.trans z)
        subst e2
        simp [put, look, e]
      · simp [put, look, e, e2, look_put r k j v]
theorem look_mem : ∀ {l : List (α × β)} {k : α} {v : β}, look l k = some v → (k, v) ∈ l
  | [], k, v, h => by cases h
  | p :: r, k, v, h => by
    by_cases e : p.1 = k
    · simp [look, e] at h
      subst h
      subst e
      simp
    · simp [look, e] at h
      exact List.mem_cons_of_mem _ (look_mem h)
theorem look_none : ∀ {l : List (α × β)} {k : α}, look l k = none ↔ k ∉ l.map (·.1)
  | [], k => by simp [look]
  | p :: r, k => by
    by_cases e : p.1 = k
    · subst e
      simp [look]
    · have e' : ¬ k = p.1 := fun z => e z.symm
      simp only [look, e, if_false, List.map_cons, List.mem_cons, not_or, e', not_false_eq_true, true_and]
      exact look_none
theorem look_of_mem : ∀ {l : List (α × β)} {k : α} {v : β}, (l.map (·.1)).Nodup → (k, v) ∈ l → look l k = some v
  | [], k, v, _, h => by cases h
  | p :: r, k, v, hn, h => by
    simp only [List.map_cons, List.nodup_cons] at hn
    rcases List.mem_cons.mp h with e | e
    · subst e
      simp [look]
    · have : ¬ p.1 = k := fun z => hn.1 (by rw [z]; exact List.mem_map_of_mem (f := (·.1)) e)
      simp only [look, this, if_false]
      exact look_of_mem hn.2 e
theorem put_keys : ∀ (l : List (α × β)) (k : α) (v : β), (put l k v).map (·.1) = if k ∈ l.map (·.1) then l.map (·.1) else l.map (·.1) ++ [k]
  | [], k, v => by simp [put]
  | p :: r, k, v => by
    by_cases e : p.1 = k
    · subst e
      simp [put]
    · have e' : ¬ k = p.1 := fun z => e z.symm
      by_cases hm : k ∈ r.map (·.1)
      · have ih := put_keys r k v
        rw [if_pos hm] at ih
        simp only [put, e, if_false, List.map_cons, ih]
        rw [if_pos (List.mem_cons_of_mem _ hm)]
      · have ih := put_keys r k v
        rw [if_neg hm] at ih
        simp only [put, e, if_false, List.map_cons, ih]
        rw [if_neg (by simp only [List.mem_cons, not_or]; exact ⟨e', hm⟩)]
        rfl
theorem nodup_snoc {l : List α} {k : α} (h : l.Nodup) (hk : k ∉ l) : (l ++ [k]).Nodup := by
  rw [List.nodup_append]
  refine ⟨h, by simp, ?_⟩
  intro a ha b hb e
  simp at hb
  subst hb
  subst e
  exact hk ha
theorem put_nodup {l : List (α × β)} (h : (l.map (·.1)).Nodup) (k : α) (v : β) : ((put l k v).map (·.1)).Nodup := by
  rw [put_keys]
  by_cases hm : k ∈ l.map (·.1)
  · rw [if_pos hm]
    exact h
  · rw [if_neg hm]
    exact nodup_snoc h hm
theorem put_mem_keys {l : List (α × β)} {k j : α} {v : β} (h : j ∈ (put l k v).map (·.1)) : j ∈ l.map (·.1) ∨ j = k := by
  rw [put_keys] at h
  by_cases hm : k ∈ l.map (·.1)
  · rw [if_pos hm] at h
    exact .inl h
  · rw [if_neg hm] at h
    simpa using h
/-- a list without repeats whose items all stand in another one is no longer -/
theorem nodup_len : ∀ {l m : List α}, l.Nodup → (∀ a ∈ l, a ∈ m) → l.length ≤ m.length
  | [], m, _, _ => Nat.zero_le _
  | a :: l, m, hn, hs => by
    rw [List.nodup_cons] at hn
    have ha := hs a List.mem_cons_self
    have := nodup_len (l := l) (m := m.erase a) hn.2 fun b hb => by
      have hne : b ≠ a := fun e => hn.1 (e ▸ hb)
      exact (List.mem_erase_of_ne hne).mpr (hs b (List.mem_cons_of_mem _ hb))
    rw [List.length_erase_of_mem ha] at this
    have : 0 < m.length := List.length_pos_of_mem ha
    simp only [List.length_cons]
    omega
theorem len_of_look {l m : List (α × β)} (hl : (l.map (·.1)).Nodup) (hm : (m.map (·.1)).Nodup) (h : ∀ k, look l k = look m k) : l.length = m.length := by
  have key : ∀ {l m : List (α × β)}, (∀ k, look l k = look m k) → ∀ a ∈ l.map (·.1), a ∈ m.map (·.1) := by
    intro l m h a ha
    by_cases hm : a ∈ m.map (·.1)
    · exact hm
    · have e := look_none.mpr hm
      rw [← h] at e
      exact absurd ha (look_none.mp e)
  have h1 := nodup_len hl (key h)
  have h2 := nodup_len hm (key fun k => (h k).symm)
  simp only [List.length_map] at h1 h2
  omega
end
/-! ### going over a road, over all roads -/
section
variable {α : Type} [DecidableEq α]
/-- one road: where it leads is told with no more than it adds -/
def relax (l : List (α × Int)) (r : α × α × Int) : List (α × Int) :=
  match look l r.1 with
  | none => l
  | some m =>
    match look l r.2.1 with
    | none => put l r.2.1 (m + r.2.2)
    | some v => if m + r.2.2 < v then put l r.2.1 (m + r.2.2) else l
def pass (R : List (α × α × Int)) (l : List (α × Int)) : List (α × Int) := R.foldl relax l
theorem relax_none {l : List (α × Int)} {r : α × α × Int} (h : look l r.1 = none) : relax l r = l := by
  unfold relax; rw [h]
theorem relax_new {l : List (α × Int)} {r : α × α × Int} {m : Int} (h : look l r.1 = some m) (h2 : look l r.2.1 = none) : relax l r = put l r.2.1 (m + r.2.2) := by
  unfold relax; rw [h]; simp only []; rw [h2]
theorem relax_less {l : List (α × Int)} {r : α × α × Int} {m v : Int} (h : look l r.1 = some m) (h2 : look l r.2.1 = some v) (h3 : m + r.2.2 < v) : relax l r = put l r.2.1 (m + r.2.2) := by
  unfold relax; rw [h]; simp only []; rw [h2]; simp only []; rw [if_pos h3]
theorem relax_keep {l : List (α × Int)} {r : α × α × Int} {m v : Int} (h : look l r.1 = some m) (h2 : look l r.2.1 = some v) (h3 : ¬ m + r.2.2 < v) : relax l r = l := by
  unfold relax; rw [h]; simp only []; rw [h2]; simp only []; rw [if_neg h3]
/-- what is told is told by ways from x; x with 0; no place twice; each place is x or one that a road leads to -/
structure Told (R : List (α × α × Int)) (x : α) (l : List (α × Int)) : Prop where
  zero : look l x = some 0
  way : ∀ y m, look l y = some m → Path R x y m
  nd : (l.map (·.1)).Nodup
  keys : ∀ y ∈ l.map (·.1), y = x ∨ y ∈ R.map (·.2.1)
theorem Told.first (R : List (α × α × Int)) (x : α) : Told R x [(x, 0)] :=
  ⟨by simp [look], fun y m h => by
    by_cases e : x = y
    · subst e
      simp [look] at h
      subst h
      exact .nil
    · simp [look, e] at h, by simp, fun y hy => by simp at hy; exact .inl hy⟩
theorem Told.len {R : List (α × α × Int)} {x : α} {l : List (α × Int)} (t : Told R x l) : l.length ≤ R.length + 1 := by
  have := nodup_len (m := x :: R.map (·.2.1)) t.nd fun a ha => by
    rcases t.keys a ha with e | e
    · rw [e]; exact List.mem_cons_self
    · exact List.mem_cons_of_mem _ e
  simpa using this
/-- how two tables stand: what the first tells the second tells, with no more -/
def Leq (l m : List (α × Int)) : Prop := ∀ y a, look l y = some a → ∃ b, look m y = some b ∧ b ≤ a
theorem Leq.refl (l : List (α × Int)) : Leq l l := fun _ a h => ⟨a, h, Int.le_refl a⟩
theorem Leq.trans {l m n : List (α × Int)} (h : Leq l m) (h' : Leq m n) : Leq l n := fun y a e => by
  obtain ⟨b, e1, l1⟩ := h y a e
  obtain ⟨c, e2, l2⟩ := h' y b e1
  exact ⟨c, e2, Int.le_trans l2 l1⟩
theorem relax_put {R : List (α × α × Int)} (hp : PosR R) {x : α} {l : List (α × Int)} (t : Told R x l) {y z : α} {m w : Int} (hr : (y, z, w) ∈ R) (hm : look l y = some m)
    (hz : ∀ v, look l z = some v → m + w < v) : Told R x (put l z (m + w)) ∧ Leq l (put l z (m + w)) := by
  have h0 := (t.way _ _ hm).nonneg hp
  have h1 := hp _ hr
  simp only at h1
  have hzx : ¬ x = z := fun e => by
    subst e
    have := hz _ t.zero
    omega
  refine ⟨⟨?_, ?_, put_nodup t.nd _ _, ?_⟩, ?_⟩
  · rw [look_put, if_neg hzx]
    exact t.zero
  · intro y' m' h
    rw [look_put] at h
    by_cases e : y' = z
    · rw [if_pos e] at h
      cases h
      subst e
      exact (t.way _ _ hm).snoc hr
    · rw [if_neg e] at h
      exact t.way _ _ h
  · intro j hj
    rcases put_mem_keys hj with h | h
    · exact t.keys j h
    · subst h
      exact .inr (List.mem_map_of_mem (f := fun r : α × α × Int => r.2.1) hr)
  · intro j a h
    rw [look_put]
    by_cases e : j = z
    · rw [if_pos e]
      subst e
      exact ⟨_, rfl, Int.le_of_lt (hz _ h)⟩
    · rw [if_neg e]
      exact ⟨a, h, Int.le_refl a⟩
theorem relax_told {R : List (α × α × Int)} (hp : PosR R) {x : α} {l : List (α × Int)} (t : Told R x l) {r : α × α × Int} (hr : r ∈ R) : Told R x (relax l r) ∧ Leq l (relax l r) := by
  obtain ⟨y, z, w⟩ := r
  cases hy : look l y with
  | none => rw [relax_none (r := (y, z, w)) hy]; exact ⟨t, Leq.refl l⟩
  | some m =>
    cases hz : look l z with
    | none =>
      rw [relax_new (r := (y, z, w)) hy hz]
      exact relax_put hp t hr hy fun v h => by rw [hz] at h; cases h
    | some v =>
      by_cases c : m + w < v
      · rw [relax_less (r := (y, z, w)) hy hz c]
        exact relax_put hp t hr hy fun v' h => by rw [hz] at h; cases h; exact c
      · rw [relax_keep (r := (y, z, w)) hy hz c]
        exact ⟨t, Leq.refl l⟩
/-- behind a road, where it leads is told with no more than it adds -/
theorem relax_done {l : List (α × Int)} {y z : α} {m w : Int} (hy : look l y = some m) : ∃ v, look (relax l (y, z, w)) z = some v ∧ v ≤ m + w := by
  cases hz : look l z with
  | none =>
    rw [relax_new (r := (y, z, w)) hy hz, look_put, if_pos rfl]
    exact ⟨_, rfl, Int.le_refl _⟩
  | some v =>
    by_cases c : m + w < v
    · rw [relax_less (r := (y, z, w)) hy hz c, look_put, if_pos rfl]
      exact ⟨_, rfl, Int.le_refl _⟩
    · rw [relax_keep (r := (y, z, w)) hy hz c]
      exact ⟨v, hz, Int.not_lt.mp c⟩
/-- a road that changes nothing is met already -/
theorem relax_same {l : List (α × Int)} {r : α × α × Int} (h : relax l r = l) {m : Int} (hy : look l r.1 = some m) : ∃ v, look l r.2.1 = some v ∧ v ≤ m + r.2.2 := by
  have := relax_done (l := l) (y := r.1) (z := r.2.1) (w := r.2.2) hy
  rw [show (r.1, r.2.1, r.2.2) = r from rfl, h] at this
  exact this
theorem pass_told {R : List (α × α × Int)} (hp : PosR R) {x : α} : ∀ (S : List (α × α × Int)), (∀ r ∈ S, r ∈ R) → ∀ {l : List (α × Int)}, Told R x l → Told R x (pass S l) ∧ Leq l (pass S l)
  | [], _, l, t => ⟨t, Leq.refl l⟩
  | r :: S, hs, l, t => by
    have h1 := relax_told hp t (hs r List.mem_cons_self)
    have h2 := pass_told hp S (fun q hq => hs q (List.mem_cons_of_mem _ hq)) h1.1
    exact ⟨h2.1, h1.2.trans h2.2⟩
/-- nothing told undercuts the least -/
theorem Told.ge {R : List (α × α × Int)} {x y : α} {l : List (α × Int)} (t : Told R x l) {m d : Int} (h : look l y = some m) (hd : dist R x y = some d) : d ≤ m := (dist_eq.mp hd).2 _ (t.way _ _ h)
theorem Told.reach {R : List (α × α × Int)} (hp : PosR R) {x y : α} {l : List (α × Int)} (t : Told R x l) {m : Int} (h : look l y = some m) : ∃ d, dist R x y = some d ∧ d ≤ m := dist_path hp (t.way _ _ h)
/-- if no road changes anything, the table is the least -/
theorem Told.still {R : List (α × α × Int)} (hp : PosR R) {x : α} {l : List (α × Int)} (t : Told R x l) (h : ∀ r ∈ R, relax l r = l) (y : α) : look l y = dist R x y :=
  dist_only hp t.zero t.way (fun r hr _ hm => relax_same (h r hr) hm) y
/-- if the table is the least, no road changes anything -/
theorem Told.keeps {R : List (α × α × Int)} (hp : PosR R) {x : α} {l : List (α × Int)} (h : ∀ y, look l y = dist R x y) {r : α × α × Int} (hr : r ∈ R) : relax l r = l := by
  obtain ⟨y, z, w⟩ := r
  cases hy : look l y with
  | none => exact relax_none hy
  | some m =>
    obtain ⟨v, hv, hle⟩ := dist_road hp ((h y).symm.trans hy) hr
    exact relax_keep (r := (y, z, w)) hy ((h z).trans hv) (by simp only []; omega)
/-- how many roads lead to where it is nearer than d -/
def isLess (d : Int) : Option Int → Bool
  | some m => decide (m < d)
  | none => false
noncomputable def nearer (R : List (α × α × Int)) (x : α) (d : Int) : Nat := R.countP fun r => isLess d (dist R x r.2.1)
theorem countP_lt {β : Type} {p q : β → Bool} : ∀ {l : List β}, (∀ a ∈ l, p a = true → q a = true) → (∃ a ∈ l, q a = true ∧ p a = false) → l.countP p < l.countP q
  | [], _, h => by obtain ⟨a, ha, _⟩ := h; cases ha
  | a :: l, hs, h => by
    have hmono : l.countP p ≤ l.countP q := List.countP_mono_left fun b hb => hs b (List.mem_cons_of_mem _ hb)
    rw [List.countP_cons, List.countP_cons]
    by_cases hq : q a = true ∧ p a = false
    · rw [hq.1, hq.2]
      simp only [if_true, Bool.false_eq_true, if_false]
      omega
    · obtain ⟨b, hb, h1, h2⟩ := h
      rcases List.mem_cons.mp hb with e | e
      · subst e
        exact absurd ⟨h1, h2⟩ hq
      · have ih := countP_lt (l := l) (fun b hb => hs b (List.mem_cons_of_mem _ hb)) ⟨b, e, h1, h2⟩
        have : (if p a = true then 1 else 0) ≤ (if q a = true then 1 else 0) := by
          cases hpa : p a with
          | false => simp
          | true => rw [hs a List.mem_cons_self hpa]; simp
        omega
theorem nearer_lt {R : List (α × α × Int)} {x y : α} {m d : Int} (hy : dist R x y = some m) (hyx : y ∈ R.map (·.2.1)) (hlt : m < d) : nearer R x m < nearer R x d := by
  unfold nearer
  refine countP_lt (fun r _ h => ?_) ?_
  · cases e : dist R x r.2.1 with
    | none =>
      rw [e] at h
      cases h
    | some a =>
      rw [e] at h
      have h : a < m := of_decide_eq_true h
      exact decide_eq_true (Int.lt_trans h hlt)
  · obtain ⟨r, hr, e⟩ := List.mem_map.mp hyx
    refine ⟨r, hr, ?_, ?_⟩
    · rw [e, hy]
      exact decide_eq_true hlt
    · rw [e, hy]
      exact decide_eq_false (Int.lt_irrefl m)
theorem nearer_le {R : List (α × α × Int)} {x y : α} {d : Int} (hy : dist R x y = some d) (hyx : y ∈ R.map (·.2.1)) : nearer R x d < R.length := by
  unfold nearer
  have h1 : R.countP (fun _ : α × α × Int => true) = R.length := by simp
  rw [← h1]
  refine countP_lt (fun _ _ _ => rfl) ?_
  obtain ⟨r, hr, e⟩ := List.mem_map.mp hyx
  refine ⟨r, hr, rfl, ?_⟩
  rw [e, hy]
  exact decide_eq_false (Int.lt_irrefl d)
/-- the tables behind 0, 1, 2 .. times over all roads -/
def times (R : List (α × α × Int)) (x : α) : Nat → List (α × Int)
  | 0 => [(x, 0)]
  | k + 1 => pass R (times R x k)
theorem times_told {R : List (α × α × Int)} (hp : PosR R) (x : α) : ∀ k, Told R x (times R x k)
  | 0 => Told.first R x
  | k + 1 => (pass_told hp R (fun _ h => h) (times_told hp x k)).1
theorem times_near {R : List (α × α × Int)} (hp : PosR R) (x : α) : ∀ (k : Nat) (y : α) (d : Int), dist R x y = some d → y ≠ x → nearer R x d < k → look (times R x k) y = some d
  | 0, _, _, _, _, h => absurd h (Nat.not_lt_zero _)
  | k + 1, y, d, hd, hne, hk => by
    obtain ⟨z, w, m, hr, hz, e⟩ := dist_pred hp hd hne
    have hw := hp _ hr
    simp only at hw
    have t := times_told hp x k
    have ez : look (times R x k) z = some m := by
      by_cases c : z = x
      · subst c
        have : m = 0 := Option.some.inj (hz.symm.trans (dist_self hp z))
        rw [this]
        exact t.zero
      · refine times_near hp x k z m hz c ?_
        have hzk : z ∈ R.map (·.2.1) := by
          obtain ⟨y2, w2, m2, hr2, _, _⟩ := dist_pred hp hz c
          exact List.mem_map_of_mem (f := fun r : α × α × Int => r.2.1) hr2
        have := nearer_lt (d := d) hz hzk (by omega)
        omega
    show look (pass R (times R x k)) y = some d
    obtain ⟨pre, post, hR⟩ := List.append_of_mem hr
    have hpre : ∀ r ∈ pre, r ∈ R := fun r h => by rw [hR]; exact List.mem_append_left _ h
    have hpost : ∀ r ∈ post, r ∈ R := fun r h => by rw [hR]; exact List.mem_append_right _ (List.mem_cons_of_mem _ h)
    have t1 := pass_told hp pre hpre t
    obtain ⟨m1, e1, l1⟩ := t1.2 z m ez
    have g1 := t1.1.ge e1 hz
    have em : m1 = m := by omega
    subst em
    have t2 := relax_told hp t1.1 hr
    obtain ⟨v, ev, lv⟩ := relax_done (z := y) (w := w) e1
    have t3 := pass_told hp post hpost t2.1
    obtain ⟨v', ev', lv'⟩ := t3.2 y v ev
    have g3 := t3.1.ge ev' hd
    have : pass R (times R x k) = pass post (relax (pass pre (times R x k)) (z, y, w)) := by
      have h : ∀ l, pass R l = pass post (relax (pass pre l) (z, y, w)) := fun l => by
        rw [hR]
        unfold pass
        rw [List.foldl_append, List.foldl_cons]
      exact h _
    rw [this, ev']
    congr 1
    omega
/-- as many times as there are roads are enough -/
theorem times_all {R : List (α × α × Int)} (hp : PosR R) (x : α) {k : Nat} (hk : R.length ≤ k) (y : α) : look (times R x k) y = dist R x y := by
  have t := times_told hp x k
  by_cases e : y = x
  · subst e
    rw [t.zero, dist_self hp]
  · cases hd : dist R x y with
    | none =>
      cases hl : look (times R x k) y with
      | none => rfl
      | some m => exact absurd (t.way _ _ hl) ((dist_none hp).mp hd m)
    | some d =>
      have hyk : y ∈ R.map (·.2.1) := by
        obtain ⟨y2, w2, m2, hr2, _, _⟩ := dist_pred hp hd e
        exact List.mem_map_of_mem (f := fun r : α × α × Int => r.2.1) hr2
      have := nearer_le hd hyk
      exact times_near hp x k y d hd e (by omega)
end
end Fb
/-! As few rows as can be: a matching, its growth along a chain, what shows that it can't grow; plain Lean, no program. -/
namespace Fb
section
variable {A : Nat → Nat → Prop} {nx ah : Nat → Option Nat}
/-- f with v at k -/
def at' (f : Nat → Option Nat) (k v : Nat) : Nat → Option Nat := fun j => if j = k then some v else f j
theorem at_same {f : Nat → Option Nat} {k v : Nat} : at' f k v k = some v := if_pos rfl
theorem at_ne {f : Nat → Option Nat} {k v j : Nat} (h : j ≠ k) : at' f k v j = f j := if_neg h
theorem look_at (l : List (Nat × Nat)) (k v : Nat) : look (put l k v) = at' (look l) k v := funext fun j => look_put l k j v
/-- who is next, who is ahead: the same pairs, each one that can be done -/
structure Mat (A : Nat → Nat → Prop) (nx ah : Nat → Option Nat) : Prop where
  inv : ∀ i j, nx i = some j ↔ ah j = some i
  ok : ∀ i j, nx i = some j → A i j
/-- the same but for j, whose own row in ah is not right -/
structure Hole (A : Nat → Nat → Prop) (nx ah : Nat → Option Nat) (j : Nat) : Prop where
  inv : ∀ i k, nx i = some k ↔ (ah k = some i ∧ k ≠ j)
  ok : ∀ i k, nx i = some k → A i k
theorem Mat.hole (m : Mat A nx ah) {j : Nat} (h : ah j = none) : Hole A nx ah j :=
  ⟨fun i k => by
    rw [m.inv]
    constructor
    · intro e
      refine ⟨e, fun z => ?_⟩
      rw [z, h] at e
      cases e
    · exact fun e => e.1, m.ok⟩
theorem Hole.fill {j i : Nat} (h : Hole A nx ah j) (ha : A i j) (hn : nx i = none) : Mat A (at' nx i j) (at' ah j i) := by
  refine ⟨fun a b => ?_, fun a b e => ?_⟩
  · by_cases hb : b = j
    · subst hb
      rw [at_same]
      by_cases hai : a = i
      · subst hai
        simp [at_same]
      · rw [at_ne hai]
        constructor
        · intro e
          exact absurd rfl ((h.inv a b).mp e).2
        · intro e
          exact absurd (Option.some.inj e).symm hai
    · rw [at_ne hb]
      by_cases hai : a = i
      · subst hai
        rw [at_same]
        constructor
        · intro e
          exact absurd (Option.some.inj e).symm hb
        · intro e
          have := (h.inv a b).mpr ⟨e, hb⟩
          rw [hn] at this
          cases this
      · rw [at_ne hai, h.inv]
        exact ⟨fun e => e.1, fun e => ⟨e, hb⟩⟩
  · by_cases hai : a = i
    · subst hai
      rw [at_same] at e
      rw [← Option.some.inj e]
      exact ha
    · rw [at_ne hai] at e
      exact h.ok _ _ e
theorem Hole.move {j i j' : Nat} (h : Hole A nx ah j) (ha : A i j) (hn : nx i = some j') : Hole A (at' nx i j) (at' ah j i) j' := by
  have hj := ((h.inv _ _).mp hn).2
  have hj1 := ((h.inv _ _).mp hn).1
  refine ⟨fun a b => ?_, fun a b e => ?_⟩
  · by_cases hb : b = j
    · subst hb
      rw [at_same]
      by_cases hai : a = i
      · subst hai
        rw [at_same]
        exact ⟨fun _ => ⟨rfl, fun z => hj z.symm⟩, fun _ => rfl⟩
      · rw [at_ne hai]
        constructor
        · intro e
          exact absurd rfl ((h.inv a b).mp e).2
        · intro e
          exact absurd (Option.some.inj e.1).symm hai
    · rw [at_ne hb]
      by_cases hai : a = i
      · subst hai
        rw [at_same]
        constructor
        · intro e
          exact absurd (Option.some.inj e).symm hb
        · intro e
          have := (h.inv a b).mpr ⟨e.1, hb⟩
          rw [hn] at this
          exact absurd (Option.some.inj this).symm e.2
      · rw [at_ne hai, h.inv]
        constructor
        · intro e
          refine ⟨e.1, fun z => ?_⟩
          rw [z, hj1] at e
          exact hai (Option.some.inj e.1).symm
        · exact fun e => ⟨e.1, hb⟩
  · by_cases hai : a = i
    · subst hai
      rw [at_same] at e
      rw [← Option.some.inj e]
      exact ha
    · rw [at_ne hai] at e
      exact h.ok _ _ e
/-- from DL nothing leads but to DR, and each of DR has one of DL ahead -/
structure Closed (A : Nat → Nat → Prop) (ah : Nat → Option Nat) (DL DR : Nat → Prop) : Prop where
  out : ∀ i j, DL i → A i j → DR j
  back : ∀ j, DR j → ∃ i, ah j = some i ∧ DL i
theorem Closed.none (A : Nat → Nat → Prop) (ah : Nat → Option Nat) : Closed A ah (fun _ => False) (fun _ => False) := ⟨fun _ _ h _ => h.elim, fun _ h => h.elim⟩
theorem Closed.or {DL DR EL ER : Nat → Prop} (c : Closed A ah DL DR) (d : Closed A ah EL ER) : Closed A ah (fun i => DL i ∨ EL i) (fun i => DR i ∨ ER i) :=
  ⟨fun i j h a => h.elim (fun h => .inl (c.out i j h a)) (fun h => .inr (d.out i j h a)),
   fun j h => h.elim (fun h => by obtain ⟨i, e, k⟩ := c.back j h; exact ⟨i, e, .inl k⟩) (fun h => by obtain ⟨i, e, k⟩ := d.back j h; exact ⟨i, e, .inr k⟩)⟩
/-- what a search from first has met: of each one by whom it was come to; that one is first, or has an elder one behind it -/
structure Came (A : Nat → Nat → Prop) (ah : Nat → Option Nat) (first : Nat) (l : List (Nat × Nat)) : Prop where
  nd : (l.map (·.1)).Nodup
  pre : ∀ p k i q, l = p ++ (k, i) :: q → A i k ∧ (i = first ∨ ∃ k', k' ∈ p.map (·.1) ∧ ah k' = some i)
theorem Came.nil (A : Nat → Nat → Prop) (ah : Nat → Option Nat) (first : Nat) : Came A ah first [] := ⟨List.nodup_nil, fun p k i q e => by simp at e⟩
theorem put_new : ∀ {l : List (Nat × Nat)} {k v : Nat}, look l k = none → put l k v = l ++ [(k, v)]
  | [], _, _, _ => rfl
  | p :: r, k, v, h => by
    by_cases e : p.1 = k
    · simp [look, e] at h
    · simp only [look, e, if_false] at h
      simp only [put, e, if_false, List.cons_append]
      rw [put_new h]
theorem Came.add {first : Nat} {l : List (Nat × Nat)} (c : Came A ah first l) {k i : Nat} (hk : look l k = none) (ha : A i k) (hi : i = first ∨ ∃ k', k' ∈ l.map (·.1) ∧ ah k' = some i) : Came A ah first (put l k i) := by
  refine ⟨put_nodup c.nd k i, fun p k2 i2 q e => ?_⟩
  rw [put_new hk] at e
  rcases List.eq_nil_or_concat q with hq | ⟨q', x, hq⟩
  · subst hq
    have e2 : l ++ [(k, i)] = p ++ [(k2, i2)] := e
    obtain ⟨e3, e4⟩ := List.append_inj' e2 rfl
    cases e4
    subst e3
    exact ⟨ha, hi⟩
  · subst hq
    have e2 : l ++ [(k, i)] = (p ++ (k2, i2) :: q') ++ [x] := by rw [e]; simp
    obtain ⟨e3, _⟩ := List.append_inj' e2 rfl
    exact c.pre p k2 i2 q' e3
def ixOf : List Nat → Nat → Nat
  | [], _ => 0
  | a :: l, k => if a = k then 0 else ixOf l k + 1
def rank (l : List (Nat × Nat)) (k : Nat) : Nat := ixOf (l.map (·.1)) k
theorem ixOf_in : ∀ {p q : List Nat} {k : Nat}, k ∈ p → ixOf (p ++ q) k < p.length
  | [], _, _, h => by cases h
  | a :: p, q, k, h => by
    show ixOf (a :: (p ++ q)) k < p.length + 1
    by_cases e : a = k
    · simp [ixOf, e]
    · simp only [ixOf, e, if_false]
      have := ixOf_in (q := q) ((List.mem_cons.mp h).resolve_left fun z => e z.symm)
      omega
theorem ixOf_out : ∀ {p q : List Nat} {k : Nat}, k ∉ p → p.length ≤ ixOf (p ++ q) k
  | [], _, _, _ => Nat.zero_le _
  | a :: p, q, k, h => by
    show p.length + 1 ≤ ixOf (a :: (p ++ q)) k
    have e : ¬ a = k := fun z => h (by rw [z]; exact List.mem_cons_self)
    simp only [ixOf, e, if_false]
    have := ixOf_out (q := q) (k := k) fun z => h (List.mem_cons_of_mem _ z)
    omega
theorem idx_lt {p q : List Nat} {k k' : Nat} (hn : (p ++ k :: q).Nodup) (h : k' ∈ p) : ixOf (p ++ k :: q) k' < ixOf (p ++ k :: q) k := by
  have hk : k ∉ p := fun z => by
    rw [List.nodup_append] at hn
    exact hn.2.2 k z k List.mem_cons_self rfl
  exact Nat.lt_of_lt_of_le (ixOf_in h) (ixOf_out hk)
theorem Came.come {first : Nat} {l : List (Nat × Nat)} (c : Came A ah first l) {k i : Nat} (h : look l k = some i) : A i k ∧ (i = first ∨ ∃ k', (∃ i', look l k' = some i') ∧ ah k' = some i ∧ rank l k' < rank l k) := by
  obtain ⟨p, q, e⟩ := List.append_of_mem (look_mem h)
  obtain ⟨ha, hi⟩ := c.pre p k i q e
  refine ⟨ha, hi.imp id fun ⟨k', hk', h2⟩ => ⟨k', ?_, h2, ?_⟩⟩
  · cases e2 : look l k' with
    | none =>
      have := look_none.mp e2
      rw [e, List.map_append] at this
      exact absurd (List.mem_append_left _ hk') this
    | some i' => exact ⟨i', rfl⟩
  · have hn := c.nd
    rw [e, List.map_append, List.map_cons] at hn
    unfold rank
    rw [e, List.map_append, List.map_cons]
    exact idx_lt hn hk'
theorem Came.lt {first n : Nat} {l : List (Nat × Nat)} (c : Came A ah first l) (hA : ∀ i j, A i j → j < n) : l.length ≤ n := by
  have := nodup_len (m := List.range n) c.nd fun k hk => by
    obtain ⟨⟨k2, i⟩, hm, e⟩ := List.mem_map.mp hk
    have e : k2 = k := e
    subst e
    obtain ⟨p, q, e⟩ := List.append_of_mem hm
    exact List.mem_range.mpr (hA _ _ (c.pre p _ _ q e).1)
  simpa using this
/-- a search under way: first, and whoever is ahead of one met, waits or is gone through -/
structure Seek (A : Nat → Nat → Prop) (ah : Nat → Option Nat) (first : Nat) (l : List (Nat × Nat)) (waiting : List Nat) : Prop where
  came : Came A ah first l
  full : ∀ k i, look l k = some i → ∃ i', ah k = some i'
  wait : ∀ i ∈ waiting, i = first ∨ ∃ k, k ∈ l.map (·.1) ∧ ah k = some i
  done : ∀ i, (i = first ∨ ∃ k, k ∈ l.map (·.1) ∧ ah k = some i) → i ∈ waiting ∨ ∀ j, A i j → j ∈ l.map (·.1)
theorem Seek.first (A : Nat → Nat → Prop) (ah : Nat → Option Nat) (first : Nat) : Seek A ah first [] [first] :=
  ⟨Came.nil A ah first, (fun k i h => nomatch h), fun i h => .inl (List.mem_singleton.mp h), fun i h => .inl (by
    rcases h with h | ⟨k, hk, _⟩
    · exact List.mem_singleton.mpr h
    · cases hk)⟩
/-- all is gone through and no free one met -/
theorem Seek.end {first : Nat} {l : List (Nat × Nat)} (s : Seek A ah first l []) : ∃ DL DR, Closed A ah DL DR ∧ DL first := by
  refine ⟨fun i => i = first ∨ ∃ k, k ∈ l.map (·.1) ∧ ah k = some i, fun j => j ∈ l.map (·.1), ⟨fun i j h a => ?_, fun j h => ?_⟩, .inl rfl⟩
  · rcases s.done i h with h | h
    · cases h
    · exact h j a
  · have : ∃ i, look l j = some i := by
      cases e : look l j with
      | none => exact absurd h (look_none.mp e)
      | some i => exact ⟨i, rfl⟩
    obtain ⟨i, e⟩ := this
    obtain ⟨i', e'⟩ := s.full j i e
    exact ⟨i', e', .inr ⟨j, h, e'⟩⟩
/-- one turn's state: one is taken out, the first of its followers are met -/
structure Turn (A : Nat → Nat → Prop) (ah : Nat → Option Nat) (first one : Nat) (l : List (Nat × Nat)) (waiting seen : List Nat) : Prop where
  came : Came A ah first l
  full : ∀ k i, look l k = some i → ∃ i', ah k = some i'
  mine : one = first ∨ ∃ k, k ∈ l.map (·.1) ∧ ah k = some one
  wait : ∀ i ∈ waiting, i = first ∨ ∃ k, k ∈ l.map (·.1) ∧ ah k = some i
  done : ∀ i, (i = first ∨ ∃ k, k ∈ l.map (·.1) ∧ ah k = some i) → i = one ∨ i ∈ waiting ∨ ∀ j, A i j → j ∈ l.map (·.1)
  seen : ∀ j ∈ seen, j ∈ l.map (·.1)
theorem Seek.turn {first one : Nat} {l : List (Nat × Nat)} {waiting : List Nat} (s : Seek A ah first l (waiting ++ [one])) : Turn A ah first one l waiting [] :=
  ⟨s.came, s.full, s.wait one (List.mem_append_right _ List.mem_cons_self), fun i h => s.wait i (List.mem_append_left _ h), fun i h => by
    rcases s.done i h with h | h
    · rcases List.mem_append.mp h with h | h
      · exact .inr (.inl h)
      · exact .inl (List.mem_singleton.mp h)
    · exact .inr (.inr h), fun j h => by cases h⟩
theorem Turn.end {first one : Nat} {l : List (Nat × Nat)} {waiting seen : List Nat} (t : Turn A ah first one l waiting seen) (h : ∀ j, A one j → j ∈ seen) : Seek A ah first l waiting :=
  ⟨t.came, t.full, t.wait, fun i hi => by
    rcases t.done i hi with e | e | e
    · exact .inr fun j a => t.seen j (h j (e ▸ a))
    · exact .inl e
    · exact .inr e⟩
theorem Turn.old {first one j : Nat} {l : List (Nat × Nat)} {waiting seen : List Nat} (t : Turn A ah first one l waiting seen) (h : j ∈ l.map (·.1)) : Turn A ah first one l waiting (seen ++ [j]) :=
  ⟨t.came, t.full, t.mine, t.wait, t.done, fun k hk => by
    rcases List.mem_append.mp hk with e | e
    · exact t.seen k e
    · rw [List.mem_singleton.mp e]; exact h⟩
theorem keys_put {l : List (Nat × Nat)} {k v : Nat} (h : look l k = none) : (put l k v).map (·.1) = l.map (·.1) ++ [k] := by
  rw [put_new h, List.map_append]; rfl
theorem Turn.met {first one j : Nat} {l : List (Nat × Nat)} {waiting seen : List Nat} (t : Turn A ah first one l waiting seen) (ha : A one j) (h : look l j = none) : Came A ah first (put l j one) := t.came.add h ha t.mine
theorem Turn.new {first one j i : Nat} {l : List (Nat × Nat)} {waiting seen : List Nat} (t : Turn A ah first one l waiting seen) (ha : A one j) (h : look l j = none) (hi : ah j = some i) :
    Turn A ah first one (put l j one) (waiting ++ [i]) (seen ++ [j]) := by
  have hk := keys_put (v := one) h
  have sub : ∀ k, k ∈ l.map (·.1) → k ∈ (put l j one).map (·.1) := fun k z => by rw [hk]; exact List.mem_append_left _ z
  have new : j ∈ (put l j one).map (·.1) := by rw [hk]; exact List.mem_append_right _ List.mem_cons_self
  refine ⟨t.met ha h, fun k v e => ?_, ?_, fun x hx => ?_, fun x hx => ?_, fun x hx => ?_⟩
  · rw [look_put] at e
    by_cases c : k = j
    · subst c
      exact ⟨i, hi⟩
    · rw [if_neg c] at e
      exact t.full k v e
  · exact t.mine.imp id fun ⟨k, z, e⟩ => ⟨k, sub k z, e⟩
  · rcases List.mem_append.mp hx with z | z
    · exact (t.wait x z).imp id fun ⟨k, z, e⟩ => ⟨k, sub k z, e⟩
    · rw [List.mem_singleton.mp z]
      exact .inr ⟨j, new, hi⟩
  · by_cases old : x = first ∨ ∃ k, k ∈ l.map (·.1) ∧ ah k = some x
    · rcases t.done x old with z | z | z
      · exact .inl z
      · exact .inr (.inl (List.mem_append_left _ z))
      · exact .inr (.inr fun y a => sub y (z y a))
    · rcases hx with z | ⟨k, z, e⟩
      · exact absurd (.inl z) old
      · rw [hk] at z
        rcases List.mem_append.mp z with z | z
        · exact absurd (.inr ⟨k, z, e⟩) old
        · rw [List.mem_singleton.mp z, hi] at e
          rw [← Option.some.inj e]
          exact .inr (.inl (List.mem_append_right _ List.mem_cons_self))
  · rcases List.mem_append.mp hx with z | z
    · exact sub x (t.seen x z)
    · rw [List.mem_singleton.mp z]
      exact new
/-- the pairs are turned over along a chain: other is the one to be filled next. nx0, ah0: how the pairs stood ahead of it -/
structure Flip (A : Nat → Nat → Prop) (nx0 ah0 nx ah : Nat → Option Nat) (DR : Nat → Prop) (first : Nat) (l : List (Nat × Nat)) (other : Nat) : Prop where
  hole : Hole A nx ah other
  there : ∃ i, look l other = some i
  free : nx first = none
  old : ∀ k, rank l k < rank l other → ah k = ah0 k
  off : ¬ DR other
  dr : ∀ k, DR k → ah k = ah0 k
  dom : ∀ i, nx i = none → nx0 i = none
  dom2 : ∀ i, nx0 i = none → nx i = none
theorem Flip.start {first other : Nat} {l : List (Nat × Nat)} {DL DR : Nat → Prop} (m : Mat A nx ah) (c : Closed A ah DL DR) (hf : nx first = none) (ho : ah other = none) (hl : ∃ i, look l other = some i) : Flip A nx ah nx ah DR first l other :=
  ⟨m.hole ho, hl, hf, fun _ _ => rfl, (fun h => by
    obtain ⟨i, e, _⟩ := c.back other h
    rw [ho] at e
    cases e), fun _ _ => rfl, fun _ h => h, fun _ h => h⟩
/-- the chain's end: the pairs are right again, first has one, what was closed is -/
theorem Flip.end {nx0 ah0 : Nat → Option Nat} {DL DR : Nat → Prop} {first other one : Nat} {l : List (Nat × Nat)} (f : Flip A nx0 ah0 nx ah DR first l other) (c : Closed A ah0 DL DR) (k : Came A ah0 first l) (ho : look l other = some one) (hn : nx one = none) :
    Mat A (at' nx one other) (at' ah other one) ∧ Closed A (at' ah other one) DL DR ∧ at' nx one other first ≠ none ∧ (∀ i, at' nx one other i = none → nx0 i = none) ∧ ∀ i, i ≠ first → nx0 i = none → at' nx one other i = none := by
  have hc := k.come ho
  have h1 : one = first := by
    rcases hc.2 with e | ⟨k', _, e, lt⟩
    · exact e
    · rw [← f.old k' lt] at e
      have := (f.hole.inv one k').mpr ⟨e, fun z => by rw [z] at lt; omega⟩
      rw [hn] at this
      cases this
  subst h1
  refine ⟨f.hole.fill hc.1 hn, ⟨c.out, fun j h => ?_⟩, by rw [at_same]; exact (fun z => nomatch z), fun i h => ?_, fun i hi h => by rw [at_ne hi]; exact f.dom2 i h⟩
  · rw [at_ne (fun z : j = other => f.off (z ▸ h)), f.dr j h]
    exact c.back j h
  · by_cases e : i = one
    · rw [e, at_same] at h
      cases h
    · rw [at_ne e] at h
      exact f.dom i h
theorem Flip.next {nx0 ah0 : Nat → Option Nat} {DL DR : Nat → Prop} {first other one left : Nat} {l : List (Nat × Nat)} (f : Flip A nx0 ah0 nx ah DR first l other) (c : Closed A ah0 DL DR) (k : Came A ah0 first l) (ho : look l other = some one) (hn : nx one = some left) :
    Flip A nx0 ah0 (at' nx one other) (at' ah other one) DR first l left ∧ rank l left < rank l other := by
  have hc := k.come ho
  have hone : one ≠ first := fun z => by
    rw [z, f.free] at hn
    cases hn
  obtain ⟨k', hk', e, lt⟩ : ∃ k', (∃ i', look l k' = some i') ∧ ah0 k' = some one ∧ rank l k' < rank l other := by
    rcases hc.2 with e | e
    · exact absurd e hone
    · exact e
  have e0 := e
  rw [← f.old k' lt] at e
  have hne : k' ≠ other := fun z => by rw [z] at lt; omega
  have h2 := (f.hole.inv one k').mpr ⟨e, hne⟩
  rw [hn] at h2
  have h3 : left = k' := Option.some.inj h2
  subst h3
  refine ⟨⟨f.hole.move hc.1 hn, hk', ?_, fun k2 lt2 => ?_, fun hd => ?_, fun k2 hd => ?_, fun i h => ?_, fun i h => ?_⟩, lt⟩
  · rw [at_ne fun z => hone z.symm]
    exact f.free
  · rw [at_ne fun z => by rw [z] at lt2; omega]
    exact f.old k2 (Nat.lt_trans lt2 lt)
  · obtain ⟨i, e2, hd2⟩ := c.back left hd
    rw [e0] at e2
    cases e2
    exact f.off (c.out _ _ hd2 hc.1)
  · rw [at_ne (fun z : k2 = other => f.off (z ▸ hd))]
    exact f.dr k2 hd
  · by_cases e : i = one
    · rw [e, at_same] at h
      cases h
    · rw [at_ne e] at h
      exact f.dom i h
  · rw [at_ne fun z : i = one => by
      have := f.dom2 i h
      rw [z, hn] at this
      cases this]
    exact f.dom2 i h
end
end Fb
/-! Rows and trips apart: as many of these as of those; plain Lean, no program. -/
namespace Fb
theorem perm_of_mem {α : Type} [DecidableEq α] : ∀ {l m : List α}, l.Nodup → m.Nodup → (∀ a, a ∈ l ↔ a ∈ m) → l.Perm m
  | [], m, _, _, h => by
    cases m with
    | nil => exact .nil
    | cons a m => exact absurd ((h a).mpr List.mem_cons_self) (fun z => nomatch z)
  | a :: l, m, hl, hm, h => by
    rw [List.nodup_cons] at hl
    have ha : a ∈ m := (h a).mp List.mem_cons_self
    have p := List.perm_cons_erase ha
    refine (List.Perm.cons a (perm_of_mem hl.2 (hm.erase a) fun b => ?_)).trans p.symm
    by_cases e : b = a
    · subst e
      constructor
      · exact fun z => absurd z hl.1
      · exact fun z => absurd z (List.Nodup.not_mem_erase hm)
    · rw [List.mem_erase_of_ne e, ← h b]
      simp [e]
section
variable {A : Nat → Nat → Prop} {nx ah : Nat → Option Nat} {n : Nat}
/-- a row: from its first, each next one the one that nx tells, to one without -/
structure Row (nx : Nat → Option Nat) (first : Nat) (row : List Nat) : Prop where
  head : row[0]? = some first
  step : ∀ i u v, row[i]? = some u → row[i + 1]? = some v → nx u = some v
/-- .. and it is at its end -/
def Full (nx : Nat → Option Nat) (row : List Nat) : Prop := ∀ i u, row[i]? = some u → row[i + 1]? = none → nx u = none
theorem Row.start (nx : Nat → Option Nat) (first : Nat) : Row nx first [first] := ⟨rfl, fun i u v _ h => by simp at h⟩
theorem Row.add {first last v : Nat} {row : List Nat} (r : Row nx first (row ++ [last])) (h : nx last = some v) : Row nx first ((row ++ [last]) ++ [v]) := by
  refine ⟨by rw [List.getElem?_append_left (by simp)]; exact r.head, fun i u w h1 h2 => ?_⟩
  by_cases hi : i + 1 < (row ++ [last]).length
  · rw [List.getElem?_append_left (by omega)] at h1
    rw [List.getElem?_append_left hi] at h2
    exact r.step i u w h1 h2
  · have hlt := (List.getElem?_eq_some_iff.mp h2).1
    simp only [List.length_append, List.length_cons, List.length_nil] at hlt hi
    have hi2 : i = row.length := by omega
    subst hi2
    rw [List.getElem?_append_left (by simp), List.getElem?_append_right (Nat.le_refl _), Nat.sub_self] at h1
    rw [List.getElem?_append_right (by simp)] at h2
    simp at h2
    have e1 : last = u := Option.some.inj h1
    rw [← e1, ← h2]
    exact h
theorem Row.full {first last : Nat} {row : List Nat} (h : nx last = none) : Full nx (row ++ [last]) := fun i u h1 h2 => by
  have hl := (List.getElem?_eq_some_iff.mp h1).1
  have hn : (row ++ [last]).length ≤ i + 1 := List.getElem?_eq_none_iff.mp h2
  simp only [List.length_append, List.length_cons, List.length_nil] at hl hn
  have hi : i = row.length := by omega
  subst hi
  rw [List.getElem?_append_right (Nat.le_refl _), Nat.sub_self] at h1
  rw [← Option.some.inj h1]
  exact h
theorem pair_add {row : List Nat} {last v : Nat} (tr : ∀ i j k, A i j → A j k → A i k) (h : (row ++ [last]).Pairwise A) (ha : A last v) : ((row ++ [last]) ++ [v]).Pairwise A := by
  rw [List.pairwise_append]
  refine ⟨h, List.pairwise_singleton _ _, fun a ha' b hb => ?_⟩
  rw [List.mem_singleton.mp hb]
  rw [List.pairwise_append] at h
  rcases List.mem_append.mp ha' with z | z
  · exact tr _ _ _ (h.2.2 a z last List.mem_cons_self) ha
  · rw [List.mem_singleton.mp z]
    exact ha
theorem pair_nodup {row : List Nat} (irr : ∀ i, ¬ A i i) (h : row.Pairwise A) : row.Nodup := by
  unfold List.Nodup
  refine List.Pairwise.imp ?_ h
  intro a b hab e
  rw [← e] at hab
  exact irr a hab
/-- the rows of a matching: one for each that has none ahead -/
structure Rows1 (A : Nat → Nat → Prop) (nx ah : Nat → Option Nat) (t : Nat) (rows : List (List Nat)) : Prop where
  row : ∀ r ∈ rows, ∃ f, f < t ∧ ah f = none ∧ Row nx f r ∧ Full nx r ∧ r.Pairwise A
  all : ∀ f, f < t → ah f = none → ∃ r ∈ rows, r[0]? = some f
  heads : (rows.map fun r => r.headD 0).Pairwise (· < ·)
theorem head_of {r : List Nat} {f : Nat} (h : r[0]? = some f) : r.headD 0 = f := by
  cases r with
  | nil => cases h
  | cons a r => exact Option.some.inj h
theorem Rows1.nil : Rows1 A nx ah 0 [] := ⟨(fun _ h => nomatch h), fun _ h => absurd h (Nat.not_lt_zero _), List.Pairwise.nil⟩
theorem Rows1.skip {t : Nat} {rows : List (List Nat)} (h : Rows1 A nx ah t rows) {i : Nat} (hi : ah t = some i) : Rows1 A nx ah (t + 1) rows :=
  ⟨fun r hr => by
    obtain ⟨f, hf, x⟩ := h.row r hr
    exact ⟨f, by omega, x⟩, fun f hf ha => by
    by_cases e : f = t
    · rw [e, hi] at ha
      cases ha
    · exact h.all f (by omega) ha, h.heads⟩
theorem Rows1.add {t : Nat} {rows : List (List Nat)} (h : Rows1 A nx ah t rows) {r : List Nat} (ht : ah t = none) (hr : Row nx t r) (hf : Full nx r) (hp : r.Pairwise A) : Rows1 A nx ah (t + 1) (rows ++ [r]) := by
  refine ⟨fun r' hr' => ?_, fun f hf' ha => ?_, ?_⟩
  · rcases List.mem_append.mp hr' with z | z
    · obtain ⟨f, hf, x⟩ := h.row r' z
      exact ⟨f, by omega, x⟩
    · rw [List.mem_singleton.mp z]
      exact ⟨t, by omega, ht, hr, hf, hp⟩
  · by_cases e : f = t
    · exact ⟨r, List.mem_append_right _ List.mem_cons_self, by rw [e]; exact hr.head⟩
    · obtain ⟨r', h1, h2⟩ := h.all f (by omega) ha
      exact ⟨r', List.mem_append_left _ h1, h2⟩
  · rw [List.map_append, List.pairwise_append]
    refine ⟨h.heads, List.pairwise_singleton _ _, fun a ha b hb => ?_⟩
    obtain ⟨r', hr', rfl⟩ := List.mem_map.mp ha
    have hb : b = r.headD 0 := List.mem_singleton.mp hb
    obtain ⟨f, hf, _, hrow, _⟩ := h.row r' hr'
    rw [hb, head_of hr.head, head_of hrow.head]
    exact hf
/-- rows as few as can be, trips apart that show it -/
structure PlanOk (A : Nat → Nat → Prop) (n : Nat) (rows : List (List Nat)) (apart : List Nat) : Prop where
  ne : ∀ r ∈ rows, r ≠ []
  chain : ∀ r ∈ rows, r.Pairwise A
  perm : rows.flatten.Perm (List.range n)
  heads : (rows.map fun r => r.headD 0).Pairwise (· < ·)
  up : apart.Pairwise (· < ·)
  lt : ∀ i ∈ apart, i < n
  anti : ∀ i ∈ apart, ∀ j ∈ apart, ¬ A i j
  len : apart.length = rows.length
  pairs : ∃ nx ah, Mat A nx ah ∧ ((List.range n).filter fun x => (nx x).isNone).length = rows.length
theorem Rows1.apart {rows : List (List Nat)} (h : Rows1 A nx ah n rows) (m : Mat A nx ah) {u : Nat} : ∀ (i j : Nat) (r r' : List Nat), r ∈ rows → r' ∈ rows → r[i]? = some u → r'[j]? = some u → r.headD 0 = r'.headD 0 ∧ i = j := by
  intro i
  induction i generalizing u with
  | zero =>
    intro j r r' hr hr' h1 h2
    obtain ⟨f, _, hf, row, _⟩ := h.row r hr
    obtain ⟨f', _, hf', row', _⟩ := h.row r' hr'
    have e1 : f = u := Option.some.inj (row.head.symm.trans h1)
    cases j with
    | zero =>
      have e2 : f' = u := Option.some.inj (row'.head.symm.trans h2)
      rw [head_of row.head, head_of row'.head, e1, e2]
      exact ⟨rfl, rfl⟩
    | succ j =>
      have hj : j < r'.length := by have := (List.getElem?_eq_some_iff.mp h2).1; omega
      have := (m.inv _ _).mp (row'.step j r'[j] u (List.getElem?_eq_getElem hj) h2)
      rw [← e1, hf] at this
      cases this
  | succ i ih =>
    intro j r r' hr hr' h1 h2
    obtain ⟨f, _, hf, row, _⟩ := h.row r hr
    obtain ⟨f', _, hf', row', _⟩ := h.row r' hr'
    have hi : i < r.length := by have := (List.getElem?_eq_some_iff.mp h1).1; omega
    have a1 := (m.inv _ _).mp (row.step i r[i] u (List.getElem?_eq_getElem hi) h1)
    cases j with
    | zero =>
      have e2 : f' = u := Option.some.inj (row'.head.symm.trans h2)
      rw [← e2, hf'] at a1
      cases a1
    | succ j =>
      have hj : j < r'.length := by have := (List.getElem?_eq_some_iff.mp h2).1; omega
      have a2 := (m.inv _ _).mp (row'.step j r'[j] u (List.getElem?_eq_getElem hj) h2)
      rw [a1] at a2
      have e : r[i] = r'[j] := Option.some.inj a2
      have := ih j r r' hr hr' (List.getElem?_eq_getElem hi) (by rw [List.getElem?_eq_getElem hj, e])
      exact ⟨this.1, by omega⟩
theorem nodup_flat : ∀ {rows : List (List Nat)}, (∀ r ∈ rows, r.Nodup) → rows.Pairwise (fun r r' => ∀ a ∈ r, a ∉ r') → rows.flatten.Nodup
  | [], _, _ => List.nodup_nil
  | r :: rows, h1, h2 => by
    rw [List.pairwise_cons] at h2
    rw [List.flatten_cons, List.nodup_append]
    refine ⟨h1 r List.mem_cons_self, nodup_flat (fun r' h => h1 r' (List.mem_cons_of_mem _ h)) h2.2, fun a ha b hb e => ?_⟩
    obtain ⟨r', hr', hb'⟩ := List.mem_flatten.mp hb
    exact h2.1 r' hr' a ha (e ▸ hb')
theorem Rows1.perm {rows : List (List Nat)} (h : Rows1 A nx ah n rows) (m : Mat A nx ah) (irr : ∀ i, ¬ A i i) (hA : ∀ i j, A i j → i < n ∧ j < n) {key : Nat → Nat} (hk : ∀ i j, A i j → key i < key j) : rows.flatten.Perm (List.range n) := by
  have nd : rows.flatten.Nodup := by
    refine nodup_flat (fun r hr => ?_) ?_
    · obtain ⟨f, _, _, _, _, hp⟩ := h.row r hr
      exact pair_nodup irr hp
    · have hh := h.heads
      rw [List.pairwise_map] at hh
      refine List.Pairwise.imp_of_mem (R := fun r r' : List Nat => r.headD 0 < r'.headD 0) ?_ hh
      intro r r' hr hr' hlt a ha ha'
      obtain ⟨i, hi, e⟩ := List.mem_iff_getElem.mp ha
      obtain ⟨j, hj, e'⟩ := List.mem_iff_getElem.mp ha'
      have := (h.apart m i j r r' hr hr' (u := a) (by rw [List.getElem?_eq_getElem hi, e]) (by rw [List.getElem?_eq_getElem hj, e'])).1
      omega
  refine perm_of_mem nd List.nodup_range fun v => ?_
  rw [List.mem_range]
  constructor
  · intro hv
    obtain ⟨r, hr, hv⟩ := List.mem_flatten.mp hv
    obtain ⟨f, hf, _, row, _⟩ := h.row r hr
    obtain ⟨i, hi, e⟩ := List.mem_iff_getElem.mp hv
    cases i with
    | zero =>
      have := row.head
      rw [List.getElem?_eq_getElem hi, e] at this
      rw [Option.some.inj this]
      exact hf
    | succ i =>
      have := m.ok _ _ (row.step i r[i] v (List.getElem?_eq_getElem (by omega)) (by rw [List.getElem?_eq_getElem hi, e]))
      exact (hA _ _ this).2
  · have key' : ∀ (k v : Nat), key v = k → v < n → v ∈ rows.flatten := by
      intro k
      induction k using Nat.strongRecOn with
      | _ k ih =>
        intro v hkv hv
        cases e : ah v with
        | none =>
          obtain ⟨r, hr, h0⟩ := h.all v hv e
          exact List.mem_flatten.mpr ⟨r, hr, List.mem_of_getElem? h0⟩
        | some u =>
          have hn := (m.inv u v).mpr e
          have ha := m.ok u v hn
          obtain ⟨r, hr, hu⟩ := List.mem_flatten.mp (ih (key u) (by have := hk _ _ ha; omega) u rfl (hA _ _ ha).1)
          obtain ⟨f, _, _, row, full, _⟩ := h.row r hr
          obtain ⟨i, hi, e'⟩ := List.mem_iff_getElem.mp hu
          have hgi : r[i]? = some u := by rw [List.getElem?_eq_getElem hi, e']
          cases hg : r[i + 1]? with
          | none =>
            rw [full i u hgi hg] at hn
            cases hn
          | some v' =>
            have := row.step i u v' hgi hg
            rw [hn] at this
            have e2 : v = v' := Option.some.inj this
            rw [e2]
            exact List.mem_flatten.mpr ⟨r, hr, List.mem_of_getElem? hg⟩
    exact fun hv => key' _ v rfl hv
/-- what the last search tells -/
structure Reach (A : Nat → Nat → Prop) (nx ah : Nat → Option Nat) (n : Nat) (pL pR : Nat → Bool) : Prop where
  base : ∀ i, i < n → nx i = none → pL i = true
  out : ∀ i j, pL i = true → A i j → pR j = true
  back : ∀ j, pR j = true → ∃ i, ah j = some i ∧ pL i = true
theorem Reach.some {pL pR : Nat → Bool} (s : Reach A nx ah n pL pR) (m : Mat A nx ah) {f : Nat} {r : List Nat} (hf : ah f = none) (row : Row nx f r) : ∀ (t u : Nat), r[t]? = some u → pL u = true → ∃ v ∈ r, pL v = true ∧ pR v = false
  | 0, u, h, hu => by
    have e : f = u := Option.some.inj (row.head.symm.trans h)
    refine ⟨u, List.mem_of_getElem? h, hu, ?_⟩
    cases c : pR u with
    | false => rfl
    | true =>
      obtain ⟨i, hi, _⟩ := s.back u c
      rw [← e, hf] at hi
      cases hi
  | t + 1, u, h, hu => by
    cases c : pR u with
    | false => exact ⟨u, List.mem_of_getElem? h, hu, c⟩
    | true =>
      obtain ⟨i, hi, hl⟩ := s.back u c
      have ht : t < r.length := by have := (List.getElem?_eq_some_iff.mp h).1; omega
      have := (m.inv _ _).mp (row.step t r[t] u (List.getElem?_eq_getElem ht) h)
      rw [hi] at this
      have e : i = r[t] := Option.some.inj this
      rw [e] at hl
      exact s.some m hf row t r[t] (List.getElem?_eq_getElem ht) hl
theorem len_one {r : List Nat} {p : Nat → Bool} (hp : r.Pairwise A) (h1 : ∃ v ∈ r, p v = true) (h2 : ∀ a b, p a = true → p b = true → ¬ A a b) : (r.filter p).length = 1 := by
  have hs : (r.filter p).Pairwise A := hp.sublist List.filter_sublist
  have hm : ∀ a ∈ r.filter p, p a = true := fun a ha => (List.mem_filter.mp ha).2
  obtain ⟨v, hv, hpv⟩ := h1
  have hv2 : v ∈ r.filter p := List.mem_filter.mpr ⟨hv, hpv⟩
  cases e : r.filter p with
  | nil =>
    rw [e] at hv2
    cases hv2
  | cons a l =>
    cases l with
    | nil => rfl
    | cons b l =>
      rw [e] at hs hm
      rw [List.pairwise_cons] at hs
      exact absurd (hs.1 b List.mem_cons_self) (h2 a b (hm a List.mem_cons_self) (hm b (List.mem_cons_of_mem _ List.mem_cons_self)))
theorem sum_ones : ∀ {rows : List (List Nat)} {p : Nat → Bool}, (∀ r ∈ rows, (r.filter p).length = 1) → (rows.flatten.filter p).length = rows.length
  | [], _, _ => rfl
  | r :: rows, p, h => by
    rw [List.flatten_cons, List.filter_append, List.length_append, h r List.mem_cons_self, sum_ones fun r' hr' => h r' (List.mem_cons_of_mem _ hr'), List.length_cons, Nat.add_comm]
theorem len_last {first : Nat} {r : List Nat} (row : Row nx first r) (full : Full nx r) : (r.filter fun x => (nx x).isNone).length = 1 := by
  rcases List.eq_nil_or_concat r with rfl | ⟨l, x, rfl⟩
  · have := row.head
    cases this
  · rw [List.concat_eq_append] at row full ⊢
    have hx : nx x = none := full l.length x (by simp) (by simp)
    have hl : l.filter (fun x => (nx x).isNone) = [] := List.filter_eq_nil_iff.mpr fun a ha => by
      obtain ⟨i, hi, e⟩ := List.mem_iff_getElem.mp ha
      have h1 : (l ++ [x])[i]? = some a := by rw [List.getElem?_append_left hi, List.getElem?_eq_getElem hi, e]
      have h2 : i + 1 < (l ++ [x]).length := by
        rw [List.length_append]
        show i + 1 < l.length + 1
        omega
      have := row.step i a _ h1 (List.getElem?_eq_getElem h2)
      rw [this]
      exact Bool.false_ne_true
    rw [List.filter_append, hl, List.filter_cons_of_pos (by rw [hx]; rfl)]
    rfl
theorem plan_ok {rows : List (List Nat)} {pL pR : Nat → Bool} (h : Rows1 A nx ah n rows) (m : Mat A nx ah) (s : Reach A nx ah n pL pR) (irr : ∀ i, ¬ A i i) (hA : ∀ i j, A i j → i < n ∧ j < n) {key : Nat → Nat} (hk : ∀ i j, A i j → key i < key j) :
    PlanOk A n rows ((List.range n).filter fun i => pL i && !pR i) := by
  have anti : ∀ a b, (pL a && !pR a) = true → (pL b && !pR b) = true → ¬ A a b := fun a b ha hb hab => by
    rw [Bool.and_eq_true] at ha hb
    have := s.out a b ha.1 hab
    rw [this] at hb
    cases hb.2
  have pm := h.perm m irr hA hk
  refine ⟨fun r hr e => ?_, fun r hr => ?_, pm, h.heads, ?_, fun i hi => ?_, fun i hi j hj => ?_, ?_, ⟨nx, ah, m, ?_⟩⟩
  · obtain ⟨f, _, _, row, _⟩ := h.row r hr
    have := row.head
    rw [e] at this
    cases this
  · obtain ⟨f, _, _, _, _, hp⟩ := h.row r hr
    exact hp
  · exact List.pairwise_lt_range.sublist List.filter_sublist
  · exact List.mem_range.mp (List.mem_filter.mp hi).1
  · exact anti i j (List.mem_filter.mp hi).2 (List.mem_filter.mp hj).2
  · rw [← (pm.filter fun i => pL i && !pR i).length_eq]
    refine sum_ones fun r hr => ?_
    obtain ⟨f, hf, haf, row, full, hp⟩ := h.row r hr
    refine len_one hp ?_ anti
    have hr0 : 0 < r.length := (List.getElem?_eq_some_iff.mp row.head).1
    have hlast : r[r.length - 1]? = some r[r.length - 1] := List.getElem?_eq_getElem (by omega)
    have hnone : nx r[r.length - 1] = none := full (r.length - 1) _ hlast (List.getElem?_eq_none_iff.mpr (by omega))
    have hlt : r[r.length - 1] < n := List.mem_range.mp (pm.mem_iff.mp (List.mem_flatten.mpr ⟨r, hr, List.getElem_mem _⟩))
    obtain ⟨v, hv, h1, h2⟩ := s.some m haf row _ _ hlast (s.base _ hlt hnone)
    exact ⟨v, hv, by rw [h1, h2]; rfl⟩
  · rw [← (pm.filter fun x => (nx x).isNone).length_eq]
    refine sum_ones fun r hr => ?_
    obtain ⟨f, _, _, row, full, _⟩ := h.row r hr
    exact len_last row full
end
end Fb
/-! What the walk shares: places, rides, trips; how they lie in the heap. -/
namespace Fb
open PySem PySem.Spec PyProof.Rows L2
abbrev Fn (K : PySem.W.Frag) (x : Str) (st : Stmt) (f : Addr) (fd : FuncData) : Prop := FunD K x x (defArgs st) (defBody st) (defScope st) [] [] f fd
/-- the built-ins' names are no names of the module's own -/
structure Bi (mg : Str → Option Value) : Prop where
  len : mg "len" = none
  isi : mg "isinstance" = none
  int : mg "int" = none
  bool : mg "bool" = none
  str : mg "str" = none
  tuple : mg "tuple" = none
  list : mg "list" = none
  dict : mg "dict" = none
  range : mg "range" = none
  max : mg "max" = none
  min : mg "min" = none
  sorted : mg "sorted" = none
section
variable {P : Program} {w : World} {K : PySem.W.Frag} {mg : Str → Option Value} {base : Heap}
/-- a def of the text that lets nothing out, as one that may be called -/
theorem cal_of {x : Str} {st : Stmt} {f : Addr} {fd : FuncData} {N ps : List Str} {k : Nat} {sp : Sp} (F : Fn K x st f fd) (g : mg x = some (.ref f)) (S : FnScope N ps (defScope st)) (b : Binds K fd ps []) (len : ∀ vs H Q E, sp vs H Q E → vs.length = ps.length)
    (hbody : ∀ (cdv : Value) (A : Around) (outer : List Env) (s : Shared) (H : Hp) (vs : List V) (Q : VK) (E : XK), Room k (A.deeper (envOfC x (defScope st) s.heap.objs.size f cdv)) → sp vs H Q E →
      ∃ t, PSs (cxOf CX0 P w K mg base N x (defScope st) f cdv A outer s H E).nox (defBody st) t ∧ t { nx := fun _ H' => Q .non H', rt := Q } (start N vs) H) : C8.Cal P w K mg base (k + 1) x sp [] :=
  ⟨f, fd, ps, [], F.ok S len fun cdv A outer s H vs Q E hr hsp => by
    obtain ⟨t, h, q⟩ := hbody cdv A outer s H vs Q E hr hsp
    exact ⟨t, h.nox, q⟩, g, F.kp, b, .nil⟩
theorem _root_.C8.Cal.mono {j k : Nat} {x : Str} {sp : Sp} {dvs : List V} (c : C8.Cal P w K mg base j x sp dvs) (h : j ≤ k) : C8.Cal P w K mg base k x sp dvs := by
  obtain ⟨f, fd, ps, ds, F, r⟩ := c.ex
  exact ⟨f, fd, ps, ds, F.mono h, r⟩
end
/-! ### the heap -/
theorem same_upd {H : Hp} {p : Addr} {o : HO} (h : H p = none) : Same H (upd H p o) := fun b x e => by
  rw [upd_ne (ne_of_none e h)]
  exact e
/-- what was tracked ahead of a new object stands when that object is changed -/
theorem same_put {H0 H : Hp} {p : Addr} {o : HO} (s : Same H0 H) (h : H0 p = none) : Same H0 (upd H p o) := fun b x e => by
  rw [upd_ne (ne_of_none e h)]
  exact s b x e
theorem same_seqT {K : PySem.W.Frag} {H H' : Hp} {a : Addr} {xs : List V} (e : Same H H') (h : SqT K H a xs) : SqT K H' a xs := by
  rcases h with (h | ⟨o, h⟩) | h
  · exact .inl (.inl (e _ _ h))
  · exact .inl (.inr ⟨o, e _ _ h⟩)
  · exact .inr h
theorem sqT_of {K : PySem.W.Frag} {H : Hp} {a : Addr} {xs : List V} (h : H a = some (.tup xs)) : SqT K H a xs := .inl (.inl h)
theorem sqL_of {K : PySem.W.Frag} {H : Hp} {a : Addr} {xs : List V} (h : H a = some (.lst xs)) : SqL K H a xs := .inl (.inl h)
theorem ty_tup {K : PySem.W.Frag} {H : Hp} {a : Addr} {xs : List V} (h : SqT K H a xs) : TyX K H (.ref a) (.type "tuple") := by
  rcases h with (h | ⟨o, h⟩) | ⟨o, its, n, h, c, _⟩
  · exact .base (.tup h)
  · exact .fTuple h
  · exact .kTuple h c
theorem ty_lst {K : PySem.W.Frag} {H : Hp} {a : Addr} {xs : List V} (h : SqL K H a xs) : TyX K H (.ref a) (.type "list") := by
  rcases h with (h | ⟨o, h⟩) | ⟨o, its, n, h, c, _⟩
  · exact .base (.lst h)
  · exact .base (.frz h)
  · exact .kList h c
theorem seqT_put {K : PySem.W.Frag} {H : Hp} {p q : Addr} {o u : HO} {ys : List V} (hp : H p = some o) (h1 : ∀ zs, o ≠ .tup zs) (h2 : ∀ ob zs, o ≠ .frz ob zs) (h : SqT K H q ys) : SqT K (upd H p u) q ys := by
  rcases h with (h | ⟨ob, h⟩) | h
  · have n : q ≠ p := fun e => by
      rw [e, hp] at h
      exact h1 ys (Option.some.inj h)
    exact .inl (.inl (by rw [upd_ne n]; exact h))
  · have n : q ≠ p := fun e => by
      rw [e, hp] at h
      exact h2 ob _ (Option.some.inj h)
    exact .inl (.inr ⟨ob, by rw [upd_ne n]; exact h⟩)
  · exact .inr h
theorem seqT_putL {K : PySem.W.Frag} {H : Hp} {p q : Addr} {xs ys : List V} {u : HO} (hp : H p = some (.lst xs)) (h : SqT K H q ys) : SqT K (upd H p u) q ys := seqT_put hp (fun _ e => nomatch e) (fun _ _ e => nomatch e) h
theorem seqT_putD {K : PySem.W.Frag} {H : Hp} {p q : Addr} {kvs : List (Key × V)} {ys : List V} {u : HO} (hp : H p = some (.dK kvs)) (h : SqT K H q ys) : SqT K (upd H p u) q ys := seqT_put hp (fun _ e => nomatch e) (fun _ _ e => nomatch e) h
/-- things of one form lie at these addresses, as tuples -/
def Tups {β : Type} (K : PySem.W.Frag) (H : Hp) (f : β → List V) (qs : List Addr) (xs : List β) : Prop := qs.length = xs.length ∧ ∀ (i : Nat) (q : Addr) (x : β), qs[i]? = some q → xs[i]? = some x → SqT K H q (f x)
section
variable {β : Type} {K : PySem.W.Frag} {H H' : Hp} {f : β → List V} {qs : List Addr} {xs : List β}
theorem Tups.same (t : Tups K H f qs xs) (s : Same H H') : Tups K H' f qs xs := ⟨t.1, fun i q x h1 h2 => same_seqT s (t.2 i q x h1 h2)⟩
theorem Tups.putL (t : Tups K H f qs xs) {p : Addr} {zs : List V} {u : HO} (hp : H p = some (.lst zs)) : Tups K (upd H p u) f qs xs := ⟨t.1, fun i q x h1 h2 => seqT_putL hp (t.2 i q x h1 h2)⟩
theorem Tups.putD (t : Tups K H f qs xs) {p : Addr} {kvs : List (Key × V)} {u : HO} (hp : H p = some (.dK kvs)) : Tups K (upd H p u) f qs xs := ⟨t.1, fun i q x h1 h2 => seqT_putD hp (t.2 i q x h1 h2)⟩
theorem Tups.nil : Tups K H f [] [] := ⟨rfl, fun i q x h _ => by simp at h⟩
theorem Tups.add (t : Tups K H f qs xs) {q : Addr} {x : β} (h : SqT K H q (f x)) : Tups K H f (qs ++ [q]) (xs ++ [x]) := by
  refine ⟨by rw [List.length_append, List.length_append, t.1]; rfl, fun i q' x' h1 h2 => ?_⟩
  by_cases hi : i < qs.length
  · rw [List.getElem?_append_left hi] at h1
    rw [List.getElem?_append_left (t.1 ▸ hi)] at h2
    exact t.2 i q' x' h1 h2
  · rw [List.getElem?_append_right (Nat.le_of_not_lt hi)] at h1
    rw [List.getElem?_append_right (t.1 ▸ Nat.le_of_not_lt hi), ← t.1] at h2
    cases e : i - qs.length with
    | zero =>
      rw [e] at h1 h2
      cases h1
      cases h2
      exact h
    | succ n =>
      rw [e] at h1
      simp at h1
theorem Tups.append {rs : List Addr} {ys : List β} (t : Tups K H f qs xs) (u : Tups K H f rs ys) : Tups K H f (qs ++ rs) (xs ++ ys) := by
  refine ⟨by rw [List.length_append, List.length_append, t.1, u.1], fun i q' x' h1 h2 => ?_⟩
  by_cases hi : i < qs.length
  · rw [List.getElem?_append_left hi] at h1
    rw [List.getElem?_append_left (t.1 ▸ hi)] at h2
    exact t.2 i q' x' h1 h2
  · rw [List.getElem?_append_right (Nat.le_of_not_lt hi)] at h1
    rw [List.getElem?_append_right (t.1 ▸ Nat.le_of_not_lt hi), ← t.1] at h2
    exact u.2 _ q' x' h1 h2
theorem Tups.take (t : Tups K H f qs xs) (n : Nat) : Tups K H f (qs.take n) (xs.take n) := by
  refine ⟨by rw [List.length_take, List.length_take, t.1], fun i q' x' h1 h2 => ?_⟩
  rw [List.getElem?_take] at h1 h2
  by_cases hi : i < n
  · rw [if_pos hi] at h1 h2
    exact t.2 i q' x' h1 h2
  · rw [if_neg hi] at h1
    cases h1
/-- the i-th: its address and what it is -/
theorem Tups.at (t : Tups K H f qs xs) {i : Nat} {v : V} (h : (qs.map V.ref)[i]? = some v) : ∃ q x, v = .ref q ∧ xs[i]? = some x ∧ SqT K H q (f x) := by
  rw [List.getElem?_map] at h
  cases e : qs[i]? with
  | none =>
    rw [e] at h
    cases h
  | some q =>
    rw [e] at h
    have hi : i < xs.length := by
      rw [← t.1]
      exact (List.getElem?_eq_some_iff.mp e).1
    exact ⟨q, xs[i], (Option.some.inj h).symm, List.getElem?_eq_getElem hi, t.2 i q _ e (List.getElem?_eq_getElem hi)⟩
theorem Tups.rev (t : Tups K H f qs xs) : Tups K H f qs.reverse xs.reverse := by
  refine ⟨by rw [List.length_reverse, List.length_reverse, t.1], fun i q x h1 h2 => ?_⟩
  have hi : i < qs.length := by
    have := (List.getElem?_eq_some_iff.mp h1).1
    rw [List.length_reverse] at this
    exact this
  rw [List.getElem?_reverse hi] at h1
  rw [List.getElem?_reverse (t.1 ▸ hi), ← t.1] at h2
  exact t.2 _ q x h1 h2
theorem Tups.addr (t : Tups K H f qs xs) {i : Nat} {x : β} (h : xs[i]? = some x) : ∃ q, qs[i]? = some q ∧ SqT K H q (f x) := by
  have hi : i < qs.length := by
    rw [t.1]
    exact (List.getElem?_eq_some_iff.mp h).1
  exact ⟨qs[i], List.getElem?_eq_getElem hi, t.2 i _ x (List.getElem?_eq_getElem hi) h⟩
end
/-- a list of things of one form -/
def Rows {β : Type} (K : PySem.W.Frag) (H : Hp) (f : β → List V) (a : Addr) (xs : List β) : Prop := ∃ qs, SqL K H a (qs.map V.ref) ∧ Tups K H f qs xs
theorem Rows.same {β : Type} {K : PySem.W.Frag} {H H' : Hp} {f : β → List V} {a : Addr} {xs : List β} (r : Rows K H f a xs) (s : Same H H') : Rows K H' f a xs := by
  obtain ⟨qs, h, t⟩ := r
  exact ⟨qs, s.seq h, t.same s⟩
/-! ### places, rides, trips -/
abbrev Ride : Type := Str × Str × Int
abbrev Trip : Type := Str × Int × Str × Int
def letters : Str := "abcdefghijklmnopqrstuvwxyz"
def okPlace (z : Str) : Prop := 1 ≤ z.length ∧ z.length ≤ 12 ∧ ∀ c ∈ z.cps.toList, c ∈ letters.cps.toList
def okRide (r : Ride) : Prop := okPlace r.1 ∧ okPlace r.2.1 ∧ r.1 ≠ r.2.1 ∧ 1 ≤ r.2.2 ∧ r.2.2 ≤ 9999
def okTrip (t : Trip) : Prop := okPlace t.1 ∧ okPlace t.2.2.1 ∧ 0 ≤ t.2.1 ∧ t.2.1 < t.2.2.2 ∧ t.2.2.2 ≤ 99999
def rideV (r : Ride) : List V := [.str r.1, .str r.2.1, .int r.2.2]
def tripV (t : Trip) : List V := [.str t.1, .int t.2.1, .str t.2.2.1, .int t.2.2.2]
/-- the road of a trip that ends elsewhere -/
def roadOf (t : Trip) : List Ride := if t.1 = t.2.2.1 then [] else [(t.1, t.2.2.1, t.2.2.2 - t.2.1)]
def roadsM (rides : List Ride) (trips : List Trip) : List Ride := rides ++ trips.flatMap roadOf
/-- the lists that a def takes: rides at a, trips at b -/
structure Told2 (K : PySem.W.Frag) (H : Hp) (a b : Addr) (rides : List Ride) (trips : List Trip) : Prop where
  lR : Rows K H rideV a rides
  lT : Rows K H tripV b trips
  okR : ∀ r ∈ rides, okRide r
  okT : ∀ t ∈ trips, okTrip t
  lenR : rides.length ≤ 100
  lenT : trips.length ≤ 100
theorem Told2.same {K : PySem.W.Frag} {H H' : Hp} {a b : Addr} {rides : List Ride} {trips : List Trip} (t : Told2 K H a b rides trips) (s : Same H H') : Told2 K H' a b rides trips := ⟨t.lR.same s, t.lT.same s, t.okR, t.okT, t.lenR, t.lenT⟩
theorem posR {rides : List Ride} {trips : List Trip} (h1 : ∀ r ∈ rides, okRide r) (h2 : ∀ t ∈ trips, okTrip t) : PosR (roadsM rides trips) := fun r hr => by
  rcases List.mem_append.mp hr with h | h
  · exact (h1 r h).2.2.2.1
  · obtain ⟨t, ht, hm⟩ := List.mem_flatMap.mp h
    unfold roadOf at hm
    by_cases c : t.1 = t.2.2.1
    · rw [if_pos c] at hm
      cases hm
    · rw [if_neg c] at hm
      rw [List.mem_singleton.mp hm]
      have := (h2 t ht).2.2.2.1
      show 1 ≤ t.2.2.2 - t.2.1
      omega
/-- len of a list or a tuple, what it asks -/
def rLenS (K : PySem.W.Frag) : List V → Hp → VK → Prop := fun xs H Q => ∃ p ys, xs = [.ref p] ∧ (SqL K H p ys ∨ SqT K H p ys) ∧ Q (.int ys.length) H
/-! ### tests that are known -/
theorem if_t {c : Bool} {A B : Prop} (hc : c = true) (h : A) : if c = true then A else B := by
  rw [if_pos hc]
  exact h
theorem if_f {c : Bool} {A B : Prop} (hc : c = false) (h : B) : if c = true then A else B := by
  rw [hc, if_neg Bool.false_ne_true]
  exact h
end Fb
namespace Fb
open PySem PySem.Spec PyProof.Rows L2
def top (i : Nat) : Stmt := PySem.Challenge.pw_fewbuses_k09_holds.main.body.getD i (.Pass ⟨0, 0, 0, 0⟩)
abbrev s_is_whole : Stmt := top 9
theorem sc_is_whole : FnScope ["thing", "least", "most"] ["thing", "least", "most"] (defScope s_is_whole) := ⟨rfl, rfl, rfl, by decide +kernel, rfl, by decide +kernel, by decide +kernel⟩
theorem bi_is_whole {K : PySem.W.Frag} {f : Addr} {fd : FuncData} (F : Fn K "is_whole" s_is_whole f fd) : Binds K fd ["thing", "least", "most"] [] := F.bindsN fun _ _ _ _ _ _ us hl => match us, hl with | [_, _, _], _ => rfl
abbrev s_is_place : Stmt := top 10
theorem sc_is_place : FnScope ["thing", "sign"] ["thing"] (defScope s_is_place) := ⟨rfl, rfl, rfl, by decide +kernel, rfl, by decide +kernel, by decide +kernel⟩
theorem bi_is_place {K : PySem.W.Frag} {f : Addr} {fd : FuncData} (F : Fn K "is_place" s_is_place f fd) : Binds K fd ["thing"] [] := F.bindsN fun _ _ _ _ _ _ us hl => match us, hl with | [_], _ => rfl
abbrev s_is_ride : Stmt := top 11
theorem sc_is_ride : FnScope ["thing"] ["thing"] (defScope s_is_ride) := ⟨rfl, rfl, rfl, by decide +kernel, rfl, by decide +kernel, by decide +kernel⟩
theorem bi_is_ride {K : PySem.W.Frag} {f : Addr} {fd : FuncData} (F : Fn K "is_ride" s_is_ride f fd) : Binds K fd ["thing"] [] := F.bindsN fun _ _ _ _ _ _ us hl => match us, hl with | [_], _ => rfl
abbrev s_is_trip : Stmt := top 12
theorem sc_is_trip : FnScope ["thing"] ["thing"] (defScope s_is_trip) := ⟨rfl, rfl, rfl, by decide +kernel, rfl, by decide +kernel, by decide +kernel⟩
theorem bi_is_trip {K : PySem.W.Frag} {f : Addr} {fd : FuncData} (F : Fn K "is_trip" s_is_trip f fd) : Binds K fd ["thing"] [] := F.bindsN fun _ _ _ _ _ _ us hl => match us, hl with | [_], _ => rfl
abbrev s_looked : Stmt := top 13
theorem sc_looked : FnScope ["rides", "trips", "ride", "trip"] ["rides", "trips"] (defScope s_looked) := ⟨rfl, rfl, rfl, by decide +kernel, rfl, by decide +kernel, by decide +kernel⟩
theorem bi_looked {K : PySem.W.Frag} {f : Addr} {fd : FuncData} (F : Fn K "looked" s_looked f fd) : Binds K fd ["rides", "trips"] [] := F.bindsN fun _ _ _ _ _ _ us hl => match us, hl with | [_, _], _ => rfl
abbrev s_need_place : Stmt := top 14
theorem sc_need_place : FnScope ["place"] ["place"] (defScope s_need_place) := ⟨rfl, rfl, rfl, by decide +kernel, rfl, by decide +kernel, by decide +kernel⟩
theorem bi_need_place {K : PySem.W.Frag} {f : Addr} {fd : FuncData} (F : Fn K "need_place" s_need_place f fd) : Binds K fd ["place"] [] := F.bindsN fun _ _ _ _ _ _ us hl => match us, hl with | [_], _ => rfl
abbrev s_roads : Stmt := top 16
theorem sc_roads : FnScope ["rides", "trips", "found", "trip"] ["rides", "trips"] (defScope s_roads) := ⟨rfl, rfl, rfl, by decide +kernel, rfl, by decide +kernel, by decide +kernel⟩
theorem bi_roads {K : PySem.W.Frag} {f : Addr} {fd : FuncData} (F : Fn K "roads" s_roads f fd) : Binds K fd ["rides", "trips"] [] := F.bindsN fun _ _ _ _ _ _ us hl => match us, hl with | [_, _], _ => rfl
abbrev s_spread : Stmt := top 17
theorem sc_spread : FnScope ["rides", "trips", "place", "rows", "found", "changed", "row", "minutes"] ["rides", "trips", "place"] (defScope s_spread) := ⟨rfl, rfl, rfl, by decide +kernel, rfl, by decide +kernel, by decide +kernel⟩
theorem bi_spread {K : PySem.W.Frag} {f : Addr} {fd : FuncData} (F : Fn K "spread" s_spread f fd) : Binds K fd ["rides", "trips", "place"] [] := F.bindsN fun _ _ _ _ _ _ us hl => match us, hl with | [_, _, _], _ => rfl
abbrev s_comes : Stmt := top 19
theorem sc_comes : FnScope ["minutes", "ahead", "trip"] ["minutes", "ahead", "trip"] (defScope s_comes) := ⟨rfl, rfl, rfl, by decide +kernel, rfl, by decide +kernel, by decide +kernel⟩
theorem bi_comes {K : PySem.W.Frag} {f : Addr} {fd : FuncData} (F : Fn K "comes" s_comes f fd) : Binds K fd ["minutes", "ahead", "trip"] [] := F.bindsN fun _ _ _ _ _ _ us hl => match us, hl with | [_, _, _], _ => rfl
abbrev s_behind : Stmt := top 20
theorem sc_behind : FnScope ["rides", "trips", "found", "ahead", "minutes", "k"] ["rides", "trips"] (defScope s_behind) := ⟨rfl, rfl, rfl, by decide +kernel, rfl, by decide +kernel, by decide +kernel⟩
theorem bi_behind {K : PySem.W.Frag} {f : Addr} {fd : FuncData} (F : Fn K "behind" s_behind f fd) : Binds K fd ["rides", "trips"] [] := F.bindsN fun _ _ _ _ _ _ us hl => match us, hl with | [_, _], _ => rfl
abbrev s_free_one : Stmt := top 22
theorem sc_free_one : FnScope ["after", "ahead_of", "first", "came", "waiting", "one", "other"] ["after", "ahead_of", "first"] (defScope s_free_one) := ⟨rfl, rfl, rfl, by decide +kernel, rfl, by decide +kernel, by decide +kernel⟩
theorem bi_free_one {K : PySem.W.Frag} {f : Addr} {fd : FuncData} (F : Fn K "free_one" s_free_one f fd) : Binds K fd ["after", "ahead_of", "first"] [] := F.bindsN fun _ _ _ _ _ _ us hl => match us, hl with | [_, _, _], _ => rfl
abbrev s_paired : Stmt := top 23
theorem sc_paired : FnScope ["after", "next_of", "ahead_of", "first", "told", "other", "going", "one", "left"] ["after"] (defScope s_paired) := ⟨rfl, rfl, rfl, by decide +kernel, rfl, by decide +kernel, by decide +kernel⟩
theorem bi_paired {K : PySem.W.Frag} {f : Addr} {fd : FuncData} (F : Fn K "paired" s_paired f fd) : Binds K fd ["after"] [] := F.bindsN fun _ _ _ _ _ _ us hl => match us, hl with | [_], _ => rfl
abbrev s_apart_of : Stmt := top 24
theorem sc_apart_of : FnScope ["after", "next_of", "ahead_of", "left", "right", "one", "waiting", "other"] ["after", "next_of", "ahead_of"] (defScope s_apart_of) := ⟨rfl, rfl, rfl, by decide +kernel, rfl, by decide +kernel, by decide +kernel⟩
theorem bi_apart_of {K : PySem.W.Frag} {f : Addr} {fd : FuncData} (F : Fn K "apart_of" s_apart_of f fd) : Binds K fd ["after", "next_of", "ahead_of"] [] := F.bindsN fun _ _ _ _ _ _ us hl => match us, hl with | [_, _, _], _ => rfl
abbrev s_plan : Stmt := top 25
theorem sc_plan : FnScope ["rides", "trips", "after", "next_of", "ahead_of", "rows", "first", "row"] ["rides", "trips"] (defScope s_plan) := ⟨rfl, rfl, rfl, by decide +kernel, rfl, by decide +kernel, by decide +kernel⟩
theorem bi_plan {K : PySem.W.Frag} {f : Addr} {fd : FuncData} (F : Fn K "plan" s_plan f fd) : Binds K fd ["rides", "trips"] [] := F.bindsN fun _ _ _ _ _ _ us hl => match us, hl with | [_, _], _ => rfl
abbrev s_holds : Stmt := top 26
theorem sc_holds : FnScope ["rides", "trips", "rows", "apart", "after", "done", "row", "k", "one"] ["rides", "trips", "rows", "apart"] (defScope s_holds) := ⟨rfl, rfl, rfl, by decide +kernel, rfl, by decide +kernel, by decide +kernel⟩
theorem bi_holds {K : PySem.W.Frag} {f : Addr} {fd : FuncData} (F : Fn K "holds" s_holds f fd) : Binds K fd ["rides", "trips", "rows", "apart"] [] := F.bindsN fun _ _ _ _ _ _ us hl => match us, hl with | [_, _, _, _], _ => rfl
abbrev s_law_whole : Stmt := top 28
theorem sc_law_whole : FnScope ["_law_found"] ["_law_found"] (defScope s_law_whole) := ⟨rfl, rfl, rfl, by decide +kernel, rfl, by decide +kernel, by decide +kernel⟩
theorem bi_law_whole {K : PySem.W.Frag} {f : Addr} {fd : FuncData} (F : Fn K "_law_whole" s_law_whole f fd) : Binds K fd ["_law_found"] [] := F.bindsN fun _ _ _ _ _ _ us hl => match us, hl with | [_], _ => rfl
abbrev s_law_cell_at : Stmt := top 29
theorem sc_law_cell_at : FnScope ["_law_script", "_law_k"] ["_law_script", "_law_k"] (defScope s_law_cell_at) := ⟨rfl, rfl, rfl, by decide +kernel, rfl, by decide +kernel, by decide +kernel⟩
theorem bi_law_cell_at {K : PySem.W.Frag} {f : Addr} {fd : FuncData} (F : Fn K "_law_cell_at" s_law_cell_at f fd) : Binds K fd ["_law_script", "_law_k"] [] := F.bindsN fun _ _ _ _ _ _ us hl => match us, hl with | [_, _], _ => rfl
abbrev s_law_names : Stmt := top 30
theorem sc_law_names : FnScope ["_law_cell", "_law_many", "_law_some", "_law_k", "_law_size", "_law_place", "_law_fill", "_law_names_here", "_law_sign"] ["_law_cell", "_law_many"] (defScope s_law_names) := ⟨rfl, rfl, rfl, by decide +kernel, rfl, by decide +kernel, by decide +kernel⟩
theorem bi_law_names {K : PySem.W.Frag} {f : Addr} {fd : FuncData} (F : Fn K "_law_names" s_law_names f fd) : Binds K fd ["_law_cell", "_law_many"] [] := F.bindsN fun _ _ _ _ _ _ us hl => match us, hl with | [_, _], _ => rfl
abbrev s_law_rides : Stmt := top 31
theorem sc_law_rides : FnScope ["_law_script", "_law_place", "_law_names_here", "_law_size", "_law_rides_here", "_law_k", "_law_cell", "_law_one", "_law_other", "_law_minutes"] ["_law_script", "_law_place", "_law_names_here", "_law_size"] (defScope s_law_rides) := ⟨rfl, rfl, rfl, by decide +kernel, rfl, by decide +kernel, by decide +kernel⟩
theorem bi_law_rides {K : PySem.W.Frag} {f : Addr} {fd : FuncData} (F : Fn K "_law_rides" s_law_rides f fd) : Binds K fd ["_law_script", "_law_place", "_law_names_here", "_law_size"] [] := F.bindsN fun _ _ _ _ _ _ us hl => match us, hl with | [_, _, _, _], _ => rfl
abbrev s_law_trips : Stmt := top 32
theorem sc_law_trips : FnScope ["_law_script", "_law_place", "_law_names_here", "_law_size", "_law_trips_here", "_law_k", "_law_cell", "_law_one", "_law_other", "_law_begin", "_law_least_here"] ["_law_script", "_law_place", "_law_names_here", "_law_size"] (defScope s_law_trips) := ⟨rfl, rfl, rfl, by decide +kernel, rfl, by decide +kernel, by decide +kernel⟩
theorem bi_law_trips {K : PySem.W.Frag} {f : Addr} {fd : FuncData} (F : Fn K "_law_trips" s_law_trips f fd) : Binds K fd ["_law_script", "_law_place", "_law_names_here", "_law_size"] [] := F.bindsN fun _ _ _ _ _ _ us hl => match us, hl with | [_, _, _, _], _ => rfl
abbrev s_law_roads : Stmt := top 33
theorem sc_law_roads : FnScope ["_law_rides_here", "_law_trips_here", "_law_found", "_law_trip"] ["_law_rides_here", "_law_trips_here"] (defScope s_law_roads) := ⟨rfl, rfl, rfl, by decide +kernel, rfl, by decide +kernel, by decide +kernel⟩
theorem bi_law_roads {K : PySem.W.Frag} {f : Addr} {fd : FuncData} (F : Fn K "_law_roads" s_law_roads f fd) : Binds K fd ["_law_rides_here", "_law_trips_here"] [] := F.bindsN fun _ _ _ _ _ _ us hl => match us, hl with | [_, _], _ => rfl
abbrev s_law_least : Stmt := top 34
theorem sc_law_least : FnScope ["_law_told", "_law_place", "_law_found", "_law_turn", "_law_road", "_law_minutes"] ["_law_told", "_law_place"] (defScope s_law_least) := ⟨rfl, rfl, rfl, by decide +kernel, rfl, by decide +kernel, by decide +kernel⟩
theorem bi_law_least {K : PySem.W.Frag} {f : Addr} {fd : FuncData} (F : Fn K "_law_least" s_law_least f fd) : Binds K fd ["_law_told", "_law_place"] [] := F.bindsN fun _ _ _ _ _ _ us hl => match us, hl with | [_, _], _ => rfl
abbrev s_law_can : Stmt := top 35
theorem sc_law_can : FnScope ["_law_told", "_law_one", "_law_other", "_law_least_here"] ["_law_told", "_law_one", "_law_other"] (defScope s_law_can) := ⟨rfl, rfl, rfl, by decide +kernel, rfl, by decide +kernel, by decide +kernel⟩
theorem bi_law_can {K : PySem.W.Frag} {f : Addr} {fd : FuncData} (F : Fn K "_law_can" s_law_can f fd) : Binds K fd ["_law_told", "_law_one", "_law_other"] [] := F.bindsN fun _ _ _ _ _ _ us hl => match us, hl with | [_, _, _], _ => rfl
abbrev s_law_built : Stmt := top 36
theorem sc_law_built : FnScope ["_law_script", "_law_first", "_law_second", "_law_names_here", "_law_rides_here", "_law_trips_here", "_law_step", "_law_k"] ["_law_script"] (defScope s_law_built) := ⟨rfl, rfl, rfl, by decide +kernel, rfl, by decide +kernel, by decide +kernel⟩
theorem bi_law_built {K : PySem.W.Frag} {f : Addr} {fd : FuncData} (F : Fn K "_law_built" s_law_built f fd) : Binds K fd ["_law_script"] [] := F.bindsN fun _ _ _ _ _ _ us hl => match us, hl with | [_], _ => rfl
abbrev s_law_numbers : Stmt := top 37
theorem sc_law_numbers : FnScope ["_law_found", "_law_many", "_law_one"] ["_law_found", "_law_many"] (defScope s_law_numbers) := ⟨rfl, rfl, rfl, by decide +kernel, rfl, by decide +kernel, by decide +kernel⟩
theorem bi_law_numbers {K : PySem.W.Frag} {f : Addr} {fd : FuncData} (F : Fn K "_law_numbers" s_law_numbers f fd) : Binds K fd ["_law_found", "_law_many"] [] := F.bindsN fun _ _ _ _ _ _ us hl => match us, hl with | [_, _], _ => rfl
abbrev s_law_due : Stmt := top 38
theorem sc_law_due : FnScope ["_law_told", "_law_trips_here", "_law_rows", "_law_apart", "_law_done", "_law_row", "_law_k", "_law_one"] ["_law_told", "_law_trips_here", "_law_rows", "_law_apart"] (defScope s_law_due) := ⟨rfl, rfl, rfl, by decide +kernel, rfl, by decide +kernel, by decide +kernel⟩
theorem bi_law_due {K : PySem.W.Frag} {f : Addr} {fd : FuncData} (F : Fn K "_law_due" s_law_due f fd) : Binds K fd ["_law_told", "_law_trips_here", "_law_rows", "_law_apart"] [] := F.bindsN fun _ _ _ _ _ _ us hl => match us, hl with | [_, _, _, _], _ => rfl
abbrev s_law_odd : Stmt := top 39
theorem sc_law_odd : FnScope ["_law_cell"] ["_law_cell"] (defScope s_law_odd) := ⟨rfl, rfl, rfl, by decide +kernel, rfl, by decide +kernel, by decide +kernel⟩
theorem bi_law_odd {K : PySem.W.Frag} {f : Addr} {fd : FuncData} (F : Fn K "_law_odd" s_law_odd f fd) : Binds K fd ["_law_cell"] [] := F.bindsN fun _ _ _ _ _ _ us hl => match us, hl with | [_], _ => rfl
abbrev s_law_doubled : Stmt := top 40
theorem sc_law_doubled : FnScope ["_law_told", "_law_trips_here", "_law_rows", "_law_number", "_law_found", "_law_row", "_law_k", "_law_begins", "_law_more", "_law_good", "_law_pair"] ["_law_told", "_law_trips_here", "_law_rows", "_law_number"] (defScope s_law_doubled) := ⟨rfl, rfl, rfl, by decide +kernel, rfl, by decide +kernel, by decide +kernel⟩
theorem bi_law_doubled {K : PySem.W.Frag} {f : Addr} {fd : FuncData} (F : Fn K "_law_doubled" s_law_doubled f fd) : Binds K fd ["_law_told", "_law_trips_here", "_law_rows", "_law_number"] [] := F.bindsN fun _ _ _ _ _ _ us hl => match us, hl with | [_, _, _, _], _ => rfl
abbrev s_law_numbers_changed : Stmt := top 41
theorem sc_law_numbers_changed : FnScope ["_law_rows", "_law_apart", "_law_change", "_law_cell", "_law_at", "_law_spot", "_law_numbers_here", "_law_row", "_law_others", "_law_one"] ["_law_rows", "_law_apart", "_law_change", "_law_cell", "_law_at", "_law_spot"] (defScope s_law_numbers_changed) := ⟨rfl, rfl, rfl, by decide +kernel, rfl, by decide +kernel, by decide +kernel⟩
theorem bi_law_numbers_changed {K : PySem.W.Frag} {f : Addr} {fd : FuncData} (F : Fn K "_law_numbers_changed" s_law_numbers_changed f fd) : Binds K fd ["_law_rows", "_law_apart", "_law_change", "_law_cell", "_law_at", "_law_spot"] [] := F.bindsN fun _ _ _ _ _ _ us hl => match us, hl with | [_, _, _, _, _, _], _ => rfl
abbrev s_law_changed : Stmt := top 42
theorem sc_law_changed : FnScope ["_law_told", "_law_trips_here", "_law_rows", "_law_apart", "_law_cell", "_law_spot", "_law_change", "_law_at", "_law_to", "_law_row"] ["_law_told", "_law_trips_here", "_law_rows", "_law_apart", "_law_cell", "_law_spot"] (defScope s_law_changed) := ⟨rfl, rfl, rfl, by decide +kernel, rfl, by decide +kernel, by decide +kernel⟩
theorem bi_law_changed {K : PySem.W.Frag} {f : Addr} {fd : FuncData} (F : Fn K "_law_changed" s_law_changed f fd) : Binds K fd ["_law_told", "_law_trips_here", "_law_rows", "_law_apart", "_law_cell", "_law_spot"] [] := F.bindsN fun _ _ _ _ _ _ us hl => match us, hl with | [_, _, _, _, _, _], _ => rfl
abbrev s_law_copy : Stmt := top 43
theorem sc_law_copy : FnScope ["_law_rows", "_law_apart", "_law_found", "_law_row"] ["_law_rows", "_law_apart"] (defScope s_law_copy) := ⟨rfl, rfl, rfl, by decide +kernel, rfl, by decide +kernel, by decide +kernel⟩
theorem bi_law_copy {K : PySem.W.Frag} {f : Addr} {fd : FuncData} (F : Fn K "_law_copy" s_law_copy f fd) : Binds K fd ["_law_rows", "_law_apart"] [] := F.bindsN fun _ _ _ _ _ _ us hl => match us, hl with | [_, _], _ => rfl
abbrev s_law : Stmt := top 44
theorem sc_law : FnScope ["_law_script", "_law_names_here", "_law_rides_here", "_law_trips_here", "_law_told", "_law_rows", "_law_apart", "_law_cell", "_law_spot", "_law_odd_here", "_law_kept", "_law_due_here", "_law_before", "_law_turn", "_law_found"] ["_law_script"] (defScope s_law) := ⟨rfl, rfl, rfl, by decide +kernel, rfl, by decide +kernel, by decide +kernel⟩
theorem bi_law {K : PySem.W.Frag} {f : Addr} {fd : FuncData} (F : Fn K "law" s_law f fd) : Binds K fd ["_law_script"] [] := F.bindsN fun _ _ _ _ _ _ us hl => match us, hl with | [_], _ => rfl
end Fb
/-! looks.py: whole numbers, places, rides, trips, all of them; roads. Here for what is in form. -/
namespace Fb
open PySem PySem.Spec PyProof.Rows L2
/-! ### kinds -/
inductive Kd where
  | int | bool | str | non | lst | tup
def Kd.nm : Kd → String
  | .int => "int" | .bool => "bool" | .str => "str" | .non => "NoneType" | .lst => "list" | .tup => "tuple"
inductive Plain (K : PySem.W.Frag) (H : Hp) : V → Kd → Prop where
  | int (i : Int) : Plain K H (.int i) .int
  | bool (b : Bool) : Plain K H (.bl b) .bool
  | str (z : Str) (h : z.length ≤ sizeLine) : Plain K H (.str z) .str
  | non : Plain K H .non .non
  | lst {a : Addr} {xs : List V} (h : SqL K H a xs) : Plain K H (.ref a) .lst
  | tup {a : Addr} {xs : List V} (h : SqT K H a xs) : Plain K H (.ref a) .tup
theorem Plain.ty {K : PySem.W.Frag} {H : Hp} {x : V} {k : Kd} (p : Plain K H x k) : TyX K H x (.type k.nm) := by
  cases p with
  | int i => exact .base (.int i)
  | bool b => exact .base (.bl b)
  | str z _ => exact .base (.str z)
  | non => exact .base .non
  | lst h => exact ty_lst h
  | tup h => exact ty_tup h
def Kd.isInt : Kd → Bool
  | .int => true | .bool => true | _ => false
def Kd.isBool : Kd → Bool
  | .bool => true | _ => false
def Kd.isStr : Kd → Bool
  | .str => true | _ => false
def Kd.isTup : Kd → Bool
  | .tup => true | _ => false
def Kd.isLst : Kd → Bool
  | .lst => true | _ => false
theorem kd_int (k : Kd) : kitB k.nm "int" = some k.isInt := by cases k <;> decide +kernel
theorem kd_bool (k : Kd) : kitB k.nm "bool" = some k.isBool := by cases k <;> decide +kernel
theorem kd_str (k : Kd) : kitB k.nm "str" = some k.isStr := by cases k <;> decide +kernel
theorem kd_tup (k : Kd) : kitB k.nm "tuple" = some k.isTup := by cases k <;> decide +kernel
theorem kd_lst (k : Kd) : kitB k.nm "list" = some k.isLst := by cases k <;> decide +kernel
/-! ### a whole number from one to another -/
def isWhole : V → Int → Int → Bool
  | .int i, lo, hi => decide (lo ≤ i) && decide (i ≤ hi)
  | _, _, _ => false
def spWhole (K : PySem.W.Frag) : Sp := fun vs H Q _ => ∃ (x : V) (k : Kd) (lo hi : Int), vs = [x, .int lo, .int hi] ∧ Plain K H x k ∧ Q (.bl (isWhole x lo hi)) H
section
variable {P : Program} {w : World} {K : PySem.W.Frag} {mg : Str → Option Value} {base : Heap}
theorem cal_is_whole {f : Addr} {fd : FuncData} (F : Fn K "is_whole" s_is_whole f fd) (g : mg "is_whole" = some (.ref f)) (B : Bi mg) : C8.Cal P w K mg base 1 "is_whole" (spWhole K) [] := by
  refine cal_of F g sc_is_whole (bi_is_whole F) (fun vs H Q E h => ?_) (fun cdv A outer s H vs Q E hr h => ?_)
  · obtain ⟨x, k, lo, hi, rfl, _⟩ := h
    rfl
  · obtain ⟨x, k, lo, hi, rfl, p, q⟩ := h
    refine ⟨_, pss_one (ps_ret (pe_and (pe_callB call_isi (by rfl) B.isi (by decide +kernel) (pa_cons (pv 0) (pa_cons (pe_bltn (v := .ty "int") (u := .type "int") (by rfl) B.int (by decide +kernel) (by rfl)) pa_nil))) (pe_and (pe_not (pe_callB call_isi (by rfl) B.isi (by decide +kernel) (pa_cons (pv 0) (pa_cons (pe_bltn (v := .ty "bool") (u := .type "bool") (by rfl) B.bool (by decide +kernel) (by rfl)) pa_nil)))) (pe_one (pe_chain op_le op_le (pv 1) (pv 0) (pv 2)))))), ?_⟩
    refine ⟨x, rfl, _, _, _, _, _, rfl, .ty _, (p).ty, kit_ty (kd_int k), _, rfl, ?_⟩
    cases p with
    | int i =>
      refine if_t rfl ⟨.int i, rfl, _, _, _, _, _, rfl, .ty _, (Plain.int i).ty, kit_ty (kd_bool .int), _, rfl, _, rfl, if_t rfl ?_⟩
      refine ⟨_, rfl, _, rfl, lo, i, rfl, rfl, _, rfl, ite2 (fun c => ?_) (fun c => ?_)⟩
      · refine ⟨_, rfl, i, hi, rfl, rfl, ?_⟩
        have e : isWhole (.int i) lo hi = decide (i ≤ hi) := by
          show (decide (lo ≤ i) && decide (i ≤ hi)) = _
          rw [c, Bool.true_and]
        rw [e] at q
        exact q
      · have e : isWhole (.int i) lo hi = false := by
          show (decide (lo ≤ i) && decide (i ≤ hi)) = _
          rw [Bool.eq_false_iff.mpr c, Bool.false_and]
        rw [e] at q
        exact q
    | bool b => exact if_t rfl ⟨.bl b, rfl, _, _, _, _, _, rfl, .ty _, (Plain.bool b).ty, kit_ty (kd_bool .bool), _, rfl, _, rfl, if_f rfl q⟩
    | str z _ => exact if_f rfl q
    | non => exact if_f rfl q
    | lst h => exact if_f rfl q
    | tup h => exact if_f rfl q
/-! ### a place's name -/
def signsOk (l : List Nat) : Bool := l.all fun c => decide (c ∈ letters.cps.toList)
def isPlace : V → Bool
  | .str z => decide (1 ≤ (z.length : Int)) && (decide ((z.length : Int) ≤ 12) && signsOk z.cps.toList)
  | _ => false
theorem isPlace_ok {z : Str} (h : okPlace z) : isPlace (.str z) = true := by
  obtain ⟨h1, h2, h3⟩ := h
  show (decide (1 ≤ (z.length : Int)) && (decide ((z.length : Int) ≤ 12) && signsOk z.cps.toList)) = true
  rw [decide_eq_true (by omega), decide_eq_true (by omega), Bool.true_and, Bool.true_and]
  exact List.all_eq_true.mpr fun c hc => decide_eq_true (h3 c hc)
def spPlace (K : PySem.W.Frag) : Sp := fun vs H Q _ => ∃ (x : V) (k : Kd), vs = [x] ∧ Plain K H x k ∧ Q (.bl (isPlace x)) H
theorem cal_is_place {f : Addr} {fd : FuncData} (F : Fn K "is_place" s_is_place f fd) (g : mg "is_place" = some (.ref f)) (B : Bi mg) (cL : ∃ t, mg "LETTERS" = some (.str "abcdefghijklmnopqrstuvwxyz" t)) : C8.Cal P w K mg base 1 "is_place" (spPlace K) [] := by
  obtain ⟨tL, cL⟩ := cL
  refine cal_of F g sc_is_place (bi_is_place F) (fun vs H Q E h => ?_) (fun cdv A outer s H vs Q E hr h => ?_)
  · obtain ⟨x, k, rfl, _⟩ := h
    rfl
  · obtain ⟨x, k, rfl, p, q⟩ := h
    
    refine ⟨_, (pss_cons (ps_if (PW.pt (pw_or (pt_not (pt_val (pe_callB call_isi (by rfl) B.isi (by decide +kernel) (pa_cons (pv 0) (pa_cons (pe_bltn (v := .ty "str") (u := .type "str") (by rfl) B.str (by decide +kernel) (by rfl)) pa_nil))))) (pw_or1 (pt_not (pt_chain op_le op_le pe_int (pe_callB call_len (by rfl) B.len PySem.boot_len (pa_cons (pv 0) pa_nil)) pe_int))))) (pss_one (ps_ret pe_bl)) pss_nil) (pss_cons (ps_for PassesOwn.never rfl (pi_str (pv 0)) (pg_name (i := 1) sc_is_place.nd rfl (Or.inl rfl)) (pss_one (ps_if (pt_cmpR op_notIn_sign (pv 1) (pe_glob (v := .str letters) rfl cL ⟨_, rfl⟩) (by rfl)) (pss_one (ps_ret pe_bl)) pss_nil))) (pss_one (ps_ret pe_bl)))), ?_⟩
    have no : k.isStr = false → isPlace x = false := fun h => by
      cases p with
      | str z _ => cases h
      | _ => rfl
    refine ⟨_, rfl, _, _, _, _, _, rfl, .ty _, (p).ty, kit_ty (kd_str k), _, rfl, ?_⟩
    cases hk : k.isStr with
    | false =>
      rw [no hk] at q
      exact if_t rfl (if_t rfl q)
    | true =>
      cases p with
      | str z hz =>
        refine if_f rfl ?_
        -- not 1 <= len(thing) <= 12
        refine ⟨_, rfl, _, _, rfl, ⟨hz, rfl⟩, 1, _, rfl, rfl, _, rfl, ite2 (fun c1 => ?_) (fun c1 => ?_)⟩
        · refine ⟨_, _, rfl, rfl, _, rfl, ?_⟩
          cases c2 : decide ((z.length : Int) ≤ 12) with
          | false =>
            have e : isPlace (.str z) = false := by
              show (decide (1 ≤ (z.length : Int)) && (decide ((z.length : Int) ≤ 12) && signsOk z.cps.toList)) = false
              rw [c2, Bool.false_and, Bool.and_false]
            rw [e] at q
            exact if_t rfl q
          | true =>
            refine if_f rfl ?_
            have e : isPlace (.str z) = signsOk z.cps.toList := by
              show (decide (1 ≤ (z.length : Int)) && (decide ((z.length : Int) ≤ 12) && signsOk z.cps.toList)) = _
              rw [c1, c2, Bool.true_and, Bool.true_and]
            rw [e] at q
            -- for sign in thing
            refine ⟨_, rfl, z, rfl, for_it walk_str (fun i σ H' => H' = H ∧ (∃ y, σ = [some (.str z), y]) ∧ signsOk (z.cps.toList.take i) = true)
              ⟨rfl, ⟨none, rfl⟩, rfl⟩ (fun _ _ _ _ _ => trivial) ?_ ?_⟩
            · rintro i x σ H1 H2 hi ⟨rfl, ⟨y, rfl⟩, hs⟩ ⟨rfl, c, hc, rfl⟩
              have hl : z.cps.toList[i]? = some c := by rw [Array.getElem?_toList]; exact hc
              refine ⟨_, rfl, c, letters, rfl, rfl, _, rfl, ?_⟩
              cases hin : decide (c ∈ letters.cps.toList) with
              | true =>
                refine if_f rfl ⟨rfl, ⟨_, rfl⟩, ?_⟩
                rw [List.take_add_one, hl]
                show signsOk (z.cps.toList.take i ++ [c]) = true
                unfold signsOk at hs ⊢
                rw [List.all_append, hs, Bool.true_and]
                show (decide (c ∈ letters.cps.toList) && true) = true
                rw [hin]
                rfl
              | false =>
                refine if_t rfl ?_
                have e2 : signsOk z.cps.toList = false := by
                  cases e3 : signsOk z.cps.toList with
                  | false => rfl
                  | true =>
                    have := List.all_eq_true.mp e3 c (List.mem_of_getElem? hl)
                    rw [hin] at this
                    cases this
                rw [e2] at q
                exact q
            · rintro σ H1 ⟨rfl, ⟨y, rfl⟩, hs⟩
              rw [List.take_of_length_le (by simp)] at hs
              rw [hs] at q
              exact q
        · have e : isPlace (.str z) = false := by
            show (decide (1 ≤ (z.length : Int)) && (decide ((z.length : Int) ≤ 12) && signsOk z.cps.toList)) = false
            rw [Bool.eq_false_iff.mpr c1, Bool.false_and]
          rw [e] at q
          exact ⟨_, rfl, if_t rfl q⟩
      | _ => cases hk
/-! ### a ride, a trip -/
def rideB : List V → Bool
  | [u, v, m] => isPlace u && (isPlace v && (!decide (u = v) && isWhole m 1 9999))
  | _ => false
def ltV : V → V → Bool
  | .int i, .int j => decide (i < j)
  | _, _ => false
def tripB : List V → Bool
  | [u, b, v, e] => isPlace u && (isPlace v && (isWhole b 0 99999 && (isWhole e 0 99999 && ltV b e)))
  | _ => false
theorem rideB_ok {r : Ride} (h : okRide r) : rideB (rideV r) = true := by
  obtain ⟨h1, h2, h3, h4, h5⟩ := h
  have hne : ¬ (V.str r.1 = V.str r.2.1) := fun e => h3 (V.str.inj e)
  show (isPlace (.str r.1) && (isPlace (.str r.2.1) && (!decide (V.str r.1 = V.str r.2.1) && (decide (1 ≤ r.2.2) && decide (r.2.2 ≤ 9999))))) = true
  rw [isPlace_ok h1, isPlace_ok h2, decide_eq_false hne, decide_eq_true h4, decide_eq_true h5]
  rfl
theorem tripB_ok {t : Trip} (h : okTrip t) : tripB (tripV t) = true := by
  obtain ⟨h1, h2, h3, h4, h5⟩ := h
  show (isPlace (.str t.1) && (isPlace (.str t.2.2.1) && ((decide (0 ≤ t.2.1) && decide (t.2.1 ≤ 99999)) && ((decide (0 ≤ t.2.2.2) && decide (t.2.2.2 ≤ 99999)) && decide (t.2.1 < t.2.2.2))))) = true
  rw [isPlace_ok h1, isPlace_ok h2, decide_eq_true h3, decide_eq_true h4, decide_eq_true h5, decide_eq_true (by omega), decide_eq_true (by omega)]
  rfl
theorem isPlace_str {x : V} (h : isPlace x = true) : ∃ z, x = .str z := by
  cases x with
  | str z => exact ⟨z, rfl⟩
  | _ => cases h
/-- a thing: a tuple of plain things, or something plain that is none -/
def spForm (K : PySem.W.Frag) (f : List V → Bool) : Sp := fun vs H Q _ => ∃ x, vs = [x] ∧
  ((∃ a items, x = .ref a ∧ SqT K H a items ∧ (∀ v ∈ items, ∃ k, Plain K H v k) ∧ Q (.bl (f items)) H) ∨ ∃ k, Plain K H x k ∧ k.isTup = false ∧ Q (.bl false) H)
theorem len3 {items : List V} {n : Nat} (h : (items.length : Int) = (n : Nat)) : items.length = n := by omega
theorem cal_is_ride {f : Addr} {fd : FuncData} (F : Fn K "is_ride" s_is_ride f fd) (g : mg "is_ride" = some (.ref f)) (B : Bi mg) (cM : ∃ t, mg "MOST_RIDE" = some (.int 9999 t))
    (c_is_place : C8.Cal P w K mg base 1 "is_place" (spPlace K) []) (c_is_whole : C8.Cal P w K mg base 1 "is_whole" (spWhole K) []) : C8.Cal P w K mg base 2 "is_ride" (spForm K rideB) [] := by
  obtain ⟨tM, cM⟩ := cM
  refine cal_of F g sc_is_ride (bi_is_ride F) (fun vs H Q E h => ?_) (fun cdv A outer s H vs Q E hr h => ?_)
  · obtain ⟨x, rfl, _⟩ := h
    rfl
  · obtain ⟨x, rfl, h⟩ := h
    
    refine ⟨_, (pss_cons (ps_if (PW.pt (pw_or (pt_not (pt_val (pe_callB call_isi (by rfl) B.isi (by decide +kernel) (pa_cons (pv 0) (pa_cons (pe_bltn (v := .ty "tuple") (u := .type "tuple") (by rfl) B.tuple (by decide +kernel) (by rfl)) pa_nil))))) (pw_or1 (pt_cmpR op_ne (pe_callB call_len (by rfl) B.len PySem.boot_len (pa_cons (pv 0) pa_nil)) pe_int (nomark _))))) (pss_one (ps_ret pe_bl)) pss_nil) (pss_cons (ps_if (PW.pt (pw_or (pt_not (pt_val (C8.pe_c c_is_place hr (by decide) (by rfl) (pa_cons (pe_ix (r := rIxT K) ix_tup (pv 0) pe_int (fun _ _ => rfl)) pa_nil)))) (pw_or (pt_not (pt_val (C8.pe_c c_is_place hr (by decide) (by rfl) (pa_cons (pe_ix (r := rIxT K) ix_tup (pv 0) pe_int (fun _ _ => rfl)) pa_nil)))) (pw_or1 (pt_cmpR op_eq (pe_ix (r := rIxT K) ix_tup (pv 0) pe_int (fun _ _ => rfl)) (pe_ix (r := rIxT K) ix_tup (pv 0) pe_int (fun _ _ => rfl)) (nomark _)))))) (pss_one (ps_ret pe_bl)) pss_nil) (pss_one (ps_ret (C8.pe_c c_is_whole hr (by decide) (by rfl) (pa_cons (pe_ix (r := rIxT K) ix_tup (pv 0) pe_int (fun _ _ => rfl)) (pa_cons pe_int (pa_cons (pe_glob (v := .int 9999) rfl cM ⟨_, rfl⟩) pa_nil)))))))), ?_⟩
    rcases h with ⟨a, items, rfl, hS, hp, q⟩ | ⟨k, p, hk, q⟩
    · refine ⟨_, rfl, _, _, _, _, _, rfl, .ty _, (Plain.tup hS).ty, kit_ty (kd_tup .tup), _, rfl, if_f rfl ?_⟩
      refine ⟨_, rfl, _, _, rfl, .inr ⟨_, hS, rfl⟩, rfl, _, rfl, ?_⟩
      cases c3 : decide (V.int (items.length : Int) = V.int 3) with
      | false =>
        have e : rideB items = false := by
          have hl : items.length ≠ 3 := fun z => by
            rw [z] at c3
            exact absurd rfl (of_decide_eq_false c3)
          match items, hl with
          | [], _ => rfl
          | [_], _ => rfl
          | [_, _], _ => rfl
          | _ :: _ :: _ :: _ :: _, _ => rfl
          | [_, _, _], hl => exact absurd rfl hl
        rw [e] at q
        exact if_t rfl q
      | true =>
        have hl : items.length = 3 := len3 (V.int.inj (of_decide_eq_true c3))
        obtain ⟨u, v, m, rfl⟩ : ∃ u v m, items = [u, v, m] := by
          match items, hl with
          | [u, v, m], _ => exact ⟨u, v, m, rfl⟩
        obtain ⟨ku, pu⟩ := hp u List.mem_cons_self
        obtain ⟨kv, pv'⟩ := hp v (List.mem_cons_of_mem _ List.mem_cons_self)
        obtain ⟨km, pm⟩ := hp m (List.mem_cons_of_mem _ (List.mem_cons_of_mem _ List.mem_cons_self))
        have qq : Q (.bl (isPlace u && (isPlace v && (!decide (u = v) && isWhole m 1 9999)))) H := q
        refine if_f rfl ?_
        refine ⟨_, rfl, a, _, 0, u, rfl, rfl, hS, atI_nat (j := 0) rfl, u, ku, rfl, pu, _, rfl, ?_⟩
        cases cu : isPlace u with
        | false =>
          rw [cu] at qq
          exact if_t rfl (if_t rfl qq)
        | true =>
          rw [cu, Bool.true_and] at qq
          refine if_f rfl ⟨_, rfl, a, _, 1, v, rfl, rfl, hS, atI_nat (j := 1) rfl, v, kv, rfl, pv', _, rfl, ?_⟩
          cases cv : isPlace v with
          | false =>
            rw [cv] at qq
            exact if_t rfl (if_t rfl qq)
          | true =>
            rw [cv, Bool.true_and] at qq
            obtain ⟨zu, rfl⟩ := isPlace_str cu
            obtain ⟨zv, rfl⟩ := isPlace_str cv
            refine if_f rfl ⟨_, rfl, a, _, 0, _, rfl, rfl, hS, atI_nat (j := 0) rfl, _, rfl, a, _, 1, _, rfl, rfl, hS, atI_nat (j := 1) rfl, rfl, _, rfl, ?_⟩
            cases ce : decide (V.str zu = V.str zv) with
            | true =>
              rw [ce] at qq
              exact if_t rfl qq
            | false =>
              rw [ce] at qq
              exact if_f rfl ⟨_, rfl, a, _, 2, m, rfl, rfl, hS, atI_nat (j := 2) rfl, m, km, 1, 9999, rfl, pm, qq⟩
    · refine ⟨_, rfl, _, _, _, _, _, rfl, .ty _, (p).ty, kit_ty (kd_tup k), _, rfl, ?_⟩
      rw [hk]
      exact if_t rfl (if_t rfl q)
theorem cal_is_trip {f : Addr} {fd : FuncData} (F : Fn K "is_trip" s_is_trip f fd) (g : mg "is_trip" = some (.ref f)) (B : Bi mg) (cM : ∃ t, mg "MOST_MINUTE" = some (.int 99999 t))
    (c_is_place : C8.Cal P w K mg base 1 "is_place" (spPlace K) []) (c_is_whole : C8.Cal P w K mg base 1 "is_whole" (spWhole K) []) : C8.Cal P w K mg base 2 "is_trip" (spForm K tripB) [] := by
  obtain ⟨tM, cM⟩ := cM
  refine cal_of F g sc_is_trip (bi_is_trip F) (fun vs H Q E h => ?_) (fun cdv A outer s H vs Q E hr h => ?_)
  · obtain ⟨x, rfl, _⟩ := h
    rfl
  · obtain ⟨x, rfl, h⟩ := h
    
    refine ⟨_, (pss_cons (ps_if (PW.pt (pw_or (pt_not (pt_val (pe_callB call_isi (by rfl) B.isi (by decide +kernel) (pa_cons (pv 0) (pa_cons (pe_bltn (v := .ty "tuple") (u := .type "tuple") (by rfl) B.tuple (by decide +kernel) (by rfl)) pa_nil))))) (pw_or1 (pt_cmpR op_ne (pe_callB call_len (by rfl) B.len PySem.boot_len (pa_cons (pv 0) pa_nil)) pe_int (nomark _))))) (pss_one (ps_ret pe_bl)) pss_nil) (pss_cons (ps_if (PW.pt (pw_or (pt_not (pt_val (C8.pe_c c_is_place hr (by decide) (by rfl) (pa_cons (pe_ix (r := rIxT K) ix_tup (pv 0) pe_int (fun _ _ => rfl)) pa_nil)))) (pw_or1 (pt_not (pt_val (C8.pe_c c_is_place hr (by decide) (by rfl) (pa_cons (pe_ix (r := rIxT K) ix_tup (pv 0) pe_int (fun _ _ => rfl)) pa_nil))))))) (pss_one (ps_ret pe_bl)) pss_nil) (pss_one (ps_ret (pe_and (C8.pe_c c_is_whole hr (by decide) (by rfl) (pa_cons (pe_ix (r := rIxT K) ix_tup (pv 0) pe_int (fun _ _ => rfl)) (pa_cons pe_int (pa_cons (pe_glob (v := .int 99999) rfl cM ⟨_, rfl⟩) pa_nil)))) (pe_and (C8.pe_c c_is_whole hr (by decide) (by rfl) (pa_cons (pe_ix (r := rIxT K) ix_tup (pv 0) pe_int (fun _ _ => rfl)) (pa_cons pe_int (pa_cons (pe_glob (v := .int 99999) rfl cM ⟨_, rfl⟩) pa_nil)))) (pe_one (pe_cmpR op_lt (pe_ix (r := rIxT K) ix_tup (pv 0) pe_int (fun _ _ => rfl)) (pe_ix (r := rIxT K) ix_tup (pv 0) pe_int (fun _ _ => rfl)) (nomark _))))))))), ?_⟩
    rcases h with ⟨a, items, rfl, hS, hp, q⟩ | ⟨k, p, hk, q⟩
    · refine ⟨_, rfl, _, _, _, _, _, rfl, .ty _, (Plain.tup hS).ty, kit_ty (kd_tup .tup), _, rfl, if_f rfl ?_⟩
      refine ⟨_, rfl, _, _, rfl, .inr ⟨_, hS, rfl⟩, rfl, _, rfl, ?_⟩
      cases c3 : decide (V.int (items.length : Int) = V.int 4) with
      | false =>
        have e : tripB items = false := by
          have hl : items.length ≠ 4 := fun z => by
            rw [z] at c3
            exact absurd rfl (of_decide_eq_false c3)
          match items, hl with
          | [], _ => rfl
          | [_], _ => rfl
          | [_, _], _ => rfl
          | [_, _, _], _ => rfl
          | _ :: _ :: _ :: _ :: _ :: _, _ => rfl
          | [_, _, _, _], hl => exact absurd rfl hl
        rw [e] at q
        exact if_t rfl q
      | true =>
        have hl : items.length = 4 := len3 (V.int.inj (of_decide_eq_true c3))
        obtain ⟨u, b, v, e, rfl⟩ : ∃ u b v e, items = [u, b, v, e] := by
          match items, hl with
          | [u, b, v, e], _ => exact ⟨u, b, v, e, rfl⟩
        obtain ⟨ku, pu⟩ := hp u List.mem_cons_self
        obtain ⟨kb, pb⟩ := hp b (List.mem_cons_of_mem _ List.mem_cons_self)
        obtain ⟨kv, pv'⟩ := hp v (List.mem_cons_of_mem _ (List.mem_cons_of_mem _ List.mem_cons_self))
        obtain ⟨ke, pe'⟩ := hp e (List.mem_cons_of_mem _ (List.mem_cons_of_mem _ (List.mem_cons_of_mem _ List.mem_cons_self)))
        have qq : Q (.bl (isPlace u && (isPlace v && (isWhole b 0 99999 && (isWhole e 0 99999 && ltV b e))))) H := q
        refine if_f rfl ?_
        refine ⟨_, rfl, a, _, 0, u, rfl, rfl, hS, atI_nat (j := 0) rfl, u, ku, rfl, pu, _, rfl, ?_⟩
        cases cu : isPlace u with
        | false =>
          rw [cu] at qq
          exact if_t rfl (if_t rfl qq)
        | true =>
          rw [cu, Bool.true_and] at qq
          refine if_f rfl ⟨_, rfl, a, _, 2, v, rfl, rfl, hS, atI_nat (j := 2) rfl, v, kv, rfl, pv', _, rfl, ?_⟩
          cases cv : isPlace v with
          | false =>
            rw [cv] at qq
            exact if_t rfl qq
          | true =>
            rw [cv, Bool.true_and] at qq
            refine if_f rfl ⟨_, rfl, a, _, 1, b, rfl, rfl, hS, atI_nat (j := 1) rfl, b, kb, 0, 99999, rfl, pb, _, rfl, ?_⟩
            cases cb : isWhole b 0 99999 with
            | false =>
              rw [cb] at qq
              exact if_f rfl qq
            | true =>
              rw [cb, Bool.true_and] at qq
              refine if_t rfl ⟨_, rfl, a, _, 3, e, rfl, rfl, hS, atI_nat (j := 3) rfl, e, ke, 0, 99999, rfl, pe', _, rfl, ?_⟩
              cases ce : isWhole e 0 99999 with
              | false =>
                rw [ce] at qq
                exact if_f rfl qq
              | true =>
                rw [ce, Bool.true_and] at qq
                obtain ⟨i, rfl⟩ : ∃ i, b = .int i := by cases b <;> first | exact ⟨_, rfl⟩ | cases cb
                obtain ⟨j, rfl⟩ : ∃ i, e = .int i := by cases e <;> first | exact ⟨_, rfl⟩ | cases ce
                exact if_t rfl ⟨_, rfl, a, _, 1, _, rfl, rfl, hS, atI_nat (j := 1) rfl, _, rfl, a, _, 3, _, rfl, rfl, hS, atI_nat (j := 3) rfl, i, j, rfl, rfl, qq⟩
    · refine ⟨_, rfl, _, _, _, _, _, rfl, .ty _, (p).ty, kit_ty (kd_tup k), _, rfl, ?_⟩
      rw [hk]
      exact if_t rfl (if_t rfl q)
end
end Fb
/-! all rides and trips, in form; roads. -/
namespace Fb
open PySem PySem.Spec PyProof.Rows L2
section
variable {P : Program} {w : World} {K : PySem.W.Frag} {mg : Str → Option Value} {base : Heap}
/-! ### all rides and trips, in form -/
theorem plain_of {K : PySem.W.Frag} {H : Hp} {z : Str} (h : okPlace z) : Plain K H (.str z) .str := .str z (Nat.le_trans h.2.1 (by decide))
theorem ride_plain {K : PySem.W.Frag} {H : Hp} {r : Ride} (h : okRide r) : ∀ v ∈ rideV r, ∃ k, Plain K H v k := fun v hv => by
  rcases List.mem_cons.mp hv with rfl | hv
  · exact ⟨_, plain_of h.1⟩
  rcases List.mem_cons.mp hv with rfl | hv
  · exact ⟨_, plain_of h.2.1⟩
  rw [List.mem_singleton.mp hv]
  exact ⟨_, .int _⟩
theorem trip_plain {K : PySem.W.Frag} {H : Hp} {t : Trip} (h : okTrip t) : ∀ v ∈ tripV t, ∃ k, Plain K H v k := fun v hv => by
  rcases List.mem_cons.mp hv with rfl | hv
  · exact ⟨_, plain_of h.1⟩
  rcases List.mem_cons.mp hv with rfl | hv
  · exact ⟨_, .int _⟩
  rcases List.mem_cons.mp hv with rfl | hv
  · exact ⟨_, plain_of h.2.1⟩
  rw [List.mem_singleton.mp hv]
  exact ⟨_, .int _⟩
def spLooked (K : PySem.W.Frag) : Sp := fun vs H Q _ => ∃ a b rides trips, vs = [.ref a, .ref b] ∧ Told2 K H a b rides trips ∧ Q .non H
theorem cal_looked {f : Addr} {fd : FuncData} (F : Fn K "looked" s_looked f fd) (g : mg "looked" = some (.ref f)) (c_is_ride : C8.Cal P w K mg base 2 "is_ride" (spForm K rideB) []) (c_is_trip : C8.Cal P w K mg base 2 "is_trip" (spForm K tripB) []) :
    C8.Cal P w K mg base 3 "looked" (spLooked K) [] := by
  refine cal_of F g sc_looked (bi_looked F) (fun vs H Q E h => ?_) (fun cdv A outer s H vs Q E hr h => ?_)
  · obtain ⟨a, b, rides, trips, rfl, _⟩ := h
    rfl
  · obtain ⟨a, b, rides, trips, rfl, T, q⟩ := h
    
    refine ⟨_, (pss_cons (ps_for PassesOwn.never rfl (pi_list (pv 0)) (pg_name (i := 2) sc_looked.nd rfl (Or.inl rfl)) (pss_one (ps_if (pt_not (pt_val (C8.pe_c c_is_ride hr (by decide) (by rfl) (pa_cons (pv 2) pa_nil)))) (pss_one ps_never) pss_nil))) (pss_one (ps_for PassesOwn.never rfl (pi_list (pv 1)) (pg_name (i := 3) sc_looked.nd rfl (Or.inl rfl)) (pss_one (ps_if (pt_not (pt_val (C8.pe_c c_is_trip hr (by decide) (by rfl) (pa_cons (pv 3) pa_nil)))) (pss_one ps_never) pss_nil))))), ?_⟩
    obtain ⟨qs, hL, hT⟩ := T.lR
    obtain ⟨rs, hL2, hT2⟩ := T.lT
    refine ⟨_, rfl, a, rfl, ⟨_, hL⟩, for_list (K := K) (a := a) (xs := qs.map V.ref) (fun i σ H' => H' = H ∧ ∃ y, σ = [some (.ref a), some (.ref b), y, none]) ⟨rfl, none, rfl⟩ (fun i σ H' _ ⟨e, _⟩ => e ▸ hL) ?_ ?_⟩
    · rintro i x σ H' hi ⟨rfl, y, rfl⟩
      obtain ⟨p, r, rfl, hr2, hs⟩ := hT.at hi
      have ok := T.okR r (List.mem_of_getElem? hr2)
      refine ⟨_, rfl, _, rfl, .inl ⟨p, _, rfl, hs, ride_plain ok, ?_⟩⟩
      rw [rideB_ok ok]
      exact ⟨_, rfl, if_f rfl ⟨rfl, _, rfl⟩⟩
    · rintro σ H' ⟨rfl, y, rfl⟩
      refine ⟨_, rfl, b, rfl, ⟨_, hL2⟩, for_list (K := K) (a := b) (xs := rs.map V.ref) (fun i σ H2 => H2 = H' ∧ ∃ z, σ = [some (.ref a), some (.ref b), y, z]) ⟨rfl, none, rfl⟩ (fun i σ H' _ ⟨e, _⟩ => e ▸ hL2) ?_ ?_⟩
      · rintro i x σ H2 hi ⟨rfl, z, rfl⟩
        obtain ⟨p, t, rfl, hr2, hs⟩ := hT2.at hi
        have ok := T.okT t (List.mem_of_getElem? hr2)
        refine ⟨_, rfl, _, rfl, .inl ⟨p, _, rfl, hs, trip_plain ok, ?_⟩⟩
        rw [tripB_ok ok]
        exact ⟨_, rfl, if_f rfl ⟨rfl, _, rfl⟩⟩
      · rintro σ H2 ⟨rfl, z, rfl⟩
        exact q
/-! ### roads -/
theorem roadsM_take {rides : List Ride} {trips : List Trip} {i : Nat} {t : Trip} (h : trips[i]? = some t) : roadsM rides (trips.take (i + 1)) = roadsM rides (trips.take i) ++ roadOf t := by
  unfold roadsM
  rw [List.take_add_one, h, List.flatMap_append, List.append_assoc]
  show _ = rides ++ (_ ++ roadOf t)
  simp
theorem roadsM_len (rides : List Ride) (trips : List Trip) : (roadsM rides trips).length ≤ rides.length + trips.length := by
  unfold roadsM
  rw [List.length_append]
  have : ∀ l : List Trip, (l.flatMap roadOf).length ≤ l.length := fun l => by
    induction l with
    | nil => exact Nat.le_refl 0
    | cons t l ih =>
      rw [List.flatMap_cons, List.length_append, List.length_cons]
      have : (roadOf t).length ≤ 1 := by
        unfold roadOf
        split <;> simp
      omega
  have := this trips
  omega
def spRoads (K : PySem.W.Frag) : Sp := fun vs H Q _ => ∃ a b rides trips, vs = [.ref a, .ref b] ∧ Told2 K H a b rides trips ∧
  ∀ H' p qs, Same H H' → H p = none → H' p = some (.lst (qs.map V.ref)) → Tups K H' rideV qs (roadsM rides trips) → Q (.ref p) H'
theorem cal_roads {f : Addr} {fd : FuncData} (F : Fn K "roads" s_roads f fd) (g : mg "roads" = some (.ref f)) (B : Bi mg) (c_looked : C8.Cal P w K mg base 3 "looked" (spLooked K) []) : C8.Cal P w K mg base 4 "roads" (spRoads K) [] := by
  refine cal_of F g sc_roads (bi_roads F) (fun vs H Q E h => ?_) (fun cdv A outer s H vs Q E hr h => ?_)
  · obtain ⟨a, b, rides, trips, rfl, _⟩ := h
    rfl
  · obtain ⟨a, b, rides, trips, rfl, T, q⟩ := h
    
    refine ⟨_, (pss_cons (ps_expr (C8.pe_c c_looked hr (by decide) (by rfl) (pa_cons (pv 0) (pa_cons (pv 1) pa_nil)))) (pss_cons (ps_set (i := 2) sc_roads.nd rfl (Or.inl rfl) (pe_callTy call_list_of (by rfl) B.list (by decide +kernel) (pa_cons (pv 0) pa_nil))) (pss_cons (ps_for PassesOwn.never rfl (pi_list (pv 1)) (pg_name (i := 3) sc_roads.nd rfl (Or.inl rfl)) (pss_one (ps_if (pt_cmpR op_ne (pe_ix (r := rIxT K) ix_tup (pv 3) pe_int (fun _ _ => rfl)) (pe_ix (r := rIxT K) ix_tup (pv 3) pe_int (fun _ _ => rfl)) (nomark _)) (pss_one (ps_expr (pe_bm PySem.F.plainAttrs_list PySem.F.slot_list_append PySem.F.type_list_append mt_append (pv 2) (pa_cons (pe_tup (pa_cons (pe_ix (r := rIxT K) ix_tup (pv 3) pe_int (fun _ _ => rfl)) (pa_cons (pe_ix (r := rIxT K) ix_tup (pv 3) pe_int (fun _ _ => rfl)) (pa_cons (pe_op op_sub (pe_ix (r := rIxT K) ix_tup (pv 3) pe_int (fun _ _ => rfl)) (pe_ix (r := rIxT K) ix_tup (pv 3) pe_int (fun _ _ => rfl))) pa_nil)))) pa_nil)))) pss_nil))) (pss_one (ps_ret (pv 2)))))), ?_⟩
    obtain ⟨qs, hL, hT⟩ := T.lR
    obtain ⟨rs, hL2, hT2⟩ := T.lT
    refine ⟨_, rfl, _, rfl, a, b, rides, trips, rfl, T, ?_⟩
    refine ⟨_, rfl, a, _, rfl, .inl hL, fun p np => ?_⟩
    have s1 : Same H (upd H p (.lst (qs.map V.ref))) := same_upd np
    refine ⟨_, rfl, b, rfl, ⟨_, s1.seq hL2⟩, for_list (K := K) (a := b) (xs := rs.map V.ref)
      (fun i σ H' => Same H H' ∧ (∃ y, σ = [some (.ref a), some (.ref b), some (.ref p), y]) ∧ ∃ zs, H' p = some (.lst (zs.map V.ref)) ∧ Tups K H' rideV zs (roadsM rides (trips.take i)))
      ⟨s1, ⟨none, rfl⟩, qs, upd_same, ?_⟩ (fun i σ H' _ ⟨e, _⟩ => e.seq hL2) ?_ ?_⟩
    · have e : roadsM rides (trips.take 0) = rides := by simp [roadsM]
      rw [e]
      exact hT.same s1
    · rintro i x σ H' hi ⟨s2, ⟨y, rfl⟩, zs, hz, hzs⟩
      obtain ⟨p1, t, rfl, ht, hs⟩ := (hT2.same s2).at hi
      have e := roadsM_take (rides := rides) ht
      have hlen : i < trips.length := (List.getElem?_eq_some_iff.mp ht).1
      refine ⟨_, rfl, p1, _, 0, _, rfl, rfl, hs, atI_nat (j := 0) rfl, _, rfl, p1, _, 2, _, rfl, rfl, hs, atI_nat (j := 2) rfl, rfl, _, rfl, ?_⟩
      by_cases c : t.1 = t.2.2.1
      · have c2 : decide (V.str t.1 = V.str t.2.2.1) = true := decide_eq_true (by rw [c])
        rw [c2]
        refine if_f rfl ⟨s2, ⟨_, rfl⟩, zs, hz, ?_⟩
        rw [e]
        unfold roadOf
        rw [if_pos c, List.append_nil]
        exact hzs
      · have c2 : decide (V.str t.1 = V.str t.2.2.1) = false := decide_eq_false fun z => c (V.str.inj z)
        rw [c2]
        refine if_t rfl ⟨_, rfl, .inl ⟨rfl, _, sqL_of hz⟩, ?_⟩
        refine ⟨_, rfl, p1, _, 0, _, rfl, rfl, hs, atI_nat (j := 0) rfl, _, rfl, p1, _, 2, _, rfl, rfl, hs, atI_nat (j := 2) rfl, _, rfl, p1, _, 3, _, rfl, rfl, hs, atI_nat (j := 3) rfl, _, rfl, p1, _, 1, _, rfl, rfl, hs, atI_nat (j := 1) rfl, _, _, rfl, rfl, (by show 3 ≤ sizeLine; decide), fun q' nq => ?_⟩
        have npq : p ≠ q' := ne_of_none hz nq
        have hz2 : (upd H' q' (.tup [.str t.1, .str t.2.2.1, .int (t.2.2.2 - t.2.1)])) p = some (.lst (zs.map V.ref)) := by
          rw [upd_ne npq]
          exact hz
        have s3 : Same H' (upd H' q' (.tup [.str t.1, .str t.2.2.1, .int (t.2.2.2 - t.2.1)])) := same_upd nq
        refine ⟨p, _, _, rfl, rfl, hz2, ?_, ?_⟩
        · rw [List.length_map, hzs.1]
          have := roadsM_len rides (trips.take i)
          rw [List.length_take] at this
          have h1 := T.lenR
          have h2 := T.lenT
          exact small1000 (by omega)
        · refine ⟨same_put (s2.trans s3) np, ⟨_, rfl⟩, zs ++ [q'], ?_, ?_⟩
          · rw [upd_same, List.map_append]
            rfl
          · rw [e]
            unfold roadOf
            rw [if_neg c]
            exact Tups.add ((hzs.same s3).putL hz2) (seqT_putL hz2 (sqT_of upd_same))
    · rintro σ H' ⟨s2, ⟨y, rfl⟩, zs, hz, hzs⟩
      refine ⟨_, rfl, q H' p zs s2 np hz ?_⟩
      rw [List.length_map, hT2.1, List.take_length] at hzs
      exact hzs
end
end Fb
/-! What a law builds: letters, cells of the script. -/
namespace Fb
open PySem PySem.Spec PyProof.Rows L2
/-! ### letters -/
def letL : List Nat := letters.cps.toList
theorem letL_len : letL.length = 26 := by decide +kernel
def lt (z : Int) : Nat := letL.getD z.toNat 97
theorem lt_at {z : Int} (h0 : 0 ≤ z) (h1 : z < 26) : atI letL z = some (lt z) := by
  have hz : z.toNat < letL.length := by rw [letL_len]; omega
  have e : letL[z.toNat]? = some (lt z) := by
    unfold lt
    rw [List.getD_eq_getElem?_getD, List.getElem?_eq_getElem hz]
    rfl
  have := atI_nat e
  rw [show ((z.toNat : Nat) : Int) = z by omega] at this
  exact this
theorem lt_in (z : Int) : lt z ∈ letters.cps.toList := by
  have h : ∀ n : Nat, letL.getD n 97 ∈ letL := fun n => by
    by_cases hn : n < letL.length
    · rw [List.getD_eq_getElem?_getD, List.getElem?_eq_getElem hn]
      exact List.getElem_mem hn
    · rw [List.getD_eq_getElem?_getD, List.getElem?_eq_none (by omega)]
      exact (by decide +kernel : 97 ∈ letL)
  exact h z.toNat
theorem lt_inj {a b : Int} (ha : 0 ≤ a) (ha1 : a < 26) (hb : 0 ≤ b) (hb1 : b < 26) (h : lt a = lt b) : a = b := by
  have key : ∀ i : Nat, i < 26 → ∀ j : Nat, j < 26 → letL.getD i 97 = letL.getD j 97 → i = j := by decide +kernel
  have := key a.toNat (by omega) b.toNat (by omega) h
  omega
theorem okPlace_of {l : List Nat} (h1 : 1 ≤ l.length) (h2 : l.length ≤ 12) (h : ∀ c ∈ l, c ∈ letters.cps.toList) : okPlace (SX.S l) := ⟨by rw [SX.S_len]; exact h1, by rw [SX.S_len]; exact h2, fun c hc => h c hc⟩
theorem nodup_range_map {β : Type} {f : Nat → β} {n : Nat} (h : ∀ i j, i < n → j < n → f i = f j → i = j) : ((List.range n).map f).Nodup := by
  unfold List.Nodup
  rw [List.pairwise_map]
  refine List.Pairwise.imp_of_mem (R := fun a b => a < b) ?_ List.pairwise_lt_range
  intro a b ha hb hlt e
  have := h a b (List.mem_range.mp ha) (List.mem_range.mp hb) e
  omega
/-! ### a sign, so many times -/
section
variable {X : Cx}
theorem op_mul_sign : OpR X (binaryOp .Mult) (fun x y H Q => ∃ (c : Nat) (k : Int), x = .str ⟨#[c]⟩ ∧ y = .int k ∧ -1000 ≤ k ∧ k ≤ 1000 ∧ Q (.str (SX.S (List.replicate k.toNat c))) H) := by
  intro pins s σ H x y v u Q I rx ry h
  obtain ⟨c, k, rfl, rfl, h1, h2, q⟩ := h
  obtain ⟨t, rfl⟩ := rx
  obtain ⟨t', rfl⟩ := ry
  refine SB.mul (mulOk_of 1 1000 (Nat.le_refl 1) h2 (by omega) (by decide) (by decide)) fun t' tk => ⟨.str (SX.S (List.replicate k.toNat c)), H, I.tok _, ⟨t', ?_⟩, q⟩
  have e : Txt.mul ⟨#[c]⟩ k = SX.S (List.replicate k.toNat c) := TL.ext_tl (mul_one_list c k)
  rw [e]
end
theorem cut_take (xs : List V) (k : Nat) : cutV xs none (some (k : Int)) = xs.take k := by
  unfold cutV
  rw [show HT.sIx xs.length 0 none = 0 from HT.sIx_none _ _, show HT.sIx xs.length xs.length (some (k : Int)) = min k xs.length from HT.sIx_nat _ _ k, List.drop_zero, Nat.sub_zero]
  by_cases h : k ≤ xs.length
  · rw [Nat.min_eq_left h]
  · rw [Nat.min_eq_right (by omega), List.take_of_length_le (Nat.le_refl _), List.take_of_length_le (by omega)]
/-! ### cells -/
def cellAt (ns : List Int) (k : Int) : Int := ns.getD k.toNat 0
def spCellAt (K : PySem.W.Frag) : Sp := fun vs H Q _ => ∃ a ns k, vs = [.ref a, .int k] ∧ SqL K H a (ns.map V.int) ∧ 0 ≤ k ∧ Q (.int (cellAt ns k)) H
section
variable {P : Program} {w : World} {K : PySem.W.Frag} {mg : Str → Option Value} {base : Heap}
theorem cal_law_cell_at {f : Addr} {fd : FuncData} (F : Fn K "_law_cell_at" s_law_cell_at f fd) (g : mg "_law_cell_at" = some (.ref f)) (B : Bi mg) : C8.Cal P w K mg base 1 "_law_cell_at" (spCellAt K) [] := by
  refine cal_of F g sc_law_cell_at (bi_law_cell_at F) (fun vs H Q E h => ?_) (fun cdv A outer s H vs Q E hr h => ?_)
  · obtain ⟨a, ns, k, rfl, _⟩ := h
    rfl
  · obtain ⟨a, ns, k, rfl, hS, h0, q⟩ := h
    
    refine ⟨_, (pss_cons (ps_if (pt_cmpR op_lt (pv 1) (pe_callB call_len_seq (by rfl) B.len PySem.boot_len (pa_cons (pv 0) pa_nil)) (nomark _)) (pss_one (ps_ret (pe_ix (r := rIxL K) ix_list (pv 0) (pv 1) (fun _ _ => rfl)))) pss_nil) (pss_one (ps_ret pe_int))), ?_⟩
    refine ⟨_, rfl, _, rfl, a, _, rfl, .inl hS, k, _, rfl, rfl, _, rfl, ite2 (fun c => ?_) (fun c => ?_)⟩
    · have hk : k.toNat < ns.length := by
        have := of_decide_eq_true c
        rw [List.length_map] at this
        omega
      have e : (ns.map V.int)[k.toNat]? = some (.int (cellAt ns k)) := by
        unfold cellAt
        rw [List.getElem?_map, List.getElem?_eq_getElem hk, List.getD_eq_getElem?_getD, List.getElem?_eq_getElem hk]
        rfl
      have e2 := atI_nat e
      rw [show ((k.toNat : Nat) : Int) = k by omega] at e2
      exact ⟨_, rfl, _, rfl, a, _, k, _, rfl, rfl, hS, e2, q⟩
    · have hk : ns.length ≤ k.toNat := by
        have := of_decide_eq_false (Bool.eq_false_iff.mpr c)
        rw [List.length_map] at this
        omega
      have e : cellAt ns k = 0 := by
        unfold cellAt
        rw [List.getD_eq_getElem?_getD, List.getElem?_eq_none hk]
        rfl
      rw [e] at q
      exact q
end
end Fb
/-! What a law builds: names (cells, letters: L0c). -/
namespace Fb
open PySem PySem.Spec PyProof.Rows L2
section
variable {P : Program} {w : World} {K : PySem.W.Frag} {mg : Str → Option Value} {base : Heap}
/-! ### names -/
/-- names apart, each a place's -/
def NamesOk (names : List Str) : Prop := names.Nodup ∧ ∀ z ∈ names, okPlace z
def nameA (c k : Nat) : Str := SX.S (List.replicate (k + 1) c)
def nameB (f : Nat) (g : Int → Nat) (C : Int) (p q : Nat) (k : Nat) : Str := SX.S (List.replicate p f ++ (g (((k : Int) + C) % 26) :: List.replicate q f))
theorem namesA_ok {n : Nat} (hn : n ≤ 12) (z : Int) : NamesOk ((List.range n).map (nameA (lt z))) := by
  refine ⟨nodup_range_map fun i j _ _ e => ?_, fun x hx => ?_⟩
  · have := congrArg List.length (SX.S_inj e)
    rw [List.length_replicate, List.length_replicate] at this
    omega
  · obtain ⟨k, hk, rfl⟩ := List.mem_map.mp hx
    have := List.mem_range.mp hk
    refine okPlace_of ?_ ?_ fun c hc => ?_
    · rw [List.length_replicate]; omega
    · rw [List.length_replicate]; omega
    · rw [List.eq_of_mem_replicate hc]
      exact lt_in z
theorem namesB_ok {n p q : Nat} (hn : n ≤ 12) (hl : p + q + 1 ≤ 12) (z C : Int) : NamesOk ((List.range n).map (nameB (lt z) lt C p q)) := by
  refine ⟨nodup_range_map fun i j hi hj e => ?_, fun x hx => ?_⟩
  · have e1 := List.append_cancel_left (SX.S_inj e)
    have e2 := (List.cons.inj e1).1
    have := lt_inj (by omega) (by omega) (by omega) (by omega) e2
    omega
  · obtain ⟨k, hk, rfl⟩ := List.mem_map.mp hx
    refine okPlace_of ?_ ?_ fun c hc => ?_
    · simp; omega
    · simp; omega
    · rcases List.mem_append.mp hc with h | h
      · rw [List.eq_of_mem_replicate h]; exact lt_in z
      · rcases List.mem_cons.mp h with h | h
        · rw [h]; exact lt_in _
        · rw [List.eq_of_mem_replicate h]; exact lt_in z
def nSz (cell : Int) : Int := 1 + cell / 2 % 12
def nPl (cell : Int) : Int := cell / 2 / 12 % (1 + cell / 2 % 12)
def nFl (cell : Int) : Int := cell / 2 / 144 % 26
theorem nSz_le (cell : Int) : nSz cell ≤ 12 := by unfold nSz; omega
theorem nPl_lt (cell : Int) : 0 ≤ nPl cell ∧ nPl cell < nSz cell := ⟨Int.emod_nonneg _ (by omega), Int.emod_lt_of_pos _ (by omega)⟩
def spNames : Sp := fun vs H Q _ => ∃ (cell : Int) (many : Nat), vs = [.int cell, .int many] ∧ many ≤ 12 ∧
  ∀ H' p names, Same H H' → H p = none → H' p = some (.lst (names.map V.str)) → names.length = many → NamesOk names → Q (.ref p) H'
theorem cal_law_names {f : Addr} {fd : FuncData} (F : Fn K "_law_names" s_law_names f fd) (g : mg "_law_names" = some (.ref f)) (B : Bi mg) : C8.Cal P w K mg base 1 "_law_names" spNames [] := by
  refine cal_of F g sc_law_names (bi_law_names F) (fun vs H Q E h => ?_) (fun cdv A outer s H vs Q E hr h => ?_)
  · obtain ⟨cell, many, rfl, _⟩ := h
    rfl
  · obtain ⟨cell, many, rfl, hm, q⟩ := h
    
    refine ⟨_, (pss_cons (ps_set (i := 2) sc_law_names.nd rfl (Or.inr rfl) pe_str) (pss_cons (ps_if (pt_cmpR op_eq (pe_op op_mod (pv 0) pe_int) pe_int (nomark _)) (pss_one (ps_ret (pe_lc (own := [("_law_k", 3)]) (g := gName 3) (tt := tYes) rfl sc_law_names.nd (pi_range1 rfl B.range (pa_cons (pv 1) pa_nil)) (blkOk_by (N := ["_law_cell", "_law_many", "_law_some", "_law_k", "_law_size", "_law_place", "_law_fill", "_law_names_here", "_law_sign"]) (sc := defScope s_law_names) (by decide +kernel)) (fun _ _ _ _ _ => pg_name (i := 3) sc_law_names.nd rfl (Or.inl rfl)) (fun _ _ _ _ _ => pts_nil) (fun _ _ _ _ _ => (pe_op op_mul_sign (pe_ix ix_str (pv 2) (pe_op op_mod (pe_op op_fdiv (pv 0) pe_int) pe_int) (fun _ _ => rfl)) (pe_op op_add (pv 3) pe_int)))))) pss_nil) (pss_cons (ps_set (i := 0) sc_law_names.nd rfl (Or.inr rfl) (pe_op op_fdiv (pv 0) pe_int)) (pss_cons (ps_set (i := 4) sc_law_names.nd rfl (Or.inl rfl) (pe_op op_add pe_int (pe_op op_mod (pv 0) pe_int))) (pss_cons (ps_set (i := 5) sc_law_names.nd rfl (Or.inl rfl) (pe_op op_mod (pe_op op_fdiv (pv 0) pe_int) (pv 4))) (pss_cons (ps_set (i := 6) sc_law_names.nd rfl (Or.inl rfl) (pe_ix ix_str (pv 2) (pe_op op_mod (pe_op op_fdiv (pv 0) pe_int) pe_int) (fun _ _ => rfl))) (pss_cons (ps_set (i := 7) sc_law_names.nd rfl (Or.inl rfl) (pe_lst pa_nil)) (pss_cons (ps_for PassesOwn.never rfl (pi_range1 rfl B.range (pa_cons (pv 1) pa_nil)) (pg_name (i := 3) sc_law_names.nd rfl (Or.inl rfl)) (pss_cons (ps_set (i := 8) sc_law_names.nd rfl (Or.inl rfl) (pe_ix ix_str (pv 2) (pe_op op_mod (pe_op op_add (pv 3) (pe_op op_fdiv (pv 0) pe_int)) pe_int) (fun _ _ => rfl))) (pss_one (ps_expr (pe_bm PySem.F.plainAttrs_list PySem.F.slot_list_append PySem.F.type_list_append mt_append (pv 7) (pa_cons (pe_op op_add_str (pe_op op_add_str (pe_op op_mul_sign (pv 6) (pv 5)) (pv 8)) (pe_op op_mul_sign (pv 6) (pe_op op_sub (pe_op op_sub (pv 4) pe_int) (pv 5)))) pa_nil)))))) (pss_one (ps_ret (pv 7))))))))))), ?_⟩
    refine ⟨_, rfl, _, _, rfl, rfl, (by show (0 : Int) < 2; decide), rfl, _, rfl, ite2 (fun _ => ?_) (fun _ => ?_)⟩
    · -- names each a letter longer
      refine ⟨_, rfl, many, rfl, by omega, by omega, fun D hD => lc_range (lo := 0) (n := many)
        (fun i H' => Same H H' ∧ H' D = some (.lst (((List.range i).map (nameA (lt (cell / 2 % 26)))).map V.str))) ⟨same_upd hD, upd_same⟩ ?_ ?_⟩
      · rintro i H1 hi ⟨s1, e1⟩
        refine ⟨rfl, ?_⟩
        refine ⟨_, rfl, _, rfl, _, _, rfl, rfl, ⟨by decide, by decide⟩, _, _, rfl, rfl, (by show (0 : Int) < 26; decide), letters, cell / 2 % 26, _, rfl, rfl, by decide, lt_at (by omega) (by omega), ?_⟩
        refine ⟨_, rfl, _, _, rfl, rfl, _, _, rfl, rfl, by omega, by omega, _, e1, ?_, same_put s1 hD, ?_⟩
        · rw [List.length_map, List.length_map, List.length_range]
          exact small1000 (by omega)
        · rw [upd_same, List.range_succ, List.map_append, List.map_append]
          have e : (0 + (i : Int) + 1).toNat = i + 1 := by omega
          rw [e]
          rfl
      · rintro H1 ⟨s1, e1⟩
        refine q H1 D _ s1 hD e1 (by simp) (namesA_ok hm _)
    · -- names alike but at a place
      refine ⟨_, rfl, _, _, rfl, rfl, ⟨by decide, by decide⟩, ?_⟩
      refine ⟨_, rfl, _, _, rfl, rfl, (by show (0 : Int) < 12; decide), _, _, rfl, rfl, ?_⟩
      refine ⟨_, rfl, _, _, rfl, rfl, ⟨by decide, by decide⟩, _, rfl, _, _, rfl, rfl, (by show (0 : Int) < 1 + cell / 2 % 12; omega), ?_⟩
      refine ⟨_, rfl, _, rfl, _, _, rfl, rfl, ⟨by decide, by decide⟩, _, _, rfl, rfl, (by show (0 : Int) < 26; decide), letters, cell / 2 / 144 % 26, _, rfl, rfl, by decide, lt_at (by omega) (by omega), ?_⟩
      have hs0 := nSz_le cell
      have hp := nPl_lt cell
      refine ⟨Nat.zero_le _, fun D hD => ?_⟩
      refine ⟨_, rfl, many, rfl, by omega, by omega, for_range (lo := 0) (n := many)
        (fun i σ H' => Same H H' ∧ (∃ k y, σ = [some (.int (cell / 2)), some (.int many), some (.str letters), k, some (.int (nSz cell)), some (.int (nPl cell)), some (.str (SX.S [lt (nFl cell)])), some (.ref D), y]) ∧
          H' D = some (.lst (((List.range i).map (nameB (lt (nFl cell)) lt (cell / 2 / 3744) (nPl cell).toNat (nSz cell - 1 - nPl cell).toNat)).map V.str))) ⟨same_upd hD, ⟨none, none, rfl⟩, upd_same⟩ ?_ ?_⟩
      · rintro i σ H1 hi ⟨s1, ⟨k, y, rfl⟩, e1⟩
        refine ⟨_, rfl, _, rfl, _, rfl, _, _, rfl, rfl, ⟨by decide, by decide⟩, _, _, rfl, rfl, _, _, rfl, rfl, (by show (0 : Int) < 26; decide), letters, (0 + (i : Int) + cell / 2 / 3744) % 26, _, rfl, rfl, by decide, lt_at (by omega) (by omega), ?_⟩
        refine ⟨_, rfl, .inl ⟨rfl, _, sqL_of e1⟩, ?_⟩
        refine ⟨_, rfl, _, rfl, _, nPl cell, rfl, rfl, by omega, by omega, _, rfl, _, _, rfl, rfl, ?_, ?_⟩
        · rw [SX.S_len, List.length_replicate]
          show _ + 1 ≤ _
          have : (16777216 : Nat) = sizeLine := sizeLine_eq.symm
          omega
        refine ⟨_, rfl, _, rfl, _, _, rfl, rfl, _, rfl, _, _, rfl, rfl, _, nSz cell - 1 - nPl cell, rfl, rfl, by omega, by omega, _, _, rfl, rfl, ?_, ?_⟩
        · have : (16777216 : Nat) = sizeLine := sizeLine_eq.symm
          have e3 : (SX.S (List.replicate (nPl cell).toNat (lt (nFl cell))) ++ (⟨#[lt ((0 + (i : Int) + cell / 2 / 3744) % 26)]⟩ : Str)).length = (nPl cell).toNat + 1 := by
            rw [show (SX.S (List.replicate (nPl cell).toNat (lt (nFl cell))) ++ (⟨#[lt ((0 + (i : Int) + cell / 2 / 3744) % 26)]⟩ : Str)) = SX.S (List.replicate (nPl cell).toNat (lt (nFl cell)) ++ [lt ((0 + (i : Int) + cell / 2 / 3744) % 26)]) from SX.S_cat _ [_], SX.S_len, List.length_append, List.length_replicate]
            rfl
          rw [e3, SX.S_len, List.length_replicate]
          omega
        refine ⟨D, _, _, rfl, rfl, e1, ?_, same_put s1 hD, ⟨_, _, rfl⟩, ?_⟩
        · rw [List.length_map, List.length_map, List.length_range]
          exact small1000 (by omega)
        · rw [upd_same, List.range_succ, List.map_append, List.map_append]
          have e : nameB (lt (nFl cell)) lt (cell / 2 / 3744) (nPl cell).toNat (nSz cell - 1 - nPl cell).toNat i = SX.S (List.replicate (nPl cell).toNat (lt (nFl cell))) ++ (⟨#[lt ((0 + (i : Int) + cell / 2 / 3744) % 26)]⟩ : Str) ++ SX.S (List.replicate (nSz cell - 1 - nPl cell).toNat (lt (nFl cell))) := by
            rw [show (⟨#[lt ((0 + (i : Int) + cell / 2 / 3744) % 26)]⟩ : Str) = SX.S [lt ((0 + (i : Int) + cell / 2 / 3744) % 26)] from rfl, SX.S_cat, SX.S_cat, Int.zero_add, List.append_assoc]
            rfl
          rw [← e]
          rfl
      · rintro σ H1 ⟨s1, ⟨k, y, rfl⟩, e1⟩
        refine ⟨_, rfl, q H1 D _ s1 hD e1 (by simp) (namesB_ok hm ?_ _ _)⟩
        omega
end
end Fb
/-! What a law builds: rides, trips, roads, all of it. -/
namespace Fb
open PySem PySem.Spec PyProof.Rows L2
/-! ### names by place -/
def nm (names : List Str) (z : Int) : Str := names.getD z.toNat Str.empty
theorem nm_get {names : List Str} {z : Int} (h0 : 0 ≤ z) (h1 : z < names.length) : names[z.toNat]? = some (nm names z) := by
  have hz : z.toNat < names.length := by omega
  unfold nm
  rw [List.getD_eq_getElem?_getD, List.getElem?_eq_getElem hz]
  rfl
theorem nm_at {names : List Str} {z : Int} (h0 : 0 ≤ z) (h1 : z < names.length) : atI (names.map V.str) z = some (.str (nm names z)) := by
  have := atI_nat (xs := names.map V.str) (j := z.toNat) (v := .str (nm names z)) (by rw [List.getElem?_map, nm_get h0 h1]; rfl)
  rw [show ((z.toNat : Nat) : Int) = z by omega] at this
  exact this
theorem nm_ok {names : List Str} {z : Int} (hn : NamesOk names) (h0 : 0 ≤ z) (h1 : z < names.length) : okPlace (nm names z) := hn.2 _ (List.mem_of_getElem? (nm_get h0 h1))
theorem nm_ne {names : List Str} {y z : Int} (hn : NamesOk names) (h0 : 0 ≤ y) (h1 : y < names.length) (h2 : 0 ≤ z) (h3 : z < names.length) (h : y ≠ z) : nm names y ≠ nm names z := fun e => by
  have a := nm_get h0 h1
  have b := nm_get h2 h3
  rw [e] at a
  have := nd_ix hn.1 a b
  omega
/-- a new tuple is laid, the list at D gets it -/
theorem turn_add {β : Type} {f : β → List V} {ok : β → Prop} {K : PySem.W.Frag} {H1 : Hp} {D T : Addr} {qs : List Addr} {xs : List β} {m : Nat} (x : β) (hT : H1 T = none) (e1 : H1 D = some (.lst (qs.map V.ref))) (t1 : Tups K H1 f qs xs) (o1 : ∀ y ∈ xs, ok y) (n1 : xs.length = m) (ox : ok x) :
    ∃ qs' ys, (upd (upd H1 T (.tup (f x))) D (.lst (qs.map V.ref ++ [.ref T]))) D = some (.lst (qs'.map V.ref)) ∧ Tups K (upd (upd H1 T (.tup (f x))) D (.lst (qs.map V.ref ++ [.ref T]))) f qs' ys ∧ (∀ y ∈ ys, ok y) ∧ ys.length = m + 1 := by
  have nDT : D ≠ T := ne_of_none e1 hT
  refine ⟨qs ++ [T], xs ++ [x], ?_, Tups.add ((t1.same (same_upd hT)).putL (Eq.trans (upd_ne nDT) e1)) (seqT_putL (Eq.trans (upd_ne nDT) e1) (sqT_of upd_same)), fun y hy => ?_, ?_⟩
  · rw [upd_same, List.map_append]
    rfl
  · rcases List.mem_append.mp hy with h | h
    · exact o1 y h
    · rw [List.mem_singleton.mp h]
      exact ox
  · rw [List.length_append, n1]
    rfl
def rOne (L cell : Int) : Int := cell % L
def rOther (L cell : Int) : Int := (cell % L + 1 + cell / 8 % (if L - 1 > 1 then L - 1 else 1)) % L
theorem rOne_in {L cell : Int} (h : 0 < L) : 0 ≤ rOne L cell ∧ rOne L cell < L := ⟨Int.emod_nonneg _ (by omega), Int.emod_lt_of_pos _ h⟩
theorem rOther_in {L cell : Int} (h : 0 < L) : 0 ≤ rOther L cell ∧ rOther L cell < L := ⟨Int.emod_nonneg _ (by omega), Int.emod_lt_of_pos _ h⟩
def spRides (K : PySem.W.Frag) : Sp := fun vs H Q _ => ∃ (a : Addr) (ns : List Int) (place : Int) (n : Addr) (names : List Str) (size : Nat), vs = [.ref a, .int place, .ref n, .int size] ∧ SqL K H a (ns.map V.int) ∧ 0 ≤ place ∧ SqL K H n (names.map V.str) ∧ NamesOk names ∧ 1 ≤ names.length ∧ names.length ≤ 12 ∧ size ≤ 60 ∧
  ∀ H' p qs rides, Same H H' → H p = none → H' p = some (.lst (qs.map V.ref)) → Tups K H' rideV qs rides → (∀ r ∈ rides, okRide r) → rides.length ≤ size → Q (.ref p) H'
def spTrips (K : PySem.W.Frag) : Sp := fun vs H Q _ => ∃ (a : Addr) (ns : List Int) (place : Int) (n : Addr) (names : List Str) (size : Nat), vs = [.ref a, .int place, .ref n, .int size] ∧ SqL K H a (ns.map V.int) ∧ 0 ≤ place ∧ SqL K H n (names.map V.str) ∧ NamesOk names ∧ 1 ≤ names.length ∧ names.length ≤ 12 ∧ size ≤ 60 ∧
  ∀ H' p qs trips, Same H H' → H p = none → H' p = some (.lst (qs.map V.ref)) → Tups K H' tripV qs trips → (∀ t ∈ trips, okTrip t) → trips.length = size → Q (.ref p) H'
section
variable {P : Program} {w : World} {K : PySem.W.Frag} {mg : Str → Option Value} {base : Heap}
theorem cal_law_rides {f : Addr} {fd : FuncData} (F : Fn K "_law_rides" s_law_rides f fd) (g : mg "_law_rides" = some (.ref f)) (B : Bi mg) (c_cell : C8.Cal P w K mg base 1 "_law_cell_at" (spCellAt K) []) : C8.Cal P w K mg base 2 "_law_rides" (spRides K) [] := by
  refine cal_of F g sc_law_rides (bi_law_rides F) (fun vs H Q E h => ?_) (fun cdv A outer s H vs Q E hr h => ?_)
  · obtain ⟨a, ns, place, n, names, size, rfl, _⟩ := h
    rfl
  · obtain ⟨a, ns, place, n, names, size, rfl, hS, hp, hN, ok, l1, l12, l60, q⟩ := h
    
    refine ⟨_, (pss_cons (ps_set (i := 4) sc_law_rides.nd rfl (Or.inl rfl) (pe_lst pa_nil)) (pss_cons (ps_for PassesOwn.never rfl (pi_range1 rfl B.range (pa_cons (pv 3) pa_nil)) (pg_name (i := 5) sc_law_rides.nd rfl (Or.inl rfl)) (pss_cons (ps_set (i := 6) sc_law_rides.nd rfl (Or.inl rfl) (C8.pe_c c_cell hr (by decide) (by rfl) (pa_cons (pv 0) (pa_cons (pe_op op_add (pv 1) (pv 5)) pa_nil)))) (pss_cons (ps_set (i := 7) sc_law_rides.nd rfl (Or.inl rfl) (pe_op op_mod (pv 6) (pe_callB call_len_seq (by rfl) B.len PySem.boot_len (pa_cons (pv 2) pa_nil)))) (pss_cons (ps_set (i := 8) sc_law_rides.nd rfl (Or.inl rfl) (pe_op op_mod (pe_op op_add (pe_op op_add (pv 7) pe_int) (pe_op op_mod (pe_op op_fdiv (pv 6) pe_int) (pe_callB (call_max2 rfl) (by rfl) B.max (by decide +kernel) (pa_cons pe_int (pa_cons (pe_op op_sub (pe_callB call_len_seq (by rfl) B.len PySem.boot_len (pa_cons (pv 2) pa_nil)) pe_int) pa_nil))))) (pe_callB call_len_seq (by rfl) B.len PySem.boot_len (pa_cons (pv 2) pa_nil)))) (pss_cons (ps_set (i := 9) sc_law_rides.nd rfl (Or.inl rfl) (pe_op op_add pe_int (pe_op op_mod (pe_op op_fdiv (pv 6) pe_int) pe_int))) (pss_cons (ps_if (pt_cmpR op_eq (pe_op op_mod (pe_op op_fdiv (pv 6) pe_int) pe_int) pe_int (nomark _)) (pss_one (ps_set (i := 9) sc_law_rides.nd rfl (Or.inl rfl) (pe_op op_add pe_int (pe_op op_mod (pe_op op_fdiv (pv 6) pe_int) pe_int)))) pss_nil) (pss_one (ps_if (pt_cmpR op_ne (pv 7) (pv 8) (nomark _)) (pss_one (ps_expr (pe_bm PySem.F.plainAttrs_list PySem.F.slot_list_append PySem.F.type_list_append mt_append (pv 4) (pa_cons (pe_tup (pa_cons (pe_ix (r := rIxL K) ix_list (pv 2) (pv 7) (fun _ _ => rfl)) (pa_cons (pe_ix (r := rIxL K) ix_list (pv 2) (pv 8) (fun _ _ => rfl)) (pa_cons (pv 9) pa_nil)))) pa_nil)))) pss_nil)))))))) (pss_one (ps_ret (pv 4))))), ?_⟩
    have hlen : ((names.map V.str).length : Int) = names.length := by rw [List.length_map]
    have hpos : (0 : Int) < ((names.map V.str).length : Nat) := by rw [hlen]; omega
    refine ⟨Nat.zero_le _, fun D hD => ?_⟩
    refine ⟨_, rfl, size, rfl, by omega, by omega, for_range (lo := 0) (n := size)
      (fun i σ H' => Same H H' ∧ (∃ y5 y6 y7 y8 y9, σ = [some (.ref a), some (.int place), some (.ref n), some (.int size), some (.ref D), y5, y6, y7, y8, y9]) ∧
        ∃ qs rides, H' D = some (.lst (qs.map V.ref)) ∧ Tups K H' rideV qs rides ∧ (∀ r ∈ rides, okRide r) ∧ rides.length ≤ i) ⟨same_upd hD, ⟨none, none, none, none, none, rfl⟩, [], [], upd_same, Tups.nil, (fun _ h => nomatch h), Nat.le_refl _⟩ ?_ ?_⟩
    · rintro i σ H1 hi ⟨s1, ⟨y5, y6, y7, y8, y9, rfl⟩, qs, rides, e1, t1, o1, n1⟩
      have hS1 := s1.seq hS
      have hN1 := s1.seq hN
      refine ⟨_, rfl, _, rfl, _, rfl, _, _, rfl, rfl, a, ns, place + (0 + (i : Int)), rfl, hS1, by omega, ?_⟩
      generalize cellAt ns (place + (0 + (i : Int))) = cell
      refine ⟨_, rfl, _, rfl, n, _, rfl, .inl hN1, _, _, rfl, rfl, hpos, ?_⟩
      refine ⟨_, rfl, _, _, rfl, rfl, _, rfl, _, _, rfl, rfl, ⟨by decide, by decide⟩, _, rfl, n, _, rfl, .inl hN1, _, _, rfl, rfl, 1, ((names.map V.str).length : Int) - 1, rfl, _, _, rfl, rfl, ?_, _, _, rfl, rfl, _, rfl, n, _, rfl, .inl hN1, _, _, rfl, rfl, hpos, ?_⟩
      · show (0 : Int) < if ((names.map V.str).length : Int) - 1 > 1 then ((names.map V.str).length : Int) - 1 else 1
        split <;> omega
      refine ⟨_, rfl, _, _, rfl, rfl, ⟨by decide, by decide⟩, _, _, rfl, rfl, (by show (0 : Int) < 40; decide), _, _, rfl, rfl, ?_⟩
      have ha : 0 ≤ rOne ((names.map V.str).length : Int) cell ∧ rOne ((names.map V.str).length : Int) cell < names.length := ⟨(rOne_in hpos).1, Int.lt_of_lt_of_le (rOne_in hpos).2 (Int.le_of_eq hlen)⟩
      have hb : 0 ≤ rOther ((names.map V.str).length : Int) cell ∧ rOther ((names.map V.str).length : Int) cell < names.length := ⟨(rOther_in hpos).1, Int.lt_of_lt_of_le (rOther_in hpos).2 (Int.le_of_eq hlen)⟩
      refine ⟨_, rfl, _, _, rfl, rfl, ⟨by decide, by decide⟩, _, _, rfl, rfl, (by show (0 : Int) < 8; decide), rfl, _, rfl,
        ite2 (fun c => ⟨_, rfl, _, _, rfl, rfl, ⟨by decide, by decide⟩, _, _, rfl, rfl, (by show (0 : Int) < 9999; decide), _, _, rfl, rfl, ?_⟩) (fun c => ?_)⟩
      · refine ⟨_, rfl, _, rfl, rfl, _, rfl, ?_⟩
        by_cases ce : rOne ((names.map V.str).length : Int) cell = rOther ((names.map V.str).length : Int) cell
        · exact if_f (c := !decide (V.int (rOne ((names.map V.str).length : Int) cell) = V.int (rOther ((names.map V.str).length : Int) cell))) (by rw [ce]; simp) ⟨s1, ⟨_, _, _, _, _, rfl⟩, qs, rides, e1, t1, o1, by omega⟩
        · refine if_t (c := !decide (V.int (rOne ((names.map V.str).length : Int) cell) = V.int (rOther ((names.map V.str).length : Int) cell))) (by rw [decide_eq_false fun z => ce (V.int.inj z)]; rfl) ?_
          refine ⟨_, rfl, .inl ⟨rfl, _, sqL_of e1⟩, ?_⟩
          refine ⟨_, rfl, _, rfl, n, _, _, _, rfl, rfl, hN1, nm_at ha.1 ha.2, _, rfl, _, rfl, n, _, _, _, rfl, rfl, hN1, nm_at hb.1 hb.2, _, rfl, (by show 3 ≤ sizeLine; decide), fun T hT => ?_⟩
          have nDT : D ≠ T := ne_of_none e1 hT
          refine ⟨D, _, _, rfl, rfl, Eq.trans (upd_ne nDT) e1, ?_, same_put (s1.trans (same_upd hT)) hD, ⟨_, _, _, _, _, rfl⟩, ?_⟩
          · rw [List.length_map, t1.1]
            exact small1000 (by omega)
          · obtain ⟨qs', ys, z1, z2, z3, z4⟩ := turn_add (f := rideV) (ok := okRide) (nm names (rOne ((names.map V.str).length : Int) cell), nm names (rOther ((names.map V.str).length : Int) cell), 1 + cell / 512 % 9999) hT e1 t1 o1 rfl
              ⟨nm_ok ok ha.1 ha.2, nm_ok ok hb.1 hb.2, nm_ne ok ha.1 ha.2 hb.1 hb.2 ce, (by show (1 : Int) ≤ 1 + _ % _; omega), (by show 1 + _ % _ ≤ (9999 : Int); omega)⟩
            exact ⟨qs', ys, z1, z2, z3, by omega⟩
      · refine ⟨_, rfl, _, rfl, rfl, _, rfl, ?_⟩
        by_cases ce : rOne ((names.map V.str).length : Int) cell = rOther ((names.map V.str).length : Int) cell
        · exact if_f (c := !decide (V.int (rOne ((names.map V.str).length : Int) cell) = V.int (rOther ((names.map V.str).length : Int) cell))) (by rw [ce]; simp) ⟨s1, ⟨_, _, _, _, _, rfl⟩, qs, rides, e1, t1, o1, by omega⟩
        · refine if_t (c := !decide (V.int (rOne ((names.map V.str).length : Int) cell) = V.int (rOther ((names.map V.str).length : Int) cell))) (by rw [decide_eq_false fun z => ce (V.int.inj z)]; rfl) ?_
          refine ⟨_, rfl, .inl ⟨rfl, _, sqL_of e1⟩, ?_⟩
          refine ⟨_, rfl, _, rfl, n, _, _, _, rfl, rfl, hN1, nm_at ha.1 ha.2, _, rfl, _, rfl, n, _, _, _, rfl, rfl, hN1, nm_at hb.1 hb.2, _, rfl, (by show 3 ≤ sizeLine; decide), fun T hT => ?_⟩
          have nDT : D ≠ T := ne_of_none e1 hT
          refine ⟨D, _, _, rfl, rfl, Eq.trans (upd_ne nDT) e1, ?_, same_put (s1.trans (same_upd hT)) hD, ⟨_, _, _, _, _, rfl⟩, ?_⟩
          · rw [List.length_map, t1.1]
            exact small1000 (by omega)
          · obtain ⟨qs', ys, z1, z2, z3, z4⟩ := turn_add (f := rideV) (ok := okRide) (nm names (rOne ((names.map V.str).length : Int) cell), nm names (rOther ((names.map V.str).length : Int) cell), 1 + cell / 64 % 40) hT e1 t1 o1 rfl
              ⟨nm_ok ok ha.1 ha.2, nm_ok ok hb.1 hb.2, nm_ne ok ha.1 ha.2 hb.1 hb.2 ce, (by show (1 : Int) ≤ 1 + _ % _; omega), (by show 1 + _ % _ ≤ (9999 : Int); omega)⟩
            exact ⟨qs', ys, z1, z2, z3, by omega⟩
    · rintro σ H1 ⟨s1, ⟨y5, y6, y7, y8, y9, rfl⟩, qs, rides, e1, t1, o1, n1⟩
      exact ⟨_, rfl, q H1 D qs rides s1 hD e1 t1 o1 n1⟩
theorem cal_law_trips {f : Addr} {fd : FuncData} (F : Fn K "_law_trips" s_law_trips f fd) (g : mg "_law_trips" = some (.ref f)) (B : Bi mg) (c_cell : C8.Cal P w K mg base 1 "_law_cell_at" (spCellAt K) []) : C8.Cal P w K mg base 2 "_law_trips" (spTrips K) [] := by
  refine cal_of F g sc_law_trips (bi_law_trips F) (fun vs H Q E h => ?_) (fun cdv A outer s H vs Q E hr h => ?_)
  · obtain ⟨a, ns, place, n, names, size, rfl, _⟩ := h
    rfl
  · obtain ⟨a, ns, place, n, names, size, rfl, hS, hp, hN, ok, l1, l12, l60, q⟩ := h
    
    refine ⟨_, (pss_cons (ps_set (i := 4) sc_law_trips.nd rfl (Or.inl rfl) (pe_lst pa_nil)) (pss_cons (ps_for PassesOwn.never rfl (pi_range1 rfl B.range (pa_cons (pv 3) pa_nil)) (pg_name (i := 5) sc_law_trips.nd rfl (Or.inl rfl)) (pss_cons (ps_set (i := 6) sc_law_trips.nd rfl (Or.inl rfl) (C8.pe_c c_cell hr (by decide) (by rfl) (pa_cons (pv 0) (pa_cons (pe_op op_add (pv 1) (pv 5)) pa_nil)))) (pss_cons (ps_set (i := 7) sc_law_trips.nd rfl (Or.inl rfl) (pe_ix (r := rIxL K) ix_list (pv 2) (pe_op op_mod (pv 6) (pe_callB call_len_seq (by rfl) B.len PySem.boot_len (pa_cons (pv 2) pa_nil))) (fun _ _ => rfl))) (pss_cons (ps_set (i := 8) sc_law_trips.nd rfl (Or.inl rfl) (pe_ix (r := rIxL K) ix_list (pv 2) (pe_op op_mod (pe_op op_fdiv (pv 6) pe_int) (pe_callB call_len_seq (by rfl) B.len PySem.boot_len (pa_cons (pv 2) pa_nil))) (fun _ _ => rfl))) (pss_cons (ps_set (i := 9) sc_law_trips.nd rfl (Or.inl rfl) (pe_op op_mod (pe_op op_fdiv (pv 6) pe_int) pe_int)) (pss_cons (ps_set (i := 10) sc_law_trips.nd rfl (Or.inl rfl) (pe_op op_add pe_int (pe_op op_mod (pe_op op_fdiv (pv 6) pe_int) pe_int))) (pss_cons (ps_if (pt_cmpR op_eq (pe_op op_mod (pe_op op_fdiv (pv 6) pe_int) pe_int) pe_int (nomark _)) (pss_cons (ps_set (i := 9) sc_law_trips.nd rfl (Or.inl rfl) (pe_op op_mod (pe_op op_fdiv (pv 6) pe_int) pe_int)) (pss_one (ps_set (i := 10) sc_law_trips.nd rfl (Or.inl rfl) (pe_op op_add pe_int (pe_op op_mod (pe_op op_fdiv (pv 6) pe_int) pe_int))))) pss_nil) (pss_cons (ps_if (pt_cmpR op_eq (pe_op op_mod (pe_op op_fdiv (pv 6) pe_int) pe_int) pe_int (nomark _)) (pss_one (ps_set (i := 10) sc_law_trips.nd rfl (Or.inl rfl) (pe_op op_add pe_int (pe_op op_mod (pe_op op_fdiv (pv 6) pe_int) pe_int)))) pss_nil) (pss_one (ps_expr (pe_bm PySem.F.plainAttrs_list PySem.F.slot_list_append PySem.F.type_list_append mt_append (pv 4) (pa_cons (pe_tup (pa_cons (pv 7) (pa_cons (pv 9) (pa_cons (pv 8) (pa_cons (pe_op op_add (pv 9) (pv 10)) pa_nil))))) pa_nil)))))))))))) (pss_one (ps_ret (pv 4))))), ?_⟩
    have hlen : ((names.map V.str).length : Int) = names.length := by rw [List.length_map]
    have hpos : (0 : Int) < ((names.map V.str).length : Nat) := by rw [hlen]; omega
    refine ⟨Nat.zero_le _, fun D hD => ?_⟩
    refine ⟨_, rfl, size, rfl, by omega, by omega, for_range (lo := 0) (n := size)
      (fun i σ H' => Same H H' ∧ (∃ y5 y6 y7 y8 y9 y10, σ = [some (.ref a), some (.int place), some (.ref n), some (.int size), some (.ref D), y5, y6, y7, y8, y9, y10]) ∧
        ∃ qs trips, H' D = some (.lst (qs.map V.ref)) ∧ Tups K H' tripV qs trips ∧ (∀ t ∈ trips, okTrip t) ∧ trips.length = i) ⟨same_upd hD, ⟨none, none, none, none, none, none, rfl⟩, [], [], upd_same, Tups.nil, (fun _ h => nomatch h), rfl⟩ ?_ ?_⟩
    · rintro i σ H1 hi ⟨s1, ⟨y5, y6, y7, y8, y9, y10, rfl⟩, qs, trips, e1, t1, o1, n1⟩
      have hS1 := s1.seq hS
      have hN1 := s1.seq hN
      refine ⟨_, rfl, _, rfl, _, rfl, _, _, rfl, rfl, a, ns, place + (0 + (i : Int)), rfl, hS1, by omega, ?_⟩
      generalize cellAt ns (place + (0 + (i : Int))) = cell
      have ha0 : ∀ z : Int, 0 ≤ z % ((names.map V.str).length : Int) := fun z => Int.emod_nonneg _ (by omega)
      have ha1 : ∀ z : Int, z % ((names.map V.str).length : Int) < names.length := fun z => Int.lt_of_lt_of_le (Int.emod_lt_of_pos _ hpos) (Int.le_of_eq hlen)
      refine ⟨_, rfl, _, rfl, _, rfl, n, _, rfl, .inl hN1, _, _, rfl, rfl, hpos, n, _, _, _, rfl, rfl, hN1, nm_at (ha0 cell) (ha1 cell), ?_⟩
      refine ⟨_, rfl, _, rfl, _, _, rfl, rfl, ⟨by decide, by decide⟩, _, rfl, n, _, rfl, .inl hN1, _, _, rfl, rfl, hpos, n, _, _, _, rfl, rfl, hN1, nm_at (ha0 (cell / 13)) (ha1 (cell / 13)), ?_⟩
      refine ⟨_, rfl, _, _, rfl, rfl, ⟨by decide, by decide⟩, _, _, rfl, rfl, (by show (0 : Int) < 120; decide), ?_⟩
      refine ⟨_, rfl, _, _, rfl, rfl, ⟨by decide, by decide⟩, _, _, rfl, rfl, (by show (0 : Int) < 25; decide), _, _, rfl, rfl, ?_⟩
      have two : ∀ b : Bool, cell / 64 % 16 = 1 → cell / 64 % 16 = 2 → False := fun _ h1 h2 => by omega
      refine ⟨_, rfl, _, _, rfl, rfl, ⟨by decide, by decide⟩, _, _, rfl, rfl, (by show (0 : Int) < 16; decide), rfl, _, rfl,
        ite2 (fun c1 => ⟨_, rfl, _, _, rfl, rfl, ⟨by decide, by decide⟩, _, _, rfl, rfl, (by show (0 : Int) < 99000; decide), _, rfl, _, _, rfl, rfl, ⟨by decide, by decide⟩, _, _, rfl, rfl, (by show (0 : Int) < 999; decide), _, _, rfl, rfl, ?_⟩) (fun c1 => ?_)⟩
      · refine ⟨_, rfl, _, _, rfl, rfl, ⟨by decide, by decide⟩, _, _, rfl, rfl, (by show (0 : Int) < 16; decide), rfl, _, rfl,
          ite2 (fun c2 => ⟨_, rfl, _, _, rfl, rfl, ⟨by decide, by decide⟩, _, _, rfl, rfl, (by show (0 : Int) < 99000; decide), _, _, rfl, rfl, ?_⟩) (fun c2 => ?_)⟩
        · refine ⟨_, rfl, .inl ⟨rfl, _, sqL_of e1⟩, ?_⟩
          refine ⟨_, rfl, _, rfl, _, rfl, _, rfl, _, rfl, _, _, rfl, rfl, (by show 4 ≤ sizeLine; decide), fun T hT => ?_⟩
          have nDT : D ≠ T := ne_of_none e1 hT
          refine ⟨D, _, _, rfl, rfl, Eq.trans (upd_ne nDT) e1, ?_, same_put (s1.trans (same_upd hT)) hD, ⟨_, _, _, _, _, _, rfl⟩, ?_⟩
          · rw [List.length_map, t1.1]
            exact small1000 (by omega)
          · exact turn_add (f := tripV) (ok := okTrip) (nm names (cell % ((names.map V.str).length : Int)), cell / 1024 % 99000, nm names (cell / 13 % ((names.map V.str).length : Int)), cell / 1024 % 99000 + (1 + cell / 1024 % 99000)) hT e1 t1 o1 n1
              ⟨nm_ok ok (ha0 _) (ha1 _), nm_ok ok (ha0 _) (ha1 _), (by show (0 : Int) ≤ _ % _; omega), (by show _ % _ < _ % _ + (1 + _ % _); omega), (by
                show _ % _ + (1 + _ % _) ≤ (99999 : Int)
                first
                  | omega
                  | exact (two true (V.int.inj (of_decide_eq_true c1)) (V.int.inj (of_decide_eq_true c2))).elim)⟩
        · refine ⟨_, rfl, .inl ⟨rfl, _, sqL_of e1⟩, ?_⟩
          refine ⟨_, rfl, _, rfl, _, rfl, _, rfl, _, rfl, _, _, rfl, rfl, (by show 4 ≤ sizeLine; decide), fun T hT => ?_⟩
          have nDT : D ≠ T := ne_of_none e1 hT
          refine ⟨D, _, _, rfl, rfl, Eq.trans (upd_ne nDT) e1, ?_, same_put (s1.trans (same_upd hT)) hD, ⟨_, _, _, _, _, _, rfl⟩, ?_⟩
          · rw [List.length_map, t1.1]
            exact small1000 (by omega)
          · exact turn_add (f := tripV) (ok := okTrip) (nm names (cell % ((names.map V.str).length : Int)), cell / 1024 % 99000, nm names (cell / 13 % ((names.map V.str).length : Int)), cell / 1024 % 99000 + (1 + cell / 1024 % 999)) hT e1 t1 o1 n1
              ⟨nm_ok ok (ha0 _) (ha1 _), nm_ok ok (ha0 _) (ha1 _), (by show (0 : Int) ≤ _ % _; omega), (by show _ % _ < _ % _ + (1 + _ % _); omega), (by
                show _ % _ + (1 + _ % _) ≤ (99999 : Int)
                first
                  | omega
                  | exact (two true (V.int.inj (of_decide_eq_true c1)) (V.int.inj (of_decide_eq_true c2))).elim)⟩
      · refine ⟨_, rfl, _, _, rfl, rfl, ⟨by decide, by decide⟩, _, _, rfl, rfl, (by show (0 : Int) < 16; decide), rfl, _, rfl,
          ite2 (fun c2 => ⟨_, rfl, _, _, rfl, rfl, ⟨by decide, by decide⟩, _, _, rfl, rfl, (by show (0 : Int) < 99000; decide), _, _, rfl, rfl, ?_⟩) (fun c2 => ?_)⟩
        · refine ⟨_, rfl, .inl ⟨rfl, _, sqL_of e1⟩, ?_⟩
          refine ⟨_, rfl, _, rfl, _, rfl, _, rfl, _, rfl, _, _, rfl, rfl, (by show 4 ≤ sizeLine; decide), fun T hT => ?_⟩
          have nDT : D ≠ T := ne_of_none e1 hT
          refine ⟨D, _, _, rfl, rfl, Eq.trans (upd_ne nDT) e1, ?_, same_put (s1.trans (same_upd hT)) hD, ⟨_, _, _, _, _, _, rfl⟩, ?_⟩
          · rw [List.length_map, t1.1]
            exact small1000 (by omega)
          · exact turn_add (f := tripV) (ok := okTrip) (nm names (cell % ((names.map V.str).length : Int)), cell / 64 % 120, nm names (cell / 13 % ((names.map V.str).length : Int)), cell / 64 % 120 + (1 + cell / 1024 % 99000)) hT e1 t1 o1 n1
              ⟨nm_ok ok (ha0 _) (ha1 _), nm_ok ok (ha0 _) (ha1 _), (by show (0 : Int) ≤ _ % _; omega), (by show _ % _ < _ % _ + (1 + _ % _); omega), (by
                show _ % _ + (1 + _ % _) ≤ (99999 : Int)
                first
                  | omega
                  | exact (two true (V.int.inj (of_decide_eq_true c1)) (V.int.inj (of_decide_eq_true c2))).elim)⟩
        · refine ⟨_, rfl, .inl ⟨rfl, _, sqL_of e1⟩, ?_⟩
          refine ⟨_, rfl, _, rfl, _, rfl, _, rfl, _, rfl, _, _, rfl, rfl, (by show 4 ≤ sizeLine; decide), fun T hT => ?_⟩
          have nDT : D ≠ T := ne_of_none e1 hT
          refine ⟨D, _, _, rfl, rfl, Eq.trans (upd_ne nDT) e1, ?_, same_put (s1.trans (same_upd hT)) hD, ⟨_, _, _, _, _, _, rfl⟩, ?_⟩
          · rw [List.length_map, t1.1]
            exact small1000 (by omega)
          · exact turn_add (f := tripV) (ok := okTrip) (nm names (cell % ((names.map V.str).length : Int)), cell / 64 % 120, nm names (cell / 13 % ((names.map V.str).length : Int)), cell / 64 % 120 + (1 + cell / 7680 % 25)) hT e1 t1 o1 n1
              ⟨nm_ok ok (ha0 _) (ha1 _), nm_ok ok (ha0 _) (ha1 _), (by show (0 : Int) ≤ _ % _; omega), (by show _ % _ < _ % _ + (1 + _ % _); omega), (by
                show _ % _ + (1 + _ % _) ≤ (99999 : Int)
                first
                  | omega
                  | exact (two true (V.int.inj (of_decide_eq_true c1)) (V.int.inj (of_decide_eq_true c2))).elim)⟩
    · rintro σ H1 ⟨s1, ⟨y5, y6, y7, y8, y9, y10, rfl⟩, qs, trips, e1, t1, o1, n1⟩
      exact ⟨_, rfl, q H1 D qs trips s1 hD e1 t1 o1 n1⟩
end
end Fb
/-! What a law builds: its roads, all of it. -/
namespace Fb
open PySem PySem.Spec PyProof.Rows L2
def spLRoads (K : PySem.W.Frag) : Sp := fun vs H Q _ => ∃ a b rides trips, vs = [.ref a, .ref b] ∧ Rows K H rideV a rides ∧ Rows K H tripV b trips ∧ rides.length ≤ 100 ∧ trips.length ≤ 100 ∧
  ∀ H' p qs, Same H H' → H p = none → H' p = some (.lst (qs.map V.ref)) → Tups K H' rideV qs (roadsM rides trips) → Q (.ref p) H'
/-- what _law_built hands back: three new lists -/
structure BuiltAt (K : PySem.W.Frag) (H H' : Hp) (n r t : Addr) (names : List Str) (rides : List Ride) (trips : List Trip) (qr qt : List Addr) : Prop where
  same : Same H H'
  nn : H n = none
  nr : H r = none
  nt : H t = none
  rt : r ≠ t
  en : H' n = some (.lst (names.map V.str))
  er : H' r = some (.lst (qr.map V.ref))
  et : H' t = some (.lst (qt.map V.ref))
  tr : Tups K H' rideV qr rides
  tt : Tups K H' tripV qt trips
  okN : NamesOk names
  okR : ∀ x ∈ rides, okRide x
  okT : ∀ x ∈ trips, okTrip x
  n1 : 1 ≤ names.length
  n12 : names.length ≤ 12
  lr : rides.length ≤ 11
  lt : trips.length ≤ 10
theorem BuiltAt.grow {K : PySem.W.Frag} {H H1 H2 : Hp} {n r t : Addr} {names : List Str} {rides : List Ride} {trips : List Trip} {qr qt : List Addr} (b : BuiltAt K H H1 n r t names rides trips qr qt) (s : Same H1 H2) : BuiltAt K H H2 n r t names rides trips qr qt :=
  { b with same := b.same.trans s, en := s _ _ b.en, er := s _ _ b.er, et := s _ _ b.et, tr := b.tr.same s, tt := b.tt.same s }
def stepOf (x y : Int) : Int := if y / 72 % 2 = 0 then 1 + x % 20 else 9990 + x % 9
theorem stepOf_in (x y : Int) : 1 ≤ stepOf x y ∧ stepOf x y ≤ 9998 := by unfold stepOf; split <;> omega
theorem stepOf_at (x y : Int) : atI [V.int (1 + x % 20), V.int (9990 + x % 9)] (y / 72 % 2) = some (.int (stepOf x y)) := by
  by_cases h : y / 72 % 2 = 0
  · have e : stepOf x y = 1 + x % 20 := if_pos h
    rw [h, e]
    exact atI_nat (j := 0) rfl
  · have e : stepOf x y = 9990 + x % 9 := if_neg h
    have h1 : y / 72 % 2 = 1 := by omega
    rw [h1, e]
    exact atI_nat (j := 1) rfl
def spBuilt (K : PySem.W.Frag) : Sp := fun vs H Q _ => ∃ (a : Addr) (ns : List Int), vs = [.ref a] ∧ SqL K H a (ns.map V.int) ∧
  ∀ (H' : Hp) (p n r t : Addr) (names : List Str) (rides : List Ride) (trips : List Trip) (qr qt : List Addr), BuiltAt K H H' n r t names rides trips qr qt → H' p = some (.tup [.ref n, .ref r, .ref t]) → Q (.ref p) H'
section
variable {P : Program} {w : World} {K : PySem.W.Frag} {mg : Str → Option Value} {base : Heap}
theorem cal_law_roads {f : Addr} {fd : FuncData} (F : Fn K "_law_roads" s_law_roads f fd) (g : mg "_law_roads" = some (.ref f)) (B : Bi mg) : C8.Cal P w K mg base 1 "_law_roads" (spLRoads K) [] := by
  refine cal_of F g sc_law_roads (bi_law_roads F) (fun vs H Q E h => ?_) (fun cdv A outer s H vs Q E hr h => ?_)
  · obtain ⟨a, b, rides, trips, rfl, _⟩ := h
    rfl
  · obtain ⟨a, b, rides, trips, rfl, ⟨qs, hL, hT⟩, ⟨rs, hL2, hT2⟩, lR, lT, q⟩ := h
    
    refine ⟨_, (pss_cons (ps_set (i := 2) sc_law_roads.nd rfl (Or.inl rfl) (pe_callTy call_list_of (by rfl) B.list (by decide +kernel) (pa_cons (pv 0) pa_nil))) (pss_cons (ps_for PassesOwn.never rfl (pi_list (pv 1)) (pg_name (i := 3) sc_law_roads.nd rfl (Or.inl rfl)) (pss_one (ps_if (pt_cmpR op_ne (pe_ix (r := rIxT K) ix_tup (pv 3) pe_int (fun _ _ => rfl)) (pe_ix (r := rIxT K) ix_tup (pv 3) pe_int (fun _ _ => rfl)) (nomark _)) (pss_one (ps_expr (pe_bm PySem.F.plainAttrs_list PySem.F.slot_list_append PySem.F.type_list_append mt_append (pv 2) (pa_cons (pe_tup (pa_cons (pe_ix (r := rIxT K) ix_tup (pv 3) pe_int (fun _ _ => rfl)) (pa_cons (pe_ix (r := rIxT K) ix_tup (pv 3) pe_int (fun _ _ => rfl)) (pa_cons (pe_op op_sub (pe_ix (r := rIxT K) ix_tup (pv 3) pe_int (fun _ _ => rfl)) (pe_ix (r := rIxT K) ix_tup (pv 3) pe_int (fun _ _ => rfl))) pa_nil)))) pa_nil)))) pss_nil))) (pss_one (ps_ret (pv 2))))), ?_⟩
    refine ⟨_, rfl, a, _, rfl, .inl hL, fun p np => ?_⟩
    have s1 : Same H (upd H p (.lst (qs.map V.ref))) := same_upd np
    refine ⟨_, rfl, b, rfl, ⟨_, s1.seq hL2⟩, for_list (K := K) (a := b) (xs := rs.map V.ref)
      (fun i σ H' => Same H H' ∧ (∃ y, σ = [some (.ref a), some (.ref b), some (.ref p), y]) ∧ ∃ zs, H' p = some (.lst (zs.map V.ref)) ∧ Tups K H' rideV zs (roadsM rides (trips.take i)))
      ⟨s1, ⟨none, rfl⟩, qs, upd_same, ?_⟩ (fun i σ H' _ ⟨e, _⟩ => e.seq hL2) ?_ ?_⟩
    · have e : roadsM rides (trips.take 0) = rides := by simp [roadsM]
      rw [e]
      exact hT.same s1
    · rintro i x σ H' hi ⟨s2, ⟨y, rfl⟩, zs, hz, hzs⟩
      obtain ⟨p1, t, rfl, ht, hs⟩ := (hT2.same s2).at hi
      have e := roadsM_take (rides := rides) ht
      have hlen : i < trips.length := (List.getElem?_eq_some_iff.mp ht).1
      refine ⟨_, rfl, p1, _, 0, _, rfl, rfl, hs, atI_nat (j := 0) rfl, _, rfl, p1, _, 2, _, rfl, rfl, hs, atI_nat (j := 2) rfl, rfl, _, rfl, ?_⟩
      by_cases c : t.1 = t.2.2.1
      · have c2 : decide (V.str t.1 = V.str t.2.2.1) = true := decide_eq_true (by rw [c])
        rw [c2]
        refine if_f rfl ⟨s2, ⟨_, rfl⟩, zs, hz, ?_⟩
        rw [e]
        unfold roadOf
        rw [if_pos c, List.append_nil]
        exact hzs
      · have c2 : decide (V.str t.1 = V.str t.2.2.1) = false := decide_eq_false fun z => c (V.str.inj z)
        rw [c2]
        refine if_t rfl ⟨_, rfl, .inl ⟨rfl, _, sqL_of hz⟩, ?_⟩
        refine ⟨_, rfl, p1, _, 0, _, rfl, rfl, hs, atI_nat (j := 0) rfl, _, rfl, p1, _, 2, _, rfl, rfl, hs, atI_nat (j := 2) rfl, _, rfl, p1, _, 3, _, rfl, rfl, hs, atI_nat (j := 3) rfl, _, rfl, p1, _, 1, _, rfl, rfl, hs, atI_nat (j := 1) rfl, _, _, rfl, rfl, (by show 3 ≤ sizeLine; decide), fun q' nq => ?_⟩
        have npq : p ≠ q' := ne_of_none hz nq
        have hz2 : (upd H' q' (.tup [.str t.1, .str t.2.2.1, .int (t.2.2.2 - t.2.1)])) p = some (.lst (zs.map V.ref)) := by
          rw [upd_ne npq]
          exact hz
        have s3 : Same H' (upd H' q' (.tup [.str t.1, .str t.2.2.1, .int (t.2.2.2 - t.2.1)])) := same_upd nq
        refine ⟨p, _, _, rfl, rfl, hz2, ?_, ?_⟩
        · rw [List.length_map, hzs.1]
          have := roadsM_len rides (trips.take i)
          rw [List.length_take] at this
          exact small1000 (by omega)
        · refine ⟨same_put (s2.trans s3) np, ⟨_, rfl⟩, zs ++ [q'], ?_, ?_⟩
          · rw [upd_same, List.map_append]
            rfl
          · rw [e]
            unfold roadOf
            rw [if_neg c]
            exact Tups.add ((hzs.same s3).putL hz2) (seqT_putL hz2 (sqT_of upd_same))
    · rintro σ H' ⟨s2, ⟨y, rfl⟩, zs, hz, hzs⟩
      refine ⟨_, rfl, q H' p zs s2 np hz ?_⟩
      rw [List.length_map, hT2.1, List.take_length] at hzs
      exact hzs
theorem cal_law_built {f : Addr} {fd : FuncData} (F : Fn K "_law_built" s_law_built f fd) (g : mg "_law_built" = some (.ref f)) (B : Bi mg) (c_cell : C8.Cal P w K mg base 1 "_law_cell_at" (spCellAt K) [])
    (c_names : C8.Cal P w K mg base 1 "_law_names" spNames []) (c_rides : C8.Cal P w K mg base 2 "_law_rides" (spRides K) []) (c_trips : C8.Cal P w K mg base 2 "_law_trips" (spTrips K) []) : C8.Cal P w K mg base 3 "_law_built" (spBuilt K) [] := by
  refine cal_of F g sc_law_built (bi_law_built F) (fun vs H Q E h => ?_) (fun cdv A outer s H vs Q E hr h => ?_)
  · obtain ⟨a, ns, rfl, _⟩ := h
    rfl
  · obtain ⟨a, ns, rfl, hS, q⟩ := h
    
    refine ⟨_, (pss_cons (ps_set (i := 1) sc_law_built.nd rfl (Or.inl rfl) (C8.pe_c c_cell hr (by decide) (by rfl) (pa_cons (pv 0) (pa_cons pe_int pa_nil)))) (pss_cons (ps_set (i := 2) sc_law_built.nd rfl (Or.inl rfl) (C8.pe_c c_cell hr (by decide) (by rfl) (pa_cons (pv 0) (pa_cons pe_int pa_nil)))) (pss_cons (ps_set (i := 3) sc_law_built.nd rfl (Or.inr rfl) (C8.pe_c c_names hr (by decide) (by rfl) (pa_cons (C8.pe_c c_cell hr (by decide) (by rfl) (pa_cons (pv 0) (pa_cons pe_int pa_nil))) (pa_cons (pe_op op_add pe_int (pe_op op_mod (pv 1) pe_int)) pa_nil)))) (pss_cons (ps_set (i := 4) sc_law_built.nd rfl (Or.inl rfl) (C8.pe_c c_rides hr (by decide) (by rfl) (pa_cons (pv 0) (pa_cons pe_int (pa_cons (pv 3) (pa_cons (pe_op op_mod (pe_op op_fdiv (pv 1) pe_int) pe_int) pa_nil)))))) (pss_cons (ps_set (i := 5) sc_law_built.nd rfl (Or.inl rfl) (C8.pe_c c_trips hr (by decide) (by rfl) (pa_cons (pv 0) (pa_cons pe_int (pa_cons (pv 3) (pa_cons (pe_op op_mod (pv 2) pe_int) pa_nil)))))) (pss_cons (ps_if (pt_cmpR op_eq (pe_op op_mod (pe_op op_fdiv (pv 2) pe_int) pe_int) pe_int (nomark _)) (pss_one (ps_set (i := 5) sc_law_built.nd rfl (Or.inl rfl) (pe_op op_cat (pv 5) (pe_slice sl_list (pv 5) po_none (po_some pe_int))))) pss_nil) (pss_cons (ps_if (pt_cmpR op_eq (pe_op op_mod (pe_op op_fdiv (pv 2) pe_int) pe_int) pe_int (nomark _)) (pss_cons (ps_set (i := 3) sc_law_built.nd rfl (Or.inr rfl) (C8.pe_c c_names hr (by decide) (by rfl) (pa_cons (C8.pe_c c_cell hr (by decide) (by rfl) (pa_cons (pv 0) (pa_cons pe_int pa_nil))) (pa_cons pe_int pa_nil)))) (pss_cons (ps_set (i := 6) sc_law_built.nd rfl (Or.inr rfl) (pe_ix (r := rIxL K) ix_list (pe_lst (pa_cons (pe_op op_add pe_int (pe_op op_mod (pv 1) pe_int)) (pa_cons (pe_op op_add pe_int (pe_op op_mod (pv 1) pe_int)) pa_nil))) (pe_op op_mod (pe_op op_fdiv (pv 2) pe_int) pe_int) (fun _ _ => rfl))) (pss_cons (ps_setLc (i := 4) (own := [("_law_k", 7)]) (g := gName 7) (tt := tYes) (by rfl) sc_law_built.nd rfl rfl (sw_true rfl rfl rfl (by decide +kernel)) (pi_range1 rfl B.range (pa_cons (pe_op op_add pe_int (pe_op op_mod (pv 1) pe_int)) pa_nil)) (blkOk_by (N := ["_law_script", "_law_first", "_law_second", "_law_names_here", "_law_rides_here", "_law_trips_here", "_law_step", "_law_k"]) (sc := defScope s_law_built) (by decide +kernel)) (fun _ _ _ _ _ => pg_name (i := 7) sc_law_built.nd rfl (Or.inl rfl)) (fun _ _ _ _ _ => pts_nil) (fun _ _ _ _ _ => (pe_tup (pa_cons (pe_ix (r := rIxL K) ix_list (pv 3) (pv 7) (fun _ _ => rfl)) (pa_cons (pe_ix (r := rIxL K) ix_list (pv 3) (pe_op op_add (pv 7) pe_int) (fun _ _ => rfl)) (pa_cons (pe_op op_add (pv 6) (pe_op op_mod (pv 7) pe_int)) pa_nil)))))) (pss_one (ps_set (i := 5) sc_law_built.nd rfl (Or.inl rfl) (C8.pe_c c_trips hr (by decide) (by rfl) (pa_cons (pv 0) (pa_cons pe_int (pa_cons (pv 3) (pa_cons (pe_op op_mod (pv 2) pe_int) pa_nil)))))))))) pss_nil) (pss_one (ps_ret (pe_tup (pa_cons (pv 3) (pa_cons (pv 4) (pa_cons (pv 5) pa_nil))))))))))))), ?_⟩
    refine ⟨_, rfl, a, ns, 0, rfl, hS, by omega, _, rfl, a, ns, 2, rfl, hS, by omega, ?_⟩
    -- names
    refine ⟨_, rfl, a, ns, 1, rfl, hS, by omega, _, rfl, _, _, rfl, rfl, (by show (0 : Int) < 6; decide), _, _, rfl, rfl, cellAt ns 1, (1 + cellAt ns 0 % 6).toNat, ?_, by omega, fun H1 n names s1 nn en ln okN => ?_⟩
    · show [V.int (cellAt ns 1), V.int (1 + cellAt ns 0 % 6)] = _
      rw [show (((1 + cellAt ns 0 % 6).toNat : Nat) : Int) = 1 + cellAt ns 0 % 6 by omega]
    have ln1 : 1 ≤ names.length := by omega
    have ln12 : names.length ≤ 12 := by omega
    -- rides
    refine ⟨_, rfl, _, rfl, _, rfl, _, _, rfl, rfl, ⟨by decide, by decide⟩, _, _, rfl, rfl, (by show (0 : Int) < 8; decide), a, ns, 4, n, names, (cellAt ns 0 / 6 % 8).toNat, ?_, s1.seq hS, by omega, sqL_of en, okN, ln1, ln12, by omega, fun H2 r qr rides s2 nr er tr okR lr => ?_⟩
    · show [V.ref a, V.int 4, V.ref n, V.int (cellAt ns 0 / 6 % 8)] = _
      rw [show (((cellAt ns 0 / 6 % 8).toNat : Nat) : Int) = cellAt ns 0 / 6 % 8 by omega]
    have s02 := s1.trans s2
    -- trips
    refine ⟨_, rfl, _, rfl, _, rfl, _, _, rfl, rfl, (by show (0 : Int) < 9; decide), a, ns, 12, n, names, (cellAt ns 2 % 9).toNat, ?_, s02.seq hS, by omega, sqL_of (s2 _ _ en), okN, ln1, ln12, by omega, fun H3 t qt trips s3 nt et tt okT lt => ?_⟩
    · show [V.ref a, V.int 12, V.ref n, V.int (cellAt ns 2 % 9)] = _
      rw [show (((cellAt ns 2 % 9).toNat : Nat) : Int) = cellAt ns 2 % 9 by omega]
    have b3 : BuiltAt K H H3 n r t names rides trips qr qt := ⟨s02.trans s3, nn, s1.free nr, s02.free nt, ne_of_none er nt, s3 _ _ (s2 _ _ en), s3 _ _ er, et, tr.same s3, tt, okN, okR, okT, ln1, ln12, by omega, by omega⟩
    refine ⟨_, rfl, _, _, rfl, rfl, ⟨by decide, by decide⟩, _, _, rfl, rfl, (by show (0 : Int) < 4; decide), rfl, _, rfl, ite2 (fun c1 => ?_) (fun c1 => ?_)⟩
    · refine ⟨_, rfl, _, rfl, 2, rfl, t, _, rfl, sqL_of et, fun c nc => ?_⟩
      have ntc : t ≠ c := ne_of_none et nc
      have s4 : Same H3 (upd H3 c (.lst (cutV (qt.map V.ref) none (some 2)))) := same_upd nc
      have e4 : (upd H3 c (.lst (cutV (qt.map V.ref) none (some 2)))) t = some (.lst (qt.map V.ref)) := s4 _ _ et
      refine ⟨t, c, _, _, rfl, rfl, e4, upd_same, ?_, fun d nd => ?_⟩
      · have h1 := cutV_length (qt.map V.ref) none (some 2)
        have h2 : (qt.map V.ref).length ≤ 10 := by
          rw [List.length_map, tt.1]
          omega
        have : sizeLine = 16777216 := sizeLine_eq
        omega
      have s5 := s4.trans (same_upd (o := .lst (qt.map V.ref ++ cutV (qt.map V.ref) none (some 2))) nd)
      have ec : qt.map V.ref ++ cutV (qt.map V.ref) none (some 2) = (qt ++ qt.take 2).map V.ref := by
        rw [show cutV (qt.map V.ref) none (some 2) = (qt.map V.ref).take 2 from cut_take _ 2, List.map_append, List.map_take]
      have okT5 : ∀ x ∈ trips ++ trips.take 2, okTrip x := fun x hx => by
        rcases List.mem_append.mp hx with h | h
        · exact okT x h
        · exact okT x (List.mem_of_mem_take h)
      have lt5 : (trips ++ trips.take 2).length ≤ 10 := by
        rw [List.length_append, List.length_take]
        omega
      have b5 : BuiltAt K H _ n r d names rides (trips ++ trips.take 2) qr (qt ++ qt.take 2) :=
        ⟨b3.same.trans s5, b3.nn, b3.nr, b3.same.free (s4.free nd), ne_of_none (s4 _ _ b3.er) nd, s5 _ _ b3.en, s5 _ _ b3.er, Eq.trans upd_same (by rw [ec]), b3.tr.same s5, (tt.append (tt.take 2)).same s5, okN, okR, okT5, ln1, ln12, b3.lr, lt5⟩
      -- in one of eight: places in a row
      have S5 := b5.same
      refine ⟨_, rfl, _, _, rfl, rfl, ⟨by decide, by decide⟩, _, _, rfl, rfl, (by show (0 : Int) < 8; decide), rfl, _, rfl, ite2 (fun c2 => ?_) (fun c2 => ?_)⟩
      · refine ⟨_, rfl, a, ns, 1, rfl, S5.seq hS, by omega, cellAt ns 1, 12, rfl, by omega, fun H6 n2 names2 s6 nn2 en2 ln2 okN2 => ?_⟩
        have S6 := S5.trans s6
        refine ⟨_, rfl, _, _, rfl, rfl, (by show (0 : Int) < 20; decide), _, _, rfl, rfl, _, rfl, _, _, rfl, rfl, (by show (0 : Int) < 9; decide), _, _, rfl, rfl, (by show 2 ≤ sizeLine; decide), fun l nl => ?_⟩
        refine ⟨_, rfl, _, _, rfl, rfl, ⟨by decide, by decide⟩, _, _, rfl, rfl, (by show (0 : Int) < 2; decide), l, _, _, _, rfl, rfl, sqL_of upd_same, stepOf_at (cellAt ns 0) (cellAt ns 2), ?_⟩
        have s7 : Same H6 (upd H6 l (.lst [.int (1 + cellAt ns 0 % 20), .int (9990 + cellAt ns 0 % 9)])) := same_upd nl
        have S7 := S6.trans s7
        refine ⟨_, rfl, _, _, rfl, rfl, (by show (0 : Int) < 10; decide), _, _, rfl, rfl, 2 + cellAt ns 0 % 10, rfl, by omega, by omega, fun D nD => ?_⟩
        refine lc_range (lo := 0) (n := (2 + cellAt ns 0 % 10).toNat) (fun i H' => Same (upd H6 l (.lst [.int (1 + cellAt ns 0 % 20), .int (9990 + cellAt ns 0 % 9)])) H' ∧
          ∃ qs rides, H' D = some (.lst (qs.map V.ref)) ∧ Tups K H' rideV qs rides ∧ (∀ r ∈ rides, okRide r) ∧ rides.length = i) ⟨same_upd nD, [], [], upd_same, Tups.nil, (fun _ h => nomatch h), rfl⟩ ?_ ?_
        · rintro i H8 hi ⟨s8, qs, rds, e8, t8, o8, n8⟩
          have hN8 : SqL K H8 n2 (names2.map V.str) := sqL_of (s8 _ _ (s7 _ _ en2))
          refine ⟨rfl, ?_⟩
          refine ⟨_, rfl, _, rfl, n2, _, _, _, rfl, rfl, hN8, nm_at (z := 0 + (i : Int)) (by omega) (by omega), _, rfl, _, rfl, _, _, rfl, rfl, n2, _, _, _, rfl, rfl, hN8, nm_at (z := 0 + (i : Int) + 1) (by omega) (by omega), ?_⟩
          refine ⟨_, rfl, _, rfl, _, _, rfl, rfl, (by show (0 : Int) < 2; decide), _, _, rfl, rfl, (by show 3 ≤ sizeLine; decide), fun T hT => ?_⟩
          have nDT : D ≠ T := ne_of_none e8 hT
          refine ⟨_, Eq.trans (upd_ne nDT) e8, ?_, same_put (s8.trans (same_upd hT)) nD, ?_⟩
          · rw [List.length_map, t8.1]
            exact small1000 (by omega)
          · have hst := stepOf_in (cellAt ns 0) (cellAt ns 2)
            exact turn_add (f := rideV) (ok := okRide) (nm names2 (0 + (i : Int)), nm names2 (0 + (i : Int) + 1), stepOf (cellAt ns 0) (cellAt ns 2) + (0 + (i : Int)) % 2) hT e8 t8 o8 n8
              ⟨nm_ok okN2 (by omega) (by omega), nm_ok okN2 (by omega) (by omega), nm_ne okN2 (by omega) (by omega) (by omega) (by omega) (by omega), (by show (1 : Int) ≤ stepOf _ _ + _ % 2; omega), (by show stepOf _ _ + _ % 2 ≤ (9999 : Int); omega)⟩
        · rintro H8 ⟨s8, qr2, rides2, er2, tr2, okR2, lr2⟩
          have S8 := S7.trans s8
          have nD0 : H D = none := S7.free nD
          refine ⟨_, rfl, _, rfl, _, rfl, _, _, rfl, rfl, (by show (0 : Int) < 5; decide), a, ns, 12, n2, names2, (cellAt ns 2 % 5).toNat, ?_, S8.seq hS, by omega, sqL_of (s8 _ _ (s7 _ _ en2)), okN2, by omega, by omega, by omega, fun H9 t2 qt2 trips2 s9 nt2 et2 tt2 okT2 lt2 => ?_⟩
          · show [V.ref a, V.int 12, V.ref n2, V.int (cellAt ns 2 % 5)] = _
            rw [show (((cellAt ns 2 % 5).toNat : Nat) : Int) = cellAt ns 2 % 5 by omega]
          have b9 : BuiltAt K H H9 n2 D t2 names2 rides2 trips2 qr2 qt2 := ⟨S8.trans s9, S5.free nn2, nD0, S8.free nt2, ne_of_none er2 nt2, s9 _ _ (s8 _ _ (s7 _ _ en2)), s9 _ _ er2, et2, tr2.same s9, tt2, okN2, okR2, okT2, by omega, by omega, by omega, by omega⟩
          exact ⟨_, rfl, _, rfl, _, rfl, (by show 3 ≤ sizeLine; decide), fun p np => q _ p n2 D t2 names2 rides2 trips2 qr2 qt2 (b9.grow (same_upd np)) upd_same⟩
      · exact ⟨_, rfl, _, rfl, _, rfl, (by show 3 ≤ sizeLine; decide), fun p np => q _ p _ _ _ _ _ _ _ _ (b5.grow (same_upd np)) upd_same⟩
    · have b5 := b3
      -- in one of eight: places in a row
      have S5 := b5.same
      refine ⟨_, rfl, _, _, rfl, rfl, ⟨by decide, by decide⟩, _, _, rfl, rfl, (by show (0 : Int) < 8; decide), rfl, _, rfl, ite2 (fun c2 => ?_) (fun c2 => ?_)⟩
      · refine ⟨_, rfl, a, ns, 1, rfl, S5.seq hS, by omega, cellAt ns 1, 12, rfl, by omega, fun H6 n2 names2 s6 nn2 en2 ln2 okN2 => ?_⟩
        have S6 := S5.trans s6
        refine ⟨_, rfl, _, _, rfl, rfl, (by show (0 : Int) < 20; decide), _, _, rfl, rfl, _, rfl, _, _, rfl, rfl, (by show (0 : Int) < 9; decide), _, _, rfl, rfl, (by show 2 ≤ sizeLine; decide), fun l nl => ?_⟩
        refine ⟨_, rfl, _, _, rfl, rfl, ⟨by decide, by decide⟩, _, _, rfl, rfl, (by show (0 : Int) < 2; decide), l, _, _, _, rfl, rfl, sqL_of upd_same, stepOf_at (cellAt ns 0) (cellAt ns 2), ?_⟩
        have s7 : Same H6 (upd H6 l (.lst [.int (1 + cellAt ns 0 % 20), .int (9990 + cellAt ns 0 % 9)])) := same_upd nl
        have S7 := S6.trans s7
        refine ⟨_, rfl, _, _, rfl, rfl, (by show (0 : Int) < 10; decide), _, _, rfl, rfl, 2 + cellAt ns 0 % 10, rfl, by omega, by omega, fun D nD => ?_⟩
        refine lc_range (lo := 0) (n := (2 + cellAt ns 0 % 10).toNat) (fun i H' => Same (upd H6 l (.lst [.int (1 + cellAt ns 0 % 20), .int (9990 + cellAt ns 0 % 9)])) H' ∧
          ∃ qs rides, H' D = some (.lst (qs.map V.ref)) ∧ Tups K H' rideV qs rides ∧ (∀ r ∈ rides, okRide r) ∧ rides.length = i) ⟨same_upd nD, [], [], upd_same, Tups.nil, (fun _ h => nomatch h), rfl⟩ ?_ ?_
        · rintro i H8 hi ⟨s8, qs, rds, e8, t8, o8, n8⟩
          have hN8 : SqL K H8 n2 (names2.map V.str) := sqL_of (s8 _ _ (s7 _ _ en2))
          refine ⟨rfl, ?_⟩
          refine ⟨_, rfl, _, rfl, n2, _, _, _, rfl, rfl, hN8, nm_at (z := 0 + (i : Int)) (by omega) (by omega), _, rfl, _, rfl, _, _, rfl, rfl, n2, _, _, _, rfl, rfl, hN8, nm_at (z := 0 + (i : Int) + 1) (by omega) (by omega), ?_⟩
          refine ⟨_, rfl, _, rfl, _, _, rfl, rfl, (by show (0 : Int) < 2; decide), _, _, rfl, rfl, (by show 3 ≤ sizeLine; decide), fun T hT => ?_⟩
          have nDT : D ≠ T := ne_of_none e8 hT
          refine ⟨_, Eq.trans (upd_ne nDT) e8, ?_, same_put (s8.trans (same_upd hT)) nD, ?_⟩
          · rw [List.length_map, t8.1]
            exact small1000 (by omega)
          · have hst := stepOf_in (cellAt ns 0) (cellAt ns 2)
            exact turn_add (f := rideV) (ok := okRide) (nm names2 (0 + (i : Int)), nm names2 (0 + (i : Int) + 1), stepOf (cellAt ns 0) (cellAt ns 2) + (0 + (i : Int)) % 2) hT e8 t8 o8 n8
              ⟨nm_ok okN2 (by omega) (by omega), nm_ok okN2 (by omega) (by omega), nm_ne okN2 (by omega) (by omega) (by omega) (by omega) (by omega), (by show (1 : Int) ≤ stepOf _ _ + _ % 2; omega), (by show stepOf _ _ + _ % 2 ≤ (9999 : Int); omega)⟩
        · rintro H8 ⟨s8, qr2, rides2, er2, tr2, okR2, lr2⟩
          have S8 := S7.trans s8
          have nD0 : H D = none := S7.free nD
          refine ⟨_, rfl, _, rfl, _, rfl, _, _, rfl, rfl, (by show (0 : Int) < 5; decide), a, ns, 12, n2, names2, (cellAt ns 2 % 5).toNat, ?_, S8.seq hS, by omega, sqL_of (s8 _ _ (s7 _ _ en2)), okN2, by omega, by omega, by omega, fun H9 t2 qt2 trips2 s9 nt2 et2 tt2 okT2 lt2 => ?_⟩
          · show [V.ref a, V.int 12, V.ref n2, V.int (cellAt ns 2 % 5)] = _
            rw [show (((cellAt ns 2 % 5).toNat : Nat) : Int) = cellAt ns 2 % 5 by omega]
          have b9 : BuiltAt K H H9 n2 D t2 names2 rides2 trips2 qr2 qt2 := ⟨S8.trans s9, S5.free nn2, nD0, S8.free nt2, ne_of_none er2 nt2, s9 _ _ (s8 _ _ (s7 _ _ en2)), s9 _ _ er2, et2, tr2.same s9, tt2, okN2, okR2, okT2, by omega, by omega, by omega, by omega⟩
          exact ⟨_, rfl, _, rfl, _, rfl, (by show 3 ≤ sizeLine; decide), fun p np => q _ p n2 D t2 names2 rides2 trips2 qr2 qt2 (b9.grow (same_upd np)) upd_same⟩
      · exact ⟨_, rfl, _, rfl, _, rfl, (by show 3 ≤ sizeLine; decide), fun p np => q _ p _ _ _ _ _ _ _ _ (b5.grow (same_upd np)) upd_same⟩
end
end Fb
/-! Data as a whole: rides and trips in lists, compared. -/
namespace Fb
open PySem PySem.Spec PyProof.Rows L2
/-- data of no more than n levels, as it can be compared -/
def Sh (n : Nat) (d : PyData) : Prop := d.canLay0 = true ∧ d.depth ≤ n
theorem Sh.up {n m : Nat} {d : PyData} (h : Sh n d) (l : n ≤ m) : Sh m d := ⟨h.1, Nat.le_trans h.2 l⟩
theorem Sh.ok {n : Nat} {d : PyData} (h : Sh n d) (l : n ≤ 64) : SeqAt.shaped d = true := by
  show (d.canLay0 && decide (d.depth ≤ 64)) = true
  rw [h.1, decide_eq_true (Nat.le_trans h.2 l)]
  rfl
theorem sh_int (i : Int) : Sh 0 (.int i) := ⟨by simp [PyData.canLay0], by simp [PyData.depth]⟩
theorem sh_bool (b : Bool) : Sh 0 (.bool b) := ⟨by simp [PyData.canLay0], by simp [PyData.depth]⟩
theorem sh_none : Sh 0 .none := ⟨by simp [PyData.canLay0], by simp [PyData.depth]⟩
theorem sh_all {n : Nat} : ∀ {ds : List PyData}, (∀ d ∈ ds, Sh n d) → PyData.canLayAll0 ds = true ∧ PyData.depthAll ds ≤ n
  | [], _ => ⟨by simp [PyData.canLayAll0], by simp [PyData.depthAll]⟩
  | d :: ds, h => by
    have h1 := h d List.mem_cons_self
    have h2 := sh_all (ds := ds) fun e he => h e (List.mem_cons_of_mem _ he)
    refine ⟨?_, ?_⟩
    · simp only [PyData.canLayAll0, h1.1, h2.1, Bool.and_self]
    · simp only [PyData.depthAll]
      exact Nat.max_le.mpr ⟨h1.2, h2.2⟩
theorem sh_list {n : Nat} {ds : List PyData} (h : ∀ d ∈ ds, Sh n d) : Sh (n + 1) (.list ds) := by
  have h1 := sh_all h
  exact ⟨by simp only [PyData.canLay0, h1.1], by simp only [PyData.depth]; omega⟩
theorem sh_tuple {n : Nat} {ds : List PyData} (h : ∀ d ∈ ds, Sh n d) : Sh (n + 1) (.tuple ds) := by
  have h1 := sh_all h
  exact ⟨by simp only [PyData.canLay0, h1.1], by simp only [PyData.depth]; omega⟩
theorem sh_str {z : Str} (h : okPlace z) : Sh 0 (.str z) := by
  refine ⟨?_, by simp [PyData.depth]⟩
  have h1 : PyData.strOk z = true := by
    show z.cps.all (· < 0x110000) = true
    rw [← Array.all_toList]
    refine List.all_eq_true.mpr fun c hc => decide_eq_true ?_
    have : ∀ c ∈ letters.cps.toList, c < 0x110000 := by decide +kernel
    exact this c (h.2.2 c hc)
  simp only [PyData.canLay0, h1]
theorem eqv_same {n : Nat} {d : PyData} (h : Sh n d) : PyData.eqv d d = true := PySem.SeqAt.eqv_refl_plain d (PySem.PyData.plain_of_canLay0 d h.1)
/-! ### rides and trips -/
def rideD (r : Ride) : PyData := .tuple [.str r.1, .str r.2.1, .int r.2.2]
def tripD (t : Trip) : PyData := .tuple [.str t.1, .int t.2.1, .str t.2.2.1, .int t.2.2.2]
theorem sh_ride {r : Ride} (h1 : okPlace r.1) (h2 : okPlace r.2.1) : Sh 1 (rideD r) := sh_tuple fun d hd => by
  rcases List.mem_cons.mp hd with rfl | hd
  · exact sh_str h1
  rcases List.mem_cons.mp hd with rfl | hd
  · exact sh_str h2
  rw [List.mem_singleton.mp hd]
  exact sh_int _
theorem sh_trip {t : Trip} (h : okTrip t) : Sh 1 (tripD t) := sh_tuple fun d hd => by
  rcases List.mem_cons.mp hd with rfl | hd
  · exact sh_str h.1
  rcases List.mem_cons.mp hd with rfl | hd
  · exact sh_int _
  rcases List.mem_cons.mp hd with rfl | hd
  · exact sh_str h.2.1
  rw [List.mem_singleton.mp hd]
  exact sh_int _
theorem dp_ride {K : PySem.W.Frag} {H : Hp} {q : Addr} {r : Ride} (h : SqT K H q (rideV r)) : Dp K H (.ref q) (rideD r) := .tup h (.cons (.str _) (.cons (.str _) (.cons (.int _) .nil)))
theorem dp_trip {K : PySem.W.Frag} {H : Hp} {q : Addr} {t : Trip} (h : SqT K H q (tripV t)) : Dp K H (.ref q) (tripD t) := .tup h (.cons (.str _) (.cons (.int _) (.cons (.str _) (.cons (.int _) .nil))))
theorem dp_tups {β : Type} {K : PySem.W.Frag} {H : Hp} {f : β → List V} {d : β → PyData} (hd : ∀ q x, SqT K H q (f x) → Dp K H (.ref q) (d x)) : ∀ {qs : List Addr} {xs : List β}, Tups K H f qs xs → DpAll K H (qs.map V.ref) (xs.map d)
  | [], [], _ => .nil
  | [], _ :: _, t => by have := t.1; simp at this
  | _ :: _, [], t => by have := t.1; simp at this
  | q :: qs, x :: xs, t => .cons (hd q x (t.2 0 q x rfl rfl)) (dp_tups hd (qs := qs) (xs := xs) ⟨by have := t.1; simpa using this, fun i q' x' h1 h2 => t.2 (i + 1) q' x' (by simpa using h1) (by simpa using h2)⟩)
theorem dp_rows {β : Type} {K : PySem.W.Frag} {H : Hp} {f : β → List V} {d : β → PyData} {a : Addr} {xs : List β} (hd : ∀ q x, SqT K H q (f x) → Dp K H (.ref q) (d x)) (r : Rows K H f a xs) : Dp K H (.ref a) (.list (xs.map d)) := by
  obtain ⟨qs, h, t⟩ := r
  exact .lst h (dp_tups hd t)
theorem dp_rides {K : PySem.W.Frag} {H : Hp} {a : Addr} {rides : List Ride} (r : Rows K H rideV a rides) : Dp K H (.ref a) (.list (rides.map rideD)) := dp_rows (fun _ _ => dp_ride) r
theorem dp_trips {K : PySem.W.Frag} {H : Hp} {a : Addr} {trips : List Trip} (r : Rows K H tripV a trips) : Dp K H (.ref a) (.list (trips.map tripD)) := dp_rows (fun _ _ => dp_trip) r
theorem sh_rides {rides : List Ride} (h : ∀ r ∈ rides, okPlace r.1 ∧ okPlace r.2.1) : Sh 2 (.list (rides.map rideD)) := sh_list fun d hd => by
  obtain ⟨r, hr, rfl⟩ := List.mem_map.mp hd
  exact sh_ride (h r hr).1 (h r hr).2
theorem sh_trips {trips : List Trip} (h : ∀ t ∈ trips, okTrip t) : Sh 2 (.list (trips.map tripD)) := sh_list fun d hd => by
  obtain ⟨t, ht, rfl⟩ := List.mem_map.mp hd
  exact sh_trip (h t ht)
theorem roadsM_places {rides : List Ride} {trips : List Trip} (h1 : ∀ r ∈ rides, okRide r) (h2 : ∀ t ∈ trips, okTrip t) : ∀ r ∈ roadsM rides trips, okPlace r.1 ∧ okPlace r.2.1 := fun r hr => by
  rcases List.mem_append.mp hr with h | h
  · exact ⟨(h1 r h).1, (h1 r h).2.1⟩
  · obtain ⟨t, ht, hm⟩ := List.mem_flatMap.mp h
    unfold roadOf at hm
    by_cases c : t.1 = t.2.2.1
    · rw [if_pos c] at hm
      cases hm
    · rw [if_neg c] at hm
      rw [List.mem_singleton.mp hm]
      exact ⟨(h2 t ht).1, (h2 t ht).2.1⟩
/-- two lists of lists of rides and of trips: handed == [rides, trips] -/
theorem dp_two {K : PySem.W.Frag} {H : Hp} {x a b : Addr} {rides : List Ride} {trips : List Trip} (hx : SqL K H x [.ref a, .ref b]) (h1 : Rows K H rideV a rides) (h2 : Rows K H tripV b trips) :
    Dp K H (.ref x) (.list [.list (rides.map rideD), .list (trips.map tripD)]) := .lst hx (.cons (dp_rides h1) (.cons (dp_trips h2) .nil))
theorem sh_two {rides : List Ride} {trips : List Trip} (h1 : ∀ r ∈ rides, okRide r) (h2 : ∀ t ∈ trips, okTrip t) : Sh 3 (.list [.list (rides.map rideD), .list (trips.map tripD)]) := sh_list fun d hd => by
  rcases List.mem_cons.mp hd with rfl | hd
  · exact sh_rides fun r hr => ⟨(h1 r hr).1, (h1 r hr).2.1⟩
  rw [List.mem_singleton.mp hd]
  exact sh_trips h2
end Fb
/-! _law_whole. -/
namespace Fb
open PySem PySem.Spec PyProof.Rows L2
def isIntV : V → Bool
  | .int _ => true
  | _ => false
def spLWhole (K : PySem.W.Frag) : Sp := fun vs H Q _ => ∃ (x : V) (k : Kd), vs = [x] ∧ Plain K H x k ∧ Q (.bl (isIntV x)) H
section
variable {P : Program} {w : World} {K : PySem.W.Frag} {mg : Str → Option Value} {base : Heap}
theorem cal_law_whole {f : Addr} {fd : FuncData} (F : Fn K "_law_whole" s_law_whole f fd) (g : mg "_law_whole" = some (.ref f)) (B : Bi mg) : C8.Cal P w K mg base 1 "_law_whole" (spLWhole K) [] := by
  refine cal_of F g sc_law_whole (bi_law_whole F) (fun vs H Q E h => ?_) (fun cdv A outer s H vs Q E hr h => ?_)
  · obtain ⟨x, k, rfl, _⟩ := h
    rfl
  · obtain ⟨x, k, rfl, p, q⟩ := h
    refine ⟨_, pss_one (ps_ret (pe_and (pe_callB call_isi (by rfl) B.isi (by decide +kernel) (pa_cons (pv 0) (pa_cons (pe_bltn (v := .ty "int") (u := .type "int") (by rfl) B.int (by decide +kernel) (by rfl)) pa_nil))) (pe_one (pe_not (pe_callB call_isi (by rfl) B.isi (by decide +kernel) (pa_cons (pv 0) (pa_cons (pe_bltn (v := .ty "bool") (u := .type "bool") (by rfl) B.bool (by decide +kernel) (by rfl)) pa_nil))))))), ?_⟩
    refine ⟨x, rfl, _, _, _, _, _, rfl, .ty _, (p).ty, kit_ty (kd_int k), _, rfl, ?_⟩
    cases p with
    | int i => exact if_t rfl ⟨.int i, rfl, _, _, _, _, _, rfl, .ty _, (Plain.int i).ty, kit_ty (kd_bool .int), _, rfl, q⟩
    | bool b => exact if_t rfl ⟨.bl b, rfl, _, _, _, _, _, rfl, .ty _, (Plain.bool b).ty, kit_ty (kd_bool .bool), _, rfl, q⟩
    | str z _ => exact if_f rfl q
    | non => exact if_f rfl q
    | lst h => exact if_f rfl q
    | tup h => exact if_f rfl q
end
end Fb
/-! Dicts as lists of pairs; the table of a search. -/
namespace Fb
open PySem PySem.Spec PyProof.Rows L2
section
variable {α β : Type} [DecidableEq α]
def dOf (kf : α → Key) (vf : β → V) (l : List (α × β)) : List (Key × V) := l.map fun p => (kf p.1, vf p.2)
theorem valV_dOf {kf : α → Key} {vf : β → V} (inj : ∀ a b, kf a = kf b → a = b) (k : α) : ∀ l : List (α × β), valV (dOf kf vf l) (kf k) = (look l k).map vf
  | [] => rfl
  | p :: r => by
    show valV ((kf p.1, vf p.2) :: dOf kf vf r) (kf k) = _
    by_cases e : p.1 = k
    · rw [valV_pos (p := (kf p.1, vf p.2)) (show kf p.1 = kf k by rw [e])]
      simp [look, e]
    · rw [valV_neg (p := (kf p.1, vf p.2)) (show ¬ kf p.1 = kf k from fun z => e (inj _ _ z)), valV_dOf inj k r]
      simp [look, e]
theorem any_dOf {kf : α → Key} {vf : β → V} (inj : ∀ a b, kf a = kf b → a = b) (k : α) (l : List (α × β)) : ((dOf kf vf l).any fun kv => decide (kv.1 = kf k)) = (look l k).isSome := by
  rw [valV_any, valV_dOf inj]
  cases look l k <;> rfl
theorem map_keep {kf : α → Key} {vf : β → V} (inj : ∀ a b, kf a = kf b → a = b) {k : α} {v : β} : ∀ {l : List (α × β)}, k ∉ l.map (·.1) → (dOf kf vf l).map (fun kv => if kv.1 = kf k then (kv.1, vf v) else kv) = dOf kf vf l
  | [], _ => rfl
  | p :: r, h => by
    have hp : ¬ p.1 = k := fun z => h (by rw [← z]; exact List.mem_cons_self)
    have ih := map_keep (vf := vf) inj (k := k) (v := v) (l := r) fun z => h (List.mem_cons_of_mem _ z)
    show (if kf p.1 = kf k then (kf p.1, vf v) else (kf p.1, vf p.2)) :: (dOf kf vf r).map _ = (kf p.1, vf p.2) :: dOf kf vf r
    rw [if_neg fun z => hp (inj _ _ z), ih]
theorem map_put {kf : α → Key} {vf : β → V} (inj : ∀ a b, kf a = kf b → a = b) {k : α} {v : β} : ∀ {l : List (α × β)}, (l.map (·.1)).Nodup → look l k ≠ none → (dOf kf vf l).map (fun kv => if kv.1 = kf k then (kv.1, vf v) else kv) = dOf kf vf (put l k v)
  | [], _, h => absurd rfl h
  | p :: r, nd, h => by
    have nd2 : p.1 ∉ r.map (·.1) ∧ (r.map (·.1)).Nodup := List.nodup_cons.mp nd
    show (if kf p.1 = kf k then (kf p.1, vf v) else (kf p.1, vf p.2)) :: (dOf kf vf r).map _ = _
    by_cases c : p.1 = k
    · rw [if_pos (by rw [c]), map_keep inj (c ▸ nd2.1)]
      simp [put, c, dOf]
    · rw [if_neg fun z => c (inj _ _ z), map_put inj nd2.2 (by simpa [look, c] using h)]
      simp [put, c, dOf]
theorem putK_dOf {kf : α → Key} {vf : β → V} (inj : ∀ a b, kf a = kf b → a = b) {k : α} {v : β} : ∀ {l : List (α × β)}, (l.map (·.1)).Nodup → putK (dOf kf vf l) (kf k) (vf v) = dOf kf vf (put l k v) := by
  intro l nd
  unfold putK
  rw [any_dOf inj]
  cases e : look l k with
  | none =>
    rw [if_neg (by simp)]
    have : ∀ l : List (α × β), look l k = none → put l k v = l ++ [(k, v)] := fun l => by
      induction l with
      | nil => intro _; rfl
      | cons p r ih =>
        intro h
        by_cases c : p.1 = k
        · simp [look, c] at h
        · simp only [look, c, if_false] at h
          simp only [put, c, if_false, List.cons_append]
          rw [ih h]
    rw [this l e]
    unfold dOf
    rw [List.map_append]
    rfl
  | some w =>
    rw [if_pos (by simp)]
    exact map_put inj nd (by rw [e]; exact fun z => nomatch z)
theorem dOf_len {kf : α → Key} {vf : β → V} (l : List (α × β)) : (dOf kf vf l).length = l.length := by
  unfold dOf
  rw [List.length_map]
end
/-! ### places to minutes; numbers to numbers -/
theorem inr_inj : ∀ a b : Str, (Sum.inr a : Key) = Sum.inr b → a = b := fun _ _ h => Sum.inr.inj h
theorem inl_inj : ∀ a b : Nat, (Sum.inl (a : Int) : Key) = Sum.inl (b : Int) → a = b := fun _ _ h => Int.ofNat.inj (Sum.inl.inj h)
abbrev dS (l : List (Str × Int)) : List (Key × V) := dOf Sum.inr V.int l
abbrev dN (l : List (Nat × Nat)) : List (Key × V) := dOf (fun n : Nat => (Sum.inl (n : Int) : Key)) (fun n : Nat => V.int (n : Int)) l
theorem get_d {H : Hp} {p : Addr} {l : List (Str × Int)} (h : H p = some (.dK (dS l))) (k : Str) : DGet H p (.str k) ((look l k).map V.int) := .inl ⟨dS l, .inr k, .inl h, rfl, (valV_dOf inr_inj k l).symm⟩
/-- the table of the least minutes from x -/
structure Tab (R : List Ride) (x : Str) (l : List (Str × Int)) : Prop where
  told : Told R x l
  all : ∀ y, look l y = dist R x y
end Fb
/-! spread: the least minutes from a place. -/
namespace Fb
open PySem PySem.Spec PyProof.Rows L2
def spNeedP : Sp := fun vs H Q _ => ∃ z, vs = [.str z] ∧ okPlace z ∧ Q .non H
def spSpread (K : PySem.W.Frag) : Sp := fun vs H Q _ => ∃ (a b : Addr) (rides : List Ride) (trips : List Trip) (z : Str), vs = [.ref a, .ref b, .str z] ∧ Told2 K H a b rides trips ∧ okPlace z ∧
  ∀ H' p l, Same H H' → H p = none → H' p = some (.dK (dS l)) → Tab (roadsM rides trips) z l → Q (.ref p) H'
theorem pass_more {R : List Ride} {l : List (Str × Int)} {i : Nat} {r : Ride} (h : R[i]? = some r) : pass (R.take (i + 1)) l = relax (pass (R.take i) l) r := by
  unfold pass
  rw [List.take_add_one, h, List.foldl_append]
  rfl
theorem put_ne {l : List (Str × Int)} {k : Str} {v : Int} (h : look l k ≠ some v) : put l k v ≠ l := fun e => by
  have := look_put l k k v
  rw [if_pos rfl, e] at this
  exact h this
section
variable {P : Program} {w : World} {K : PySem.W.Frag} {mg : Str → Option Value} {base : Heap}
theorem cal_need_place {f : Addr} {fd : FuncData} (F : Fn K "need_place" s_need_place f fd) (g : mg "need_place" = some (.ref f)) (c_is_place : C8.Cal P w K mg base 1 "is_place" (spPlace K) []) : C8.Cal P w K mg base 2 "need_place" spNeedP [] := by
  refine cal_of F g sc_need_place (bi_need_place F) (fun vs H Q E h => ?_) (fun cdv A outer s H vs Q E hr h => ?_)
  · obtain ⟨z, rfl, _⟩ := h
    rfl
  · obtain ⟨z, rfl, ok, q⟩ := h
    
    refine ⟨_, (pss_one (ps_if (pt_not (pt_val (C8.pe_c c_is_place hr (by decide) (by rfl) (pa_cons (pv 0) pa_nil)))) (pss_one ps_never) pss_nil)), ?_⟩
    refine ⟨_, rfl, _, _, rfl, plain_of ok, ?_⟩
    rw [isPlace_ok ok]
    exact ⟨_, rfl, if_f rfl q⟩
theorem cal_spread {f : Addr} {fd : FuncData} (F : Fn K "spread" s_spread f fd) (g : mg "spread" = some (.ref f)) (c_roads : C8.Cal P w K mg base 4 "roads" (spRoads K) []) (c_need_place : C8.Cal P w K mg base 2 "need_place" spNeedP []) : C8.Cal P w K mg base 5 "spread" (spSpread K) [] := by
  refine cal_of F g sc_spread (bi_spread F) (fun vs H Q E h => ?_) (fun cdv A outer s H vs Q E hr h => ?_)
  · obtain ⟨a, b, rides, trips, z, rfl, _⟩ := h
    rfl
  · obtain ⟨a, b, rides, trips, z, rfl, T, okz, q⟩ := h
    have hu := hu_of hr
    
    refine ⟨_, (pss_cons (ps_set (i := 3) sc_spread.nd rfl (Or.inl rfl) (C8.pe_c c_roads hr (by decide) (by rfl) (pa_cons (pv 0) (pa_cons (pv 1) pa_nil)))) (pss_cons (ps_expr (C8.pe_c c_need_place hr (by decide) (by rfl) (pa_cons (pv 2) pa_nil))) (pss_cons (ps_set (i := 4) sc_spread.nd rfl (Or.inl rfl) (pe_disp (pps_cons (pv 2) pe_int pps_nil) (by rfl) (by rfl) (fun z => by cases z) (by decide))) (pss_cons (ps_set (i := 5) sc_spread.nd rfl (Or.inl rfl) pe_bl) (pss_cons (ps_while PassesOwn.never (pt_val (pv 5)) (pss_cons (ps_set (i := 5) sc_spread.nd rfl (Or.inl rfl) pe_bl) (pss_one (ps_for PassesOwn.never rfl (pi_list (pv 3)) (pg_name (i := 6) sc_spread.nd rfl (Or.inl rfl)) (pss_one (ps_if (pt_cmp (pc_din hu (pe_ix (r := rIxT K) ix_tup (pv 6) pe_int (fun _ _ => rfl)) (pv 4))) (pss_cons (ps_set (i := 7) sc_spread.nd rfl (Or.inl rfl) (pe_op op_add (pe_dget hu (pv 4) (pe_ix (r := rIxT K) ix_tup (pv 6) pe_int (fun _ _ => rfl)) (fun _ _ => rfl)) (pe_ix (r := rIxT K) ix_tup (pv 6) pe_int (fun _ _ => rfl)))) (pss_one (ps_if (PW.pt (pw_or (pt_cmp (pc_dnotin hu (pe_ix (r := rIxT K) ix_tup (pv 6) pe_int (fun _ _ => rfl)) (pv 4))) (pw_or1 (pt_cmpR op_lt (pv 7) (pe_dget hu (pv 4) (pe_ix (r := rIxT K) ix_tup (pv 6) pe_int (fun _ _ => rfl)) (fun _ _ => rfl)) (nomark _))))) (pss_cons (ps_dput hu (pv 4) (pe_ix (r := rIxT K) ix_tup (pv 6) pe_int (fun _ _ => rfl)) (pv 7) rfl) (pss_one (ps_set (i := 5) sc_spread.nd rfl (Or.inl rfl) pe_bl))) pss_nil))) pss_nil)))))) (pss_one (ps_ret (pv 4)))))))), ?_⟩
    have hp := posR T.okR T.okT
    have lM := roadsM_len rides trips
    have h100 := T.lenR
    have h101 := T.lenT
    refine ⟨_, rfl, _, rfl, a, b, rides, trips, rfl, T, fun H1 ro qs s1 nro ero tro => ?_⟩
    refine ⟨_, rfl, z, rfl, okz, ?_⟩
    intro p np
    refine ⟨_, rfl, upd_same, [(.inr z, .int 0)], rfl, (by show 1 ≤ 15; decide), ?_⟩
    obtain ⟨R, hR⟩ : ∃ R, R = roadsM rides trips := ⟨_, rfl⟩
    rw [← hR] at tro hp lM q
    have np0 : H p = none := s1.free np
    refine ⟨fun m σ H' => ∃ (k : Nat) (c : Bool) (y6 y7 : Option V), σ = [some (.ref a), some (.ref b), some (.str z), some (.ref ro), some (.ref p), some (.bl c), y6, y7] ∧ Same H1 H' ∧ H' p = some (.dK (dS (times R z k))) ∧
      (c = true → m + k = R.length + 1 ∧ k ≤ R.length) ∧ (c = false → m = 0 ∧ ∀ y, look (times R z k) y = dist R z y), ⟨R.length + 1, 0, true, none, none, rfl, ?_, ?_, fun _ => ⟨rfl, Nat.zero_le _⟩, fun h => nomatch h⟩, ?_⟩
    · exact same_put (same_upd np) np
    · rw [upd_same]
      rfl
    rintro m σ H2 ⟨k, c, y6, y7, rfl, s2, e2, hc, hc'⟩
    refine ⟨_, rfl, c, rfl, ?_⟩
    cases c with
    | false => exact if_f rfl ⟨_, rfl, q H2 p _ (s1.trans s2) np0 e2 ⟨times_told hp z k, (hc' rfl).2⟩⟩
    | true =>
      obtain ⟨hm, hk⟩ := hc rfl
      refine if_t rfl ⟨fun σ' H' => ∃ (c : Bool) (y6 y7 : Option V), σ' = [some (.ref a), some (.ref b), some (.str z), some (.ref ro), some (.ref p), some (.bl c), y6, y7] ∧ Same H1 H' ∧ H' p = some (.dK (dS (times R z (k + 1)))) ∧
        (c = false → ∀ y, look (times R z (k + 1)) y = dist R z y) ∧ (c = true → k < R.length), ?_, ?_⟩
      · rintro σ' H' ⟨c, y6, y7, rfl, s3, e3, g1, g2⟩
        cases c with
        | false => exact ⟨0, by omega, k + 1, false, y6, y7, rfl, s3, e3, (fun h => nomatch h), fun _ => ⟨rfl, g1 rfl⟩⟩
        | true =>
          have := g2 rfl
          exact ⟨m - 1, by omega, k + 1, true, y6, y7, rfl, s3, e3, fun _ => ⟨by omega, by omega⟩, fun h => nomatch h⟩
      · -- all roads, once
        have t0 := times_told hp z k
        refine ⟨_, rfl, ro, rfl, ⟨_, sqL_of (s2 _ _ ero)⟩, for_list (K := K) (a := ro) (xs := qs.map V.ref) (fun i σ H' => Same H1 H' ∧ H' p = some (.dK (dS (pass (R.take i) (times R z k)))) ∧
          ∃ (c : Bool) (y6 y7 : Option V), σ = [some (.ref a), some (.ref b), some (.str z), some (.ref ro), some (.ref p), some (.bl c), y6, y7] ∧
          (c = false → pass (R.take i) (times R z k) = times R z k ∧ ∀ r ∈ R.take i, relax (times R z k) r = times R z k) ∧ (c = true → ∃ r ∈ R, relax (times R z k) r ≠ times R z k))
          ⟨s2, e2, false, y6, y7, rfl, fun _ => ⟨rfl, fun _ h => nomatch h⟩, fun h => nomatch h⟩ (fun i σ H' _ ⟨s, _⟩ => sqL_of (s _ _ ero)) ?_ ?_⟩
        · rintro i x σ H3 hi ⟨s3, e3, c, y6, y7, rfl, g1, g2⟩
          obtain ⟨p1, r, rfl, hr1, hs⟩ := (tro.same s3).at hi
          have hrR : r ∈ R := List.mem_of_getElem? hr1
          have em := pass_more (l := times R z k) hr1
          have ti := (pass_told hp (R.take i) (fun _ h => List.mem_of_mem_take h) t0).1
          have tl := ti.len
          generalize hl : pass (R.take i) (times R z k) = l at *
          have take1 : R.take (i + 1) = R.take i ++ [r] := by
            rw [List.take_add_one, hr1]
            rfl
          -- nothing new: the same state
          have keep : relax l r = l → ∀ y : Option V, (Same H1 H3 ∧ H3 p = some (.dK (dS (pass (R.take (i + 1)) (times R z k)))) ∧
              ∃ (c' : Bool) (y6 y7 : Option V), [some (.ref a), some (.ref b), some (.str z), some (.ref ro), some (.ref p), some (.bl c), some (.ref p1), y] = [some (.ref a), some (.ref b), some (.str z), some (.ref ro), some (.ref p), some (.bl c'), y6, y7] ∧
              (c' = false → pass (R.take (i + 1)) (times R z k) = times R z k ∧ ∀ r ∈ R.take (i + 1), relax (times R z k) r = times R z k) ∧ (c' = true → ∃ r ∈ R, relax (times R z k) r ≠ times R z k)) := fun hk y => by
            refine ⟨s3, by rw [em, hk]; exact e3, c, _, _, rfl, fun hc => ?_, g2⟩
            obtain ⟨h1, h2⟩ := g1 hc
            refine ⟨by rw [em, hk]; exact h1, fun r' hr' => ?_⟩
            rw [take1] at hr'
            rcases List.mem_append.mp hr' with h | h
            · exact h2 r' h
            · rw [List.mem_singleton.mp h, ← h1]
              exact hk
          have get : ∀ k' : Str, DGet H3 p (.str k') ((look l k').map V.int) := fun k' => by
            have := DGet.k (k := (.inr k' : Key)) e3
            rw [valV_dOf inr_inj] at this
            exact this
          refine ⟨_, rfl, p1, _, 0, _, rfl, rfl, hs, atI_nat (j := 0) rfl, _, rfl, p, _, rfl, get r.1, _, rfl, ?_⟩
          cases h1 : look l r.1 with
          | none => exact if_f rfl (keep (relax_none h1) _)
          | some m1 =>
            refine if_t rfl ⟨_, rfl, _, rfl, p1, _, 0, _, rfl, rfl, hs, atI_nat (j := 0) rfl, p, .int m1, rfl, (by have := get r.1; rw [h1] at this; exact this), _, rfl, p1, _, 2, _, rfl, rfl, hs, atI_nat (j := 2) rfl, _, _, rfl, rfl, ?_⟩
            refine ⟨_, rfl, p1, _, 1, _, rfl, rfl, hs, atI_nat (j := 1) rfl, _, rfl, p, _, rfl, get r.2.1, _, rfl, ?_⟩
            -- a place told with less than it was
            have newer : relax l r = put l r.2.1 (m1 + r.2.2) → look l r.2.1 ≠ some (m1 + r.2.2) → (Same H1 (upd H3 p (.dK (putK (dS l) (.inr r.2.1) (.int (m1 + r.2.2))))) ∧ (upd H3 p (.dK (putK (dS l) (.inr r.2.1) (.int (m1 + r.2.2))))) p = some (.dK (dS (pass (R.take (i + 1)) (times R z k)))) ∧
                ∃ (c' : Bool) (y6 y7 : Option V), [some (.ref a), some (.ref b), some (.str z), some (.ref ro), some (.ref p), some (.bl true), some (.ref p1), some (.int (m1 + r.2.2))] = [some (.ref a), some (.ref b), some (.str z), some (.ref ro), some (.ref p), some (.bl c'), y6, y7] ∧
                (c' = false → pass (R.take (i + 1)) (times R z k) = times R z k ∧ ∀ r ∈ R.take (i + 1), relax (times R z k) r = times R z k) ∧ (c' = true → ∃ r ∈ R, relax (times R z k) r ≠ times R z k)) := fun hx hy => by
              refine ⟨same_put s3 np, ?_, true, _, _, rfl, (fun h => nomatch h), fun _ => ?_⟩
              · rw [upd_same, em, hx]
                exact congrArg (fun x => some (HO.dK x)) (putK_dOf inr_inj ti.nd)
              · cases c with
                | true => exact g2 rfl
                | false =>
                  refine ⟨r, hrR, ?_⟩
                  rw [← (g1 rfl).1, hx]
                  exact put_ne hy
            have hput : ∀ v : Int, DPut H3 p (.str r.2.1) (.int v) (upd H3 p (.dK (putK (dS l) (.inr r.2.1) (.int v)))) := fun v => DPut.k (k := (.inr r.2.1 : Key)) e3 (by
              rw [dOf_len]
              have : sizeLine = 16777216 := sizeLine_eq
              omega)
            cases h2 : look l r.2.1 with
            | none =>
              refine if_t rfl (if_t rfl ⟨_, rfl, _, rfl, _, rfl, p1, _, 1, _, rfl, rfl, hs, atI_nat (j := 1) rfl, p, _, rfl, hput _, ?_⟩)
              exact newer (relax_new h1 h2) (by rw [h2]; exact fun z => nomatch z)
            | some v =>
              refine if_f rfl ⟨_, rfl, _, rfl, _, rfl, p1, _, 1, _, rfl, rfl, hs, atI_nat (j := 1) rfl, p, .int v, rfl, (by have := get r.2.1; rw [h2] at this; exact this), _, _, rfl, rfl, _, rfl, ite2 (fun cc => ?_) (fun cc => ?_)⟩
              · have cc := of_decide_eq_true cc
                refine ⟨_, rfl, _, rfl, _, rfl, p1, _, 1, _, rfl, rfl, hs, atI_nat (j := 1) rfl, p, _, rfl, hput _, ?_⟩
                exact newer (relax_less h1 h2 cc) (by rw [h2]; exact fun z => by have := Option.some.inj z; omega)
              · exact keep (relax_keep h1 h2 (of_decide_eq_false (Bool.eq_false_iff.mpr cc))) _
        · rintro σ H3 ⟨s3, e3, c, y6, y7, rfl, g1, g2⟩
          have eR : R.take (qs.map V.ref).length = R := List.take_of_length_le (by rw [List.length_map, tro.1]; exact Nat.le_refl _)
          rw [eR] at e3 g1
          refine ⟨c, y6, y7, rfl, s3, e3, fun hc => ?_, fun hc => ?_⟩
          · have := g1 hc
            show ∀ y, look (pass R (times R z k)) y = dist R z y
            rw [this.1]
            exact t0.still hp this.2
          · obtain ⟨r, hr1, hne⟩ := g2 hc
            refine Nat.lt_of_le_of_ne hk fun e => hne ?_
            exact Told.keeps hp (times_all hp z (by omega)) hr1
end
end Fb
/-! Whether a bus can do a trip behind another one: the law of it, plain. -/
namespace Fb
open PySem PySem.Spec PyProof.Rows L2
def comesB (o : Option Int) (t1 t2 : Trip) : Bool := match o with
  | none => false
  | some m => decide (t1.2.2.2 + m ≤ t2.2.1)
noncomputable def canM (R : List Ride) (t1 t2 : Trip) : Bool := comesB (dist R t1.2.2.1 t2.1) t1 t2
theorem canM_iff {R : List Ride} {t1 t2 : Trip} : canM R t1 t2 = true ↔ ∃ m, dist R t1.2.2.1 t2.1 = some m ∧ t1.2.2.2 + m ≤ t2.2.1 := by
  unfold canM comesB
  cases dist R t1.2.2.1 t2.1 with
  | none => simp
  | some m => simp
theorem canM_begin {R : List Ride} {t1 t2 : Trip} (hp : PosR R) (h1 : okTrip t1) (h : canM R t1 t2 = true) : t1.2.1 < t2.2.1 := by
  obtain ⟨m, hm, hle⟩ := canM_iff.mp h
  have h0 := dist_nonneg hp hm
  have := h1.2.2.2.1
  omega
theorem canM_not {R : List Ride} {t1 t2 : Trip} (hp : PosR R) (h1 : okTrip t1) (h2 : okTrip t2) (h : canM R t1 t2 = true) : canM R t2 t1 = false := by
  cases e : canM R t2 t1 with
  | false => rfl
  | true =>
    have a := canM_begin hp h1 h
    have b := canM_begin hp h2 e
    omega
theorem canM_irr {R : List Ride} {t : Trip} (hp : PosR R) (h1 : okTrip t) : canM R t t = false := by
  cases e : canM R t t with
  | false => rfl
  | true =>
    have a := canM_begin hp h1 e
    omega
/-- the way of a trip itself -/
theorem trip_path {rides : List Ride} {trips : List Trip} {t : Trip} (h : t ∈ trips) (ok : okTrip t) : ∃ m, Path (roadsM rides trips) t.1 t.2.2.1 m ∧ m ≤ t.2.2.2 - t.2.1 := by
  by_cases c : t.1 = t.2.2.1
  · refine ⟨0, ?_, ?_⟩
    · rw [← c]
      exact .nil
    · have := ok.2.2.2.1
      omega
  · refine ⟨0 + (t.2.2.2 - t.2.1), Path.snoc .nil ?_, by omega⟩
    refine List.mem_append_right _ (List.mem_flatMap.mpr ⟨t, h, ?_⟩)
    unfold roadOf
    rw [if_neg c]
    exact List.mem_singleton.mpr rfl
theorem canM_trans {rides : List Ride} {trips : List Trip} {t1 t2 t3 : Trip} (hp : PosR (roadsM rides trips)) (hm : t2 ∈ trips) (ok : okTrip t2) (h : canM (roadsM rides trips) t1 t2 = true) (h' : canM (roadsM rides trips) t2 t3 = true) : canM (roadsM rides trips) t1 t3 = true := by
  obtain ⟨a, ha, la⟩ := canM_iff.mp h
  obtain ⟨b, hb, lb⟩ := canM_iff.mp h'
  obtain ⟨c, pc, lc⟩ := trip_path (rides := rides) hm ok
  obtain ⟨d, hd, ld⟩ := dist_path hp (((dist_eq.mp ha).1.trans pc).trans (dist_eq.mp hb).1)
  exact canM_iff.mpr ⟨d, hd, by omega⟩
end Fb
/-! comes: whether a bus comes in time to a trip. -/
namespace Fb
open PySem PySem.Spec PyProof.Rows L2
def spComes (K : PySem.W.Frag) : Sp := fun vs H Q _ => ∃ (p q1 q2 : Addr) (l : List (Str × Int)) (t1 t2 : Trip), vs = [.ref p, .ref q1, .ref q2] ∧ H p = some (.dK (dS l)) ∧ SqT K H q1 (tripV t1) ∧ SqT K H q2 (tripV t2) ∧ Q (.bl (comesB (look l t2.1) t1 t2)) H
section
variable {P : Program} {w : World} {K : PySem.W.Frag} {mg : Str → Option Value} {base : Heap}
theorem cal_comes {f : Addr} {fd : FuncData} (F : Fn K "comes" s_comes f fd) (g : mg "comes" = some (.ref f)) : C8.Cal P w K mg base 1 "comes" (spComes K) [] := by
  refine cal_of F g sc_comes (bi_comes F) (fun vs H Q E h => ?_) (fun cdv A outer s H vs Q E hr h => ?_)
  · obtain ⟨p, q1, q2, l, t1, t2, rfl, _⟩ := h
    rfl
  · obtain ⟨p, q1, q2, l, t1, t2, rfl, ep, h1, h2, q⟩ := h
    have hu := hu_of hr
    
    refine ⟨_, (pss_one (ps_ret (pe_and (pe_cmp (pc_din hu (pe_ix (r := rIxT K) ix_tup (pv 2) pe_int (fun _ _ => rfl)) (pv 0)) (by rfl)) (pe_one (pe_cmpR op_le (pe_op op_add (pe_ix (r := rIxT K) ix_tup (pv 1) pe_int (fun _ _ => rfl)) (pe_dget hu (pv 0) (pe_ix (r := rIxT K) ix_tup (pv 2) pe_int (fun _ _ => rfl)) (fun _ _ => rfl))) (pe_ix (r := rIxT K) ix_tup (pv 2) pe_int (fun _ _ => rfl)) (nomark _)))))), ?_⟩
    refine ⟨_, rfl, q2, _, 0, _, rfl, rfl, h2, atI_nat (j := 0) rfl, _, rfl, p, _, rfl, get_d ep t2.1, _, rfl, ?_⟩
    cases e : look l t2.1 with
    | none =>
      rw [e] at q
      exact if_f rfl q
    | some m =>
      rw [e] at q
      refine if_t rfl ⟨_, rfl, q1, _, 3, _, rfl, rfl, h1, atI_nat (j := 3) rfl, _, rfl, _, rfl, q2, _, 0, _, rfl, rfl, h2, atI_nat (j := 0) rfl, p, .int m, rfl, ?_, _, _, rfl, rfl, _, rfl, q2, _, 1, _, rfl, rfl, h2, atI_nat (j := 1) rfl, _, _, rfl, rfl, q⟩
      have := get_d ep t2.1
      rw [e] at this
      exact this
end
end Fb
/-! _law_least: the least minutes by going over all roads. -/
namespace Fb
open PySem PySem.Spec PyProof.Rows L2
def spLeast (K : PySem.W.Frag) : Sp := fun vs H Q _ => ∃ (t : Addr) (x : Str) (R : List Ride), vs = [.ref t, .str x] ∧ Rows K H rideV t R ∧ R.length ≤ 200 ∧ PosR R ∧
  ∀ H' p l, Same H H' → H p = none → H' p = some (.dK (dS l)) → Tab R x l → Q (.ref p) H'
section
variable {P : Program} {w : World} {K : PySem.W.Frag} {mg : Str → Option Value} {base : Heap}
theorem cal_law_least {f : Addr} {fd : FuncData} (F : Fn K "_law_least" s_law_least f fd) (g : mg "_law_least" = some (.ref f)) (B : Bi mg) : C8.Cal P w K mg base 1 "_law_least" (spLeast K) [] := by
  refine cal_of F g sc_law_least (bi_law_least F) (fun vs H Q E h => ?_) (fun cdv A outer s H vs Q E hr h => ?_)
  · obtain ⟨t, x, R, rfl, _⟩ := h
    rfl
  · obtain ⟨t, x, R, rfl, ⟨qs, hL, hT⟩, hlen, hp, q⟩ := h
    have hu := hu_of hr
    
    refine ⟨_, (pss_cons (ps_set (i := 2) sc_law_least.nd rfl (Or.inl rfl) (pe_disp (pps_cons (pv 1) pe_int pps_nil) (by rfl) (by rfl) (fun z => by cases z) (by decide))) (pss_cons (ps_for PassesOwn.never rfl (pi_range1 rfl B.range (pa_cons (pe_op op_add (pe_callB call_len_seq (by rfl) B.len PySem.boot_len (pa_cons (pv 0) pa_nil)) pe_int) pa_nil)) (pg_name (i := 3) sc_law_least.nd rfl (Or.inl rfl)) (pss_one (ps_for PassesOwn.never rfl (pi_list (pv 0)) (pg_name (i := 4) sc_law_least.nd rfl (Or.inl rfl)) (pss_one (ps_if (pt_cmp (pc_din hu (pe_ix (r := rIxT K) ix_tup (pv 4) pe_int (fun _ _ => rfl)) (pv 2))) (pss_cons (ps_set (i := 5) sc_law_least.nd rfl (Or.inl rfl) (pe_op op_add (pe_dget hu (pv 2) (pe_ix (r := rIxT K) ix_tup (pv 4) pe_int (fun _ _ => rfl)) (fun _ _ => rfl)) (pe_ix (r := rIxT K) ix_tup (pv 4) pe_int (fun _ _ => rfl)))) (pss_one (ps_if (pt_cmpR op_lt (pv 5) (pe_dget2 hu (pv 2) (pe_ix (r := rIxT K) ix_tup (pv 4) pe_int (fun _ _ => rfl)) (pe_op op_add (pv 5) pe_int) ⟨by rfl, by rfl, by rfl, by rfl⟩) (nomark _)) (pss_one (ps_dput hu (pv 2) (pe_ix (r := rIxT K) ix_tup (pv 4) pe_int (fun _ _ => rfl)) (pv 5) rfl)) pss_nil))) pss_nil))))) (pss_one (ps_ret (pv 2))))), ?_⟩
    intro p np
    refine ⟨_, rfl, upd_same, [(.inr x, .int 0)], rfl, (by show 1 ≤ 15; decide), ?_⟩
    have s0 : Same H (upd (upd H p (.dK [])) p (.dK (mergeK [] [(.inr x, .int 0)]))) := same_put (same_upd np) np
    have ll : (qs.map V.ref).length = R.length := by rw [List.length_map, hT.1]
    have lz : ((qs.map V.ref).length : Int) + 1 < 2 ^ 62 := by rw [ll]; omega
    refine ⟨_, rfl, t, _, rfl, .inl (s0.seq hL), _, _, rfl, rfl, ((qs.map V.ref).length : Int) + 1, rfl, by omega, lz, for_range (lo := 0) (n := (((qs.map V.ref).length : Int) + 1).toNat) (fun k σ H' => Same H H' ∧ (∃ y3 y4 y5, σ = [some (.ref t), some (.str x), some (.ref p), y3, y4, y5]) ∧ H' p = some (.dK (dS (times R x k))))
      ⟨s0, ⟨none, none, none, rfl⟩, ?_⟩ ?_ ?_⟩
    · rw [upd_same]
      rfl
    · rintro k σ H1 hk ⟨s1, ⟨y3, y4, y5, rfl⟩, e1⟩
      have t0 := times_told hp x k
      refine ⟨_, rfl, t, rfl, ⟨_, s1.seq hL⟩, for_list (K := K) (a := t) (xs := qs.map V.ref) (fun i σ H' => Same H H' ∧ H' p = some (.dK (dS (pass (R.take i) (times R x k)))) ∧ ∃ y4 y5, σ = [some (.ref t), some (.str x), some (.ref p), some (.int (0 + (k : Int))), y4, y5])
        ⟨s1, e1, y4, y5, rfl⟩ (fun i σ H' _ ⟨s, _⟩ => s.seq hL) ?_ ?_⟩
      · rintro i v σ H3 hi ⟨s3, e3, y4, y5, rfl⟩
        obtain ⟨p1, r, rfl, hr1, hs⟩ := (hT.same s3).at hi
        have em := pass_more (l := times R x k) hr1
        have ti := (pass_told hp (R.take i) (fun _ h => List.mem_of_mem_take h) t0).1
        have tl := ti.len
        generalize pass (R.take i) (times R x k) = l at *
        have get := get_d e3
        have hput : ∀ v : Int, DPut H3 p (.str r.2.1) (.int v) (upd H3 p (.dK (putK (dS l) (.inr r.2.1) (.int v)))) := fun v => DPut.k (k := (.inr r.2.1 : Key)) e3 (by
          rw [dOf_len]
          exact small1000 (by omega))
        have newer : ∀ m1 : Int, relax l r = put l r.2.1 (m1 + r.2.2) → (upd H3 p (.dK (putK (dS l) (.inr r.2.1) (.int (m1 + r.2.2))))) p = some (.dK (dS (pass (R.take (i + 1)) (times R x k)))) := fun m1 hx => by
          rw [upd_same, em, hx]
          exact congrArg (fun x => some (HO.dK x)) (putK_dOf inr_inj ti.nd)
        refine ⟨_, rfl, p1, _, 0, _, rfl, rfl, hs, atI_nat (j := 0) rfl, _, rfl, p, _, rfl, get r.1, _, rfl, ?_⟩
        cases h1 : look l r.1 with
        | none =>
          refine if_f rfl ⟨s3, ?_, _, _, rfl⟩
          rw [em, relax_none h1]
          exact e3
        | some m1 =>
          refine if_t rfl ⟨_, rfl, _, rfl, p1, _, 0, _, rfl, rfl, hs, atI_nat (j := 0) rfl, p, .int m1, rfl, (by have := get r.1; rw [h1] at this; exact this), _, rfl, p1, _, 2, _, rfl, rfl, hs, atI_nat (j := 2) rfl, _, _, rfl, rfl, ?_⟩
          refine ⟨_, rfl, _, rfl, p, rfl, .inl ⟨_, .inl e3⟩, _, rfl, p1, _, 1, _, rfl, rfl, hs, atI_nat (j := 1) rfl, _, rfl, _, _, rfl, rfl, _, get r.2.1, ?_⟩
          cases h2 : look l r.2.1 with
          | none =>
            refine ⟨_, _, rfl, rfl, _, rfl, if_t (decide_eq_true (by omega)) ⟨_, rfl, _, rfl, _, rfl, p1, _, 1, _, rfl, rfl, hs, atI_nat (j := 1) rfl, p, _, rfl, hput _, same_put s3 np, newer m1 (relax_new h1 h2), _, _, rfl⟩⟩
          | some v =>
            refine ⟨_, _, rfl, rfl, _, rfl, ite2 (fun cc => ?_) (fun cc => ?_)⟩
            · exact ⟨_, rfl, _, rfl, _, rfl, p1, _, 1, _, rfl, rfl, hs, atI_nat (j := 1) rfl, p, _, rfl, hput _, same_put s3 np, newer m1 (relax_less h1 h2 (of_decide_eq_true cc)), _, _, rfl⟩
            · refine ⟨s3, ?_, _, _, rfl⟩
              rw [em, relax_keep h1 h2 (of_decide_eq_false (Bool.eq_false_iff.mpr cc))]
              exact e3
      · rintro σ H3 ⟨s3, e3, y4, y5, rfl⟩
        have eR : R.take (qs.map V.ref).length = R := List.take_of_length_le (by rw [ll]; exact Nat.le_refl _)
        rw [eR] at e3
        exact ⟨s3, ⟨_, _, _, rfl⟩, e3⟩
    · rintro σ H1 ⟨s1, ⟨y3, y4, y5, rfl⟩, e1⟩
      exact ⟨_, rfl, q H1 p _ s1 np e1 ⟨times_told hp x _, times_all hp x (by rw [ll]; omega)⟩⟩
end
end Fb
/-! _law_can: by the least minutes by going over all roads. -/
namespace Fb
open PySem PySem.Spec PyProof.Rows L2
def spLCan (K : PySem.W.Frag) : Sp := fun vs H Q _ => ∃ (t q1 q2 : Addr) (R : List Ride) (t1 t2 : Trip), vs = [.ref t, .ref q1, .ref q2] ∧ Rows K H rideV t R ∧ R.length ≤ 200 ∧ PosR R ∧ SqT K H q1 (tripV t1) ∧ SqT K H q2 (tripV t2) ∧
  ∀ H', Same H H' → Q (.bl (canM R t1 t2)) H'
section
variable {P : Program} {w : World} {K : PySem.W.Frag} {mg : Str → Option Value} {base : Heap}
theorem cal_law_can {f : Addr} {fd : FuncData} (F : Fn K "_law_can" s_law_can f fd) (g : mg "_law_can" = some (.ref f)) (c_least : C8.Cal P w K mg base 1 "_law_least" (spLeast K) []) : C8.Cal P w K mg base 2 "_law_can" (spLCan K) [] := by
  refine cal_of F g sc_law_can (bi_law_can F) (fun vs H Q E h => ?_) (fun cdv A outer s H vs Q E hr h => ?_)
  · obtain ⟨t, q1, q2, R, t1, t2, rfl, _⟩ := h
    rfl
  · obtain ⟨t, q1, q2, R, t1, t2, rfl, hR, hlen, hp, h1, h2, q⟩ := h
    have hu := hu_of hr
    
    refine ⟨_, (pss_cons (ps_set (i := 3) sc_law_can.nd rfl (Or.inl rfl) (C8.pe_c c_least hr (by decide) (by rfl) (pa_cons (pv 0) (pa_cons (pe_ix (r := rIxT K) ix_tup (pv 1) pe_int (fun _ _ => rfl)) pa_nil)))) (pss_one (ps_ret (pe_and (pe_cmp (pc_din hu (pe_ix (r := rIxT K) ix_tup (pv 2) pe_int (fun _ _ => rfl)) (pv 3)) (by rfl)) (pe_one (pe_cmpR op_le (pe_op op_add (pe_ix (r := rIxT K) ix_tup (pv 1) pe_int (fun _ _ => rfl)) (pe_dget hu (pv 3) (pe_ix (r := rIxT K) ix_tup (pv 2) pe_int (fun _ _ => rfl)) (fun _ _ => rfl))) (pe_ix (r := rIxT K) ix_tup (pv 2) pe_int (fun _ _ => rfl)) (nomark _))))))), ?_⟩
    refine ⟨_, rfl, _, rfl, q1, _, 2, _, rfl, rfl, h1, atI_nat (j := 2) rfl, t, _, R, rfl, hR, hlen, hp, fun H1 p l s1 np ep tab => ?_⟩
    have g1 := same_seqT s1 h1
    have g2 := same_seqT s1 h2
    refine ⟨_, rfl, q2, _, 0, _, rfl, rfl, g2, atI_nat (j := 0) rfl, _, rfl, p, _, rfl, get_d ep t2.1, _, rfl, ?_⟩
    have qq : Q (.bl (comesB (look l t2.1) t1 t2)) H1 := by
      rw [tab.all]
      exact q H1 s1
    cases e : look l t2.1 with
    | none =>
      rw [e] at qq
      exact if_f rfl qq
    | some m =>
      rw [e] at qq
      refine if_t rfl ⟨_, rfl, q1, _, 3, _, rfl, rfl, g1, atI_nat (j := 3) rfl, _, rfl, _, rfl, q2, _, 0, _, rfl, rfl, g2, atI_nat (j := 0) rfl, p, .int m, rfl, ?_, _, _, rfl, rfl, _, rfl, q2, _, 1, _, rfl, rfl, g2, atI_nat (j := 1) rfl, _, _, rfl, rfl, qq⟩
      have := get_d ep t2.1
      rw [e] at this
      exact this
end
end Fb
/-! Which trip can be done behind which, by their numbers. -/
namespace Fb
open PySem PySem.Spec PyProof.Rows L2
noncomputable def Cm (R : List Ride) (trips : List Trip) (i j : Nat) : Bool := match trips[i]?, trips[j]? with
  | some x, some y => canM R x y
  | _, _ => false
theorem Cm_eq {R : List Ride} {trips : List Trip} {i j : Nat} {x y : Trip} (hx : trips[i]? = some x) (hy : trips[j]? = some y) : Cm R trips i j = canM R x y := by
  unfold Cm
  rw [hx, hy]
theorem Cm_get {R : List Ride} {trips : List Trip} {i j : Nat} (h : Cm R trips i j = true) : ∃ x y, trips[i]? = some x ∧ trips[j]? = some y ∧ canM R x y = true := by
  unfold Cm at h
  cases hx : trips[i]? with
  | none =>
    rw [hx] at h
    cases h
  | some x =>
    cases hy : trips[j]? with
    | none =>
      rw [hx, hy] at h
      cases h
    | some y =>
      rw [hx, hy] at h
      exact ⟨x, y, rfl, rfl, h⟩
theorem Cm_lt {R : List Ride} {trips : List Trip} {i j : Nat} (h : Cm R trips i j = true) : i < trips.length ∧ j < trips.length := by
  obtain ⟨x, y, hx, hy, _⟩ := Cm_get h
  exact ⟨(List.getElem?_eq_some_iff.mp hx).1, (List.getElem?_eq_some_iff.mp hy).1⟩
theorem Cm_not {R : List Ride} {trips : List Trip} {i j : Nat} (hp : PosR R) (ok : ∀ t ∈ trips, okTrip t) (h : Cm R trips i j = true) : Cm R trips j i = false := by
  obtain ⟨x, y, hx, hy, hc⟩ := Cm_get h
  rw [Cm_eq hy hx]
  exact canM_not hp (ok x (List.mem_of_getElem? hx)) (ok y (List.mem_of_getElem? hy)) hc
theorem Cm_irr {R : List Ride} {trips : List Trip} {i : Nat} (hp : PosR R) (ok : ∀ t ∈ trips, okTrip t) : Cm R trips i i = false := by
  cases e : Cm R trips i i with
  | false => rfl
  | true =>
    have := Cm_not hp ok e
    rw [e] at this
    cases this
theorem Cm_trans {rides : List Ride} {trips : List Trip} {i j k : Nat} (hp : PosR (roadsM rides trips)) (ok : ∀ t ∈ trips, okTrip t) (h : Cm (roadsM rides trips) trips i j = true) (h' : Cm (roadsM rides trips) trips j k = true) : Cm (roadsM rides trips) trips i k = true := by
  obtain ⟨x, y, hx, hy, hc⟩ := Cm_get h
  obtain ⟨y', z, hy', hz, hc'⟩ := Cm_get h'
  rw [hy] at hy'
  cases hy'
  rw [Cm_eq hx hz]
  exact canM_trans hp (List.mem_of_getElem? hy) (ok y (List.mem_of_getElem? hy)) hc hc'
theorem Cm_begin {R : List Ride} {trips : List Trip} {i j : Nat} {x y : Trip} (hp : PosR R) (ok : ∀ t ∈ trips, okTrip t) (hx : trips[i]? = some x) (hy : trips[j]? = some y) (h : Cm R trips i j = true) : x.2.1 < y.2.1 := by
  rw [Cm_eq hx hy] at h
  exact canM_begin hp (ok x (List.mem_of_getElem? hx)) h
theorem Tups.set {β : Type} {K : PySem.W.Frag} {H : Hp} {f : β → List V} {qs : List Addr} {xs : List β} (t : Tups K H f qs xs) {q : Addr} {x : β} (k : Nat) (h : SqT K H q (f x)) : Tups K H f (qs.set k q) (xs.set k x) := by
  refine ⟨by rw [List.length_set, List.length_set, t.1], fun i q' x' h1 h2 => ?_⟩
  by_cases e : k = i
  · subst e
    rw [List.getElem?_set] at h1 h2
    rw [if_pos rfl] at h1 h2
    by_cases hk : k < qs.length
    · rw [if_pos hk] at h1
      rw [if_pos (t.1 ▸ hk)] at h2
      cases h1
      cases h2
      exact h
    · rw [if_neg hk] at h1
      cases h1
  · rw [List.getElem?_set_ne e] at h1 h2
    exact t.2 i q' x' h1 h2
/-- lists of truths at these addresses, one a row, apart from the list at af -/
structure BRows (H : Hp) (af : Addr) (n : Nat) (C : Nat → Nat → Bool) (rows : List Addr) : Prop where
  at_ : H af = some (.lst (rows.map V.ref))
  row : ∀ (j : Nat) (q : Addr), rows[j]? = some q → q ≠ af ∧ H q = some (.lst ((List.range n).map fun k => V.bl (C j k)))
theorem BRows.same {H H' : Hp} {af : Addr} {n : Nat} {C : Nat → Nat → Bool} {rows : List Addr} (b : BRows H af n C rows) (s : Same H H') : BRows H' af n C rows := ⟨s _ _ b.at_, fun j q h => ⟨(b.row j q h).1, s _ _ (b.row j q h).2⟩⟩
theorem BRows.other {H : Hp} {af p : Addr} {o : HO} {n : Nat} {C : Nat → Nat → Bool} {rows : List Addr} (b : BRows H af n C rows) (h1 : p ≠ af) (h2 : p ∉ rows) : BRows (upd H p o) af n C rows :=
  ⟨by rw [upd_ne h1.symm]; exact b.at_, fun j q h => ⟨(b.row j q h).1, by rw [upd_ne (fun e : q = p => h2 (e ▸ List.mem_of_getElem? h))]; exact (b.row j q h).2⟩⟩
theorem BRows.free {H : Hp} {af p : Addr} {n : Nat} {C : Nat → Nat → Bool} {rows : List Addr} (b : BRows H af n C rows) (h : H p = none) : p ≠ af ∧ p ∉ rows := by
  refine ⟨fun e => ?_, fun hm => ?_⟩
  · rw [e, b.at_] at h
    cases h
  · obtain ⟨j, hj, e⟩ := List.mem_iff_getElem.mp hm
    have := (b.row j p (by rw [List.getElem?_eq_getElem hj, e])).2
    rw [h] at this
    cases this
theorem BRows.add {H : Hp} {af p : Addr} {n : Nat} {C : Nat → Nat → Bool} {rows : List Addr} (b : BRows H af n C rows) (h1 : p ≠ af) (h2 : H p = some (.lst ((List.range n).map fun k => V.bl (C rows.length k)))) : BRows (upd H af (.lst (rows.map V.ref ++ [.ref p]))) af n C (rows ++ [p]) := by
  refine ⟨by rw [upd_same, List.map_append]; rfl, fun j q h => ?_⟩
  by_cases hj : j < rows.length
  · rw [List.getElem?_append_left hj] at h
    have := b.row j q h
    exact ⟨this.1, by rw [upd_ne this.1]; exact this.2⟩
  · rw [List.getElem?_append_right (Nat.le_of_not_lt hj)] at h
    have hj0 : j - rows.length = 0 := by
      cases e : j - rows.length with
      | zero => rfl
      | succ m =>
        rw [e] at h
        simp at h
    rw [hj0] at h
    have e : p = q := Option.some.inj h
    subst e
    have ej : j = rows.length := by omega
    subst ej
    exact ⟨h1, by rw [upd_ne h1]; exact h2⟩
theorem brow_at {C : Nat → Bool} {n k : Nat} (h : k < n) : atI ((List.range n).map fun k => V.bl (C k)) (k : Int) = some (.bl (C k)) := atI_nat (by rw [List.getElem?_map, List.getElem?_range h]; rfl)
end Fb
/-! Lists of numbers, lists of these, dicts of numbers. -/
namespace Fb
open PySem PySem.Spec PyProof.Rows L2
abbrev nV (l : List Nat) : List V := l.map fun k : Nat => V.int (k : Int)
theorem nV_add (l : List Nat) (j : Nat) : nV (l ++ [j]) = nV l ++ [V.int (j : Int)] := by
  unfold nV
  rw [List.map_append]
  rfl
theorem nV_at {l : List Nat} {i x : Nat} (h : l[i]? = some x) : atI (nV l) (i : Int) = some (.int x) := atI_nat (by rw [List.getElem?_map, h]; rfl)
theorem nV_get {l : List Nat} {i : Nat} {v : V} (h : (nV l)[i]? = some v) : ∃ x : Nat, v = .int x ∧ l[i]? = some x := by
  rw [List.getElem?_map] at h
  cases e : l[i]? with
  | none =>
    rw [e] at h
    cases h
  | some x =>
    rw [e] at h
    exact ⟨x, (Option.some.inj h).symm, rfl⟩
theorem get_n {H : Hp} {p : Addr} {l : List (Nat × Nat)} (h : H p = some (.dK (dN l))) (k : Nat) : DGet H p (.int k) ((look l k).map fun n : Nat => V.int (n : Int)) := .inl ⟨dN l, .inl k, .inl h, rfl, (valV_dOf inl_inj k l).symm⟩
theorem put_n {H : Hp} {p : Addr} {l : List (Nat × Nat)} (h : H p = some (.dK (dN l))) (nd : (l.map (·.1)).Nodup) (hl : l.length ≤ 1000) (k v : Nat) : DPut H p (.int k) (.int v) (upd H p (.dK (dN (put l k v)))) := by
  have h1 := DPut.k (k := (.inl (k : Int) : Key)) (v := .int v) h (by rw [dOf_len]; exact small1000 hl)
  have h2 : putK (dN l) (.inl (k : Int)) (.int v) = dN (put l k v) := putK_dOf (kf := fun n : Nat => (Sum.inl (n : Int) : Key)) (vf := fun n : Nat => V.int (n : Int)) inl_inj nd
  rw [h2] at h1
  exact h1
theorem put_len {l : List (Nat × Nat)} {k v : Nat} : (put l k v).length ≤ l.length + 1 := by
  have h1 := congrArg List.length (put_keys l k v)
  rw [List.length_map] at h1
  rw [h1]
  split <;> simp
/-- lists of numbers at these addresses, apart from the list that holds them -/
structure LL (H : Hp) (af : Addr) (qs : List Addr) (L : List (List Nat)) : Prop where
  at_ : H af = some (.lst (qs.map V.ref))
  len : qs.length = L.length
  row : ∀ (j : Nat) (q : Addr) (l : List Nat), qs[j]? = some q → L[j]? = some l → q ≠ af ∧ H q = some (.lst (nV l))
theorem LL.same {H H' : Hp} {af : Addr} {qs : List Addr} {L : List (List Nat)} (b : LL H af qs L) (s : Same H H') : LL H' af qs L := ⟨s _ _ b.at_, b.len, fun j q l h h' => ⟨(b.row j q l h h').1, s _ _ (b.row j q l h h').2⟩⟩
theorem LL.nil {H : Hp} {af : Addr} (h : H af = some (.lst [])) : LL H af [] [] := ⟨h, rfl, fun j q l h => by simp at h⟩
theorem LL.free {H : Hp} {af p : Addr} {qs : List Addr} {L : List (List Nat)} (b : LL H af qs L) (h : H p = none) : p ≠ af ∧ p ∉ qs := by
  refine ⟨fun e => ?_, fun hm => ?_⟩
  · rw [e, b.at_] at h
    cases h
  · obtain ⟨j, hj, e⟩ := List.mem_iff_getElem.mp hm
    have := (b.row j p _ (by rw [List.getElem?_eq_getElem hj, e]) (List.getElem?_eq_getElem (b.len ▸ hj))).2
    rw [h] at this
    cases this
theorem LL.other {H : Hp} {af p : Addr} {o : HO} {qs : List Addr} {L : List (List Nat)} (b : LL H af qs L) (h1 : p ≠ af) (h2 : p ∉ qs) : LL (upd H p o) af qs L :=
  ⟨by rw [upd_ne h1.symm]; exact b.at_, b.len, fun j q l h h' => ⟨(b.row j q l h h').1, by rw [upd_ne (fun e : q = p => h2 (e ▸ List.mem_of_getElem? h))]; exact (b.row j q l h h').2⟩⟩
theorem LL.add {H : Hp} {af p : Addr} {qs : List Addr} {L : List (List Nat)} {l : List Nat} (b : LL H af qs L) (h1 : p ≠ af) (h2 : H p = some (.lst (nV l))) : LL (upd H af (.lst (qs.map V.ref ++ [.ref p]))) af (qs ++ [p]) (L ++ [l]) := by
  refine ⟨by rw [upd_same, List.map_append]; rfl, by rw [List.length_append, List.length_append, b.len]; rfl, fun j q l' h h' => ?_⟩
  by_cases hj : j < qs.length
  · rw [List.getElem?_append_left hj] at h
    rw [List.getElem?_append_left (b.len ▸ hj)] at h'
    have := b.row j q l' h h'
    exact ⟨this.1, by rw [upd_ne this.1]; exact this.2⟩
  · rw [List.getElem?_append_right (Nat.le_of_not_lt hj)] at h
    rw [List.getElem?_append_right (b.len ▸ Nat.le_of_not_lt hj), ← b.len] at h'
    cases e : j - qs.length with
    | zero =>
      rw [e] at h h'
      cases h
      cases h'
      exact ⟨h1, by rw [upd_ne h1]; exact h2⟩
    | succ m =>
      rw [e] at h
      simp at h
/-- the i-th of them -/
theorem LL.get {H : Hp} {af : Addr} {qs : List Addr} {L : List (List Nat)} (b : LL H af qs L) {i : Nat} (hi : i < L.length) : ∃ q l, atI (qs.map V.ref) (i : Int) = some (.ref q) ∧ L[i]? = some l ∧ H q = some (.lst (nV l)) ∧ q ≠ af := by
  have hi' : i < qs.length := by rw [b.len]; exact hi
  have hq : qs[i]? = some qs[i] := List.getElem?_eq_getElem hi'
  have hl : L[i]? = some L[i] := List.getElem?_eq_getElem hi
  exact ⟨_, _, atI_nat (by rw [List.getElem?_map, hq]; rfl), hl, (b.row i _ _ hq hl).2, (b.row i _ _ hq hl).1⟩
def Adj (L : List (List Nat)) (i j : Nat) : Prop := ∃ l, L[i]? = some l ∧ j ∈ l
theorem Adj.of {L : List (List Nat)} {i j : Nat} {l : List Nat} (h : L[i]? = some l) : Adj L i j ↔ j ∈ l := by
  constructor
  · rintro ⟨l', h', hj⟩
    rw [h] at h'
    cases h'
    exact hj
  · exact fun hj => ⟨l, h, hj⟩
theorem Adj.lt {L : List (List Nat)} {i j : Nat} (h : Adj L i j) : i < L.length := by
  obtain ⟨l, h, _⟩ := h
  exact (List.getElem?_eq_some_iff.mp h).1
/-- which can be done behind which: a row for each -/
noncomputable def afterM (R : List Ride) (trips : List Trip) : List (List Nat) := (List.range trips.length).map fun i => (List.range trips.length).filter fun j => Cm R trips i j
theorem afterM_len (R : List Ride) (trips : List Trip) : (afterM R trips).length = trips.length := by
  unfold afterM
  rw [List.length_map, List.length_range]
theorem afterM_get {R : List Ride} {trips : List Trip} {i : Nat} (h : i < trips.length) : (afterM R trips)[i]? = some ((List.range trips.length).filter fun j => Cm R trips i j) := by
  unfold afterM
  rw [List.getElem?_map, List.getElem?_range h]
  rfl
theorem adj_after {R : List Ride} {trips : List Trip} {i j : Nat} : Adj (afterM R trips) i j ↔ Cm R trips i j = true := by
  constructor
  · intro h
    have hi := h.lt
    rw [afterM_len] at hi
    have := (Adj.of (afterM_get hi)).mp h
    exact (List.mem_filter.mp this).2
  · intro h
    have hl := Cm_lt h
    exact (Adj.of (afterM_get hl.1)).mpr (List.mem_filter.mpr ⟨List.mem_range.mpr hl.2, h⟩)
theorem dp_nats {K : PySem.W.Frag} {H : Hp} : ∀ l : List Nat, DpAll K H (nV l) (l.map fun k : Nat => PyData.int (k : Int))
  | [] => .nil
  | k :: l => .cons (.int k) (dp_nats l)
theorem sh_nats (l : List Nat) : Sh 1 (.list (l.map fun k : Nat => PyData.int (k : Int))) := sh_list fun d hd => by
  obtain ⟨k, _, rfl⟩ := List.mem_map.mp hd
  exact sh_int k
theorem sh_nil0 : Sh 1 (.list []) := sh_list fun _ h => nomatch h
/-- l != [] of numbers -/
theorem ne_nil_of {K : PySem.W.Frag} {H : Hp} {a b : Addr} {l : List Nat} (h1 : H a = some (.lst (nV l))) (h2 : H b = some (.lst [])) : ∃ d e, Dp K H (.ref a) d ∧ Dp K H (.ref b) e ∧ SeqAt.shaped d = true ∧ SeqAt.shaped e = true ∧ PyData.eqv d e = l.isEmpty := by
  refine ⟨_, _, .lst (sqL_of h1) (dp_nats l), .lst (sqL_of h2) .nil, (sh_nats l).ok (by decide), sh_nil0.ok (by decide), ?_⟩
  cases l with
  | nil => simp [PyData.eqv, PyData.eqvAll]
  | cons k l => simp [PyData.eqv, PyData.eqvAll]
end Fb
/-! behind: which trips can be done behind which. -/
namespace Fb
open PySem PySem.Spec PyProof.Rows L2
def spBehind (K : PySem.W.Frag) : Sp := fun vs H Q _ => ∃ (a b : Addr) (rides : List Ride) (trips : List Trip), vs = [.ref a, .ref b] ∧ Told2 K H a b rides trips ∧
  ∀ H' p qs, Same H H' → H p = none → LL H' p qs (afterM (roadsM rides trips) trips) → Q (.ref p) H'
section
variable {P : Program} {w : World} {K : PySem.W.Frag} {mg : Str → Option Value} {base : Heap}
theorem cal_behind {f : Addr} {fd : FuncData} (F : Fn K "behind" s_behind f fd) (g : mg "behind" = some (.ref f)) (B : Bi mg) (c_looked : C8.Cal P w K mg base 3 "looked" (spLooked K) []) (c_spread : C8.Cal P w K mg base 5 "spread" (spSpread K) []) (c_comes : C8.Cal P w K mg base 1 "comes" (spComes K) []) : C8.Cal P w K mg base 6 "behind" (spBehind K) [] := by
  refine cal_of F g sc_behind (bi_behind F) (fun vs H Q E h => ?_) (fun cdv A outer s H vs Q E hr h => ?_)
  · obtain ⟨a, b, rides, trips, rfl, _⟩ := h
    rfl
  · obtain ⟨a, b, rides, trips, rfl, T, q⟩ := h
    refine ⟨_, (pss_cons (ps_expr (C8.pe_c c_looked hr (by decide) (by rfl) (pa_cons (pv 0) (pa_cons (pv 1) pa_nil)))) (pss_cons (ps_set (i := 2) sc_behind.nd rfl (Or.inl rfl) (pe_lst pa_nil)) (pss_cons (ps_for PassesOwn.never rfl (pi_list (pv 1)) (pg_name (i := 3) sc_behind.nd rfl (Or.inr rfl)) (pss_cons (ps_set (i := 4) sc_behind.nd rfl (Or.inr rfl) (C8.pe_c c_spread hr (by decide) (by rfl) (pa_cons (pv 0) (pa_cons (pv 1) (pa_cons (pe_ix (r := rIxT K) ix_tup (pv 3) pe_int (fun _ _ => rfl)) pa_nil))))) (pss_one (ps_expr (pe_bm PySem.F.plainAttrs_list PySem.F.slot_list_append PySem.F.type_list_append mt_append (pv 2) (pa_cons (pe_lc (own := [("k", 5)]) (g := gName 5)  rfl sc_behind.nd (pi_range1 (by rfl) B.range (pa_cons (pe_callB (r := rLenS K) call_len_seq (by rfl) B.len PySem.boot_len (pa_cons (pv 1) pa_nil)) pa_nil)) (blkOk_by (N := ["rides", "trips", "found", "ahead", "minutes", "k"]) (sc := defScope s_behind) (by decide +kernel)) (fun _ _ _ _ _ => pg_name (i := 5) sc_behind.nd rfl (Or.inl rfl)) (fun _ _ _ _ _ => (pts_one (pt_val (C8.pe_c c_comes hr (by decide) (by rfl) (pa_cons (pv 4) (pa_cons (pv 3) (pa_cons (pe_ix (r := rIxL K) ix_list (pv 1) (pv 5) (fun _ _ => rfl)) pa_nil))))))) (fun _ _ _ _ _ => (pv 5))) pa_nil)))))) (pss_one (ps_ret (pv 2)))))), ?_⟩
    obtain ⟨qs, hL, hT⟩ := T.lT
    have ll : (qs.map V.ref).length = trips.length := by rw [List.length_map, hT.1]
    have h101 := T.lenT
    refine ⟨_, rfl, _, rfl, a, b, rides, trips, rfl, T, ?_⟩
    refine ⟨Nat.zero_le _, fun af naf => ?_⟩
    have s1 : Same H (upd H af (.lst [])) := same_upd naf
    refine ⟨_, rfl, b, rfl, ⟨_, s1.seq hL⟩, for_list (K := K) (a := b) (xs := qs.map V.ref) (fun i σ H' => Same H H' ∧ (∃ y3 y4, σ = [some (.ref a), some (.ref b), some (.ref af), y3, y4, none]) ∧ ∃ rs, LL H' af rs ((afterM (roadsM rides trips) trips).take i))
      ⟨s1, ⟨none, none, rfl⟩, [], LL.nil upd_same⟩ (fun i σ H' _ ⟨s, _⟩ => s.seq hL) ?_ ?_⟩
    · rintro i v σ H2 hi ⟨s2, ⟨y3, y4, rfl⟩, rs, hLL⟩
      obtain ⟨p1, t, rfl, ht, hs⟩ := (hT.same s2).at hi
      have hlt : i < trips.length := (List.getElem?_eq_some_iff.mp ht).1
      refine ⟨_, rfl, _, rfl, _, rfl, p1, _, 2, _, rfl, rfl, hs, atI_nat (j := 2) rfl, a, b, rides, trips, t.2.2.1, rfl, T.same s2, (T.okT t (List.mem_of_getElem? ht)).2.1, fun H3 mi l s3 nmi emi tab => ?_⟩
      have s23 := s2.trans s3
      have hLL3 := hLL.same s3
      refine ⟨_, rfl, .inl ⟨rfl, _, sqL_of hLL3.at_⟩, ?_⟩
      refine ⟨_, rfl, b, _, rfl, .inl (s23.seq hL), ((qs.map V.ref).length : Nat), rfl, by omega, by omega, fun D nD => ?_⟩
      have hfree := hLL3.free nD
      refine lc_range (lo := 0) (n := (qs.map V.ref).length) (fun j H' => Same H3 H' ∧ H' D = some (.lst (nV ((List.range j).filter fun k => Cm (roadsM rides trips) trips i k)))) ⟨same_upd nD, upd_same⟩ ?_ ?_
      · rintro j H4 hj ⟨s4, e4⟩
        rw [ll] at hj
        obtain ⟨t2, ht2⟩ : ∃ t2, trips[j]? = some t2 := ⟨_, List.getElem?_eq_getElem hj⟩
        have s24 := s23.trans s4
        obtain ⟨p2, hp2, hs2⟩ := (hT.same s24).addr ht2
        have at2 : atI (qs.map V.ref) (0 + (j : Int)) = some (.ref p2) := by
          rw [Int.zero_add]
          exact atI_nat (by rw [List.getElem?_map, hp2]; rfl)
        refine ⟨rfl, ?_⟩
        refine ⟨_, rfl, _, rfl, _, rfl, _, rfl, b, _, _, _, rfl, rfl, s24.seq hL, at2, mi, p1, p2, l, t, t2, rfl, s4 _ _ emi, same_seqT (s3.trans s4) hs, hs2, ?_⟩
        rw [tab.all]
        have ec : comesB (dist (roadsM rides trips) t.2.2.1 t2.1) t t2 = Cm (roadsM rides trips) trips i j := (Cm_eq ht ht2).symm
        rw [ec]
        refine ⟨_, rfl, ?_⟩
        cases c : Cm (roadsM rides trips) trips i j with
        | false =>
          refine if_f rfl ⟨s4, ?_⟩
          rw [List.range_succ, List.filter_append, List.filter_cons_of_neg (by rw [c]; exact Bool.false_ne_true), List.filter_nil, List.append_nil]
          exact e4
        | true =>
          refine if_t rfl ⟨_, rfl, _, e4, ?_, same_put s4 nD, ?_⟩
          · rw [List.length_map]
            have := List.length_filter_le (fun k => Cm (roadsM rides trips) trips i k) (List.range j)
            rw [List.length_range] at this
            exact small1000 (by omega)
          · rw [upd_same, List.range_succ, List.filter_append, List.filter_cons_of_pos (by exact c), List.filter_nil, Int.zero_add]
            exact congrArg (fun x => some (HO.lst x)) (nV_add _ j).symm
      · rintro H4 ⟨s4, e4⟩
        rw [ll] at e4
        have hLL4 := hLL3.same s4
        refine ⟨af, _, _, rfl, rfl, hLL4.at_, ?_, same_put (s23.trans s4) naf, ⟨_, _, rfl⟩, rs ++ [D], ?_⟩
        · rw [List.length_map, hLL4.len, List.length_take]
          exact small1000 (by omega)
        · have e5 : (afterM (roadsM rides trips) trips).take (i + 1) = (afterM (roadsM rides trips) trips).take i ++ [(List.range trips.length).filter fun k => Cm (roadsM rides trips) trips i k] := by
            rw [List.take_add_one, afterM_get hlt]
            rfl
          rw [e5]
          exact hLL4.add hfree.1 e4
    · rintro σ H2 ⟨s2, ⟨y3, y4, rfl⟩, rs, hLL⟩
      rw [ll, List.take_of_length_le (by rw [afterM_len]; exact Nat.le_refl _)] at hLL
      exact ⟨_, rfl, q H2 af rs s2 naf hLL⟩
end
end Fb
/-! free_one: a search for one that has none ahead. -/
namespace Fb
open PySem PySem.Spec PyProof.Rows L2
def spFree (K : PySem.W.Frag) : Sp := fun vs H Q _ => ∃ (a h : Addr) (first : Nat) (qs : List Addr) (L : List (List Nat)) (la : List (Nat × Nat)), vs = [.ref a, .ref h, .int first] ∧ LL H a qs L ∧ H h = some (.dK (dN la)) ∧ first < L.length ∧ L.length ≤ 200 ∧
  (∀ i j, Adj L i j → j < L.length) ∧ (∀ k i, look la k = some i → i < L.length) ∧
  (∀ H', Same H H' → (∃ DL DR, Closed (Adj L) (look la) DL DR ∧ DL first) → Q .non H') ∧
  ∀ H' p c lc other, Same H H' → SqT K H' p [.int ((other : Nat) : Int), .ref c] → H c = none → H' c = some (.dK (dN lc)) → Came (Adj L) (look la) first lc → (∃ i, look lc other = some i) → look la other = none → Q (.ref p) H'
section
variable {P : Program} {w : World} {K : PySem.W.Frag} {mg : Str → Option Value} {base : Heap}
theorem cal_free_one {f : Addr} {fd : FuncData} (F : Fn K "free_one" s_free_one f fd) (g : mg "free_one" = some (.ref f)) (B : Bi mg) : C8.Cal P w K mg base 1 "free_one" (spFree K) [] := by
  refine cal_of F g sc_free_one (bi_free_one F) (fun vs H Q E h => ?_) (fun cdv A outer s H vs Q E hr h => ?_)
  · obtain ⟨a, h, first, qs, L, la, rfl, _⟩ := h
    rfl
  · obtain ⟨a, h, first, qs, L, la, rfl, hLL, eh, hf, hn, hA, hv, qn, qy⟩ := h
    have hu := hu_of hr
    refine ⟨_, (pss_cons (ps_set (i := 3) sc_free_one.nd rfl (Or.inl rfl) pe_dnewK) (pss_cons (ps_set (i := 4) sc_free_one.nd rfl (Or.inl rfl) (pe_lst (pa_cons (pv 2) pa_nil))) (pss_cons (ps_while PassesOwn.never (pt_cmpR (op_neD hr.units) (pv 4) (pe_lst pa_nil) (nomark _)) (pss_cons (ps_set (i := 5) sc_free_one.nd rfl (Or.inl rfl) (pe_bm0 PySem.F.plainAttrs_list PySem.F.slot_list_pop PySem.F.type_list_pop mt_pop (pv 4))) (pss_one (ps_for PassesOwn.never rfl (pi_list (pe_ix (r := rIxL K) ix_list (pv 0) (pv 5) (fun _ _ => rfl))) (pg_name (i := 6) sc_free_one.nd rfl (Or.inl rfl)) (pss_one (ps_if (pt_cmp (pc_dnotin hu (pv 6) (pv 3))) (pss_cons (ps_dput hu (pv 3) (pv 6) (pv 5) rfl) (pss_cons (ps_if (pt_cmp (pc_dnotin hu (pv 6) (pv 1))) (pss_one (ps_ret (pe_tup (pa_cons (pv 6) (pa_cons (pv 3) pa_nil))))) pss_nil) (pss_one (ps_expr (pe_bm PySem.F.plainAttrs_list PySem.F.slot_list_append PySem.F.type_list_append mt_append (pv 4) (pa_cons (pe_dget hu (pv 1) (pv 6) (fun _ _ => rfl)) pa_nil)))))) pss_nil)))))) (pss_one (ps_ret pe_non))))), ?_⟩
    intro c nc
    refine ⟨_, rfl, Nat.succ_le_of_lt (by decide), fun wt nw1 => ?_⟩
    have nw : H wt = none := (same_upd nc).free nw1
    have ncw : c ≠ wt := fun e => by
      rw [← e, upd_same] at nw1
      cases nw1
    refine ⟨fun m σ H' => ∃ (l : List (Nat × Nat)) (ws : List Nat) (y5 y6 : Option V), σ = [some (.ref a), some (.ref h), some (.int first), some (.ref c), some (.ref wt), y5, y6] ∧ Same H H' ∧ H' c = some (.dK (dN l)) ∧ H' wt = some (.lst (nV ws)) ∧ Seek (Adj L) (look la) first l ws ∧
      m = ws.length + (L.length - l.length) ∧ m ≤ L.length + 1, ⟨_, [], [first], none, none, rfl, (same_upd nc).trans (same_upd nw1), ?_, upd_same, Seek.first _ _ _, rfl, ?_⟩, ?_⟩
    · rw [upd_ne ncw, upd_same]
      rfl
    · show 1 + (L.length - 0) ≤ L.length + 1
      omega
    rintro m σ H1 ⟨l, ws, y5, y6, rfl, s1, ec, ew, sk, rfl, hm⟩
    refine ⟨_, rfl, Nat.zero_le _, fun x nx => ?_⟩
    have sx : Same H1 (upd H1 x (.lst [])) := same_upd nx
    obtain ⟨d, e, D1, D2, S1, S2, E1⟩ := ne_nil_of (K := K) (sx _ _ ew) (upd_same (a := x))
    refine ⟨d, e, D1, D2, S1, S2, ?_⟩
    rw [E1]
    obtain ⟨H2, hH2⟩ : ∃ H2, H2 = upd H1 x (.lst []) := ⟨_, rfl⟩
    rw [← hH2] at sx ⊢
    have s2 := s1.trans sx
    have ec2 := sx _ _ ec
    have ew2 := sx _ _ ew
    clear D1 D2 hH2 nx
    rcases List.eq_nil_or_concat ws with rfl | ⟨ws', one, rfl⟩
    · exact ⟨_, rfl, if_f rfl (qn H2 s2 sk.end)⟩
    · rw [List.concat_eq_append] at *
      have hb : (!(ws' ++ [one]).isEmpty) = true := by cases ws' <;> rfl
      have tn := sk.turn
      have hone : one < L.length := by
        rcases tn.mine with e | ⟨k, _, e⟩
        · rw [e]; exact hf
        · exact hv _ _ e
      obtain ⟨q, r, atq, hr1, er, nq⟩ := hLL.get hone
      rw [nV_add] at ew2
      refine ⟨_, rfl, if_t hb ⟨fun σ' H' => ∃ (l' : List (Nat × Nat)) (ws'' : List Nat) (y5 y6 : Option V), σ' = [some (.ref a), some (.ref h), some (.int first), some (.ref c), some (.ref wt), y5, y6] ∧ Same H H' ∧ H' c = some (.dK (dN l')) ∧ H' wt = some (.lst (nV ws'')) ∧ Seek (Adj L) (look la) first l' ws'' ∧
        ws''.length + (L.length - l'.length) < (ws' ++ [one]).length + (L.length - l.length), ?_, ?_⟩⟩
      · rintro σ' H' ⟨l', ws'', z5, z6, rfl, s3, e3, e4, sk', lt'⟩
        exact ⟨_, lt', l', ws'', z5, z6, rfl, s3, e3, e4, sk', rfl, by omega⟩
      · refine ⟨_, rfl, .inl ⟨rfl, _, sqL_of ew2⟩, wt, _, .int one, rfl, rfl, ew2, ?_, ?_⟩
        · rw [List.length_append, List.getElem?_append_right (by show _ ≤ _ + 1 - 1; omega)]
          simp
        rw [List.dropLast_concat]
        have s3 : Same H (upd H2 wt (.lst (nV ws'))) := same_put s2 nw
        refine ⟨_, rfl, _, rfl, a, _, _, _, rfl, rfl, sqL_of (s3 _ _ hLL.at_), atq, ?_⟩
        refine ⟨q, rfl, ⟨_, sqL_of (s3 _ _ er)⟩, for_list (K := K) (a := q) (xs := nV r) (fun i σ H' => Same H H' ∧ ∃ (l' : List (Nat × Nat)) (ws'' : List Nat) (y6 : Option V), σ = [some (.ref a), some (.ref h), some (.int first), some (.ref c), some (.ref wt), some (.int one), y6] ∧ H' c = some (.dK (dN l')) ∧ H' wt = some (.lst (nV ws'')) ∧
          Turn (Adj L) (look la) first one l' ws'' (r.take i) ∧ ws''.length + (L.length - l'.length) < (ws' ++ [one]).length + (L.length - l.length))
          ⟨s3, l, ws', y6, rfl, by rw [upd_ne ncw]; exact ec2, upd_same, tn, ?_⟩ (fun i σ H' _ ⟨s, _⟩ => sqL_of (s _ _ er)) ?_ ?_⟩
        · rw [List.length_append]
          show _ < _ + 1 + _
          omega
        · rintro i v σ H4 hi ⟨s4, l', ws'', z6, rfl, e4, f4, tn', lt'⟩
          obtain ⟨other, rfl, ho⟩ := nV_get hi
          have hadj : Adj L one other := ⟨r, hr1, List.mem_of_getElem? ho⟩
          have etk : r.take (i + 1) = r.take i ++ [other] := by
            rw [List.take_add_one, ho]
            rfl
          refine ⟨_, rfl, _, rfl, c, _, rfl, get_n e4 other, ?_⟩
          cases hl : look l' other with
          | some i0 =>
            refine ⟨_, rfl, if_f rfl ⟨s4, l', ws'', _, rfl, e4, f4, ?_, lt'⟩⟩
            rw [etk]
            exact tn'.old (by
              cases Classical.em (other ∈ l'.map (·.1)) with
              | inl z => exact z
              | inr z =>
                rw [look_none.mpr z] at hl
                cases hl)
          | none =>
            have hcm := tn'.met hadj hl
            have hlen : (put l' other one).length ≤ L.length := hcm.lt hA
            have hlen1 : (put l' other one).length = l'.length + 1 := by
              rw [put_new hl, List.length_append]
              rfl
            refine ⟨_, rfl, if_t rfl ⟨_, rfl, _, rfl, _, rfl, c, _, rfl, put_n e4 tn'.came.nd (by omega) other one, ?_⟩⟩
            have s5 : Same H (upd H4 c (.dK (dN (put l' other one)))) := same_put s4 nc
            refine ⟨_, rfl, _, rfl, h, _, rfl, get_n (s5 _ _ eh) other, ?_⟩
            cases hla : look la other with
            | none =>
              refine ⟨_, rfl, if_t rfl ⟨_, rfl, _, rfl, (by show 2 ≤ sizeLine; decide), fun p np => ?_⟩⟩
              exact qy _ p c (put l' other one) other (s5.trans (same_upd np)) (sqT_of upd_same) nc (by
                rw [upd_ne (fun e : c = p => by
                  rw [← e, upd_same] at np
                  cases np), upd_same]) hcm ⟨one, by rw [look_put, if_pos rfl]⟩ hla
            | some i1 =>
              have g1 : DGet (upd H4 c (.dK (dN (put l' other one)))) h (.int other) (some (.int i1)) := by
                have := get_n (s5 _ _ eh) other
                rw [hla] at this
                exact this
              have f5 : (upd H4 c (.dK (dN (put l' other one)))) wt = some (.lst (nV ws'')) := by
                rw [upd_ne ncw.symm]
                exact f4
              refine ⟨_, rfl, if_f rfl ⟨_, rfl, .inl ⟨rfl, _, sqL_of f5⟩, _, rfl, _, rfl, h, _, rfl, g1, wt, _, _, rfl, rfl, f5, ?_, same_put s5 nw, put l' other one, ws'' ++ [i1], _, rfl, ?_, ?_, ?_, ?_⟩⟩
              · rw [List.length_map]
                exact small1000 (by omega)
              · rw [upd_ne ncw, upd_same]
              · rw [upd_same, nV_add]
              · rw [etk]
                exact tn'.new hadj hl hla
              · rw [List.length_append, hlen1]
                show _ + 1 + _ < _
                omega
        · rintro σ H4 ⟨s4, l', ws'', z6, rfl, e4, f4, tn', lt'⟩
          rw [List.length_map, List.take_length] at tn'
          exact ⟨l', ws'', _, _, rfl, s4, e4, f4, tn'.end fun j hj => (Adj.of hr1).mp hj, lt'⟩
end
end Fb
/-! paired: as many pairs as can be. -/
namespace Fb
open PySem PySem.Spec PyProof.Rows L2
structure KL (n : Nat) (l : List (Nat × Nat)) : Prop where
  nd : (l.map (·.1)).Nodup
  lt : ∀ k, look l k ≠ none → k < n
theorem KL.nil (n : Nat) : KL n [] := ⟨List.nodup_nil, fun _ h => absurd rfl h⟩
theorem KL.put {n : Nat} {l : List (Nat × Nat)} (h : KL n l) {k : Nat} (v : Nat) (hk : k < n) : KL n (put l k v) := ⟨put_nodup h.nd k v, fun j hj => by
  rw [look_put] at hj
  by_cases e : j = k
  · rw [e]
    exact hk
  · rw [if_neg e] at hj
    exact h.lt j hj⟩
theorem KL.len {n : Nat} {l : List (Nat × Nat)} (h : KL n l) : l.length ≤ n := by
  have := nodup_len (m := List.range n) h.nd fun k hk => List.mem_range.mpr (h.lt k fun e => look_none.mp e hk)
  simpa using this
structure PairOk (L : List (List Nat)) (ln la : List (Nat × Nat)) : Prop where
  kn : KL L.length ln
  ka : KL L.length la
  mat : Mat (Adj L) (look ln) (look la)
theorem PairOk.val {L : List (List Nat)} {ln la : List (Nat × Nat)} (p : PairOk L ln la) {k i : Nat} (h : look la k = some i) : i < L.length := (p.mat.ok i k ((p.mat.inv i k).mpr h)).lt
def spPaired (K : PySem.W.Frag) : Sp := fun vs H Q _ => ∃ (a : Addr) (qs : List Addr) (L : List (List Nat)), vs = [.ref a] ∧ LL H a qs L ∧ L.length ≤ 200 ∧ (∀ i j, Adj L i j → j < L.length) ∧
  ∀ H' p n h ln la, Same H H' → SqT K H' p [.ref n, .ref h] → H n = none → H h = none → H' n = some (.dK (dN ln)) → H' h = some (.dK (dN la)) → PairOk L ln la → (∃ DL DR, Closed (Adj L) (look la) DL DR ∧ ∀ i, i < L.length → look ln i = none → DL i) → Q (.ref p) H'
section
variable {P : Program} {w : World} {K : PySem.W.Frag} {mg : Str → Option Value} {base : Heap}
theorem cal_paired {f : Addr} {fd : FuncData} (F : Fn K "paired" s_paired f fd) (g : mg "paired" = some (.ref f)) (B : Bi mg) (c_free_one : C8.Cal P w K mg base 1 "free_one" (spFree K) []) : C8.Cal P w K mg base 2 "paired" (spPaired K) [] := by
  refine cal_of F g sc_paired (bi_paired F) (fun vs H Q E h => ?_) (fun cdv A outer s H vs Q E hr h => ?_)
  · obtain ⟨a, qs, L, rfl, _⟩ := h
    rfl
  · obtain ⟨a, qs, L, rfl, hLL, hn, hA, q⟩ := h
    have hu := hu_of hr
    refine ⟨_, (pss_cons (ps_set (i := 1) sc_paired.nd rfl (Or.inl rfl) pe_dnewK) (pss_cons (ps_set (i := 2) sc_paired.nd rfl (Or.inl rfl) pe_dnewK) (pss_cons (ps_for PassesOwn.never rfl (pi_range1 (by rfl) B.range (pa_cons (pe_callB (r := rLenS K) call_len_seq (by rfl) B.len PySem.boot_len (pa_cons (pv 0) pa_nil)) pa_nil)) (pg_name (i := 3) sc_paired.nd rfl (Or.inl rfl)) (pss_cons (ps_set (i := 4) sc_paired.nd rfl (Or.inl rfl) (C8.pe_c c_free_one hr (by decide) (by rfl) (pa_cons (pv 0) (pa_cons (pv 2) (pa_cons (pv 3) pa_nil))))) (pss_one (ps_if (pt_cmpR op_notN (pv 4) pe_non (nomark _)) (pss_cons (ps_set (i := 5) sc_paired.nd rfl (Or.inl rfl) (pe_ix (r := rIxT K) ix_tup (pv 4) pe_int (fun _ _ => rfl))) (pss_cons (ps_set (i := 6) sc_paired.nd rfl (Or.inl rfl) pe_bl) (pss_one (ps_while PassesOwn.never (pt_val (pv 6)) (pss_cons (ps_set (i := 7) sc_paired.nd rfl (Or.inl rfl) (pe_dget hu (pe_ix (r := rIxT K) ix_tup (pv 4) pe_int (fun _ _ => rfl)) (pv 5) (fun _ _ => rfl))) (pss_cons (ps_set (i := 8) sc_paired.nd rfl (Or.inl rfl) (pe_dget1 hu (pv 1) (pv 7) ⟨by rfl, by rfl, by rfl, by rfl⟩)) (pss_cons (ps_dput hu (pv 1) (pv 7) (pv 5) rfl) (pss_cons (ps_dput hu (pv 2) (pv 5) (pv 7) rfl) (pss_cons (ps_set (i := 6) sc_paired.nd rfl (Or.inl rfl) (pe_cmpR op_notN (pv 8) pe_non (nomark _))) (pss_one (ps_if (pt_val (pv 6)) (pss_one (ps_set (i := 5) sc_paired.nd rfl (Or.inl rfl) (pv 8))) pss_nil))))))))))) pss_nil)))) (pss_one (ps_ret (pe_tup (pa_cons (pv 1) (pa_cons (pv 2) pa_nil)))))))), ?_⟩
    intro n nn h nh1
    have nh : H h = none := (same_upd nn).free nh1
    have nnh : n ≠ h := fun e => by
      rw [← e, upd_same] at nh1
      cases nh1
    have ll : qs.length = L.length := hLL.len
    refine ⟨_, rfl, a, _, rfl, .inl (sqL_of (((same_upd nn).trans (same_upd nh1)) _ _ hLL.at_)), ((qs.map V.ref).length : Nat), rfl, by omega, by rw [List.length_map]; omega, for_range (lo := 0) (n := (qs.map V.ref).length)
      (fun i σ H' => Same H H' ∧ (∃ y3 y4 y5 y6 y7 y8, σ = [some (.ref a), some (.ref n), some (.ref h), y3, y4, y5, y6, y7, y8]) ∧ ∃ ln la, H' n = some (.dK (dN ln)) ∧ H' h = some (.dK (dN la)) ∧ PairOk L ln la ∧ ∃ DL DR, Closed (Adj L) (look la) DL DR ∧ (∀ k, k < i → look ln k = none → DL k) ∧ ∀ k, look ln k ≠ none → k < i)
      ⟨(same_upd nn).trans (same_upd nh1), ⟨none, none, none, none, none, none, rfl⟩, [], [], ?_, upd_same, ⟨KL.nil _, KL.nil _, ⟨fun i j => ⟨(fun e => nomatch e), (fun e => nomatch e)⟩, (fun i j e => nomatch e)⟩⟩, _, _, Closed.none _ _, fun k hk => absurd hk (Nat.not_lt_zero k), fun k hk => absurd rfl hk⟩ ?_ ?_⟩
    · rw [upd_ne nnh, upd_same]
      rfl
    · rintro i σ H1 hi ⟨s1, ⟨y3, y4, y5, y6, y7, y8, rfl⟩, ln, la, en, eh, pk, DL, DR, cl, hD, hK⟩
      rw [List.length_map, ll] at hi
      have nn1 : n ≠ h := nnh
      refine ⟨_, rfl, _, rfl, _, rfl, a, h, i, qs, L, la, ?_, hLL.same s1, eh, hi, hn, hA, fun k j e => pk.val e, ?_, ?_⟩
      · show [V.ref a, V.ref h, V.int (0 + (i : Int))] = _
        rw [Int.zero_add]
      · rintro H2 s2 ⟨EL, ER, cl2, hf⟩
        refine ⟨_, rfl, rfl, _, rfl, if_f rfl ⟨s1.trans s2, ⟨_, _, _, _, _, _, rfl⟩, ln, la, s2 _ _ en, s2 _ _ eh, pk, _, _, cl.or cl2, fun k hk hk2 => ?_, fun k hk => ?_⟩⟩
        · by_cases e : k = i
          · rw [e]
            exact .inr hf
          · exact .inl (hD k (by omega) hk2)
        · have := hK k hk
          omega
      · intro H2 p c lc other s2 ep nc ec cm hth ho
        have ncn : n ≠ c := ne_of_none en nc
        have nch : h ≠ c := ne_of_none eh nc
        have hi0 : look ln i = none := by
          cases e : look ln i with
          | none => rfl
          | some j =>
            have := hK i (by rw [e]; exact fun z => nomatch z)
            omega
        refine ⟨_, rfl, rfl, _, rfl, if_t rfl ⟨_, rfl, p, _, 0, _, rfl, rfl, ep, atI_nat (j := 0) rfl, ?_⟩⟩
        refine ⟨fun m σ H' => ∃ (x : Nat) (b : Bool) (y7 y8 : Option V) (ln' la' : List (Nat × Nat)), σ = [some (.ref a), some (.ref n), some (.ref h), some (.int (0 + (i : Int))), some (.ref p), some (.int (x : Int)), some (.bl b), y7, y8] ∧ Same H H' ∧ H' n = some (.dK (dN ln')) ∧ H' h = some (.dK (dN la')) ∧ H' c = some (.dK (dN lc)) ∧ SqT K H' p [.int ((other : Nat) : Int), .ref c] ∧
          KL L.length ln' ∧ KL L.length la' ∧ (b = true → m = rank lc x + 1 ∧ Flip (Adj L) (look ln) (look la) (look ln') (look la') DR i lc x) ∧
          (b = false → Mat (Adj L) (look ln') (look la') ∧ Closed (Adj L) (look la') DL DR ∧ look ln' i ≠ none ∧ (∀ k, look ln' k = none → look ln k = none) ∧ ∀ k, k ≠ i → look ln k = none → look ln' k = none),
          ⟨_, other, true, _, _, ln, la, rfl, s1.trans s2, s2 _ _ en, s2 _ _ eh, ec, ep, pk.kn, pk.ka, fun _ => ⟨rfl, Flip.start pk.mat cl hi0 ho hth⟩, fun e => nomatch e⟩, ?_⟩
        rintro m σ H3 ⟨x, b, y7, y8, ln', la', rfl, s3, en3, eh3, ec3, ep3, kn, ka, ht, hf⟩
        refine ⟨_, rfl, b, rfl, ?_⟩
        cases b with
        | false =>
          obtain ⟨f1, f2, f3, f4, f5⟩ := hf rfl
          refine if_f rfl ⟨s3, ⟨_, _, _, _, _, _, rfl⟩, ln', la', en3, eh3, ⟨kn, ka, f1⟩, DL, DR, f2, fun k hk hk2 => ?_, fun k hk => ?_⟩
          · by_cases e : k = i
            · rw [e] at hk2
              exact absurd hk2 f3
            · exact hD k (by omega) (f4 k hk2)
          · by_cases e : k = i
            · omega
            · cases e2 : look ln k with
              | none => exact absurd (f5 k e e2) hk
              | some j =>
                have := hK k (by rw [e2]; exact fun z => nomatch z)
                omega
        | true =>
          obtain ⟨rfl, fl⟩ := ht rfl
          obtain ⟨one, hone⟩ := fl.there
          have hadj := (cm.come hone).1
          have hx := hA _ _ hadj
          have h1 := hadj.lt
          have gc : DGet H3 c (.int x) (some (.int one)) := by
            have := get_n ec3 x
            rw [hone] at this
            exact this
          have pn := put_n en3 kn.nd (by have := kn.len; omega) one x
          have kn2 := kn.put x h1
          have eh4 : (upd H3 n (.dK (dN (put ln' one x)))) h = some (.dK (dN la')) := by
            rw [upd_ne nnh.symm]
            exact eh3
          have ph := put_n eh4 ka.nd (by have := ka.len; omega) x one
          have ka2 := ka.put one hx
          have s5 : Same H (upd (upd H3 n (.dK (dN (put ln' one x)))) h (.dK (dN (put la' x one)))) := same_put (same_put s3 nn) nh
          have ec5 : (upd (upd H3 n (.dK (dN (put ln' one x)))) h (.dK (dN (put la' x one)))) c = some (.dK (dN lc)) := by
            rw [upd_ne nch.symm, upd_ne ncn.symm]
            exact ec3
          have ep5 : SqT K (upd (upd H3 n (.dK (dN (put ln' one x)))) h (.dK (dN (put la' x one)))) p [.int ((other : Nat) : Int), .ref c] := seqT_putD eh4 (seqT_putD en3 ep3)
          have en5 : (upd (upd H3 n (.dK (dN (put ln' one x)))) h (.dK (dN (put la' x one)))) n = some (.dK (dN (put ln' one x))) := by
            rw [upd_ne nnh, upd_same]
          have eh5 : (upd (upd H3 n (.dK (dN (put ln' one x)))) h (.dK (dN (put la' x one)))) h = some (.dK (dN (put la' x one))) := upd_same
          refine if_t rfl ⟨fun σ' H' => ∃ (x' : Nat) (b : Bool) (y7 y8 : Option V) (ln2 la2 : List (Nat × Nat)), σ' = [some (.ref a), some (.ref n), some (.ref h), some (.int (0 + (i : Int))), some (.ref p), some (.int (x' : Int)), some (.bl b), y7, y8] ∧ Same H H' ∧ H' n = some (.dK (dN ln2)) ∧ H' h = some (.dK (dN la2)) ∧ H' c = some (.dK (dN lc)) ∧ SqT K H' p [.int ((other : Nat) : Int), .ref c] ∧
            KL L.length ln2 ∧ KL L.length la2 ∧ (b = true → rank lc x' < rank lc x ∧ Flip (Adj L) (look ln) (look la) (look ln2) (look la2) DR i lc x') ∧
            (b = false → Mat (Adj L) (look ln2) (look la2) ∧ Closed (Adj L) (look la2) DL DR ∧ look ln2 i ≠ none ∧ (∀ k, look ln2 k = none → look ln k = none) ∧ ∀ k, k ≠ i → look ln k = none → look ln2 k = none), ?_, ?_⟩
          · rintro σ' H' ⟨x', b, z7, z8, ln2, la2, rfl, w1, w2, w3, w4, w5, w6, w7, w8, w9⟩
            cases b with
            | false => exact ⟨0, by omega, x', false, z7, z8, ln2, la2, rfl, w1, w2, w3, w4, w5, w6, w7, (fun e => nomatch e), w9⟩
            | true => exact ⟨rank lc x' + 1, by have := (w8 rfl).1; omega, x', true, z7, z8, ln2, la2, rfl, w1, w2, w3, w4, w5, w6, w7, (fun _ => ⟨rfl, (w8 rfl).2⟩), fun e => nomatch e⟩
          · refine ⟨_, rfl, p, _, 1, _, rfl, rfl, ep3, atI_nat (j := 1) rfl, _, rfl, c, _, rfl, gc, ?_⟩
            have gn := get_n en3 one
            cases hno : look ln' one with
            | none =>
              rw [hno] at gn
              refine ⟨_, rfl, n, rfl, .inl ⟨_, .inl en3⟩, _, rfl, _, gn, ?_⟩
              refine ⟨_, rfl, _, rfl, _, rfl, n, _, rfl, pn, _, rfl, _, rfl, _, rfl, h, _, rfl, ph, _, rfl, rfl, _, rfl, false, rfl, if_f rfl ?_⟩
              have fe := fl.end cl cm hone hno
              rw [← look_at, ← look_at] at fe
              exact ⟨x, false, _, _, _, _, rfl, s5, en5, eh5, ec5, ep5, kn2, ka2, (fun e => nomatch e), fun _ => fe⟩
            | some left =>
              rw [hno] at gn
              refine ⟨_, rfl, n, rfl, .inl ⟨_, .inl en3⟩, _, rfl, _, gn, ?_⟩
              refine ⟨_, rfl, _, rfl, _, rfl, n, _, rfl, pn, _, rfl, _, rfl, _, rfl, h, _, rfl, ph, _, rfl, rfl, _, rfl, true, rfl, if_t rfl ⟨_, rfl, ?_⟩⟩
              have fe := fl.next cl cm hone hno
              rw [← look_at, ← look_at] at fe
              exact ⟨left, true, _, _, _, _, rfl, s5, en5, eh5, ec5, ep5, kn2, ka2, (fun _ => ⟨fe.2, fe.1⟩), fun e => nomatch e⟩
    · rintro σ H1 ⟨s1, ⟨y3, y4, y5, y6, y7, y8, rfl⟩, ln, la, en, eh, pk, DL, DR, cl, hD, hK⟩
      rw [List.length_map, ll] at hD
      refine ⟨_, rfl, _, rfl, (by show 2 ≤ sizeLine; decide), fun p np => q _ p n h ln la (s1.trans (same_upd np)) (sqT_of upd_same) nn nh ?_ ?_ pk ⟨DL, DR, cl, hD⟩⟩
      · rw [upd_ne (ne_of_none en np)]
        exact en
      · rw [upd_ne (ne_of_none eh np)]
        exact eh
end
end Fb
/-! apart_of: trips of which none can be done behind another. -/
namespace Fb
open PySem PySem.Spec PyProof.Rows L2
abbrev dB (l : List (Nat × Nat)) : List (Key × V) := dOf (fun n : Nat => (Sum.inl (n : Int) : Key)) (fun _ : Nat => V.bl true) l
theorem get_b {H : Hp} {p : Addr} {l : List (Nat × Nat)} (h : H p = some (.dK (dB l))) (k : Nat) : DGet H p (.int k) ((look l k).map fun _ => V.bl true) := .inl ⟨dB l, .inl k, .inl h, rfl, (valV_dOf inl_inj k l).symm⟩
theorem put_b {H : Hp} {p : Addr} {l : List (Nat × Nat)} (h : H p = some (.dK (dB l))) (nd : (l.map (·.1)).Nodup) (hl : l.length ≤ 1000) (k v : Nat) : DPut H p (.int k) (.bl true) (upd H p (.dK (dB (put l k v)))) := by
  have h1 := DPut.k (k := (.inl (k : Int) : Key)) (v := .bl true) h (by rw [dOf_len]; exact small1000 hl)
  have h2 : putK (dB l) (.inl (k : Int)) (.bl true) = dB (put l k v) := putK_dOf (kf := fun n : Nat => (Sum.inl (n : Int) : Key)) (vf := fun _ : Nat => V.bl true) inl_inj nd
  rw [h2] at h1
  exact h1
theorem put_old {l : List (Nat × Nat)} {k v j : Nat} (h : look l j ≠ none) : look (put l k v) j ≠ none := by
  rw [look_put]
  split
  · exact fun z => nomatch z
  · exact h
theorem put_this {l : List (Nat × Nat)} {k v : Nat} : look (put l k v) k ≠ none := by
  rw [look_put, if_pos rfl]
  exact fun z => nomatch z
/-- what waits, what is left, what is right -/
structure Wave (L : List (List Nat)) (ln la ll lr : List (Nat × Nat)) (DL : Nat → Prop) (ws : List Nat) : Prop where
  kl : KL L.length ll
  kr : KL L.length lr
  base : ∀ i, i < L.length → look ln i = none → i ∈ ws ∨ look ll i ≠ none
  back : ∀ j, look lr j ≠ none → ∃ i, look la j = some i ∧ (i ∈ ws ∨ look ll i ≠ none)
  dl : ∀ i ∈ ws, DL i ∧ i < L.length
def spApart (K : PySem.W.Frag) : Sp := fun vs H Q _ => ∃ (a n h : Addr) (qs : List Addr) (L : List (List Nat)) (ln la : List (Nat × Nat)), vs = [.ref a, .ref n, .ref h] ∧ LL H a qs L ∧ H n = some (.dK (dN ln)) ∧ H h = some (.dK (dN la)) ∧ L.length ≤ 200 ∧ (∀ i j, Adj L i j → j < L.length) ∧ PairOk L ln la ∧
  (∃ DL DR, Closed (Adj L) (look la) DL DR ∧ ∀ i, i < L.length → look ln i = none → DL i) ∧
  ∀ H' p pL pR, Same H H' → H p = none → H' p = some (.lst (nV ((List.range L.length).filter fun i => pL i && !pR i))) → Reach (Adj L) (look ln) (look la) L.length pL pR → Q (.ref p) H'
section
variable {P : Program} {w : World} {K : PySem.W.Frag} {mg : Str → Option Value} {base : Heap}
theorem cal_apart_of {f : Addr} {fd : FuncData} (F : Fn K "apart_of" s_apart_of f fd) (g : mg "apart_of" = some (.ref f)) (B : Bi mg) : C8.Cal P w K mg base 1 "apart_of" (spApart K) [] := by
  refine cal_of F g sc_apart_of (bi_apart_of F) (fun vs H Q E h => ?_) (fun cdv A outer s H vs Q E hr h => ?_)
  · obtain ⟨a, n, h, qs, L, ln, la, rfl, _⟩ := h
    rfl
  · obtain ⟨a, n, h, qs, L, ln, la, rfl, hLL, en, eh, hn, hA, pk, ⟨DL, DR, cl, hD⟩, q⟩ := h
    have hu := hu_of hr
    refine ⟨_, (pss_cons (ps_set (i := 3) sc_apart_of.nd rfl (Or.inr rfl) pe_dnewK) (pss_cons (ps_set (i := 4) sc_apart_of.nd rfl (Or.inr rfl) pe_dnewK) (pss_cons (ps_setLc (i := 6) (own := [("one", 5)]) (g := gName 5)  (by rfl) sc_apart_of.nd rfl rfl (sw_true rfl rfl rfl (by decide +kernel)) (pi_range1 (by rfl) B.range (pa_cons (pe_callB (r := rLenS K) call_len_seq (by rfl) B.len PySem.boot_len (pa_cons (pv 0) pa_nil)) pa_nil)) (blkOk_by (N := ["after", "next_of", "ahead_of", "left", "right", "one", "waiting", "other"]) (sc := defScope s_apart_of) (by decide +kernel)) (fun _ _ _ _ _ => pg_name (i := 5) sc_apart_of.nd rfl (Or.inl rfl)) (fun _ _ _ _ _ => (pts_one (pt_cmp (pc_dnotin hu (pv 5) (pv 1))))) (fun _ _ _ _ _ => (pv 5))) (pss_cons (ps_while PassesOwn.never (pt_cmpR (op_neD hr.units) (pv 6) (pe_lst pa_nil) (nomark _)) (pss_cons (ps_set (i := 5) sc_apart_of.nd rfl (Or.inl rfl) (pe_bm0 PySem.F.plainAttrs_list PySem.F.slot_list_pop PySem.F.type_list_pop mt_pop (pv 6))) (pss_cons (ps_dput hu (pv 3) (pv 5) pe_bl rfl) (pss_one (ps_for PassesOwn.never rfl (pi_list (pe_ix (r := rIxL K) ix_list (pv 0) (pv 5) (fun _ _ => rfl))) (pg_name (i := 7) sc_apart_of.nd rfl (Or.inl rfl)) (pss_one (ps_if (pt_cmp (pc_dnotin hu (pv 7) (pv 4))) (pss_cons (ps_dput hu (pv 4) (pv 7) pe_bl rfl) (pss_one (ps_expr (pe_bm PySem.F.plainAttrs_list PySem.F.slot_list_append PySem.F.type_list_append mt_append (pv 6) (pa_cons (pe_dget hu (pv 2) (pv 7) (fun _ _ => rfl)) pa_nil))))) pss_nil))))))) (pss_one (ps_ret (pe_lc (own := [("one", 5)]) (g := gName 5)  rfl sc_apart_of.nd (pi_range1 (by rfl) B.range (pa_cons (pe_callB (r := rLenS K) call_len_seq (by rfl) B.len PySem.boot_len (pa_cons (pv 0) pa_nil)) pa_nil)) (blkOk_by (N := ["after", "next_of", "ahead_of", "left", "right", "one", "waiting", "other"]) (sc := defScope s_apart_of) (by decide +kernel)) (fun _ _ _ _ _ => pg_name (i := 5) sc_apart_of.nd rfl (Or.inl rfl)) (fun _ _ _ _ _ => (pts_one (PW.pt (pw_and (pt_cmp (pc_din hu (pv 5) (pv 3))) (pw_and1 (pt_cmp (pc_dnotin hu (pv 5) (pv 4)))))))) (fun _ _ _ _ _ => (pv 5))))))))), ?_⟩
    intro lf nlf rt nr1
    have nrt : H rt = none := (same_upd nlf).free nr1
    have nlr : lf ≠ rt := fun e => by
      rw [← e, upd_same] at nr1
      cases nr1
    have ll : qs.length = L.length := hLL.len
    obtain ⟨H1, hH1⟩ : ∃ H1, H1 = upd (upd H lf (.dK [])) rt (.dK []) := ⟨_, rfl⟩
    have s1 : Same H H1 := hH1 ▸ (same_upd nlf).trans (same_upd nr1)
    have elf1 : H1 lf = some (.dK (dB [])) := by
      rw [hH1, upd_ne nlr, upd_same]
      rfl
    have ert1 : H1 rt = some (.dK (dB [])) := by
      rw [hH1, upd_same]
      rfl
    have hlen : (qs.map V.ref).length = L.length := by rw [List.length_map, ll]
    rw [← hH1]
    refine ⟨_, rfl, a, _, rfl, .inl (sqL_of (s1 _ _ hLL.at_)), ((qs.map V.ref).length : Nat), rfl, by omega, by omega, fun wt nw1 => ?_⟩
    have nwt : H wt = none := s1.free nw1
    have nlw : lf ≠ wt := ne_of_none elf1 nw1
    have nrw : rt ≠ wt := ne_of_none ert1 nw1
    refine lc_range (lo := 0) (n := (qs.map V.ref).length) (fun j H' => Same H1 H' ∧ H' wt = some (.lst (nV ((List.range j).filter fun k => (look ln k).isNone)))) ⟨same_upd nw1, upd_same⟩ ?_ ?_
    · rintro j H4 hj ⟨s4, e4⟩
      rw [hlen] at hj
      have gj : DGet H4 n (.int (0 + (j : Int))) ((look ln j).map fun n : Nat => V.int (n : Int)) := by
        rw [Int.zero_add]
        exact get_n (s4 _ _ (s1 _ _ en)) j
      refine ⟨rfl, _, rfl, _, rfl, n, _, rfl, gj, _, rfl, ?_⟩
      cases c : look ln j with
      | some i =>
        refine if_f rfl ⟨s4, ?_⟩
        rw [List.range_succ, List.filter_append, List.filter_cons_of_neg (by rw [c]; exact Bool.false_ne_true), List.filter_nil, List.append_nil]
        exact e4
      | none =>
        refine if_t rfl ⟨_, rfl, _, e4, ?_, same_put s4 nw1, ?_⟩
        · rw [List.length_map]
          have := List.length_filter_le (fun k => (look ln k).isNone) (List.range j)
          rw [List.length_range] at this
          exact small1000 (by omega)
        · rw [upd_same, List.range_succ, List.filter_append, List.filter_cons_of_pos (by rw [c]; rfl), List.filter_nil, Int.zero_add]
          exact congrArg (fun x => some (HO.lst x)) (nV_add _ j).symm
    · rintro H2 ⟨s2, e2⟩
      rw [hlen] at e2
      have hl0 : ((List.range L.length).filter fun k => (look ln k).isNone).length ≤ L.length := by
        have := List.length_filter_le (fun k => (look ln k).isNone) (List.range L.length)
        rw [List.length_range] at this
        exact this
      refine ⟨fun m σ H' => ∃ (ll lr : List (Nat × Nat)) (ws : List Nat) (y5 y7 : Option V), σ = [some (.ref a), some (.ref n), some (.ref h), some (.ref lf), some (.ref rt), y5, some (.ref wt), y7] ∧ Same H H' ∧ H' lf = some (.dK (dB ll)) ∧ H' rt = some (.dK (dB lr)) ∧ H' wt = some (.lst (nV ws)) ∧ Wave L ln la ll lr DL ws ∧
        (∀ i, look ll i ≠ none → ∀ j, Adj L i j → look lr j ≠ none) ∧ m = ws.length + (L.length - lr.length) ∧ m ≤ L.length + L.length,
        ⟨_, [], [], _, none, none, rfl, s1.trans s2, s2 _ _ elf1, s2 _ _ ert1, e2, ⟨KL.nil _, KL.nil _, fun i hi hl => .inl ?_, fun j hj => absurd rfl hj, fun i hi => ?_⟩, fun i hi => absurd rfl hi, rfl, ?_⟩, ?_⟩
      · exact List.mem_filter.mpr ⟨List.mem_range.mpr hi, by rw [hl]; rfl⟩
      · have hm := List.mem_filter.mp hi
        have hlt := List.mem_range.mp hm.1
        refine ⟨hD i hlt ?_, hlt⟩
        cases c : look ln i with
        | none => rfl
        | some j =>
          rw [c] at hm
          cases hm.2
      · show _ + (L.length - 0) ≤ _
        omega
      rintro m σ H3 ⟨ld, lr, ws, y5, y7, rfl, s3, elf, ert, ew, wv, out, rfl, hm⟩
      refine ⟨_, rfl, Nat.zero_le _, fun x nx => ?_⟩
      have sx : Same H3 (upd H3 x (.lst [])) := same_upd nx
      obtain ⟨d, e, D1, D2, S1, S2, E1⟩ := ne_nil_of (K := K) (sx _ _ ew) (upd_same (a := x))
      refine ⟨d, e, D1, D2, S1, S2, ?_⟩
      rw [E1]
      obtain ⟨H4, hH4⟩ : ∃ H4, H4 = upd H3 x (.lst []) := ⟨_, rfl⟩
      rw [← hH4] at sx ⊢
      have s4 := s3.trans sx
      have elf4 := sx _ _ elf
      have ert4 := sx _ _ ert
      have ew4 := sx _ _ ew
      clear D1 D2 hH4 nx
      rcases List.eq_nil_or_concat ws with rfl | ⟨ws', one, rfl⟩
      · refine ⟨_, rfl, if_f rfl ?_⟩
        -- what is told
        refine ⟨_, rfl, a, _, rfl, .inl (sqL_of (s4 _ _ hLL.at_)), ((qs.map V.ref).length : Nat), rfl, by omega, by omega, fun D nD => ?_⟩
        have nD0 := s4.free nD
        refine lc_range (lo := 0) (n := (qs.map V.ref).length) (fun j H' => Same H4 H' ∧ H' D = some (.lst (nV ((List.range j).filter fun k => (look ld k).isSome && !(look lr k).isSome)))) ⟨same_upd nD, upd_same⟩ ?_ ?_
        · rintro j H5 hj ⟨s5, e5⟩
          rw [hlen] at hj
          have gl : DGet H5 lf (.int (0 + (j : Int))) ((look ld j).map fun _ => V.bl true) := by
            rw [Int.zero_add]
            exact get_b (s5 _ _ elf4) j
          have gr : DGet H5 rt (.int (0 + (j : Int))) ((look lr j).map fun _ => V.bl true) := by
            rw [Int.zero_add]
            exact get_b (s5 _ _ ert4) j
          have no : ((look ld j).isSome && !(look lr j).isSome) = false → H5 D = some (.lst (nV ((List.range (j + 1)).filter fun k => (look ld k).isSome && !(look lr k).isSome))) := fun c => by
            rw [List.range_succ, List.filter_append, List.filter_cons_of_neg (by rw [c]; exact Bool.false_ne_true), List.filter_nil, List.append_nil]
            exact e5
          refine ⟨rfl, _, rfl, _, rfl, lf, _, rfl, gl, _, rfl, ?_⟩
          cases c : look ld j with
          | none => exact if_f rfl (if_f rfl ⟨s5, no (by rw [c]; rfl)⟩)
          | some i =>
            refine if_t rfl ⟨_, rfl, _, rfl, rt, _, rfl, gr, _, rfl, ?_⟩
            cases c2 : look lr j with
            | some i2 => exact if_f rfl ⟨s5, no (by rw [c, c2]; rfl)⟩
            | none =>
              refine if_t rfl ⟨_, rfl, _, e5, ?_, same_put s5 nD, ?_⟩
              · rw [List.length_map]
                have := List.length_filter_le (fun k => (look ld k).isSome && !(look lr k).isSome) (List.range j)
                rw [List.length_range] at this
                exact small1000 (by omega)
              · rw [upd_same, List.range_succ, List.filter_append, List.filter_cons_of_pos (by rw [c, c2]; rfl), List.filter_nil, Int.zero_add]
                exact congrArg (fun x => some (HO.lst x)) (nV_add _ j).symm
        · rintro H5 ⟨s5, e5⟩
          rw [hlen] at e5
          have some_of : ∀ {l : List (Nat × Nat)} {k : Nat}, (look l k).isSome = true → look l k ≠ none := fun h z => by
            rw [z] at h
            cases h
          have of_some : ∀ {l : List (Nat × Nat)} {k : Nat}, look l k ≠ none → (look l k).isSome = true := fun {l k} h => by
            cases c : look l k with
            | none => exact absurd c h
            | some v => rfl
          refine q H5 D (fun k => (look ld k).isSome) (fun k => (look lr k).isSome) (s4.trans s5) nD0 e5 ⟨fun i hi hl => ?_, fun i j hi ha => of_some (out i (some_of hi) j ha), fun j hj => ?_⟩
          · exact of_some ((wv.base i hi hl).resolve_left fun z => nomatch z)
          · obtain ⟨i, h1, h2⟩ := wv.back j (some_of hj)
            exact ⟨i, h1, of_some (h2.resolve_left fun z => nomatch z)⟩
      · rw [List.concat_eq_append] at *
        have hb : (!(ws' ++ [one]).isEmpty) = true := by cases ws' <;> rfl
        obtain ⟨hDone, hone⟩ := wv.dl one (List.mem_append_right _ List.mem_cons_self)
        obtain ⟨q1, r, atq, hr1, er, nq⟩ := hLL.get hone
        rw [nV_add] at ew4
        refine ⟨_, rfl, if_t hb ⟨fun σ' H' => ∃ (ld' lr' : List (Nat × Nat)) (ws2 : List Nat) (y5 y7 : Option V), σ' = [some (.ref a), some (.ref n), some (.ref h), some (.ref lf), some (.ref rt), y5, some (.ref wt), y7] ∧ Same H H' ∧ H' lf = some (.dK (dB ld')) ∧ H' rt = some (.dK (dB lr')) ∧ H' wt = some (.lst (nV ws2)) ∧ Wave L ln la ld' lr' DL ws2 ∧
          (∀ i, look ld' i ≠ none → ∀ j, Adj L i j → look lr' j ≠ none) ∧ ws2.length + (L.length - lr'.length) < (ws' ++ [one]).length + (L.length - lr.length), ?_, ?_⟩⟩
        · rintro σ' H' ⟨ld', lr', ws2, z5, z7, rfl, w1, w2, w3, w4, w5, w6, lt'⟩
          exact ⟨_, lt', ld', lr', ws2, z5, z7, rfl, w1, w2, w3, w4, w5, w6, rfl, by omega⟩
        · refine ⟨_, rfl, .inl ⟨rfl, _, sqL_of ew4⟩, wt, _, .int one, rfl, rfl, ew4, ?_, ?_⟩
          · rw [List.length_append, List.getElem?_append_right (by show _ ≤ _ + 1 - 1; omega)]
            simp
          rw [List.dropLast_concat]
          have s5 : Same H (upd H4 wt (.lst (nV ws'))) := same_put s4 nwt
          have elf5 : (upd H4 wt (.lst (nV ws'))) lf = some (.dK (dB ld)) := by
            rw [upd_ne nlw]
            exact elf4
          have pl := put_b elf5 wv.kl.nd (by have := wv.kl.len; omega) one 0
          have s6 : Same H (upd (upd H4 wt (.lst (nV ws'))) lf (.dK (dB (put ld one 0)))) := same_put s5 nlf
          refine ⟨_, rfl, _, rfl, lf, _, rfl, pl, ?_⟩
          refine ⟨_, rfl, _, rfl, a, _, _, _, rfl, rfl, sqL_of (s6 _ _ hLL.at_), atq, ?_⟩
          refine ⟨q1, rfl, ⟨_, sqL_of (s6 _ _ er)⟩, for_list (K := K) (a := q1) (xs := nV r) (fun i σ H' => Same H H' ∧ ∃ (lr' : List (Nat × Nat)) (ws2 : List Nat) (y7 : Option V), σ = [some (.ref a), some (.ref n), some (.ref h), some (.ref lf), some (.ref rt), some (.int one), some (.ref wt), y7] ∧
            H' lf = some (.dK (dB (put ld one 0))) ∧ H' rt = some (.dK (dB lr')) ∧ H' wt = some (.lst (nV ws2)) ∧ Wave L ln la (put ld one 0) lr' DL ws2 ∧ (∀ i, look (put ld one 0) i ≠ none → i ≠ one → ∀ j, Adj L i j → look lr' j ≠ none) ∧ (∀ j ∈ r.take i, look lr' j ≠ none) ∧
            ws2.length + (L.length - lr'.length) < (ws' ++ [one]).length + (L.length - lr.length))
            ⟨s6, lr, ws', y7, rfl, upd_same, ?_, ?_, ⟨wv.kl.put 0 hone, wv.kr, fun i hi hl => ?_, fun j hj => ?_, fun i hi => wv.dl i (List.mem_append_left _ hi)⟩, fun i hi hne j ha => ?_, (fun j hj => nomatch hj), ?_⟩ (fun i σ H' _ ⟨s, _⟩ => sqL_of (s _ _ er)) ?_ ?_⟩
          · rw [upd_ne nlr.symm, upd_ne nrw]
            exact ert4
          · rw [upd_ne nlw.symm, upd_same]
          · rcases wv.base i hi hl with z | z
            · rcases List.mem_append.mp z with z | z
              · exact .inl z
              · rw [List.mem_singleton.mp z]
                exact .inr put_this
            · exact .inr (put_old z)
          · obtain ⟨i, h1, h2⟩ := wv.back j hj
            refine ⟨i, h1, ?_⟩
            rcases h2 with z | z
            · rcases List.mem_append.mp z with z | z
              · exact .inl z
              · rw [List.mem_singleton.mp z]
                exact .inr put_this
            · exact .inr (put_old z)
          · rw [look_put, if_neg hne] at hi
            exact out i hi j ha
          · rw [List.length_append]
            show _ < _ + 1 + _
            omega
          · rintro i v σ H7 hi ⟨s7, lr', ws2, z7, rfl, e71, e72, e73, wv', out', seen, lt'⟩
            obtain ⟨other, rfl, ho⟩ := nV_get hi
            have hadj : Adj L one other := ⟨r, hr1, List.mem_of_getElem? ho⟩
            have etk : r.take (i + 1) = r.take i ++ [other] := by
              rw [List.take_add_one, ho]
              rfl
            obtain ⟨i1, hla, hDi⟩ := cl.back other (cl.out one other hDone hadj)
            have hi1 := pk.val hla
            have gr := get_b e72 other
            refine ⟨_, rfl, _, rfl, rt, _, rfl, gr, _, rfl, ?_⟩
            cases c : look lr' other with
            | some v =>
              refine if_f rfl ⟨s7, lr', ws2, _, rfl, e71, e72, e73, wv', out', fun j hj => ?_, lt'⟩
              rw [etk] at hj
              rcases List.mem_append.mp hj with z | z
              · exact seen j z
              · rw [List.mem_singleton.mp z, c]
                exact fun z => nomatch z
            | none =>
              have kr2 := wv'.kr.put 0 (hA _ _ hadj)
              have hlen2 := kr2.len
              have hlen3 : (put lr' other 0).length = lr'.length + 1 := by
                rw [put_new c, List.length_append]
                rfl
              have pr := put_b e72 wv'.kr.nd (by omega) other 0
              have s8 : Same H (upd H7 rt (.dK (dB (put lr' other 0)))) := same_put s7 nrt
              have g1 : DGet (upd H7 rt (.dK (dB (put lr' other 0)))) h (.int other) (some (.int i1)) := by
                have := get_n (s8 _ _ eh) other
                rw [hla] at this
                exact this
              have e83 : (upd H7 rt (.dK (dB (put lr' other 0)))) wt = some (.lst (nV ws2)) := by
                rw [upd_ne nrw.symm]
                exact e73
              refine if_t rfl ⟨_, rfl, _, rfl, rt, _, rfl, pr, _, rfl, .inl ⟨rfl, _, sqL_of e83⟩, _, rfl, _, rfl, h, _, rfl, g1, wt, _, _, rfl, rfl, e83, ?_, same_put s8 nwt, put lr' other 0, ws2 ++ [i1], _, rfl, ?_, ?_, ?_, ⟨wv'.kl, kr2, fun k hk hl => ?_, fun j hj => ?_, fun k hk => ?_⟩, fun k hk hne j ha => put_old (out' k hk hne j ha), fun j hj => ?_, ?_⟩
              · rw [List.length_map]
                exact small1000 (by omega)
              · rw [upd_ne nlw, upd_ne nlr]
                exact e71
              · rw [upd_ne nrw, upd_same]
              · rw [upd_same, nV_add]
              · exact (wv'.base k hk hl).imp (fun z => List.mem_append_left _ z) id
              · by_cases c2 : j = other
                · rw [c2]
                  exact ⟨i1, hla, .inl (List.mem_append_right _ List.mem_cons_self)⟩
                · rw [look_put, if_neg c2] at hj
                  obtain ⟨k, h1, h2⟩ := wv'.back j hj
                  exact ⟨k, h1, h2.imp (fun z => List.mem_append_left _ z) id⟩
              · rcases List.mem_append.mp hk with z | z
                · exact wv'.dl k z
                · rw [List.mem_singleton.mp z]
                  exact ⟨hDi, hi1⟩
              · rw [etk] at hj
                rcases List.mem_append.mp hj with z | z
                · exact put_old (seen j z)
                · rw [List.mem_singleton.mp z]
                  exact put_this
              · rw [List.length_append, hlen3]
                show _ + 1 + _ < _
                omega
          · rintro σ H7 ⟨s7, lr', ws2, z7, rfl, e71, e72, e73, wv', out', seen, lt'⟩
            rw [List.length_map, List.take_length] at seen
            refine ⟨put ld one 0, lr', ws2, _, _, rfl, s7, e71, e72, e73, wv', fun k hk j ha => ?_, lt'⟩
            by_cases c : k = one
            · rw [c] at ha
              exact seen j ((Adj.of hr1).mp ha)
            · exact out' k hk c j ha
end
end Fb
/-! plan: the rows, and the trips apart. -/
namespace Fb
open PySem PySem.Spec PyProof.Rows L2
abbrev CA (rides : List Ride) (trips : List Trip) (i j : Nat) : Prop := Cm (roadsM rides trips) trips i j = true
theorem adj_eq (rides : List Ride) (trips : List Trip) : Adj (afterM (roadsM rides trips) trips) = CA rides trips := funext fun _ => funext fun _ => propext adj_after
def keyOf (trips : List Trip) (i : Nat) : Nat := match trips[i]? with
  | some t => t.2.1.toNat
  | none => 0
theorem key_lt {rides : List Ride} {trips : List Trip} (okR : ∀ r ∈ rides, okRide r) (okT : ∀ t ∈ trips, okTrip t) (i j : Nat) (h : CA rides trips i j) : keyOf trips i < keyOf trips j := by
  obtain ⟨x, y, hx, hy, _⟩ := Cm_get h
  have := Cm_begin (posR okR okT) okT hx hy h
  have o := (okT x (List.mem_of_getElem? hx)).2.2.1
  unfold keyOf
  rw [hx, hy]
  show x.2.1.toNat < y.2.1.toNat
  omega
structure PlanAt (K : PySem.W.Frag) (H H' : Hp) (p r t : Addr) (qs : List Addr) (rows : List (List Nat)) (apart : List Nat) : Prop where
  same : Same H H'
  ep : SqT K H' p [.ref r, .ref t]
  nr : H r = none
  nt : H t = none
  nq : ∀ q ∈ qs, H q = none
  er : LL H' r qs rows
  et : H' t = some (.lst (nV apart))
  rt : r ≠ t
  tq : t ∉ qs
def spPlan (K : PySem.W.Frag) : Sp := fun vs H Q _ => ∃ (a b : Addr) (rides : List Ride) (trips : List Trip), vs = [.ref a, .ref b] ∧ Told2 K H a b rides trips ∧
  ∀ H' p r t qs rows apart, PlanAt K H H' p r t qs rows apart → PlanOk (CA rides trips) trips.length rows apart → Q (.ref p) H'
section
variable {P : Program} {w : World} {K : PySem.W.Frag} {mg : Str → Option Value} {base : Heap}
theorem cal_plan {f : Addr} {fd : FuncData} (F : Fn K "plan" s_plan f fd) (g : mg "plan" = some (.ref f)) (B : Bi mg) (c_behind : C8.Cal P w K mg base 6 "behind" (spBehind K) []) (c_paired : C8.Cal P w K mg base 2 "paired" (spPaired K) []) (c_apart_of : C8.Cal P w K mg base 1 "apart_of" (spApart K) []) : C8.Cal P w K mg base 7 "plan" (spPlan K) [] := by
  refine cal_of F g sc_plan (bi_plan F) (fun vs H Q E h => ?_) (fun cdv A outer s H vs Q E hr h => ?_)
  · obtain ⟨a, b, rides, trips, rfl, _⟩ := h
    rfl
  · obtain ⟨a, b, rides, trips, rfl, T, q⟩ := h
    have hu := hu_of hr
    refine ⟨_, (pss_cons (ps_set (i := 2) sc_plan.nd rfl (Or.inl rfl) (C8.pe_c c_behind hr (by decide) (by rfl) (pa_cons (pv 0) (pa_cons (pv 1) pa_nil)))) (pss_cons (ps_asg (C8.pe_c c_paired hr (by decide) (by rfl) (pa_cons (pv 2) pa_nil)) (pg_tup (by rfl) (pgs_cons (pg_name (i := 3) sc_plan.nd rfl (Or.inl rfl)) (pgs_cons (pg_name (i := 4) sc_plan.nd rfl (Or.inl rfl)) pgs_nil)))) (pss_cons (ps_set (i := 5) sc_plan.nd rfl (Or.inl rfl) (pe_lst pa_nil)) (pss_cons (ps_for PassesOwn.never rfl (pi_range1 (by rfl) B.range (pa_cons (pe_callB (r := rLenS K) call_len_seq (by rfl) B.len PySem.boot_len (pa_cons (pv 1) pa_nil)) pa_nil)) (pg_name (i := 6) sc_plan.nd rfl (Or.inl rfl)) (pss_one (ps_if (pt_cmp (pc_dnotin hu (pv 6) (pv 4))) (pss_cons (ps_set (i := 7) sc_plan.nd rfl (Or.inl rfl) (pe_lst (pa_cons (pv 6) pa_nil))) (pss_cons (ps_while PassesOwn.never (pt_cmp (pc_din hu (pe_ix (r := rIxL K) ix_list (pv 7) (pe_un un_neg pe_int) (fun _ _ => rfl)) (pv 3))) (pss_one (ps_expr (pe_bm PySem.F.plainAttrs_list PySem.F.slot_list_append PySem.F.type_list_append mt_append (pv 7) (pa_cons (pe_dget hu (pv 3) (pe_ix (r := rIxL K) ix_list (pv 7) (pe_un un_neg pe_int) (fun _ _ => rfl)) (fun _ _ => rfl)) pa_nil))))) (pss_one (ps_expr (pe_bm PySem.F.plainAttrs_list PySem.F.slot_list_append PySem.F.type_list_append mt_append (pv 5) (pa_cons (pv 7) pa_nil)))))) pss_nil))) (pss_one (ps_ret (pe_tup (pa_cons (pv 5) (pa_cons (C8.pe_c c_apart_of hr (by decide) (by rfl) (pa_cons (pv 2) (pa_cons (pv 3) (pa_cons (pv 4) pa_nil)))) pa_nil))))))))), ?_⟩
    have hp := posR T.okR T.okT
    have okT := T.okT
    have hlt := T.lenT
    obtain ⟨qt, hqt, hT⟩ := T.lT
    have ll : (qt.map V.ref).length = trips.length := by rw [List.length_map, hT.1]
    refine ⟨_, rfl, _, rfl, a, b, rides, trips, rfl, T, fun H1 af qs s1 naf hLL => ?_⟩
    have hlen := afterM_len (roadsM rides trips) trips
    have hA : ∀ i j, Adj (afterM (roadsM rides trips) trips) i j → j < (afterM (roadsM rides trips) trips).length := fun i j h => by
      rw [hlen]
      exact (Cm_lt (adj_after.mp h)).2
    refine ⟨_, rfl, af, qs, _, rfl, hLL, by omega, hA, fun H2 pp n h ln la s2 epp nn nh en eh pk hcl => ?_⟩
    have s12 := s1.trans s2
    refine ⟨pp, _, rfl, epp, rfl, _, _, rfl, _, _, rfl, rfl, ?_⟩
    refine ⟨Nat.zero_le _, fun rw nrw => ?_⟩
    have nrw0 : H rw = none := s12.free nrw
    have s3 : Same H2 (upd H2 rw (.lst [])) := same_upd nrw
    have mat : Mat (CA rides trips) (look ln) (look la) := by
      rw [← adj_eq]
      exact pk.mat
    have irr : ∀ i, ¬ CA rides trips i i := fun i h => by
      have h' : Cm (roadsM rides trips) trips i i = true := h
      rw [Cm_irr hp okT] at h'
      cases h'
    have tr : ∀ i j k, CA rides trips i j → CA rides trips j k → CA rides trips i k := fun i j k h1 h2 => Cm_trans hp okT h1 h2
    refine ⟨_, rfl, b, _, rfl, .inl (((s12.trans s3)).seq hqt), ((qt.map V.ref).length : Nat), rfl, by omega, by omega, for_range (lo := 0) (n := (qt.map V.ref).length)
      (fun i σ H' => Same H2 H' ∧ (∃ y6 y7, σ = [some (.ref a), some (.ref b), some (.ref af), some (.ref n), some (.ref h), some (.ref rw), y6, y7]) ∧ ∃ rs rows, LL H' rw rs rows ∧ Rows1 (CA rides trips) (look ln) (look la) i rows ∧ rows.length ≤ i ∧ ∀ q ∈ rs, H q = none)
      ⟨s3, ⟨none, none, rfl⟩, [], [], LL.nil upd_same, Rows1.nil, Nat.le_refl _, (fun _ h => nomatch h)⟩ ?_ ?_⟩
    · rintro i σ H3 hi ⟨s4, ⟨y6, y7, rfl⟩, rs, rows, hR, r1, hrl, nrs⟩
      rw [ll] at hi
      have gi : DGet H3 h (.int (0 + (i : Int))) ((look la i).map fun n : Nat => V.int (n : Int)) := by
        rw [Int.zero_add]
        exact get_n (s4 _ _ eh) i
      refine ⟨_, rfl, _, rfl, h, _, rfl, gi, _, rfl, ?_⟩
      cases c : look la i with
      | some j => exact if_f rfl ⟨s4, ⟨_, _, rfl⟩, rs, rows, hR, r1.skip c, by omega, nrs⟩
      | none =>
        refine if_t rfl ⟨_, rfl, Nat.succ_le_of_lt (by decide), fun ro nro => ?_⟩
        have nro0 : H ro = none := (s12.trans s4).free nro
        have nro2 : H2 ro = none := s4.free nro
        have fr := hR.free nro
        refine ⟨fun m σ H' => ∃ (row : List Nat) (last : Nat), σ = [some (.ref a), some (.ref b), some (.ref af), some (.ref n), some (.ref h), some (.ref rw), some (.int (0 + (i : Int))), some (.ref ro)] ∧ Same H2 H' ∧ LL H' rw rs rows ∧ H' ro = some (.lst (nV (row ++ [last]))) ∧
          Row (look ln) i (row ++ [last]) ∧ (row ++ [last]).Pairwise (CA rides trips) ∧ (∀ x ∈ row ++ [last], x < trips.length) ∧ m = trips.length - row.length,
          ⟨_, [], i, rfl, s4.trans (same_upd nro), hR.other fr.1 fr.2, ?_, Row.start _ _, List.pairwise_singleton _ _, fun x hx => ?_, rfl⟩, ?_⟩
        · rw [upd_same]
          show some (HO.lst [V.int (0 + (i : Int))]) = some (HO.lst [V.int (i : Int)])
          rw [Int.zero_add]
        · rw [List.mem_singleton.mp hx]
          exact hi
        rintro m σ H4 ⟨row, last, rfl, s5, hR5, e5, rok, pw, lt5, rfl⟩
        have hnd := pair_nodup irr pw
        have hle : row.length + 1 ≤ trips.length := by
          have := nodup_len (m := List.range trips.length) hnd fun x hx => List.mem_range.mpr (lt5 x hx)
          rw [List.length_append, List.length_range] at this
          exact this
        have al : atI (nV (row ++ [last])) (-1) = some (.int last) := by
          rw [nV_add]
          exact atI_last _ _
        have gl := get_n (s5 _ _ en) last
        refine ⟨_, rfl, _, rfl, ro, _, _, _, rfl, rfl, sqL_of e5, al, _, rfl, n, _, rfl, gl, _, rfl, ?_⟩
        cases c2 : look ln last with
        | none =>
          refine if_f rfl ⟨_, rfl, .inl ⟨rfl, _, sqL_of hR5.at_⟩, _, rfl, rw, _, _, rfl, rfl, hR5.at_, ?_, same_put s5 nrw, ⟨_, _, rfl⟩, rs ++ [ro], rows ++ [row ++ [last]], hR5.add fr.1 e5, r1.add c rok (Row.full (first := i) c2) pw, ?_, fun x hx => ?_⟩
          · rw [List.length_map, hR5.len]
            exact small1000 (by omega)
          · rw [List.length_append]
            show _ + 1 ≤ _
            omega
          · rcases List.mem_append.mp hx with z | z
            · exact nrs x z
            · rw [List.mem_singleton.mp z]
              exact nro0
        | some v =>
          rw [c2] at gl
          have hv := mat.ok _ _ c2
          refine if_t rfl ⟨fun σ' H' => ∃ (row' : List Nat) (last' : Nat), σ' = [some (.ref a), some (.ref b), some (.ref af), some (.ref n), some (.ref h), some (.ref rw), some (.int (0 + (i : Int))), some (.ref ro)] ∧ Same H2 H' ∧ LL H' rw rs rows ∧ H' ro = some (.lst (nV (row' ++ [last']))) ∧
            Row (look ln) i (row' ++ [last']) ∧ (row' ++ [last']).Pairwise (CA rides trips) ∧ (∀ x ∈ row' ++ [last'], x < trips.length) ∧ trips.length - row'.length < trips.length - row.length, ?_, ?_⟩
          · rintro σ' H' ⟨row', last', rfl, w1, w2, w3, w4, w5, w6, w7⟩
            exact ⟨_, w7, row', last', rfl, w1, w2, w3, w4, w5, w6, rfl⟩
          · refine ⟨_, rfl, .inl ⟨rfl, _, sqL_of e5⟩, _, rfl, _, rfl, _, rfl, ro, _, _, _, rfl, rfl, sqL_of e5, al, n, _, rfl, gl, ro, _, _, rfl, rfl, e5, ?_, row ++ [last], v, rfl, same_put s5 nro2, hR5.other fr.1 fr.2, ?_, rok.add c2, pair_add tr pw hv, fun x hx => ?_, ?_⟩
            · rw [List.length_map, List.length_append]
              exact small1000 (by show row.length + 1 ≤ 1000; omega)
            · rw [upd_same, ← nV_add]
            · rcases List.mem_append.mp hx with z | z
              · exact lt5 x z
              · rw [List.mem_singleton.mp z]
                exact (Cm_lt hv).2
            · rw [List.length_append]
              show _ - (row.length + 1) < _
              omega
    · rintro σ H3 ⟨s4, ⟨y6, y7, rfl⟩, rs, rows, hR, r1, hrl, nrs⟩
      rw [ll] at r1
      refine ⟨_, rfl, _, rfl, _, rfl, _, rfl, af, n, h, qs, _, ln, la, rfl, (hLL.same s2).same s4, s4 _ _ en, s4 _ _ eh, by omega, hA, pk, hcl, fun H4 t pL pR s5 nt et rch => ⟨(by show 2 ≤ sizeLine; decide), fun p np => ?_⟩⟩
      have hft := hR.free nt
      have s6 : Same H4 (upd H4 p (.tup [.ref rw, .ref t])) := same_upd np
      rw [adj_eq, hlen] at rch
      rw [hlen] at et
      have ok := plan_ok r1 mat rch irr (fun i j h => Cm_lt h) (key_lt T.okR okT)
      exact q _ p rw t rs rows _ ⟨((s12.trans s4).trans s5).trans s6, sqT_of upd_same, nrw0, (s12.trans s4).free nt, nrs, (hR.same s5).same s6, s6 _ _ et, hft.1.symm, hft.2⟩ ok
end
end Fb
/-! Rows and numbers apart as data, and when they hold (laws k06, k09). -/
namespace Fb
open PySem PySem.Spec PyProof.Rows L2
/-- small data: None, truths, whole numbers, texts; lists and tuples of these, n deep -/
inductive Sm : Nat → PyData → Prop
  | non (n : Nat) : Sm n .none
  | bl (n : Nat) (b : Bool) : Sm n (.bool b)
  | int (n : Nat) (i : Int) : Sm n (.int i)
  | str (n : Nat) (z : Str) (h : z.length ≤ 100) (h2 : PyData.strOk z = true) : Sm n (.str z)
  | lst {n : Nat} {ds : List PyData} (h : ds.length ≤ 300) (h2 : ∀ d ∈ ds, Sm n d) : Sm (n + 1) (.list ds)
  | tup {n : Nat} {ds : List PyData} (h : ds.length ≤ 300) (h2 : ∀ d ∈ ds, Sm n d) : Sm (n + 1) (.tuple ds)
theorem Sm.sh {n : Nat} {d : PyData} (h : Sm n d) : Sh n d := by
  induction h with
  | non n => exact sh_none.up (Nat.zero_le _)
  | bl n b => exact (sh_bool b).up (Nat.zero_le _)
  | int n i => exact (sh_int i).up (Nat.zero_le _)
  | str n z _ h2 => exact ⟨by simp only [PyData.canLay0, h2], by simp [PyData.depth]⟩
  | lst _ _ ih => exact sh_list ih
  | tup _ _ ih => exact sh_tuple ih
theorem Sm.items {n : Nat} {ds : List PyData} (h : Sm n (.list ds)) : ds.length ≤ 300 ∧ ∀ d ∈ ds, Sm n d := by
  have up : ∀ {m : Nat} {d : PyData}, Sm m d → Sm (m + 1) d := fun {m d} h => by
    induction h with
    | non n => exact .non _
    | bl n b => exact .bl _ b
    | int n i => exact .int _ i
    | str n z h h2 => exact .str _ z h h2
    | lst h _ ih => exact .lst h ih
    | tup h _ ih => exact .tup h ih
  cases h with
  | lst h h2 => exact ⟨h, fun d hd => up (h2 d hd)⟩
/-! ### what a value is, by its data -/
section
variable {K : PySem.W.Frag} {H H' : Hp}
def kdOf : PyData → Kd
  | .none => .non
  | .bool _ => .bool
  | .int _ => .int
  | .str _ => .str
  | .tuple _ => .tup
  | _ => .lst
theorem _root_.L2.Dp.plain {v : V} {d : PyData} {n : Nat} (h : Dp K H v d) (s : Sm n d) : Plain K H v (kdOf d) := by
  cases h with
  | non => exact .non
  | bl b => exact .bool b
  | int i => exact .int i
  | str z =>
    cases s with
    | str _ _ h _ => exact .str z (Nat.le_trans h (by decide))
  | lst h _ => exact .lst h
  | tup h _ => exact .tup h
theorem dp_len : ∀ {vs : List V} {ds : List PyData}, DpAll K H vs ds → vs.length = ds.length
  | [], [], _ => rfl
  | _ :: _, _ :: _, .cons _ h => by rw [List.length_cons, List.length_cons, dp_len h]
theorem dp_get : ∀ {vs : List V} {ds : List PyData} {i : Nat} {v : V}, DpAll K H vs ds → vs[i]? = some v → ∃ d, ds[i]? = some d ∧ Dp K H v d
  | _ :: _, _ :: _, 0, _, .cons h _, e => by
    cases e
    exact ⟨_, rfl, h⟩
  | _ :: _, _ :: _, i + 1, _, .cons _ h, e => dp_get (i := i) h e
theorem dp_at {vs : List V} {ds : List PyData} {i : Nat} (h : DpAll K H vs ds) (hi : i < ds.length) : ∃ v d, vs[i]? = some v ∧ ds[i]? = some d ∧ Dp K H v d := by
  have hv : vs[i]? = some (vs[i]'(by rw [dp_len h]; exact hi)) := List.getElem?_eq_getElem _
  obtain ⟨d, hd, p⟩ := dp_get h hv
  exact ⟨_, d, hv, hd, p⟩
mutual
theorem dp_same {v : V} {d : PyData} (h : Dp K H v d) (s : Same H H') : Dp K H' v d := by
  cases h with
  | non => exact .non
  | bl b => exact .bl b
  | int i => exact .int i
  | str z => exact .str z
  | lst h h2 => exact .lst (s.seq h) (dps_same h2 s)
  | tup h h2 => exact .tup (same_seqT s h) (dps_same h2 s)
theorem dps_same {vs : List V} {ds : List PyData} (h : DpAll K H vs ds) (s : Same H H') : DpAll K H' vs ds := by
  cases h with
  | nil => exact .nil
  | cons h h2 => exact .cons (dp_same h s) (dps_same h2 s)
end
theorem _root_.L2.Dp.same {v : V} {d : PyData} (h : Dp K H v d) (s : Same H H') : Dp K H' v d := dp_same h s
theorem _root_.L2.DpAll.same {vs : List V} {ds : List PyData} (h : DpAll K H vs ds) (s : Same H H') : DpAll K H' vs ds := dps_same h s
/-- a list is a list -/
theorem _root_.L2.Dp.lst_of {v : V} {ds : List PyData} (h : Dp K H v (.list ds)) : ∃ a xs, v = .ref a ∧ SqL K H a xs ∧ DpAll K H xs ds := by
  cases h with
  | lst h h2 => exact ⟨_, _, rfl, h, h2⟩
/-- whole, from lo to hi -/
theorem whole_t {v : V} {d : PyData} {lo hi : Int} (h : Dp K H v d) (w : isWhole v lo hi = true) : ∃ i, v = .int i ∧ d = .int i ∧ lo ≤ i ∧ i ≤ hi := by
  cases h with
  | int i =>
    have w : (decide (lo ≤ i) && decide (i ≤ hi)) = true := w
    rw [Bool.and_eq_true] at w
    exact ⟨i, rfl, rfl, of_decide_eq_true w.1, of_decide_eq_true w.2⟩
  | _ => cases w
theorem whole_f {v : V} {i lo hi : Int} (h : Dp K H v (.int i)) (w : isWhole v lo hi = false) : ¬ (lo ≤ i ∧ i ≤ hi) := by
  cases h with
  | int i =>
    intro ⟨h1, h2⟩
    have w : (decide (lo ≤ i) && decide (i ≤ hi)) = false := w
    rw [decide_eq_true h1, decide_eq_true h2] at w
    cases w
end
/-! ### when they hold -/
def natD (k : Nat) : PyData := .int (k : Int)
def natsD (l : List Nat) : PyData := .list (l.map natD)
theorem natD_inj {a b : Nat} (h : natD a = natD b) : a = b := Int.ofNat.inj (PyData.int.inj h)
theorem map_inj_of {α β : Type} {f : α → β} (hf : ∀ a b, f a = f b → a = b) : ∀ {l m : List α}, l.map f = m.map f → l = m
  | [], [], _ => rfl
  | [], _ :: _, h => by cases h
  | _ :: _, [], h => by cases h
  | a :: l, b :: m, h => by
    rw [List.map_cons, List.map_cons] at h
    rw [hf a b (List.cons.inj h).1, map_inj_of hf (List.cons.inj h).2]
theorem natsD_inj {l m : List Nat} (h : natsD l = natsD m) : l = m := map_inj_of (fun _ _ => natD_inj) (PyData.list.inj h)
theorem natsDs_inj {l m : List (List Nat)} (h : l.map natsD = m.map natsD) : l = m := map_inj_of (fun _ _ => natsD_inj) h
/-- each next one behind the one ahead -/
def Steps (A : Nat → Nat → Prop) (r : List Nat) : Prop := ∀ k x y, r[k]? = some x → r[k + 1]? = some y → A x y
structure GoodOf (A : Nat → Nat → Prop) (n : Nat) (R : List (List Nat)) (P : List Nat) : Prop where
  len : R.length = P.length
  ne : ∀ r ∈ R, r ≠ []
  st : ∀ r ∈ R, Steps A r
  nd : R.flatten.Nodup
  lt : ∀ x ∈ R.flatten, x < n
  all : n ≤ R.flatten.length
  up : P.Pairwise (· < ·)
  ltP : ∀ x ∈ P, x < n
  anti : P.Pairwise fun i j => ¬ A i j ∧ ¬ A j i
def Good (A : Nat → Nat → Prop) (n : Nat) (d e : PyData) : Prop := ∃ R P, d = .list (R.map natsD) ∧ e = natsD P ∧ GoodOf A n R P
noncomputable def goodB (A : Nat → Nat → Prop) (n : Nat) (d e : PyData) : Bool := @decide (Good A n d e) (Classical.propDecidable _)
section
variable {A : Nat → Nat → Prop} {n : Nat} {d e : PyData}
theorem good_t (h : Good A n d e) : goodB A n d e = true := by
  unfold goodB
  exact @decide_eq_true _ (Classical.propDecidable _) h
theorem good_f (h : ¬ Good A n d e) : goodB A n d e = false := by
  unfold goodB
  exact @decide_eq_false _ (Classical.propDecidable _) h
/-- the rows ahead of the i-th, and of that one the numbers ahead of the k-th, as they were met -/
structure PreR (A : Nat → Nat → Prop) (n : Nat) (ds : List PyData) (i : Nat) (R : List (List Nat)) : Prop where
  eq : ds.take i = R.map natsD
  ne : ∀ r ∈ R, r ≠ []
  st : ∀ r ∈ R, Steps A r
  nd : R.flatten.Nodup
  lt : ∀ x ∈ R.flatten, x < n
theorem PreR.nil {ds : List PyData} : PreR A n ds 0 [] := ⟨rfl, (fun _ h => nomatch h), (fun _ h => nomatch h), List.nodup_nil, (fun _ h => nomatch h)⟩
/-- where all holds, the rows met so far are the first of them -/
theorem PreR.of {ds : List PyData} {i : Nat} {R R' : List (List Nat)} (p : PreR A n ds i R) (h : ds = R'.map natsD) : R = R'.take i := natsDs_inj (by rw [← p.eq, h, List.map_take])
structure PreK (A : Nat → Nat → Prop) (n : Nat) (es : List PyData) (R : List (List Nat)) (k : Nat) (r : List Nat) : Prop where
  eq : es.take k = r.map natD
  st : Steps A r
  nd : (R.flatten ++ r).Nodup
  lt : ∀ x ∈ r, x < n
theorem PreK.len {es : List PyData} {R : List (List Nat)} {k : Nat} {r : List Nat} (p : PreK A n es R k r) (hk : k ≤ es.length) : r.length = k := by
  have := congrArg List.length p.eq
  rw [List.length_take, List.length_map] at this
  omega
/-- in a row that is one, behind what was met, stands a number that wasn't, in time -/
theorem good_row {ds es : List PyData} {i k : Nat} {R : List (List Nat)} {r : List Nat} {x : PyData} (h : Good A n (.list ds) e) (p : PreR A n ds i R) (hd : ds[i]? = some (.list es)) (q : PreK A n es R k r) (hx : es[k]? = some x) :
    ∃ y : Nat, x = natD y ∧ y < n ∧ y ∉ R.flatten ∧ y ∉ r ∧ ∀ z, r[k - 1]? = some z → 0 < k → A z y := by
  obtain ⟨R', P, h1, _, g⟩ := h
  have h1 : ds = R'.map natsD := PyData.list.inj h1
  have eR := p.of h1
  have hk : k < es.length := (List.getElem?_eq_some_iff.mp hx).1
  have hrl := q.len (Nat.le_of_lt hk)
  rw [h1, List.getElem?_map] at hd
  cases hr' : R'[i]? with
  | none => rw [hr'] at hd; cases hd
  | some r' =>
    rw [hr'] at hd
    have he : es = r'.map natD := (PyData.list.inj (Option.some.inj hd)).symm
    have er : r = r'.take k := map_inj_of (f := natD) (fun _ _ => natD_inj) (by rw [← q.eq, he, List.map_take])
    rw [he, List.getElem?_map] at hx
    cases hy : r'[k]? with
    | none => rw [hy] at hx; cases hx
    | some y =>
      rw [hy] at hx
      have hmem : r' ∈ R' := List.mem_of_getElem? hr'
      have hf : (R'.take (i + 1)).flatten = R.flatten ++ r' := by
        rw [List.take_add_one, hr', List.flatten_append, eR]
        simp
      have hsub : ((R'.take (i + 1)).flatten).Sublist R'.flatten := by
        have e : R'.flatten = (R'.take (i + 1)).flatten ++ (R'.drop (i + 1)).flatten := by rw [← List.flatten_append, List.take_append_drop]
        rw [e]
        exact List.sublist_append_left _ _
      have hnd : (R.flatten ++ r').Nodup := by
        rw [← hf]
        exact g.nd.sublist hsub
      have hsplit : r' = r ++ y :: r'.drop (k + 1) := by
        have h1 : r'.drop k = y :: r'.drop (k + 1) := by
          have hlt := (List.getElem?_eq_some_iff.mp hy)
          obtain ⟨hl, hv⟩ := hlt
          rw [List.drop_eq_getElem_cons hl, hv]
        rw [er, ← h1, List.take_append_drop]
      refine ⟨y, (Option.some.inj hx).symm, g.lt y (List.mem_flatten.mpr ⟨r', hmem, List.mem_of_getElem? hy⟩), fun hm => ?_, fun hm => ?_, fun z hz h0 => ?_⟩
      · exact (List.nodup_append.mp hnd).2.2 y hm y (List.mem_of_getElem? hy) rfl
      · have h2 := (List.nodup_append.mp hnd).2.1
        rw [hsplit] at h2
        exact (List.nodup_append.mp h2).2.2 y hm y List.mem_cons_self rfl
      · have hz' : r'[k - 1]? = some z := by
          rw [er, List.getElem?_take_of_lt (by omega)] at hz
          exact hz
        refine g.st r' hmem (k - 1) z y hz' ?_
        rw [show k - 1 + 1 = k by omega]
        exact hy
/-- each row is a list, and none is empty -/
theorem good_lst {ds : List PyData} {i : Nat} {x : PyData} (h : Good A n (.list ds) e) (hd : ds[i]? = some x) : ∃ es, x = .list es ∧ es ≠ [] := by
  obtain ⟨R', P, h1, _, g⟩ := h
  have h1 : ds = R'.map natsD := PyData.list.inj h1
  rw [h1, List.getElem?_map] at hd
  cases hr' : R'[i]? with
  | none => rw [hr'] at hd; cases hd
  | some r' =>
    rw [hr'] at hd
    refine ⟨r'.map natD, (Option.some.inj hd).symm, fun z => g.ne r' (List.mem_of_getElem? hr') ?_⟩
    cases r' with
    | nil => rfl
    | cons _ _ => cases z
/-- the row is met -/
theorem PreK.done {ds es : List PyData} {i : Nat} {R : List (List Nat)} {r : List Nat} (q : PreK A n es R es.length r) (p : PreR A n ds i R) (hd : ds[i]? = some (.list es)) (hne : es ≠ []) : PreR A n ds (i + 1) (R ++ [r]) := by
  have he : es = r.map natD := by rw [← q.eq, List.take_length]
  have hf : (R ++ [r]).flatten = R.flatten ++ r := by rw [List.flatten_append]; simp
  refine ⟨?_, fun r' hr => ?_, fun r' hr => ?_, by rw [hf]; exact q.nd, fun x hx => ?_⟩
  · rw [List.take_add_one, hd, p.eq, List.map_append, he]
    rfl
  · rcases List.mem_append.mp hr with z | z
    · exact p.ne r' z
    · rw [List.mem_singleton.mp z]
      intro z2
      rw [z2] at he
      exact hne he
  · rcases List.mem_append.mp hr with z | z
    · exact p.st r' z
    · rw [List.mem_singleton.mp z]
      exact q.st
  · rw [hf] at hx
    rcases List.mem_append.mp hx with z | z
    · exact p.lt x z
    · exact q.lt x z
/-- one number more -/
theorem PreK.add {es : List PyData} {R : List (List Nat)} {k y : Nat} {r : List Nat} (q : PreK A n es R k r) (hx : es[k]? = some (natD y)) (hy : y < n) (h1 : y ∉ R.flatten) (h2 : y ∉ r) (hs : ∀ z, r[k - 1]? = some z → 0 < k → A z y) : PreK A n es R (k + 1) (r ++ [y]) := by
  have hk : k < es.length := (List.getElem?_eq_some_iff.mp hx).1
  have hrl := q.len (Nat.le_of_lt hk)
  refine ⟨?_, fun j a b ha hb => ?_, ?_, fun x hx => ?_⟩
  · rw [List.take_add_one, hx, q.eq, List.map_append]
    rfl
  · by_cases hj : j + 1 < r.length
    · rw [List.getElem?_append_left (by omega)] at ha
      rw [List.getElem?_append_left hj] at hb
      exact q.st j a b ha hb
    · have hlt := (List.getElem?_eq_some_iff.mp hb).1
      rw [List.length_append] at hlt
      have hlt : j + 1 < r.length + 1 := hlt
      have ej : j + 1 = r.length := by omega
      rw [List.getElem?_append_left (by omega)] at ha
      rw [List.getElem?_append_right (by omega), ej, Nat.sub_self] at hb
      cases hb
      refine hs a ?_ (by omega)
      rw [show k - 1 = j by omega]
      exact ha
  · rw [← List.append_assoc]
    refine List.nodup_append.mpr ⟨q.nd, List.nodup_cons.mpr ⟨(fun h => nomatch h), List.nodup_nil⟩, fun a ha b hb => ?_⟩
    rw [List.mem_singleton.mp hb]
    rintro rfl
    rcases List.mem_append.mp ha with z | z
    · exact h1 z
    · exact h2 z
  · rcases List.mem_append.mp hx with z | z
    · exact q.lt x z
    · rw [List.mem_singleton.mp z]
      exact hy
/-! ### numbers apart -/
structure PreP (A : Nat → Nat → Prop) (n : Nat) (es : List PyData) (k : Nat) (P : List Nat) : Prop where
  eq : es.take k = P.map natD
  up : P.Pairwise (· < ·)
  lt : ∀ x ∈ P, x < n
  anti : P.Pairwise fun i j => ¬ A i j ∧ ¬ A j i
theorem PreP.nil {es : List PyData} : PreP A n es 0 [] := ⟨rfl, .nil, (fun _ h => nomatch h), .nil⟩
theorem PreP.len {es : List PyData} {k : Nat} {P : List Nat} (p : PreP A n es k P) (hk : k ≤ es.length) : P.length = k := by
  have := congrArg List.length p.eq
  rw [List.length_take, List.length_map] at this
  omega
theorem good_num {es : List PyData} {k : Nat} {P : List Nat} {x : PyData} (h : Good A n d (.list es)) (p : PreP A n es k P) (hx : es[k]? = some x) :
    ∃ y : Nat, x = natD y ∧ y < n ∧ (∀ z ∈ P, z < y) ∧ ∀ z ∈ P, ¬ A z y ∧ ¬ A y z := by
  obtain ⟨R', P', _, h1, g⟩ := h
  have h1 : es = P'.map natD := PyData.list.inj h1
  have eP : P = P'.take k := map_inj_of (f := natD) (fun _ _ => natD_inj) (by rw [← p.eq, h1, List.map_take])
  rw [h1, List.getElem?_map] at hx
  cases hy : P'[k]? with
  | none => rw [hy] at hx; cases hx
  | some y =>
    rw [hy] at hx
    have hsplit : P' = P ++ y :: P'.drop (k + 1) := by
      have h1 : P'.drop k = y :: P'.drop (k + 1) := by
        obtain ⟨hl, hv⟩ := List.getElem?_eq_some_iff.mp hy
        rw [List.drop_eq_getElem_cons hl, hv]
      rw [eP, ← h1, List.take_append_drop]
    have u := g.up
    have a := g.anti
    rw [hsplit] at u a
    exact ⟨y, (Option.some.inj hx).symm, g.ltP y (List.mem_of_getElem? hy), fun z hz => (List.pairwise_append.mp u).2.2 z hz y List.mem_cons_self, fun z hz => (List.pairwise_append.mp a).2.2 z hz y List.mem_cons_self⟩
theorem PreP.add {es : List PyData} {k y : Nat} {P : List Nat} (p : PreP A n es k P) (hx : es[k]? = some (natD y)) (hy : y < n) (h1 : ∀ z ∈ P, z < y) (h2 : ∀ z ∈ P, ¬ A z y ∧ ¬ A y z) : PreP A n es (k + 1) (P ++ [y]) := by
  refine ⟨?_, ?_, fun x hx => ?_, ?_⟩
  · rw [List.take_add_one, hx, p.eq, List.map_append]
    rfl
  · refine List.pairwise_append.mpr ⟨p.up, List.pairwise_singleton _ _, fun a ha b hb => ?_⟩
    rw [List.mem_singleton.mp hb]
    exact h1 a ha
  · rcases List.mem_append.mp hx with z | z
    · exact p.lt x z
    · rw [List.mem_singleton.mp z]
      exact hy
  · refine List.pairwise_append.mpr ⟨p.anti, List.pairwise_singleton _ _, fun a ha b hb => ?_⟩
    rw [List.mem_singleton.mp hb]
    exact h2 a ha
/-- the last one is the greatest -/
theorem PreP.last {es : List PyData} {k y z : Nat} {P : List Nat} (p : PreP A n es k P) (hk : k ≤ es.length) (hz : P[k - 1]? = some z) (h : z < y) : ∀ x ∈ P, x < y := fun x hx => by
  obtain ⟨i, hi, e⟩ := List.mem_iff_getElem.mp hx
  have hl := p.len hk
  by_cases c : i = k - 1
  · subst c
    rw [List.getElem?_eq_getElem hi, e] at hz
    cases hz
    exact h
  · have h2 : k - 1 < P.length := (List.getElem?_eq_some_iff.mp hz).1
    have := List.pairwise_iff_getElem.mp p.up i (k - 1) hi h2 (by omega)
    rw [List.getElem?_eq_getElem h2] at hz
    cases hz
    rw [e] at this
    omega
/-- all is met -/
theorem good_of {ds es : List PyData} {R : List (List Nat)} {P : List Nat} (p : PreR A n ds ds.length R) (q : PreP A n es es.length P) (hl : ds.length = es.length) (ha : n ≤ R.flatten.length) : Good A n (.list ds) (.list es) := by
  have h1 : ds = R.map natsD := by rw [← p.eq, List.take_length]
  have h2 : es = P.map natD := by rw [← q.eq, List.take_length]
  refine ⟨R, P, by rw [h1], by rw [h2]; rfl, ?_, p.ne, p.st, p.nd, p.lt, ha, q.up, q.lt, q.anti⟩
  rw [h1, h2, List.length_map, List.length_map] at hl
  exact hl
theorem good_all {ds : List PyData} {R : List (List Nat)} (h : Good A n (.list ds) e) (p : PreR A n ds ds.length R) : n ≤ R.flatten.length := by
  obtain ⟨R', P, h1, _, g⟩ := h
  have h1 : ds = R'.map natsD := PyData.list.inj h1
  have eR := p.of h1
  rw [List.take_of_length_le (by rw [h1, List.length_map]; exact Nat.le_refl _)] at eR
  rw [eR]
  exact g.all
theorem good_len {ds es : List PyData} (h : Good A n (.list ds) (.list es)) : ds.length = es.length := by
  obtain ⟨R', P, h1, h2, g⟩ := h
  have h1 : ds = R'.map natsD := PyData.list.inj h1
  have h2 : es = P.map natD := PyData.list.inj h2
  rw [h1, h2, List.length_map, List.length_map]
  exact g.len
theorem good_ll (h : Good A n d e) : (∃ ds, d = .list ds) ∧ ∃ es, e = .list es := by
  obtain ⟨R', P, h1, h2, _⟩ := h
  exact ⟨⟨_, h1⟩, ⟨_, h2⟩⟩
end
end Fb
/-! holds: of rows and numbers apart of any form. -/
namespace Fb
open PySem PySem.Spec PyProof.Rows L2
theorem inV_nat {x : Nat} : ∀ {l : List Nat}, inV (.int (x : Int)) (nV l) = decide (x ∈ l)
  | [] => rfl
  | y :: l => by
    have ih := inV_nat (x := x) (l := l)
    show (((y : Int) == (x : Int)) || inV (.int (x : Int)) (nV l)) = _
    rw [ih]
    by_cases h : y = x
    · subst h
      simp
    · have h1 : ((y : Int) == (x : Int)) = false := by
        rw [beq_eq_false_iff_ne]
        omega
      have h2 : ¬ x = y := fun z => h z.symm
      rw [h1, Bool.false_or]
      simp [h2]
theorem flat_nV (l : List Nat) : (nV l).all flatV = true := by
  rw [List.all_eq_true]
  intro v hv
  obtain ⟨k, _, rfl⟩ := List.mem_map.mp hv
  rfl
theorem notin_adj {L : List (List Nat)} {x y : Nat} {l : List Nat} (hl : L[x]? = some l) : (!inV (.int (y : Int)) (nV l)) = false ↔ Adj L x y := by
  rw [inV_nat, Adj.of hl]
  simp
theorem in_adj {L : List (List Nat)} {x y : Nat} {l : List Nat} (hl : L[x]? = some l) : inV (.int (y : Int)) (nV l) = true ↔ Adj L x y := by
  rw [inV_nat, Adj.of hl]
  simp
/-- ds == [] -/
theorem eqv_nil {ds : List PyData} : PyData.eqv (.list ds) (.list []) = ds.isEmpty := by
  cases ds with
  | nil => simp [PyData.eqv, PyData.eqvAll]
  | cons _ _ => simp [PyData.eqv, PyData.eqvAll]
def spHolds (K : PySem.W.Frag) : Sp := fun vs H Q _ => ∃ (a b : Addr) (rides : List Ride) (trips : List Trip) (x y : V) (d e : PyData), vs = [.ref a, .ref b, x, y] ∧ Told2 K H a b rides trips ∧ Dp K H x d ∧ Dp K H y e ∧ Sm 8 d ∧ Sm 8 e ∧
  ∀ H', Same H H' → Q (.bl (goodB (CA rides trips) trips.length d e)) H'
theorem kd_lst_f {d : PyData} (h : (kdOf d).isLst = false) : ∀ ds, d ≠ .list ds := fun ds z => by
  subst z
  cases h
theorem kd_lst_t {n : Nat} {d : PyData} (s : Sm n d) (h : (kdOf d).isLst = true) : ∃ ds, d = .list ds := by
  cases s with
  | lst _ _ => exact ⟨_, rfl⟩
  | _ => cases h
section
variable {P : Program} {w : World} {K : PySem.W.Frag} {mg : Str → Option Value} {base : Heap}
theorem cal_holds {f : Addr} {fd : FuncData} (F : Fn K "holds" s_holds f fd) (g : mg "holds" = some (.ref f)) (B : Bi mg) (c_looked : C8.Cal P w K mg base 3 "looked" (spLooked K) []) (c_behind : C8.Cal P w K mg base 6 "behind" (spBehind K) []) (c_is_whole : C8.Cal P w K mg base 1 "is_whole" (spWhole K) []) : C8.Cal P w K mg base 7 "holds" (spHolds K) [] := by
  refine cal_of F g sc_holds (bi_holds F) (fun vs H Q E h => ?_) (fun cdv A outer s H vs Q E hr h => ?_)
  · obtain ⟨a, b, rides, trips, x, y, d, e, rfl, _⟩ := h
    rfl
  · obtain ⟨a, b, rides, trips, x, y, d, e, rfl, T, px, py, sd, se, q⟩ := h
    have hu := hu_of hr
    refine ⟨_, (pss_cons (ps_expr (C8.pe_c c_looked hr (by decide) (by rfl) (pa_cons (pv 0) (pa_cons (pv 1) pa_nil)))) (pss_cons (ps_if (PW.pt (pw_or (pt_not (pt_val (pe_callB (r := rIsi K) call_isi (by rfl) B.isi (by decide +kernel) (pa_cons (pv 2) (pa_cons (pe_bltn (v := .ty "list") (u := .type "list") (by rfl) B.list (by decide +kernel) (by rfl)) pa_nil))))) (pw_or (pt_not (pt_val (pe_callB (r := rIsi K) call_isi (by rfl) B.isi (by decide +kernel) (pa_cons (pv 3) (pa_cons (pe_bltn (v := .ty "list") (u := .type "list") (by rfl) B.list (by decide +kernel) (by rfl)) pa_nil))))) (pw_or1 (pt_cmpR op_ne (pe_callB (r := rLenS K) call_len_seq (by rfl) B.len PySem.boot_len (pa_cons (pv 2) pa_nil)) (pe_callB (r := rLenS K) call_len_seq (by rfl) B.len PySem.boot_len (pa_cons (pv 3) pa_nil)) (nomark _)))))) (pss_one (ps_ret pe_bl)) pss_nil) (pss_cons (ps_set (i := 4) sc_holds.nd rfl (Or.inl rfl) (C8.pe_c c_behind hr (by decide) (by rfl) (pa_cons (pv 0) (pa_cons (pv 1) pa_nil)))) (pss_cons (ps_set (i := 5) sc_holds.nd rfl (Or.inl rfl) pe_dnewK) (pss_cons (ps_for PassesOwn.never rfl (pi_list (pv 2)) (pg_name (i := 6) sc_holds.nd rfl (Or.inl rfl)) (pss_cons (ps_if (PW.pt (pw_or (pt_not (pt_val (pe_callB (r := rIsi K) call_isi (by rfl) B.isi (by decide +kernel) (pa_cons (pv 6) (pa_cons (pe_bltn (v := .ty "list") (u := .type "list") (by rfl) B.list (by decide +kernel) (by rfl)) pa_nil))))) (pw_or1 (pt_cmpR (op_eqD hr.units) (pv 6) (pe_lst pa_nil) (nomark _))))) (pss_one (ps_ret pe_bl)) pss_nil) (pss_one (ps_for PassesOwn.never rfl (pi_range1 (by rfl) B.range (pa_cons (pe_callB (r := rLenS K) call_len_seq (by rfl) B.len PySem.boot_len (pa_cons (pv 6) pa_nil)) pa_nil)) (pg_name (i := 7) sc_holds.nd rfl (Or.inl rfl)) (pss_cons (ps_if (PW.pt (pw_or (pt_not (pt_val (C8.pe_c c_is_whole hr (by decide) (by rfl) (pa_cons (pe_ix (r := rIxL K) ix_list (pv 6) (pv 7) (fun _ _ => rfl)) (pa_cons pe_int (pa_cons (pe_op op_sub (pe_callB (r := rLenS K) call_len_seq (by rfl) B.len PySem.boot_len (pa_cons (pv 1) pa_nil)) pe_int) pa_nil)))))) (pw_or1 (pt_cmp (pc_din hu (pe_ix (r := rIxL K) ix_list (pv 6) (pv 7) (fun _ _ => rfl)) (pv 5)))))) (pss_one (ps_ret pe_bl)) pss_nil) (C8.pss_cut (ps_if (PW.pt (pw_and (pt_cmpR op_gt (pv 7) pe_int (nomark _)) (pw_and1 (pt_cmpR (r := rIn K true) op_notIn_seq (pe_ix (r := rIxL K) ix_list (pv 6) (pv 7) (fun _ _ => rfl)) (pe_ix (r := rIxL K) ix_list (pv 4) (pe_ix (r := rIxL K) ix_list (pv 6) (pe_op op_sub (pv 7) pe_int) (fun _ _ => rfl)) (fun _ _ => rfl)) (by rfl))))) (pss_one (ps_ret pe_bl)) pss_nil) (pss_one (ps_dput hu (pv 5) (pe_ix (r := rIxL K) ix_list (pv 6) (pv 7) (fun _ _ => rfl)) pe_bl rfl)))))))) (pss_cons (ps_if (pt_cmpR op_lt (pe_callB call_lenD (by rfl) B.len PySem.boot_len (pa_cons (pv 5) pa_nil)) (pe_callB (r := rLenS K) call_len_seq (by rfl) B.len PySem.boot_len (pa_cons (pv 1) pa_nil)) (nomark _)) (pss_one (ps_ret pe_bl)) pss_nil) (pss_cons (ps_for PassesOwn.never rfl (pi_range1 (by rfl) B.range (pa_cons (pe_callB (r := rLenS K) call_len_seq (by rfl) B.len PySem.boot_len (pa_cons (pv 3) pa_nil)) pa_nil)) (pg_name (i := 7) sc_holds.nd rfl (Or.inl rfl)) (C8.pss_cut (ps_if (PW.pt (pw_or (pt_not (pt_val (C8.pe_c c_is_whole hr (by decide) (by rfl) (pa_cons (pe_ix (r := rIxL K) ix_list (pv 3) (pv 7) (fun _ _ => rfl)) (pa_cons pe_int (pa_cons (pe_op op_sub (pe_callB (r := rLenS K) call_len_seq (by rfl) B.len PySem.boot_len (pa_cons (pv 1) pa_nil)) pe_int) pa_nil)))))) (pw_or1 (PW.pt (pw_and (pt_cmpR op_gt (pv 7) pe_int (nomark _)) (pw_and1 (pt_cmpR op_le (pe_ix (r := rIxL K) ix_list (pv 3) (pv 7) (fun _ _ => rfl)) (pe_ix (r := rIxL K) ix_list (pv 3) (pe_op op_sub (pv 7) pe_int) (fun _ _ => rfl)) (nomark _)))))))) (pss_one (ps_ret pe_bl)) pss_nil) (pss_one (ps_for PassesOwn.never rfl (pi_list (pe_slice sl_list (pv 3) po_none (po_some (pv 7)))) (pg_name (i := 8) sc_holds.nd rfl (Or.inl rfl)) (pss_one (ps_if (PW.pt (pw_or (pt_cmpR (r := rIn K false) op_in_seq (pe_ix (r := rIxL K) ix_list (pv 3) (pv 7) (fun _ _ => rfl)) (pe_ix (r := rIxL K) ix_list (pv 4) (pv 8) (fun _ _ => rfl)) (by rfl)) (pw_or1 (pt_cmpR (r := rIn K false) op_in_seq (pv 8) (pe_ix (r := rIxL K) ix_list (pv 4) (pe_ix (r := rIxL K) ix_list (pv 3) (pv 7) (fun _ _ => rfl)) (fun _ _ => rfl)) (by rfl))))) (pss_one (ps_ret pe_bl)) pss_nil)))))) (pss_one (ps_ret pe_bl))))))))), ?_⟩
    obtain ⟨qt, hqt, hTt⟩ := T.lT
    have ll : (qt.map V.ref).length = trips.length := by rw [List.length_map, hTt.1]
    have h101 := T.lenT
    have no : ∀ {H'}, Same H H' → ¬ Good (CA rides trips) trips.length d e → Q (.bl false) H' := fun s h => by
      have := q _ s
      rw [good_f h] at this
      exact this
    refine ⟨_, rfl, _, rfl, a, b, rides, trips, rfl, T, ?_⟩
    refine ⟨_, rfl, _, _, _, _, _, rfl, .ty _, ((px.plain sd)).ty, kit_ty (kd_lst (kdOf d)), _, rfl, ?_⟩
    cases k1 : (kdOf d).isLst with
    | false => exact if_t rfl (if_t rfl (no (Same.refl _) fun h => (good_ll h).1.elim fun ds z => kd_lst_f k1 ds z))
    | true =>
    obtain ⟨ds, rfl⟩ := kd_lst_t sd k1
    refine if_f rfl ⟨_, rfl, _, _, _, _, _, rfl, .ty _, ((py.plain se)).ty, kit_ty (kd_lst (kdOf e)), _, rfl, ?_⟩
    cases k2 : (kdOf e).isLst with
    | false => exact if_t rfl (if_t rfl (no (Same.refl _) fun h => (good_ll h).2.elim fun ds z => kd_lst_f k2 ds z))
    | true =>
    obtain ⟨es, rfl⟩ := kd_lst_t se k2
    obtain ⟨ax, xs, rfl, hX, dX⟩ := px.lst_of
    obtain ⟨ay, ys, rfl, hY, dY⟩ := py.lst_of
    have lx := dp_len dX
    have ly := dp_len dY
    have hd300 := sd.items.1
    have he300 := se.items.1
    refine if_f rfl ⟨_, rfl, ax, _, rfl, .inl hX, _, rfl, ay, _, rfl, .inl hY, rfl, _, rfl, ?_⟩
    cases c0 : decide (V.int (xs.length : Int) = V.int (ys.length : Int)) with
    | false =>
      have hne := of_decide_eq_false c0
      refine if_t rfl (no (Same.refl _) fun h => hne ?_)
      rw [lx, ly, good_len h]
    | true =>
    have hlen : ds.length = es.length := by
      have := V.int.inj (of_decide_eq_true c0)
      omega
    refine if_f rfl ?_
    refine ⟨_, rfl, _, rfl, a, b, rides, trips, rfl, T, fun H1 af qs s1 naf hLL => ?_⟩
    intro dn ndn
    have ndn0 : H dn = none := s1.free ndn
    have alen := afterM_len (roadsM rides trips) trips
    obtain ⟨H2, hH2⟩ : ∃ H2, H2 = upd H1 dn (.dK []) := ⟨_, rfl⟩
    rw [← hH2]
    have s12 : Same H1 H2 := hH2 ▸ same_upd ndn
    have edn2 : H2 dn = some (.dK (dB [])) := by
      rw [hH2, upd_same]
      rfl
    have wh : ∀ {H' : Hp} {v : V} {dd : PyData}, Dp K H' v dd → Sm 8 dd → ∃ k, Plain K H' v k := fun p s => ⟨_, p.plain s⟩
    -- the rows
    refine ⟨_, rfl, ax, rfl, ⟨_, (s1.trans s12).seq hX⟩, for_list (K := K) (a := ax) (xs := xs) (fun i σ H' => Same H1 H' ∧ ∃ (R : List (List Nat)) (l : List (Nat × Nat)) (y6 y7 : Option V), σ = [some (.ref a), some (.ref b), some (.ref ax), some (.ref ay), some (.ref af), some (.ref dn), y6, y7, none] ∧
      H' dn = some (.dK (dB l)) ∧ l.map (·.1) = R.flatten ∧ PreR (CA rides trips) trips.length ds i R) ⟨s12, [], [], none, none, rfl, edn2, rfl, PreR.nil⟩ (fun i σ H' _ ⟨s, _⟩ => (s1.trans s).seq hX) ?_ ?_⟩
    · rintro i v σ H3 hi ⟨s3, R, l, y6, y7, rfl, edn, hl, pre⟩
      obtain ⟨dv, hdv, pv0⟩ := dp_get dX hi
      have sdv := sd.items.2 dv (List.mem_of_getElem? hdv)
      have S3 := s1.trans s3
      have pv3 := pv0.same S3
      refine ⟨_, rfl, _, _, _, _, _, rfl, .ty _, ((pv3.plain sdv)).ty, kit_ty (kd_lst (kdOf dv)), _, rfl, ?_⟩
      cases k3 : (kdOf dv).isLst with
      | false => exact if_t rfl (if_t rfl (no S3 fun h => (good_lst h hdv).elim fun es z => kd_lst_f k3 es z.1))
      | true =>
      obtain ⟨rs, rfl⟩ := kd_lst_t sdv k3
      obtain ⟨ar, zs, rfl, hZ, dZ⟩ := pv0.lst_of
      have lz := dp_len dZ
      have hz300 := sdv.items.1
      refine if_f rfl ⟨_, rfl, Nat.zero_le _, fun e1 n1 => ?_⟩
      have s4 : Same H3 (upd H3 e1 (.lst [])) := same_upd n1
      refine ⟨_, _, pv3.same s4, .lst (sqL_of upd_same) .nil, sdv.sh.ok (by decide), sh_nil0.ok (by decide), ?_⟩
      rw [eqv_nil]
      cases k4 : rs.isEmpty with
      | true =>
        refine ⟨_, rfl, if_t rfl (no (S3.trans s4) fun h => ?_)⟩
        obtain ⟨es', z1, z2⟩ := good_lst h hdv
        cases z1
        exact z2 (List.isEmpty_iff.mp k4)
      | false =>
      refine ⟨_, rfl, if_f rfl ?_⟩
      have hne : rs ≠ [] := fun z => by
        rw [z] at k4
        cases k4
      obtain ⟨H4, hH4⟩ : ∃ H4, H4 = upd H3 e1 (.lst []) := ⟨_, rfl⟩
      rw [← hH4] at s4 ⊢
      clear hH4
      have edn4 := s4 _ _ edn
      have S4 := s3.trans s4
      refine ⟨_, rfl, ar, _, rfl, .inl ((s1.trans S4).seq hZ), (zs.length : Nat), rfl, by omega, by omega, for_range (lo := 0) (n := zs.length) (fun k σ H' => Same H1 H' ∧ ∃ (r : List Nat) (l : List (Nat × Nat)) (y7 : Option V), σ = [some (.ref a), some (.ref b), some (.ref ax), some (.ref ay), some (.ref af), some (.ref dn), some (.ref ar), y7, none] ∧
        H' dn = some (.dK (dB l)) ∧ l.map (·.1) = R.flatten ++ r ∧ PreK (CA rides trips) trips.length rs R k r)
        ⟨S4, [], l, y7, rfl, edn4, by rw [hl, List.append_nil], ⟨rfl, (fun k x y h => by simp at h), by rw [List.append_nil]; exact pre.nd, (fun _ h => nomatch h)⟩⟩ ?_ ?_⟩
      · rintro k σ H5 hk ⟨s5, r, l5, z7, rfl, edn5, hl5, pk⟩
        have S5 := s1.trans s5
        have hZ5 := S5.seq hZ
        have dZ5 := dZ.same S5
        have ek : (0 + (k : Int)) = (k : Nat) := Int.zero_add _
        obtain ⟨v, dv2, hv, hdv2, pv5⟩ := dp_at dZ5 (show k < rs.length by omega)
        have sdv2 := sdv.items.2 dv2 (List.mem_of_getElem? hdv2)
        have av : atI zs (0 + (k : Int)) = some v := by rw [ek]; exact atI_nat hv
        have hrl := pk.len (show k ≤ rs.length by omega)
        have gr : Good (CA rides trips) trips.length (.list ds) (.list es) → _ := fun h => good_row h pre hdv pk hdv2
        -- not is_whole(..)
        refine ⟨_, rfl, _, rfl, ar, _, _, v, rfl, rfl, hZ5, av, _, rfl, b, _, rfl, .inl (S5.seq hqt), _, _, rfl, rfl, v, _, 0, ((qt.map V.ref).length : Int) - 1, rfl, pv5.plain sdv2, _, rfl, ?_⟩
        rw [ll]
        cases cw : isWhole v 0 ((trips.length : Int) - 1) with
        | false =>
          refine if_t rfl (if_t rfl (no S5 fun h => ?_))
          obtain ⟨y, hy, hyn, _⟩ := gr h
          subst hy
          exact whole_f pv5 cw ⟨by omega, by omega⟩
        | true =>
        obtain ⟨z, rfl, rfl, hz0, hz1⟩ := whole_t pv5 cw
        obtain ⟨y, hy⟩ : ∃ y : Nat, z = y := ⟨z.toNat, by omega⟩
        subst hy
        have hyn : y < trips.length := by omega
        -- in done
        refine if_f rfl ⟨_, rfl, _, rfl, ar, _, _, _, rfl, rfl, hZ5, av, _, rfl, dn, _, rfl, get_b edn5 y, _, rfl, ?_⟩
        cases cl : look l5 y with
        | some i0 =>
          refine if_t rfl (no S5 fun h => ?_)
          obtain ⟨y', hy, _, h1, h2, _⟩ := gr h
          have e := natD_inj hy
          subst e
          have hm : y ∈ l5.map (·.1) := by
            cases Classical.em (y ∈ l5.map (·.1)) with
            | inl z => exact z
            | inr z =>
              rw [look_none.mpr z] at cl
              cases cl
          rw [hl5] at hm
          rcases List.mem_append.mp hm with z | z
          · exact h1 z
          · exact h2 z
        | none =>
        have hno : y ∉ R.flatten ++ r := by
          rw [← hl5]
          exact look_none.mp cl
        have hn1 : y ∉ R.flatten := fun z => hno (List.mem_append_left _ z)
        have hn2 : y ∉ r := fun z => hno (List.mem_append_right _ z)
        have hnd5 : (l5.map (·.1)).Nodup := by
          rw [hl5]
          exact pk.nd
        have hlt5 : ∀ x ∈ l5.map (·.1), x < trips.length := fun x hx => by
          rw [hl5] at hx
          rcases List.mem_append.mp hx with z | z
          · exact pre.lt x z
          · exact pk.lt x z
        have hll5 : l5.length ≤ trips.length := by
          have := nodup_len (m := List.range trips.length) hnd5 fun x hx => List.mem_range.mpr (hlt5 x hx)
          rw [List.length_map, List.length_range] at this
          exact this
        -- in time behind the one ahead
        refine if_f rfl ⟨fun σ' H' => H' = H5 ∧ σ' = [some (.ref a), some (.ref b), some (.ref ax), some (.ref ay), some (.ref af), some (.ref dn), some (.ref ar), some (.int (0 + (k : Int))), none] ∧ ∀ z, r[k - 1]? = some z → 0 < k → CA rides trips z y, ?_, ?_⟩
        · refine ⟨_, rfl, _, _, rfl, rfl, _, rfl, ite2 (fun c1 => ?_) (fun c1 => ?_)⟩
          · have hk0 : 0 < k := by
              have := of_decide_eq_true c1
              omega
            obtain ⟨u, hu1⟩ : ∃ u, r[k - 1]? = some u := ⟨_, List.getElem?_eq_getElem (by omega)⟩
            have hut := pk.lt u (List.mem_of_getElem? hu1)
            have hvu : zs[k - 1]? = some (.int u) := by
              obtain ⟨v', d', h1, h2, h3⟩ := dp_at dZ5 (show k - 1 < rs.length by omega)
              have h4 : (rs.take k)[k - 1]? = some (natD u) := by
                rw [pk.eq, List.getElem?_map, hu1]
                rfl
              rw [List.getElem?_take_of_lt (by omega), h2] at h4
              cases h4
              cases h3
              exact h1
            have ek1 : (0 + (k : Int)) - 1 = ((k - 1 : Nat) : Int) := by omega
            have au : atI zs (0 + (k : Int) - 1) = some (.int u) := by rw [ek1]; exact atI_nat hvu
            obtain ⟨q1, lu, atq, hlu, eru, _⟩ := (hLL.same s5).get (show u < (afterM (roadsM rides trips) trips).length by omega)
            refine ⟨_, rfl, _, rfl, ar, _, _, _, rfl, rfl, hZ5, av, _, rfl, _, rfl, _, rfl, _, _, rfl, rfl, ar, _, _, _, rfl, rfl, hZ5, au, af, _, _, _, rfl, rfl, sqL_of (s5 _ _ hLL.at_), atq, q1, _, rfl, .inl (sqL_of eru), rfl, flat_nV lu, ?_⟩
            cases cn : (!inV (.int (y : Int)) (nV lu)) with
            | true =>
              refine ⟨_, rfl, if_t rfl (no S5 fun h => ?_)⟩
              obtain ⟨y', hy, _, _, _, h3⟩ := gr h
              have e := natD_inj hy
              subst e
              have := (notin_adj hlu).mpr (adj_after.mpr (h3 u hu1 hk0))
              rw [cn] at this
              cases this
            | false =>
              refine ⟨_, rfl, if_f rfl ⟨rfl, rfl, fun z hz _ => ?_⟩⟩
              rw [hu1] at hz
              cases hz
              exact adj_after.mp ((notin_adj hlu).mp cn)
          · refine if_f rfl ⟨rfl, rfl, fun z _ h0 => absurd (decide_eq_true (show (0 + (k : Int)) > 0 by omega)) c1⟩
        · rintro σ' H' ⟨rfl, rfl, hs⟩
          refine ⟨_, rfl, _, rfl, _, rfl, ar, _, _, _, rfl, rfl, hZ5, av, dn, _, rfl, put_b edn5 hnd5 (by omega) y 0, same_put s5 ndn, r ++ [y], put l5 y 0, _, rfl, upd_same, ?_, pk.add hdv2 hyn hn1 hn2 hs⟩
          rw [put_new cl, List.map_append, hl5, List.append_assoc]
          rfl
      · rintro σ H5 ⟨s5, r, l5, z7, rfl, edn5, hl5, pk⟩
        rw [lz] at pk
        refine ⟨s5, R ++ [r], l5, _, _, rfl, edn5, ?_, pk.done pre hdv hne⟩
        rw [hl5, List.flatten_append]
        simp
    · rintro σ H3 ⟨s3, R, l, y6, y7, rfl, edn, hl, pre⟩
      rw [lx] at pre
      have S3 := s1.trans s3
      have lR : l.length = R.flatten.length := by rw [← hl, List.length_map]
      refine ⟨_, rfl, dn, _, rfl, edn, _, rfl, b, _, rfl, .inl (S3.seq hqt), _, _, rfl, rfl, _, rfl, ?_⟩
      rw [dOf_len, ll, lR]
      refine ite2 (fun c => ?_) (fun c => ?_)
      · refine no S3 fun h => ?_
        have := good_all h pre
        have := of_decide_eq_true c
        omega
      have hall : trips.length ≤ R.flatten.length := by
        have := of_decide_eq_false (Bool.eq_false_iff.mpr c)
        omega
      -- numbers apart
      refine ⟨_, rfl, ay, _, rfl, .inl (S3.seq hY), (ys.length : Nat), rfl, by omega, by omega, for_range (lo := 0) (n := ys.length) (fun k σ H' => Same H1 H' ∧ ∃ (P : List Nat) (y6 y7 y8 : Option V), σ = [some (.ref a), some (.ref b), some (.ref ax), some (.ref ay), some (.ref af), some (.ref dn), y6, y7, y8] ∧ PreP (CA rides trips) trips.length es k P)
        ⟨s3, [], _, _, _, rfl, PreP.nil⟩ ?_ ?_⟩
      · rintro k σ H4 hk ⟨s4, P, y6, y7, y8, rfl, pp⟩
        have S4 := s1.trans s4
        have hY4 := S4.seq hY
        have dY4 := dY.same S4
        have ek : (0 + (k : Int)) = (k : Nat) := Int.zero_add _
        obtain ⟨v, dv2, hv, hdv2, pv5⟩ := dp_at dY4 (show k < es.length by omega)
        have sdv2 := se.items.2 dv2 (List.mem_of_getElem? hdv2)
        have av : atI ys (0 + (k : Int)) = some v := by rw [ek]; exact atI_nat hv
        have hPl := pp.len (show k ≤ es.length by omega)
        refine ⟨fun σ' H' => H' = H4 ∧ σ' = [some (.ref a), some (.ref b), some (.ref ax), some (.ref ay), some (.ref af), some (.ref dn), y6, some (.int (0 + (k : Int))), y8] ∧ ∃ y : Nat, v = .int y ∧ dv2 = natD y ∧ y < trips.length ∧ ∀ x ∈ P, x < y, ?_, ?_⟩
        · refine ⟨_, rfl, _, rfl, ay, _, _, v, rfl, rfl, hY4, av, _, rfl, b, _, rfl, .inl (S4.seq hqt), _, _, rfl, rfl, v, _, 0, ((qt.map V.ref).length : Int) - 1, rfl, pv5.plain sdv2, _, rfl, ?_⟩
          rw [ll]
          cases cw : isWhole v 0 ((trips.length : Int) - 1) with
          | false =>
            refine if_t rfl (if_t rfl (no S4 fun h => ?_))
            obtain ⟨y, hy, hyn, _⟩ := good_num h pp hdv2
            subst hy
            exact whole_f pv5 cw ⟨by omega, by omega⟩
          | true =>
          obtain ⟨z, rfl, rfl, hz0, hz1⟩ := whole_t pv5 cw
          obtain ⟨y, hy⟩ : ∃ y : Nat, z = y := ⟨z.toNat, by omega⟩
          subst hy
          have hyn : y < trips.length := by omega
          refine if_f rfl ⟨_, rfl, _, _, rfl, rfl, _, rfl, ite2 (fun c1 => ?_) (fun c1 => ?_)⟩
          · have hk0 : 0 < k := by
              have := of_decide_eq_true c1
              omega
            obtain ⟨u, hu1⟩ : ∃ u, P[k - 1]? = some u := ⟨_, List.getElem?_eq_getElem (by omega)⟩
            have hvu : ys[k - 1]? = some (.int u) := by
              obtain ⟨v', d', h1, h2, h3⟩ := dp_at dY4 (show k - 1 < es.length by omega)
              have h4 : (es.take k)[k - 1]? = some (natD u) := by
                rw [pp.eq, List.getElem?_map, hu1]
                rfl
              rw [List.getElem?_take_of_lt (by omega), h2] at h4
              cases h4
              cases h3
              exact h1
            have ek1 : (0 + (k : Int)) - 1 = ((k - 1 : Nat) : Int) := by omega
            have au : atI ys (0 + (k : Int) - 1) = some (.int u) := by rw [ek1]; exact atI_nat hvu
            refine ⟨_, rfl, _, rfl, ay, _, _, _, rfl, rfl, hY4, av, _, rfl, _, rfl, _, _, rfl, rfl, ay, _, _, _, rfl, rfl, hY4, au, _, _, rfl, rfl, _, rfl, ite2 (fun c2 => ?_) (fun c2 => ?_)⟩
            · refine no S4 fun h => ?_
              obtain ⟨y', hy, _, h1, _⟩ := good_num h pp hdv2
              have e := natD_inj hy
              subst e
              have h2 := h1 u (List.mem_of_getElem? hu1)
              have h3 := of_decide_eq_true c2
              omega
            · have h3 := of_decide_eq_false (Bool.eq_false_iff.mpr c2)
              exact ⟨rfl, rfl, y, rfl, rfl, hyn, pp.last (by omega) hu1 (by omega)⟩
          · refine if_f rfl ⟨rfl, rfl, y, rfl, rfl, hyn, fun x hx => ?_⟩
            have : P = [] := List.length_eq_zero_iff.mp (by
              have := of_decide_eq_false (Bool.eq_false_iff.mpr c1)
              omega)
            rw [this] at hx
            cases hx
        · rintro σ' H' ⟨rfl, rfl, y, rfl, rfl, hyn, hup⟩
          obtain ⟨qy, ly2, atqy, hly, ery, _⟩ := (hLL.same s4).get (show y < (afterM (roadsM rides trips) trips).length by omega)
          refine ⟨_, rfl, _, rfl, 0 + (k : Int), rfl, ay, _, rfl, hY4, fun c nc => ?_⟩
          have ect : cutV ys none (some (0 + (k : Int))) = ys.take k := by
            rw [ek]
            exact cut_take _ k
          rw [ect]
          have s5 : Same H' (upd H' c (.lst (ys.take k))) := same_upd nc
          have eat : ∀ {j : Nat} {v : V}, (ys.take k)[j]? = some v → ∃ u : Nat, v = .int u ∧ P[j]? = some u := fun {j v} h => by
            have hj : j < k := by
              have := (List.getElem?_eq_some_iff.mp h).1
              rw [List.length_take] at this
              omega
            rw [List.getElem?_take_of_lt hj] at h
            obtain ⟨d', h2, h3⟩ := dp_get dY4 h
            obtain ⟨u, hu1⟩ : ∃ u, P[j]? = some u := ⟨_, List.getElem?_eq_getElem (by omega)⟩
            have h4 : (es.take k)[j]? = some (natD u) := by
              rw [pp.eq, List.getElem?_map, hu1]
              rfl
            rw [List.getElem?_take_of_lt hj, h2] at h4
            cases h4
            cases h3
            exact ⟨u, rfl, hu1⟩
          refine ⟨c, rfl, ⟨_, sqL_of upd_same⟩, for_list (K := K) (a := c) (xs := ys.take k) (fun j σ H2 => H2 = upd H' c (.lst (ys.take k)) ∧ (∃ y8, σ = [some (.ref a), some (.ref b), some (.ref ax), some (.ref ay), some (.ref af), some (.ref dn), y6, some (.int (0 + (k : Int))), y8]) ∧ ∀ z ∈ P.take j, ¬ CA rides trips z y ∧ ¬ CA rides trips y z)
            ⟨rfl, ⟨_, rfl⟩, (fun _ h => nomatch h)⟩ (fun j σ H2 _ ⟨e, _⟩ => e ▸ sqL_of upd_same) ?_ ?_⟩
          · rintro j v σ H2 hj ⟨rfl, ⟨z8, rfl⟩, hno⟩
            obtain ⟨u, rfl, hu1⟩ := eat hj
            have hum := List.mem_of_getElem? hu1
            have hun := pp.lt u hum
            obtain ⟨qu, lu, atqu, hlu, eru, _⟩ := (hLL.same (s4.trans s5)).get (show u < (afterM (roadsM rides trips) trips).length by omega)
            have hLL5 := hLL.same (s4.trans s5)
            refine ⟨_, rfl, _, rfl, ay, _, _, _, rfl, rfl, s5.seq hY4, av, _, rfl, _, rfl, af, _, _, _, rfl, rfl, sqL_of hLL5.at_, atqu, qu, _, rfl, .inl (sqL_of eru), rfl, flat_nV lu, ?_⟩
            have bad : ∀ {H2}, Same H H2 → (CA rides trips u y ∨ CA rides trips y u) → Q (.bl false) H2 := fun s h => no s fun hg => by
              obtain ⟨y', hy, _, _, h2⟩ := good_num hg pp hdv2
              have e := natD_inj hy
              subst e
              rcases h with h | h
              · exact (h2 u hum).1 h
              · exact (h2 u hum).2 h
            have S5 := S4.trans s5
            cases c1 : inV (.int (y : Int)) (nV lu) with
            | true => exact ⟨_, rfl, if_t rfl (if_t rfl (bad S5 (.inl (adj_after.mp ((in_adj hlu).mp c1)))))⟩
            | false =>
            refine ⟨_, rfl, if_f rfl ?_⟩
            refine ⟨_, rfl, _, rfl, _, rfl, _, rfl, ay, _, _, _, rfl, rfl, s5.seq hY4, av, af, _, _, _, rfl, rfl, sqL_of hLL5.at_, atqy, qy, _, rfl, .inl (sqL_of (s5 _ _ ery)), rfl, flat_nV ly2, ?_⟩
            cases c2 : inV (.int (u : Int)) (nV ly2) with
            | true => exact ⟨_, rfl, if_t rfl (bad S5 (.inr (adj_after.mp ((in_adj hly).mp c2))))⟩
            | false =>
            refine ⟨_, rfl, if_f rfl ⟨rfl, ⟨_, rfl⟩, fun z hz => ?_⟩⟩
            rw [List.take_add_one, hu1] at hz
            rcases List.mem_append.mp hz with hz | hz
            · exact hno z hz
            · rw [List.mem_singleton.mp hz]
              refine ⟨fun h => ?_, fun h => ?_⟩
              · have := (in_adj hlu).mpr (adj_after.mpr h)
                rw [c1] at this
                cases this
              · have := (in_adj hly).mpr (adj_after.mpr h)
                rw [c2] at this
                cases this
          · rintro σ H2 ⟨rfl, ⟨z8, rfl⟩, hno⟩
            rw [List.take_of_length_le (by rw [List.length_take]; omega)] at hno
            exact ⟨s4.trans s5, P ++ [y], _, _, _, rfl, pp.add hdv2 hyn hup hno⟩
      · rintro σ H4 ⟨s4, P, y6, y7, y8, rfl, pp⟩
        rw [ly] at pp
        have := q _ (s1.trans s4)
        rw [good_t (good_of pre pp hlen hall)] at this
        exact this
end
end Fb
/-! Rows and numbers of any form, in lists of the law's own; odd things, what is a list of numbers (law k09). -/
namespace Fb
open PySem PySem.Spec PyProof.Rows L2
mutual
/-- as Dp, but the lists stand in the heap by themselves -/
inductive Dl (K : PySem.W.Frag) (H : Hp) : V → PyData → Prop
  | non : Dl K H .non .none
  | bl (b : Bool) : Dl K H (.bl b) (.bool b)
  | int (i : Int) : Dl K H (.int i) (.int i)
  | str (x : Str) : Dl K H (.str x) (.str x)
  | lst {a : Addr} {xs : List V} {ds : List PyData} : H a = some (.lst xs) → DlAll K H xs ds → Dl K H (.ref a) (.list ds)
  | tup {a : Addr} {xs : List V} {ds : List PyData} : SqT K H a xs → DlAll K H xs ds → Dl K H (.ref a) (.tuple ds)
inductive DlAll (K : PySem.W.Frag) (H : Hp) : List V → List PyData → Prop
  | nil : DlAll K H [] []
  | cons {v : V} {vs : List V} {d : PyData} {ds : List PyData} : Dl K H v d → DlAll K H vs ds → DlAll K H (v :: vs) (d :: ds)
end
section
variable {K : PySem.W.Frag} {H H' : Hp}
mutual
theorem dl_dp {v : V} {d : PyData} (h : Dl K H v d) : Dp K H v d := by
  cases h with
  | non => exact .non
  | bl b => exact .bl b
  | int i => exact .int i
  | str z => exact .str z
  | lst h h2 => exact .lst (sqL_of h) (dls_dp h2)
  | tup h h2 => exact .tup h (dls_dp h2)
theorem dls_dp {vs : List V} {ds : List PyData} (h : DlAll K H vs ds) : DpAll K H vs ds := by
  cases h with
  | nil => exact .nil
  | cons h h2 => exact .cons (dl_dp h) (dls_dp h2)
end
mutual
theorem dl_same {v : V} {d : PyData} (h : Dl K H v d) (s : Same H H') : Dl K H' v d := by
  cases h with
  | non => exact .non
  | bl b => exact .bl b
  | int i => exact .int i
  | str z => exact .str z
  | lst h h2 => exact .lst (s _ _ h) (dls_same h2 s)
  | tup h h2 => exact .tup (same_seqT s h) (dls_same h2 s)
theorem dls_same {vs : List V} {ds : List PyData} (h : DlAll K H vs ds) (s : Same H H') : DlAll K H' vs ds := by
  cases h with
  | nil => exact .nil
  | cons h h2 => exact .cons (dl_same h s) (dls_same h2 s)
end
theorem Dl.dp {v : V} {d : PyData} (h : Dl K H v d) : Dp K H v d := dl_dp h
theorem Dl.same {v : V} {d : PyData} (h : Dl K H v d) (s : Same H H') : Dl K H' v d := dl_same h s
theorem DlAll.dp {vs : List V} {ds : List PyData} (h : DlAll K H vs ds) : DpAll K H vs ds := dls_dp h
theorem DlAll.same {vs : List V} {ds : List PyData} (h : DlAll K H vs ds) (s : Same H H') : DlAll K H' vs ds := dls_same h s
theorem dl_get : ∀ {vs : List V} {ds : List PyData} {i : Nat} {v : V}, DlAll K H vs ds → vs[i]? = some v → ∃ d, ds[i]? = some d ∧ Dl K H v d
  | _ :: _, _ :: _, 0, _, .cons h _, e => by
    cases e
    exact ⟨_, rfl, h⟩
  | _ :: _, _ :: _, i + 1, _, .cons _ h, e => dl_get (i := i) h e
theorem Dl.lst_of {v : V} {ds : List PyData} (h : Dl K H v (.list ds)) : ∃ a xs, v = .ref a ∧ H a = some (.lst xs) ∧ DlAll K H xs ds := by
  cases h with
  | lst h h2 => exact ⟨_, _, rfl, h, h2⟩
theorem dl_snoc {vs : List V} {ds : List PyData} {v : V} {d : PyData} (h : DlAll K H vs ds) (p : Dl K H v d) : DlAll K H (vs ++ [v]) (ds ++ [d]) := by
  induction vs generalizing ds with
  | nil =>
    cases h
    exact .cons p .nil
  | cons w vs ih =>
    cases h with
    | cons h1 h2 => exact .cons h1 (ih h2)
theorem Sm.up {m : Nat} {d : PyData} (h : Sm m d) : Sm (m + 1) d := by
  induction h with
  | non n => exact .non _
  | bl n b => exact .bl _ b
  | int n i => exact .int _ i
  | str n z h h2 => exact .str _ z h h2
  | lst h _ ih => exact .lst h ih
  | tup h _ ih => exact .tup h ih
theorem Sm.ups {m k : Nat} {d : PyData} (h : Sm m d) (l : m ≤ k) : Sm k d := by
  induction l with
  | refl => exact h
  | step _ ih => exact ih.up
/-- some small data, n deep -/
def Da (K : PySem.W.Frag) (H : Hp) (n : Nat) (v : V) : Prop := ∃ d, Dl K H v d ∧ Sm n d
/-- a list of its own, of such -/
def Lt (K : PySem.W.Frag) (H : Hp) (n : Nat) (a : Addr) : Prop := ∃ xs, H a = some (.lst xs) ∧ xs.length ≤ 300 ∧ ∀ v ∈ xs, Da K H n v
theorem Da.same {n : Nat} {v : V} (h : Da K H n v) (s : Same H H') : Da K H' n v := by
  obtain ⟨d, p, m⟩ := h
  exact ⟨d, p.same s, m⟩
theorem Da.ups {n k : Nat} {v : V} (h : Da K H n v) (l : n ≤ k) : Da K H k v := by
  obtain ⟨d, p, m⟩ := h
  exact ⟨d, p, m.ups l⟩
theorem Lt.same {n : Nat} {a : Addr} (h : Lt K H n a) (s : Same H H') : Lt K H' n a := by
  obtain ⟨xs, e, l, al⟩ := h
  exact ⟨xs, s _ _ e, l, fun v hv => (al v hv).same s⟩
theorem Lt.ups {n k : Nat} {a : Addr} (h : Lt K H n a) (l : n ≤ k) : Lt K H k a := by
  obtain ⟨xs, e, l2, al⟩ := h
  exact ⟨xs, e, l2, fun v hv => (al v hv).ups l⟩
theorem dls_of {n : Nat} : ∀ {xs : List V}, (∀ v ∈ xs, Da K H n v) → ∃ ds, DlAll K H xs ds ∧ (∀ d ∈ ds, Sm n d) ∧ ds.length = xs.length
  | [], _ => ⟨[], .nil, (fun _ h => nomatch h), rfl⟩
  | v :: xs, h => by
    obtain ⟨d, p, m⟩ := h v List.mem_cons_self
    obtain ⟨ds, ps, ms, l⟩ := dls_of (xs := xs) fun w hw => h w (List.mem_cons_of_mem _ hw)
    refine ⟨d :: ds, .cons p ps, fun e he => ?_, by rw [List.length_cons, List.length_cons, l]⟩
    rcases List.mem_cons.mp he with rfl | he
    · exact m
    · exact ms e he
theorem Lt.da {n : Nat} {a : Addr} (h : Lt K H n a) : Da K H (n + 1) (.ref a) := by
  obtain ⟨xs, e, l, al⟩ := h
  obtain ⟨ds, ps, ms, hl⟩ := dls_of al
  exact ⟨.list ds, .lst e ps, .lst (by rw [hl]; exact l) ms⟩
theorem tup_da {n : Nat} {a : Addr} {xs : List V} (e : SqT K H a xs) (l : xs.length ≤ 300) (al : ∀ v ∈ xs, Da K H n v) : Da K H (n + 1) (.ref a) := by
  obtain ⟨ds, ps, ms, hl⟩ := dls_of al
  exact ⟨.tuple ds, .tup e ps, .tup (by rw [hl]; exact l) ms⟩
theorem int_da (n : Nat) (i : Int) : Da K H n (.int i) := ⟨_, .int i, .int n i⟩
theorem nats_lt {a : Addr} {l : List Nat} (e : H a = some (.lst (nV l))) (h : l.length ≤ 300) : Lt K H 0 a := ⟨_, e, by rw [List.length_map]; exact h, fun v hv => by
  obtain ⟨k, _, rfl⟩ := List.mem_map.mp hv
  exact int_da 0 _⟩
end
/-- the z-th of a list -/
theorem atI_in {xs : List V} {z : Int} (h0 : 0 ≤ z) (h1 : z < (xs.length : Int)) : ∃ v, atI xs z = some v ∧ v ∈ xs := by
  have hlt : z.toNat < xs.length := by omega
  have := atI_nat (List.getElem?_eq_getElem hlt)
  rw [show ((z.toNat : Nat) : Int) = z by omega] at this
  exact ⟨_, this, List.getElem_mem hlt⟩
/-- what is new in H' -/
def fresh (H H' : Hp) : Hp := fun b => match H b with
  | none => H' b
  | some _ => none
theorem fresh_at {H H' : Hp} {b : Addr} (h : H b = none) : fresh H H' b = H' b := by
  unfold fresh
  rw [h]
theorem fresh_in {H H' : Hp} {b : Addr} {o : HO} (h : fresh H H' b = some o) : H b = none ∧ H' b = some o := by
  unfold fresh at h
  cases e : H b with
  | none =>
    rw [e] at h
    exact ⟨rfl, h⟩
  | some x =>
    rw [e] at h
    cases h
theorem fresh_same {H H' : Hp} : Same (fresh H H') H' := fun b o e => (fresh_in e).2
theorem fresh_put {H H' : Hp} {a : Addr} {x o : HO} (h : H a = some x) : Same (fresh H H') (upd H' a o) := fun b u e => by
  obtain ⟨h1, h2⟩ := fresh_in e
  rw [upd_ne fun z : b = a => by
    rw [z, h] at h1
    cases h1]
  exact h2
/-! ### an odd thing -/
def spLOdd (K : PySem.W.Frag) : Sp := fun vs H Q _ => ∃ (c : Int), vs = [.int c] ∧ ∀ H' v, Same H H' → Da K (fresh H H') 1 v → Q v H'
section
variable {P : Program} {w : World} {K : PySem.W.Frag} {mg : Str → Option Value} {base : Heap}
theorem cal_law_odd {f : Addr} {fd : FuncData} (F : Fn K "_law_odd" s_law_odd f fd) (g : mg "_law_odd" = some (.ref f)) (B : Bi mg) : C8.Cal P w K mg base 1 "_law_odd" (spLOdd K) [] := by
  refine cal_of F g sc_law_odd (bi_law_odd F) (fun vs H Q E h => ?_) (fun cdv A outer s H vs Q E hr h => ?_)
  · obtain ⟨c, rfl, _⟩ := h
    rfl
  · obtain ⟨c, rfl, q⟩ := h
    refine ⟨_, (pss_one (ps_ret (pe_ix (r := rIxL K) ix_list (pe_lst (pa_cons pe_non (pa_cons (pe_un un_neg pe_int) (pa_cons pe_int (pa_cons pe_bl (pa_cons pe_str (pa_cons (pe_tup (pa_cons pe_int pa_nil)) (pa_cons (pe_lst pa_nil) (pa_cons (pe_lst (pa_cons pe_int pa_nil)) pa_nil))))))))) (pe_op op_mod (pv 0) pe_int) (fun _ _ => rfl)))), ?_⟩
    refine ⟨_, rfl, (by show 1 ≤ sizeLine; decide), fun t nt => ⟨Nat.zero_le _, fun e ne => ⟨(by show 1 ≤ sizeLine; decide), fun z nz => ⟨(by show 8 ≤ sizeLine; decide), fun l nl => ?_⟩⟩⟩⟩
    have st := same_upd (o := .tup [.int 0]) nt
    have se := same_upd (o := .lst []) ne
    have sz := same_upd (o := .lst [.int 0]) nz
    have sl := same_upd (o := .lst [.non, .int (-1), .int 99, .bl true, .str "0", .ref t, .ref e, .ref z]) nl
    have S := ((st.trans se).trans sz).trans sl
    have ht : H t = none := nt
    have he : H e = none := st.free ne
    have hz : H z = none := (st.trans se).free nz
    have all : ∀ {H2 : Hp}, H2 t = some (.tup [.int 0]) → H2 e = some (.lst []) → H2 z = some (.lst [.int 0]) → ∀ v ∈ [V.non, .int (-1), .int 99, .bl true, .str "0", .ref t, .ref e, .ref z], Da K H2 1 v := fun {H2} f1 f2 f3 v hv => by
      rcases List.mem_cons.mp hv with rfl | hv
      · exact ⟨_, .non, .non _⟩
      rcases List.mem_cons.mp hv with rfl | hv
      · exact int_da _ _
      rcases List.mem_cons.mp hv with rfl | hv
      · exact int_da _ _
      rcases List.mem_cons.mp hv with rfl | hv
      · exact ⟨_, .bl _, .bl _ _⟩
      rcases List.mem_cons.mp hv with rfl | hv
      · exact ⟨_, .str _, .str _ _ (by decide +kernel) (by decide +kernel)⟩
      rcases List.mem_cons.mp hv with rfl | hv
      · exact tup_da (n := 0) (xs := [.int 0]) (sqT_of f1) (by decide) fun v hv => by
          rw [List.mem_singleton.mp hv]
          exact int_da _ _
      rcases List.mem_cons.mp hv with rfl | hv
      · exact Lt.da (n := 0) ⟨[], f2, Nat.zero_le _, (fun _ h => nomatch h)⟩
      rw [List.mem_singleton.mp hv]
      exact Lt.da (n := 0) ⟨[.int 0], f3, by decide, fun v hv => by
        rw [List.mem_singleton.mp hv]
        exact int_da _ _⟩
    obtain ⟨v, hat, hv⟩ := atI_in (xs := [V.non, .int (-1), .int 99, .bl true, .str "0", .ref t, .ref e, .ref z]) (z := c % 8) (by omega) (by show c % 8 < 8; omega)
    exact ⟨_, rfl, _, _, rfl, rfl, (by show (0 : Int) < 8; decide), l, _, _, _, rfl, rfl, sqL_of upd_same, hat, q _ _ S (all (by rw [fresh_at ht]; exact ((se.trans sz).trans sl) _ _ upd_same) (by rw [fresh_at he]; exact (sz.trans sl) _ _ upd_same) (by rw [fresh_at hz]; exact sl _ _ upd_same) _ hv)⟩
end
/-! ### a list of numbers -/
def NumsOk (n : Nat) (d : PyData) : Prop := ∃ l : List Nat, d = natsD l ∧ ∀ x ∈ l, x < n
theorem nums_of {n : Nat} : ∀ {ds : List PyData}, (∀ d ∈ ds, ∃ y : Nat, d = natD y ∧ y < n) → NumsOk n (.list ds)
  | [], _ => ⟨[], rfl, (fun _ h => nomatch h)⟩
  | d :: ds, h => by
    obtain ⟨y, rfl, hy⟩ := h d List.mem_cons_self
    obtain ⟨l, e, hl⟩ := nums_of (ds := ds) fun e he => h e (List.mem_cons_of_mem _ he)
    refine ⟨y :: l, ?_, fun x hx => ?_⟩
    · show PyData.list (natD y :: ds) = PyData.list (natD y :: l.map natD)
      rw [PyData.list.inj e]
    · rcases List.mem_cons.mp hx with rfl | hx
      · exact hy
      · exact hl x hx
theorem of_nums {n : Nat} {ds : List PyData} (h : NumsOk n (.list ds)) : ∀ d ∈ ds, ∃ y : Nat, d = natD y ∧ y < n := fun d hd => by
  obtain ⟨l, e, hl⟩ := h
  rw [PyData.list.inj e] at hd
  obtain ⟨y, hy, rfl⟩ := List.mem_map.mp hd
  exact ⟨y, rfl, hl y hy⟩
def spLNumsX (K : PySem.W.Frag) : Sp := fun vs H Q _ => ∃ (v : V) (n : Nat) (d : PyData), vs = [v, .int n] ∧ Dp K H v d ∧ Sm 8 d ∧ (∀ H', Same H H' → NumsOk n d → Q (.bl true) H') ∧ ∀ H', Same H H' → ¬ NumsOk n d → Q (.bl false) H'
theorem dp_snoc {K : PySem.W.Frag} {H : Hp} {vs : List V} {ds : List PyData} {v : V} {d : PyData} (h : DpAll K H vs ds) (p : Dp K H v d) : DpAll K H (vs ++ [v]) (ds ++ [d]) := by
  induction vs generalizing ds with
  | nil =>
    cases h
    exact .cons p .nil
  | cons w vs ih =>
    cases h with
    | cons h1 h2 => exact .cons h1 (ih h2)
section
variable {P : Program} {w : World} {K : PySem.W.Frag} {mg : Str → Option Value} {base : Heap}
theorem cal_law_numbers {f : Addr} {fd : FuncData} (F : Fn K "_law_numbers" s_law_numbers f fd) (g : mg "_law_numbers" = some (.ref f)) (B : Bi mg) (c_whole : C8.Cal P w K mg base 1 "_law_whole" (spLWhole K) []) : C8.Cal P w K mg base 2 "_law_numbers" (spLNumsX K) [] := by
  refine cal_of F g sc_law_numbers (bi_law_numbers F) (fun vs H Q E h => ?_) (fun cdv A outer s H vs Q E hr h => ?_)
  · obtain ⟨v, n, d, rfl, _⟩ := h
    rfl
  · obtain ⟨v, n, d, rfl, p, sm, qt, qf⟩ := h
    refine ⟨_, (pss_cons (ps_if (pt_not (pt_val (pe_callB (r := rIsi K) call_isi (by rfl) B.isi (by decide +kernel) (pa_cons (pv 0) (pa_cons (pe_bltn (v := .ty "list") (u := .type "list") (by rfl) B.list (by decide +kernel) (by rfl)) pa_nil))))) (pss_one (ps_ret pe_bl)) pss_nil) (pss_one (ps_ret (pe_cmpR (op_eqD hr.units) (pe_lc (own := [("_law_one", 2)]) (g := gName 2)  rfl sc_law_numbers.nd (pi_list (pv 0)) (blkOk_by (N := ["_law_found", "_law_many", "_law_one"]) (sc := defScope s_law_numbers) (by decide +kernel)) (fun _ _ _ _ _ => pg_name (i := 2) sc_law_numbers.nd rfl (Or.inl rfl)) (fun _ _ _ _ _ => (pts_one (PW.pt (pw_or (pt_not (pt_val (C8.pe_c c_whole hr (by decide) (by rfl) (pa_cons (pv 2) pa_nil)))) (pw_or1 (pt_not (pt_chain op_le op_lt pe_int (pv 2) (pv 1)))))))) (fun _ _ _ _ _ => (pv 2))) (pe_lst pa_nil) (nomark _))))), ?_⟩
    refine ⟨_, rfl, _, _, _, _, _, rfl, .ty _, ((p.plain sm)).ty, kit_ty (kd_lst (kdOf d)), _, rfl, ?_⟩
    cases k1 : (kdOf d).isLst with
    | false =>
      refine if_t rfl (qf _ (Same.refl _) fun ⟨l, e, _⟩ => ?_)
      exact kd_lst_f k1 _ e
    | true =>
    obtain ⟨ds, rfl⟩ := kd_lst_t sm k1
    obtain ⟨a, xs, rfl, hX, dX⟩ := p.lst_of
    have lx := dp_len dX
    have h300 := sm.items.1
    refine if_f rfl ⟨_, rfl, a, rfl, ⟨_, hX⟩, fun D nD => ?_⟩
    refine lc_list (K := K) (a := a) (xs := xs) (fun j H' => Same H H' ∧ ∃ acc bad, H' D = some (.lst acc) ∧ DpAll K H acc bad ∧ (∀ d ∈ bad, Sm 8 d) ∧ bad.length ≤ j ∧ (bad = [] ↔ ∀ d ∈ ds.take j, ∃ y : Nat, d = natD y ∧ y < n))
      ⟨same_upd nD, [], [], upd_same, .nil, (fun _ h => nomatch h), Nat.le_refl _, ⟨(fun _ _ h => nomatch h), fun _ => rfl⟩⟩ (fun j H' _ ⟨s, _⟩ => s.seq hX) ?_ ?_
    · rintro j v H3 hj ⟨s3, acc, bad, e3, pb, sb, lb, hb⟩
      have hjl := (List.getElem?_eq_some_iff.mp hj).1
      obtain ⟨dv, hdv, pv0⟩ := dp_get dX hj
      have sdv := sm.items.2 dv (List.mem_of_getElem? hdv)
      have lacc := dp_len pb
      have tk : ds.take (j + 1) = ds.take j ++ [dv] := by
        rw [List.take_add_one, hdv]
        rfl
      have bad' : (¬ ∃ y : Nat, dv = natD y ∧ y < n) → ∃ acc' bad', (upd H3 D (.lst (acc ++ [v]))) D = some (.lst acc') ∧ DpAll K H acc' bad' ∧ (∀ d ∈ bad', Sm 8 d) ∧ bad'.length ≤ j + 1 ∧ (bad' = [] ↔ ∀ d ∈ ds.take (j + 1), ∃ y : Nat, d = natD y ∧ y < n) := fun hn => by
        refine ⟨acc ++ [v], bad ++ [dv], upd_same, dp_snoc pb pv0, fun d hd => ?_, by rw [List.length_append]; exact Nat.succ_le_succ lb, fun h => absurd h (by simp), fun h => absurd (h dv (by rw [tk]; exact List.mem_append_right _ List.mem_cons_self)) hn⟩
        rcases List.mem_append.mp hd with z | z
        · exact sb d z
        · rw [List.mem_singleton.mp z]
          exact sdv
      refine ⟨rfl, _, rfl, v, _, rfl, (pv0.same s3).plain sdv, _, rfl, ?_⟩
      cases ci : isIntV v with
      | false =>
        refine if_t rfl (if_t rfl ⟨_, rfl, acc, e3, ?_, same_put s3 nD, bad' fun ⟨y, e, _⟩ => ?_⟩)
        · rw [lacc]
          exact small1000 (by omega)
        · subst e
          cases pv0
          cases ci
      | true =>
      cases v with
      | int i =>
        cases pv0
        refine if_f rfl ⟨_, rfl, 0, i, rfl, rfl, _, rfl, ite2 (fun c1 => ?_) (fun c1 => ?_)⟩
        · have h0 := of_decide_eq_true c1
          refine ⟨_, rfl, i, n, rfl, rfl, _, rfl, ?_⟩
          cases c2 : decide (i < (n : Int)) with
          | true =>
            have h1 := of_decide_eq_true c2
            refine if_f rfl ⟨s3, acc, bad, e3, pb, sb, by omega, hb.trans ⟨fun h d hd => ?_, fun h d hd => h d (by rw [tk]; exact List.mem_append_left _ hd)⟩⟩
            rw [tk] at hd
            rcases List.mem_append.mp hd with z | z
            · exact h d z
            · rw [List.mem_singleton.mp z]
              exact ⟨i.toNat, by unfold natD; rw [show ((i.toNat : Nat) : Int) = i by omega], by omega⟩
          | false =>
            have h1 := of_decide_eq_false c2
            refine if_t rfl ⟨_, rfl, acc, e3, ?_, same_put s3 nD, bad' fun ⟨y, e, hy⟩ => ?_⟩
            · rw [lacc]
              exact small1000 (by omega)
            · have := PyData.int.inj e
              omega
        · have h0 := of_decide_eq_false (Bool.eq_false_iff.mpr c1)
          refine ⟨_, rfl, if_t rfl ⟨_, rfl, acc, e3, ?_, same_put s3 nD, bad' fun ⟨y, e, hy⟩ => ?_⟩⟩
          · rw [lacc]
            exact small1000 (by omega)
          · have := PyData.int.inj e
            omega
      | _ => cases ci
    · rintro H3 ⟨s3, acc, bad, e3, pb, sb, lb, hb⟩
      rw [lx, List.take_length] at hb
      refine ⟨Nat.zero_le _, fun e nE => ?_⟩
      have s4 : Same H3 (upd H3 e (.lst [])) := same_upd nE
      have lbad : bad.length ≤ 300 := by omega
      refine ⟨_, _, .lst (sqL_of (s4 _ _ e3)) (pb.same (s3.trans s4)), .lst (sqL_of upd_same) .nil, (Sm.lst (n := 8) lbad sb).sh.ok (by decide), sh_nil0.ok (by decide), ?_⟩
      rw [eqv_nil]
      cases bad with
      | nil => exact qt _ (s3.trans s4) (nums_of (hb.mp rfl))
      | cons x l =>
        refine qf _ (s3.trans s4) fun h => ?_
        have := hb.mpr (of_nums h)
        cases this
end
end Fb
/-! Whether rows and numbers hold, as the law looks at them (law k09). -/
namespace Fb
open PySem PySem.Spec PyProof.Rows L2
theorem eqv_ints : ∀ (l m : List Int), PyData.eqvAll (l.map PyData.int) (m.map PyData.int) = decide (l = m)
  | [], [] => by simp [PyData.eqvAll]
  | [], _ :: _ => by simp [PyData.eqvAll]
  | _ :: _, [] => by simp [PyData.eqvAll]
  | a :: l, b :: m => by
    have ih := eqv_ints l m
    simp only [List.map_cons, PyData.eqvAll, PyData.eqv, ih]
    by_cases h1 : a = b <;> by_cases h2 : l = m <;> simp [h1, h2]
theorem nV_ints (l : List Nat) : nV l = (l.map fun k : Nat => (k : Int)).map V.int := by
  unfold nV
  rw [List.map_map]
  rfl
theorem dp_ints {K : PySem.W.Frag} {H : Hp} : ∀ l : List Int, DpAll K H (l.map V.int) (l.map PyData.int)
  | [] => .nil
  | k :: l => .cons (.int k) (dp_ints l)
theorem sh_ints (l : List Int) : Sh 1 (.list (l.map PyData.int)) := sh_list fun d hd => by
  obtain ⟨k, _, rfl⟩ := List.mem_map.mp hd
  exact sh_int k
theorem cast_inj {l m : List Nat} (h : (l.map fun k : Nat => (k : Int)) = m.map fun k : Nat => (k : Int)) : l = m := map_inj_of (f := fun k : Nat => (k : Int)) (fun _ _ e => Int.ofNat.inj e) h
/-- a list of numbers sorted, that is sorted -/
theorem sorted_nat {l : List Nat} {ns : List Int} (hp : ns.Perm (l.map fun k : Nat => (k : Int))) (hs : ns.Pairwise (· ≤ ·)) {m : List Nat} (pm : m.Perm l) (hm : m.Pairwise (· ≤ ·)) : ns = m.map fun k : Nat => (k : Int) := by
  refine List.Perm.eq_of_pairwise (le := fun a b : Int => a ≤ b) (fun _ _ _ _ a b => Int.le_antisymm a b) hs ?_ (hp.trans (pm.map _).symm)
  rw [List.pairwise_map]
  exact hm.imp fun h => by omega
theorem perm_range {l : List Nat} {n : Nat} (nd : l.Nodup) (lt : ∀ x ∈ l, x < n) (al : n ≤ l.length) : l.Perm (List.range n) := by
  refine perm_of_mem nd List.nodup_range fun x => ⟨fun h => List.mem_range.mpr (lt x h), fun h => ?_⟩
  cases Classical.em (x ∈ l) with
  | inl z => exact z
  | inr z =>
    have h2 : (x :: l).length ≤ (List.range n).length := nodup_len (List.nodup_cons.mpr ⟨z, nd⟩) fun y hy => by
      rcases List.mem_cons.mp hy with rfl | hy
      · exact h
      · exact List.mem_range.mpr (lt y hy)
    rw [List.length_cons, List.length_range] at h2
    omega
section
variable {A : Nat → Nat → Prop} {n : Nat} {d e : PyData}
theorem good_at {ds : List PyData} {i : Nat} {x : PyData} (h : Good A n (.list ds) e) (hd : ds[i]? = some x) : ∃ r, x = natsD r ∧ r ≠ [] ∧ Steps A r ∧ ∀ y ∈ r, y < n := by
  obtain ⟨R', P, h1, _, g⟩ := h
  have h1 : ds = R'.map natsD := PyData.list.inj h1
  rw [h1, List.getElem?_map] at hd
  cases hr' : R'[i]? with
  | none => rw [hr'] at hd; cases hd
  | some r' =>
    rw [hr'] at hd
    have hm := List.mem_of_getElem? hr'
    exact ⟨r', (Option.some.inj hd).symm, g.ne r' hm, g.st r' hm, fun y hy => g.lt y (List.mem_flatten.mpr ⟨r', hm, hy⟩)⟩
theorem good_apart (h : Good A n d e) : ∃ P, e = natsD P ∧ P.Pairwise (· < ·) ∧ (∀ x ∈ P, x < n) ∧ P.Pairwise fun i j => ¬ A i j ∧ ¬ A j i := by
  obtain ⟨R', P, _, h2, g⟩ := h
  exact ⟨P, h2, g.up, g.ltP, g.anti⟩
theorem good_perm {R : List (List Nat)} (h : Good A n (.list (R.map natsD)) e) : R.flatten.Perm (List.range n) := by
  obtain ⟨R', P, h1, _, g⟩ := h
  have e := natsDs_inj (PyData.list.inj h1)
  subst e
  exact perm_range g.nd g.lt g.all
/-- all that the law looks at -/
theorem good_mk {R : List (List Nat)} {P : List Nat} (h1 : d = .list (R.map natsD)) (h2 : e = natsD P) (len : R.length = P.length) (ne : ∀ r ∈ R, r ≠ []) (st : ∀ r ∈ R, Steps A r) (pm : R.flatten.Perm (List.range n)) (ltP : ∀ x ∈ P, x < n) (up : P.Pairwise (· < ·)) (anti : ∀ i ∈ P, ∀ j ∈ P, ¬ A i j) : Good A n d e := by
  refine ⟨R, P, h1, h2, len, ne, st, pm.symm.nodup List.nodup_range, fun x hx => List.mem_range.mp (pm.mem_iff.mp hx), ?_, up, ltP, ?_⟩
  · rw [pm.length_eq, List.length_range]
    exact Nat.le_refl _
  · exact List.Pairwise.imp_of_mem (R := fun _ _ => True) (fun ha hb _ => ⟨anti _ ha _ hb, anti _ hb _ ha⟩) (List.pairwise_of_forall (fun _ _ => trivial))
theorem up_of {P : List Nat} (h : ∀ k x y, P[k]? = some x → P[k + 1]? = some y → x < y) : P.Pairwise (· < ·) := by
  rw [List.pairwise_iff_getElem]
  intro i j hi hj hij
  induction j with
  | zero => omega
  | succ j ih =>
    have hj' : j < P.length := by omega
    have s := h j P[j] P[j + 1] (List.getElem?_eq_getElem hj') (List.getElem?_eq_getElem hj)
    by_cases c : i = j
    · subst c
      exact s
    · have := ih hj' (by omega)
      omega
theorem anti_all {P : List Nat} (irr : ∀ i, ¬ A i i) (h : P.Pairwise fun i j => ¬ A i j ∧ ¬ A j i) : ∀ i ∈ P, ∀ j ∈ P, ¬ A i j := fun i hi j hj => by
  obtain ⟨a, ha, rfl⟩ := List.mem_iff_getElem.mp hi
  obtain ⟨b, hb, rfl⟩ := List.mem_iff_getElem.mp hj
  have pw := List.pairwise_iff_getElem.mp h
  by_cases c : a = b
  · subst c
    exact irr _
  · by_cases l : a < b
    · exact (pw a b ha hb l).1
    · exact (pw b a hb ha (by omega)).2
end
theorem flat_take {rows : List (List Nat)} {i : Nat} {l : List Nat} (h : rows[i]? = some l) : (rows.take (i + 1)).flatten = (rows.take i).flatten ++ l := by
  rw [List.take_add_one, h, List.flatten_append]
  simp
theorem nats_of {K : PySem.W.Frag} {H : Hp} : ∀ {vs : List V} {l : List Nat}, DlAll K H vs (l.map natD) → vs = nV l
  | [], [], _ => rfl
  | _ :: _, k :: l, .cons h1 h2 => by
    cases h1
    rw [nats_of h2]
    rfl
def spDue (K : PySem.W.Frag) : Sp := fun vs H Q _ => ∃ (t b : Addr) (x y : V) (R : List Ride) (trips : List Trip) (d e : PyData), vs = [.ref t, .ref b, x, y] ∧ Rows K H rideV t R ∧ R.length ≤ 200 ∧ PosR R ∧ Rows K H tripV b trips ∧ trips.length ≤ 100 ∧ (∀ t ∈ trips, okTrip t) ∧ Dl K H x d ∧ Dl K H y e ∧ Sm 8 d ∧ Sm 8 e ∧
  ∀ H', Same H H' → Q (.bl (goodB (fun i j => Cm R trips i j = true) trips.length d e)) H'
section
variable {P : Program} {w : World} {K : PySem.W.Frag} {mg : Str → Option Value} {base : Heap}
theorem cal_law_due {f : Addr} {fd : FuncData} (F : Fn K "_law_due" s_law_due f fd) (g : mg "_law_due" = some (.ref f)) (B : Bi mg) (c_numbers : C8.Cal P w K mg base 2 "_law_numbers" (spLNumsX K) []) (c_lcan : C8.Cal P w K mg base 2 "_law_can" (spLCan K) []) : C8.Cal P w K mg base 3 "_law_due" (spDue K) [] := by
  refine cal_of F g sc_law_due (bi_law_due F) (fun vs H Q E h => ?_) (fun cdv A outer s H vs Q E hr h => ?_)
  · obtain ⟨t, b, x, y, R, trips, d, e, rfl, _⟩ := h
    rfl
  · obtain ⟨t, b, x, y, R, trips, d, e, rfl, hR, hR2, hp, hT, h101, okT, px, py, sd, se, q⟩ := h
    have hu := hu_of hr
    refine ⟨_, (pss_cons (ps_if (PW.pt (pw_or (pt_not (pt_val (pe_callB (r := rIsi K) call_isi (by rfl) B.isi (by decide +kernel) (pa_cons (pv 2) (pa_cons (pe_bltn (v := .ty "list") (u := .type "list") (by rfl) B.list (by decide +kernel) (by rfl)) pa_nil))))) (pw_or (pt_not (pt_val (C8.pe_c c_numbers hr (by decide) (by rfl) (pa_cons (pv 3) (pa_cons (pe_callB (r := rLenS K) call_len_seq (by rfl) B.len PySem.boot_len (pa_cons (pv 1) pa_nil)) pa_nil))))) (pw_or1 (pt_cmpR op_ne (pe_callB (r := rLenS K) call_len_seq (by rfl) B.len PySem.boot_len (pa_cons (pv 2) pa_nil)) (pe_callB (r := rLenS K) call_len_seq (by rfl) B.len PySem.boot_len (pa_cons (pv 3) pa_nil)) (nomark _)))))) (pss_one (ps_ret pe_bl)) pss_nil) (pss_cons (ps_set (i := 4) sc_law_due.nd rfl (Or.inl rfl) (pe_lst pa_nil)) (pss_cons (ps_for PassesOwn.never rfl (pi_list (pv 2)) (pg_name (i := 5) sc_law_due.nd rfl (Or.inl rfl)) (pss_cons (ps_if (PW.pt (pw_or (pt_not (pt_val (C8.pe_c c_numbers hr (by decide) (by rfl) (pa_cons (pv 5) (pa_cons (pe_callB (r := rLenS K) call_len_seq (by rfl) B.len PySem.boot_len (pa_cons (pv 1) pa_nil)) pa_nil))))) (pw_or1 (pt_cmpR (op_eqD hr.units) (pv 5) (pe_lst pa_nil) (nomark _))))) (pss_one (ps_ret pe_bl)) pss_nil) (pss_cons (ps_for PassesOwn.never rfl (pi_range2 (by rfl) B.range (pa_cons pe_int (pa_cons (pe_callB (r := rLenS K) call_len_seq (by rfl) B.len PySem.boot_len (pa_cons (pv 5) pa_nil)) pa_nil))) (pg_name (i := 6) sc_law_due.nd rfl (Or.inr rfl)) (pss_one (ps_if (pt_not (pt_val (C8.pe_c c_lcan hr (by decide) (by rfl) (pa_cons (pv 0) (pa_cons (pe_ix (r := rIxL K) ix_list (pv 1) (pe_ix (r := rIxL K) ix_list (pv 5) (pe_op op_sub (pv 6) pe_int) (fun _ _ => rfl)) (fun _ _ => rfl)) (pa_cons (pe_ix (r := rIxL K) ix_list (pv 1) (pe_ix (r := rIxL K) ix_list (pv 5) (pv 6) (fun _ _ => rfl)) (fun _ _ => rfl)) pa_nil)))))) (pss_one (ps_ret pe_bl)) pss_nil))) (pss_one (ps_set (i := 4) sc_law_due.nd rfl (Or.inl rfl) (pe_op op_cat (pv 4) (pv 5))))))) (pss_cons (ps_if (pt_cmpR (op_neD hr.units) (pe_callB (r := rSortedI K) cr_sortedI (by rfl) B.sorted (by decide +kernel) (pa_cons (pv 4) pa_nil)) (pe_listRg rfl (by rfl) B.list (prg_1 (by rfl) B.range (pe_callB (r := rLenS K) call_len_seq (by rfl) B.len PySem.boot_len (pa_cons (pv 1) pa_nil)))) (nomark _)) (pss_one (ps_ret pe_bl)) pss_nil) (pss_cons (ps_for PassesOwn.never rfl (pi_range1 (by rfl) B.range (pa_cons (pe_callB (r := rLenS K) call_len_seq (by rfl) B.len PySem.boot_len (pa_cons (pv 3) pa_nil)) pa_nil)) (pg_name (i := 6) sc_law_due.nd rfl (Or.inr rfl)) (C8.pss_cut (ps_if (PW.pt (pw_and (pt_cmpR op_gt (pv 6) pe_int (nomark _)) (pw_and1 (pt_cmpR op_ge (pe_ix (r := rIxL K) ix_list (pv 3) (pe_op op_sub (pv 6) pe_int) (fun _ _ => rfl)) (pe_ix (r := rIxL K) ix_list (pv 3) (pv 6) (fun _ _ => rfl)) (nomark _))))) (pss_one (ps_ret pe_bl)) pss_nil) (pss_one (ps_if (pt_cmpR (op_neD hr.units) (pe_lc (own := [("_law_one", 7)]) (g := gName 7)  rfl sc_law_due.nd (pi_list (pv 3)) (blkOk_by (N := ["_law_told", "_law_trips_here", "_law_rows", "_law_apart", "_law_done", "_law_row", "_law_k", "_law_one"]) (sc := defScope s_law_due) (by decide +kernel)) (fun _ _ _ _ _ => pg_name (i := 7) sc_law_due.nd rfl (Or.inl rfl)) (fun _ _ _ _ _ => (pts_one (pt_val (C8.pe_c c_lcan hr (by decide) (by rfl) (pa_cons (pv 0) (pa_cons (pe_ix (r := rIxL K) ix_list (pv 1) (pv 7) (fun _ _ => rfl)) (pa_cons (pe_ix (r := rIxL K) ix_list (pv 1) (pe_ix (r := rIxL K) ix_list (pv 3) (pv 6) (fun _ _ => rfl)) (fun _ _ => rfl)) pa_nil))))))) (fun _ _ _ _ _ => (pv 7))) (pe_lst pa_nil) (nomark _)) (pss_one (ps_ret pe_bl)) pss_nil)))) (pss_one (ps_ret pe_bl))))))), ?_⟩
    obtain ⟨qt, hqt, hTt⟩ := hT
    have ll : (qt.map V.ref).length = trips.length := by rw [List.length_map, hTt.1]
    obtain ⟨G, hG⟩ : ∃ G : Nat → Nat → Prop, G = fun i j => Cm R trips i j = true := ⟨_, rfl⟩
    rw [← hG] at q
    have irr : ∀ i, ¬ G i i := fun i h => by
      rw [hG] at h
      have h : Cm R trips i i = true := h
      rw [Cm_irr hp okT] at h
      cases h
    have no : ∀ {H'}, Same H H' → ¬ Good G trips.length d e → Q (.bl false) H' := fun s h => by
      have := q _ s
      rw [good_f h] at this
      exact this
    have tat : ∀ {H' : Hp}, Same H H' → ∀ {i : Nat}, i < trips.length → ∃ q' x, trips[i]? = some x ∧ atI (qt.map V.ref) (i : Int) = some (.ref q') ∧ SqT K H' q' (tripV x) := fun s i hi => by
      have hx : trips[i]? = some trips[i] := List.getElem?_eq_getElem hi
      obtain ⟨q', hq, hs⟩ := (hTt.same s).addr hx
      exact ⟨q', _, hx, atI_nat (by rw [List.getElem?_map, hq]; rfl), hs⟩
    refine ⟨_, rfl, _, _, _, _, _, rfl, .ty _, ((px.dp.plain sd)).ty, kit_ty (kd_lst (kdOf d)), _, rfl, ?_⟩
    cases k1 : (kdOf d).isLst with
    | false => exact if_t rfl (if_t rfl (no (Same.refl _) fun h => (good_ll h).1.elim fun ds z => kd_lst_f k1 ds z))
    | true =>
    obtain ⟨ds, rfl⟩ := kd_lst_t sd k1
    refine if_f rfl ?_
    obtain ⟨ax, xs, rfl, hX, dX⟩ := px.lst_of
    have lx := dp_len dX.dp
    have hd300 := sd.items.1
    refine ⟨_, rfl, _, rfl, b, _, rfl, .inl hqt, y, (qt.map V.ref).length, e, rfl, py.dp, se, fun H1 s1 hok => ?ok, fun H1 s1 hno => ⟨_, rfl, if_t rfl (if_t rfl (no s1 fun h => ?bad))⟩⟩
    case bad =>
      obtain ⟨P', e1, _, e2, _⟩ := good_apart h
      exact hno ⟨P', e1, by rw [ll]; exact e2⟩
    rw [ll] at hok
    obtain ⟨Pn, rfl, ltP⟩ := hok
    obtain ⟨ay, ys, rfl, hY, dY⟩ := py.lst_of
    have ey := nats_of dY
    subst ey
    have lP : (nV Pn).length = Pn.length := by rw [List.length_map]
    have hP300 : Pn.length ≤ 300 := by
      have := se.items.1
      rw [List.length_map] at this
      exact this
    refine ⟨_, rfl, if_f rfl ⟨_, rfl, ax, _, rfl, .inl (s1.seq (sqL_of hX)), _, rfl, ay, _, rfl, .inl (s1.seq (sqL_of hY)), rfl, _, rfl, ?_⟩⟩
    cases c0 : decide (V.int (xs.length : Int) = V.int ((nV Pn).length : Int)) with
    | false =>
      have hne := of_decide_eq_false c0
      refine if_t rfl (no s1 fun h => hne ?_)
      have := good_len h
      rw [List.length_map] at this
      rw [lx, lP, this]
    | true =>
    have hlen : ds.length = Pn.length := by
      have := V.int.inj (of_decide_eq_true c0)
      omega
    refine if_f rfl ⟨Nat.zero_le _, fun d0 nd0 => ?_⟩
    have s10 := s1.trans (same_upd (o := .lst []) nd0)
    -- the rows
    refine ⟨_, rfl, ax, rfl, ⟨_, sqL_of (s10 _ _ hX)⟩, for_list (K := K) (a := ax) (xs := xs) (fun i σ H' => Same H H' ∧ ∃ (dn : Addr) (y5 y6 : Option V) (Rn : List (List Nat)), σ = [some (.ref t), some (.ref b), some (.ref ax), some (.ref ay), some (.ref dn), y5, y6, none] ∧ H' dn = some (.lst (nV Rn.flatten)) ∧
      ds.take i = Rn.map natsD ∧ (∀ r ∈ Rn, r ≠ []) ∧ (∀ r ∈ Rn, Steps G r) ∧ Rn.flatten.length ≤ 300 * i)
      ⟨s10, d0, none, none, [], rfl, upd_same, rfl, (fun _ h => nomatch h), (fun _ h => nomatch h), Nat.zero_le _⟩ (fun i σ H' _ ⟨s, _⟩ => sqL_of (s _ _ hX)) ?_ ?_⟩
    · rintro i v σ H2 hi ⟨s2, dn, y5, y6, Rn, rfl, edn, htk, hne, hst, hfl⟩
      have hil := (List.getElem?_eq_some_iff.mp hi).1
      obtain ⟨dv, hdv, pv0⟩ := dl_get dX hi
      have sdv := sd.items.2 dv (List.mem_of_getElem? hdv)
      refine ⟨_, rfl, _, rfl, b, _, rfl, .inl (s2.seq hqt), v, (qt.map V.ref).length, dv, rfl, pv0.dp.same s2, sdv, fun H3 s3 hok => ?ok2, fun H3 s3 hno => ⟨_, rfl, if_t rfl (if_t rfl (no (s2.trans s3) fun h => ?bad2))⟩⟩
      case bad2 =>
        obtain ⟨r, e1, _, _, e2⟩ := good_at h hdv
        exact hno ⟨r, e1, by rw [ll]; exact e2⟩
      rw [ll] at hok
      obtain ⟨row, rfl, hlt⟩ := hok
      obtain ⟨q1, zs, rfl, hZ, dZ⟩ := pv0.lst_of
      have ez := nats_of dZ
      subst ez
      have s23 := s2.trans s3
      have hrl : row.length ≤ 300 := by
        have := sdv.items.1
        rw [List.length_map] at this
        exact this
      refine ⟨_, rfl, if_f rfl ⟨_, rfl, Nat.zero_le _, fun e1 n1 => ?_⟩⟩
      have s4 : Same H3 (upd H3 e1 (.lst [])) := same_upd n1
      refine ⟨_, _, .lst (sqL_of ((s23.trans s4) _ _ hZ)) (dp_nats row), .lst (sqL_of upd_same) .nil, (sh_nats row).ok (by decide), sh_nil0.ok (by decide), ?_⟩
      rw [eqv_nil]
      have sR := s23.trans s4
      obtain ⟨H4, hH4⟩ : ∃ H4, H4 = upd H3 e1 (.lst []) := ⟨_, rfl⟩
      rw [← hH4] at s4 sR ⊢
      clear hH4
      cases k4 : (row.map fun k : Nat => PyData.int (k : Int)).isEmpty with
      | true =>
        refine ⟨_, rfl, if_t rfl (no sR fun h => ?_)⟩
        obtain ⟨r, e1, e2, _⟩ := good_at h hdv
        have e3 := natsD_inj e1
        subst e3
        refine e2 (List.map_eq_nil_iff.mp (List.isEmpty_iff.mp k4))
      | false =>
      have hne1 : row ≠ [] := fun z => by
        rw [z] at k4
        cases k4
      refine ⟨_, rfl, if_f rfl ?_⟩
      have hpos : 0 < row.length := List.length_pos_iff.mpr hne1
      have lrow : (nV row).length = row.length := by rw [List.length_map]
      refine ⟨_, rfl, q1, _, rfl, .inl (sqL_of (sR _ _ hZ)), 1, ((nV row).length : Nat), rfl, ⟨by decide, by decide, by omega, by omega⟩, for_range (lo := 1) (n := (((nV row).length : Int) - 1).toNat)
        (fun k σ H' => Same H H' ∧ (∃ (y6 : Option V), σ = [some (.ref t), some (.ref b), some (.ref ax), some (.ref ay), some (.ref dn), some (.ref q1), y6, none]) ∧ H' dn = some (.lst (nV Rn.flatten)) ∧ ∀ j x y, j < k → row[j]? = some x → row[j + 1]? = some y → G x y)
        ⟨sR, ⟨_, rfl⟩, (s3.trans s4) _ _ edn, fun j x y h => absurd h (Nat.not_lt_zero j)⟩ ?_ ?_⟩
      · rintro k σ H6 hk ⟨s6, ⟨z6, rfl⟩, edn6, hsteps⟩
        have hk1 : k + 1 < row.length := by omega
        obtain ⟨u, hu1⟩ : ∃ u, row[k]? = some u := ⟨_, List.getElem?_eq_getElem (by omega)⟩
        obtain ⟨v, hv1⟩ : ∃ v, row[k + 1]? = some v := ⟨_, List.getElem?_eq_getElem hk1⟩
        have ek1 : (1 + (k : Int)) - 1 = (k : Nat) := by omega
        have ek2 : (1 + (k : Int)) = ((k + 1 : Nat) : Int) := by omega
        have au : atI (nV row) (1 + (k : Int) - 1) = some (.int u) := by rw [ek1]; exact nV_at hu1
        have av : atI (nV row) (1 + (k : Int)) = some (.int v) := by rw [ek2]; exact nV_at hv1
        obtain ⟨p1, x1, hx1, at1, h1⟩ := tat s6 (hlt u (List.mem_of_getElem? hu1))
        obtain ⟨p2, x2, hx2, at2, h2⟩ := tat s6 (hlt v (List.mem_of_getElem? hv1))
        have eq := sqL_of (K := K) (s6 _ _ hZ)
        refine ⟨_, rfl, _, rfl, _, rfl, _, rfl, _, _, rfl, rfl, q1, _, _, _, rfl, rfl, eq, au, b, _, _, _, rfl, rfl, s6.seq hqt, at1, ?_⟩
        refine ⟨_, rfl, _, rfl, _, rfl, q1, _, _, _, rfl, rfl, eq, av, b, _, _, _, rfl, rfl, s6.seq hqt, at2, ?_⟩
        refine ⟨t, p1, p2, R, x1, x2, rfl, hR.same s6, hR2, hp, h1, h2, fun H7 s7 => ⟨_, rfl, ?_⟩⟩
        have hcm : Cm R trips u v = canM R x1 x2 := Cm_eq hx1 hx2
        cases hc : canM R x1 x2 with
        | false =>
          refine if_t rfl (no (s6.trans s7) fun h => ?_)
          obtain ⟨r, e1, _, e2, _⟩ := good_at h hdv
          have e3 := natsD_inj e1
          subst e3
          have := e2 k u v hu1 hv1
          rw [hG] at this
          have this : Cm R trips u v = true := this
          rw [hcm, hc] at this
          cases this
        | true =>
          refine if_f rfl ⟨s6.trans s7, ⟨_, rfl⟩, s7 _ _ edn6, fun j x y hj hx hy => ?_⟩
          by_cases c : j = k
          · subst c
            rw [hu1] at hx
            rw [hv1] at hy
            cases hx
            cases hy
            rw [hG]
            exact hcm.trans hc
          · exact hsteps j x y (by omega) hx hy
      · rintro σ H6 ⟨s6, ⟨z6, rfl⟩, edn6, hsteps⟩
        refine ⟨_, rfl, _, rfl, dn, q1, _, _, rfl, rfl, edn6, s6 _ _ hZ, ?_, fun d2 nd2 => ⟨s6.trans (same_upd nd2), d2, _, _, Rn ++ [row], rfl, ?_, ?_, fun r hr => ?_, fun r hr => ?_, ?_⟩⟩
        · rw [List.length_map, List.length_map]
          have : sizeLine = 16777216 := sizeLine_eq
          omega
        · rw [upd_same, List.flatten_append]
          refine congrArg (fun x => some (HO.lst x)) ?_
          unfold nV
          rw [List.map_append]
          simp
        · rw [List.take_add_one, hdv, htk, List.map_append]
          rfl
        · rcases List.mem_append.mp hr with z | z
          · exact hne r z
          · rw [List.mem_singleton.mp z]
            exact hne1
        · rcases List.mem_append.mp hr with z | z
          · exact hst r z
          · rw [List.mem_singleton.mp z]
            intro j x y hx hy
            have := (List.getElem?_eq_some_iff.mp hy).1
            exact hsteps j x y (by omega) hx hy
        · rw [List.flatten_append, List.length_append]
          simp only [List.flatten_cons, List.flatten_nil, List.append_nil]
          omega
    · rintro σ H2 ⟨s2, dn, y5, y6, Rn, rfl, edn, htk, hne, hst, hfl⟩
      rw [lx, List.take_length] at htk
      have lR : Rn.length = Pn.length := by
        rw [← hlen, htk, List.length_map]
      -- all of them, once
      refine ⟨_, rfl, dn, _, rfl, sqL_of (nV_ints _ ▸ edn), fun ns p pm up np => ?_⟩
      have s5 : Same H2 (upd H2 p (.lst (ns.map V.int))) := same_upd np
      refine ⟨_, rfl, b, _, rfl, .inl ((s2.trans s5).seq hqt), ((qt.map V.ref).length : Nat), rfl, ⟨by decide, by decide, by omega, by omega⟩, fun p3 np3 => ?_⟩
      have s7 := same_upd (o := .lst (rgV 0 ((qt.map V.ref).length : Nat))) np3
      have e7 : (upd (upd H2 p (.lst (ns.map V.int))) p3 (.lst (rgV 0 ((qt.map V.ref).length : Nat)))) p3 = some (.lst (((List.range trips.length).map fun k : Nat => (k : Int)).map V.int)) := by
        rw [upd_same, ll]
        refine congrArg (fun x => some (HO.lst x)) ?_
        unfold rgV
        simp
      refine ⟨_, _, .lst (sqL_of (s7 _ _ upd_same)) (dp_ints ns), .lst (sqL_of e7) (dp_ints _), (sh_ints _).ok (by decide), (sh_ints _).ok (by decide), ?_⟩
      have S7 := (s2.trans s5).trans s7
      obtain ⟨H7, hH7⟩ : ∃ H7, H7 = upd (upd H2 p (.lst (ns.map V.int))) p3 (.lst (rgV 0 ((qt.map V.ref).length : Nat))) := ⟨_, rfl⟩
      rw [← hH7] at S7 ⊢
      have ev : PyData.eqv (.list (ns.map PyData.int)) (.list (((List.range trips.length).map fun k : Nat => (k : Int)).map PyData.int)) = decide (ns = (List.range trips.length).map fun k : Nat => (k : Int)) := by
        rw [← eqv_ints]
        simp only [PyData.eqv]
      rw [ev]
      cases c1 : decide (ns = (List.range trips.length).map fun k : Nat => (k : Int)) with
      | false =>
        refine ⟨_, rfl, if_t rfl (no S7 fun h => of_decide_eq_false c1 ?_)⟩
        rw [htk] at h
        exact sorted_nat pm up (good_perm h).symm (List.pairwise_lt_range.imp fun h => Nat.le_of_lt h)
      | true =>
      have ens := of_decide_eq_true c1
      have hperm : Rn.flatten.Perm (List.range trips.length) := by
        rw [ens] at pm
        have h1 := pm.map Int.toNat
        rw [List.map_map, List.map_map] at h1
        have h2 : ∀ l : List Nat, l.map (Int.toNat ∘ fun k : Nat => (k : Int)) = l := fun l => by
          rw [show (Int.toNat ∘ fun k : Nat => (k : Int)) = id from funext fun k => rfl, List.map_id]
        rw [h2, h2] at h1
        exact h1.symm
      refine ⟨_, rfl, if_f rfl ?_⟩
      -- numbers apart
      refine ⟨_, rfl, ay, _, rfl, .inl (sqL_of (S7 _ _ hY)), ((nV Pn).length : Nat), rfl, by omega, by omega, for_range (lo := 0) (n := (nV Pn).length)
        (fun k σ H' => Same H H' ∧ (∃ y5 y6, σ = [some (.ref t), some (.ref b), some (.ref ax), some (.ref ay), some (.ref dn), y5, y6, none]) ∧ (∀ j x y, j + 1 < k → Pn[j]? = some x → Pn[j + 1]? = some y → x < y) ∧ ∀ j y, j < k → Pn[j]? = some y → ∀ x ∈ Pn, ¬ G x y)
        ⟨S7, ⟨_, _, rfl⟩, fun j x y h => absurd h (Nat.not_lt_zero _), fun j y h => absurd h (Nat.not_lt_zero _)⟩ ?_ ?_⟩
      · rintro k σ H8 hk ⟨s8, ⟨z5, z6, rfl⟩, hup, hanti⟩
        rw [lP] at hk
        obtain ⟨v, hv⟩ : ∃ v, Pn[k]? = some v := ⟨_, List.getElem?_eq_getElem hk⟩
        have ek : (0 + (k : Int)) = (k : Nat) := Int.zero_add _
        have av : atI (nV Pn) (0 + (k : Int)) = some (.int v) := by rw [ek]; exact nV_at hv
        have hvn := ltP v (List.mem_of_getElem? hv)
        have hp2 := sqL_of (K := K) (s8 _ _ hY)
        refine ⟨fun σ' H' => H' = H8 ∧ (∃ y5, σ' = [some (.ref t), some (.ref b), some (.ref ax), some (.ref ay), some (.ref dn), y5, some (.int (0 + (k : Int))), none]) ∧ ∀ x y, 0 < k → Pn[k - 1]? = some x → Pn[k]? = some y → x < y, ?_, ?_⟩
        · refine ⟨_, rfl, _, _, rfl, rfl, _, rfl, ite2 (fun c1 => ?_) (fun c1 => ?_)⟩
          · have hk0 : 0 < k := by
              have := of_decide_eq_true c1
              omega
            obtain ⟨u, hu1⟩ : ∃ u, Pn[k - 1]? = some u := ⟨_, List.getElem?_eq_getElem (by omega)⟩
            have ek1 : (0 + (k : Int)) - 1 = ((k - 1 : Nat) : Int) := by omega
            have au : atI (nV Pn) (0 + (k : Int) - 1) = some (.int u) := by rw [ek1]; exact nV_at hu1
            refine ⟨_, rfl, _, rfl, _, _, rfl, rfl, ay, _, _, _, rfl, rfl, hp2, au, _, rfl, _, rfl, ay, _, _, _, rfl, rfl, hp2, av, _, _, rfl, rfl, _, rfl, ite2 (fun c2 => ?_) (fun c2 => ?_)⟩
            · refine no s8 fun h => ?_
              obtain ⟨P', e1, up, _, _⟩ := good_apart h
              have e2 := natsD_inj e1
              subst e2
              have h3 := of_decide_eq_true c2
              have h4 := List.pairwise_iff_getElem.mp up (k - 1) k (by omega) hk (by omega)
              rw [List.getElem?_eq_getElem (by omega)] at hu1 hv
              rw [Option.some.inj hu1, Option.some.inj hv] at h4
              omega
            · have h3 := of_decide_eq_false (Bool.eq_false_iff.mpr c2)
              refine ⟨rfl, ⟨_, rfl⟩, fun x y _ hx hy => ?_⟩
              rw [hu1] at hx
              rw [hv] at hy
              cases hx
              cases hy
              omega
          · exact if_f rfl ⟨rfl, ⟨_, rfl⟩, fun x y h0 => absurd (decide_eq_true (show (0 + (k : Int)) > 0 by omega)) c1⟩
        · rintro σ' H' ⟨rfl, ⟨z5, rfl⟩, hlast⟩
          refine ⟨_, rfl, ay, rfl, ⟨_, hp2⟩, fun D nD => ?_⟩
          refine lc_list (K := K) (a := ay) (xs := nV Pn) (fun j H9 => Same H' H9 ∧ ∃ bad : List Nat, H9 D = some (.lst (nV bad)) ∧ bad.length ≤ j ∧ (bad = [] ↔ ∀ x ∈ Pn.take j, ¬ G x v)) ⟨same_upd nD, [], upd_same, Nat.le_refl _, ⟨(fun _ _ h => nomatch h), fun _ => rfl⟩⟩ (fun j H9 _ ⟨s, _⟩ => sqL_of ((s8.trans s) _ _ hY)) ?_ ?_
          · rintro j y H9 hj ⟨s9, bad, e9, lb, hb⟩
            obtain ⟨o, rfl, ho⟩ := nV_get hj
            have hjl := (List.getElem?_eq_some_iff.mp ho).1
            have s89 := s8.trans s9
            obtain ⟨p1, x1, hx1, at1, h1⟩ := tat s89 (ltP o (List.mem_of_getElem? ho))
            obtain ⟨p2, x2, hx2, at2, h2⟩ := tat s89 hvn
            have tk : Pn.take (j + 1) = Pn.take j ++ [o] := by
              rw [List.take_add_one, ho]
              rfl
            have hcm : Cm R trips o v = canM R x1 x2 := Cm_eq hx1 hx2
            refine ⟨rfl, ?_⟩
            refine ⟨_, rfl, _, rfl, _, rfl, b, _, _, _, rfl, rfl, s89.seq hqt, at1, _, rfl, _, rfl, _, rfl, ay, _, _, _, rfl, rfl, sqL_of (s89 _ _ hY), av, b, _, _, _, rfl, rfl, s89.seq hqt, at2, ?_⟩
            refine ⟨t, p1, p2, R, x1, x2, rfl, hR.same s89, hR2, hp, h1, h2, fun H10 s10 => ⟨_, rfl, ?_⟩⟩
            cases hc : canM R x1 x2 with
            | false =>
              refine if_f rfl ⟨s9.trans s10, bad, s10 _ _ e9, by omega, hb.trans ⟨fun h x hx => ?_, fun h x hx => h x (by rw [tk]; exact List.mem_append_left _ hx)⟩⟩
              rw [tk] at hx
              rcases List.mem_append.mp hx with z | z
              · exact h x z
              · rw [List.mem_singleton.mp z, hG]
                intro z2
                have z2 : Cm R trips o v = true := z2
                rw [hcm, hc] at z2
                cases z2
            | true =>
              refine if_t rfl ⟨_, rfl, _, s10 _ _ e9, ?_, same_put (s9.trans s10) nD, bad ++ [o], ?_, ?_, ?_⟩
              · rw [List.length_map]
                exact small1000 (by omega)
              · rw [upd_same, nV_add]
              · rw [List.length_append]
                exact Nat.succ_le_succ lb
              · refine ⟨fun h => absurd h (by simp), fun h => absurd ?_ (h o (by rw [tk]; exact List.mem_append_right _ List.mem_cons_self))⟩
                rw [hG]
                exact hcm.trans hc
          · rintro H9 ⟨s9, bad, e9, lb, hb⟩
            rw [lP, List.take_length] at hb
            refine ⟨Nat.zero_le _, fun e nE => ?_⟩
            have s10 : Same H9 (upd H9 e (.lst [])) := same_upd nE
            obtain ⟨d, e', D1, D2, S1, S2, E1⟩ := ne_nil_of (K := K) (s10 _ _ e9) (upd_same (a := e))
            refine ⟨d, e', D1, D2, S1, S2, ?_⟩
            rw [E1]
            have S10 := (s8.trans s9).trans s10
            cases bad with
            | cons o l =>
              refine ⟨_, rfl, if_t rfl (no S10 fun h => ?_)⟩
              obtain ⟨P', e1, _, _, an⟩ := good_apart h
              have e2 := natsD_inj e1
              subst e2
              have := hb.mpr fun x hx => anti_all irr an x hx v (List.mem_of_getElem? hv)
              cases this
            | nil =>
              refine ⟨_, rfl, if_f rfl ⟨S10, ⟨_, _, rfl⟩, fun j x y hj hx hy => ?_, fun j y hj hy x hx => ?_⟩⟩
              · by_cases c : j + 1 = k
                · subst c
                  exact hlast x y (by omega) hx hy
                · exact hup j x y (by omega) hx hy
              · by_cases c : j = k
                · subst c
                  rw [hv] at hy
                  cases hy
                  exact hb.mp rfl x hx
                · exact hanti j y (by omega) hy x hx
      · rintro σ H8 ⟨s8, ⟨z5, z6, rfl⟩, hup, hanti⟩
        rw [lP] at hup hanti
        have := q _ s8
        rw [good_t (good_mk (by rw [htk]) rfl lR hne hst hperm ltP (up_of fun k x y hx hy => hup k x y (List.getElem?_eq_some_iff.mp hy).1 hx hy) fun i hi j hj => by
          obtain ⟨a, ha, rfl⟩ := List.mem_iff_getElem.mp hj
          exact hanti a _ ha (List.getElem?_eq_getElem ha) i hi)] at this
        exact this
end
end Fb
/-! A number once more; numbers apart changed (law k09). -/
namespace Fb
open PySem PySem.Spec PyProof.Rows L2
/-- the heap without what stands at ap -/
def hide (H : Hp) (ap : Addr) : Hp := fun b => if b = ap then none else H b
theorem hide_same {H : Hp} {ap : Addr} : Same (hide H ap) H := fun b o e => by
  unfold hide at e
  by_cases c : b = ap
  · rw [if_pos c] at e
    cases e
  · rw [if_neg c] at e
    exact e
theorem hide_at {H : Hp} {ap b : Addr} (h : b ≠ ap) : hide H ap b = H b := if_neg h
theorem hide_mono {H H' : Hp} {ap : Addr} (s : Same H H') : Same (hide H ap) (hide H' ap) := fun b o e => by
  unfold hide at e ⊢
  by_cases c : b = ap
  · rw [if_pos c] at e
    cases e
  · rw [if_neg c] at e ⊢
    exact s b o e
theorem hide_put {H : Hp} {ap : Addr} {o : HO} : Same (hide H ap) (upd H ap o) := fun b x e => by
  unfold hide at e
  by_cases c : b = ap
  · rw [if_pos c] at e
    cases e
  · rw [if_neg c] at e
    rw [upd_ne c]
    exact e
theorem nats_da {K : PySem.W.Frag} {H : Hp} {q : Addr} {l : List Nat} (e : H q = some (.lst (nV l))) (h : l.length ≤ 300) : Da K H 1 (.ref q) := (nats_lt (K := K) e h).da
def spDoubled (K : PySem.W.Frag) : Sp := fun vs H Q _ => ∃ (t b rw : Addr) (num : Nat) (R : List Ride) (trips : List Trip) (qs : List Addr) (rows : List (List Nat)), vs = [.ref t, .ref b, .ref rw, .int num] ∧ Rows K H rideV t R ∧ R.length ≤ 200 ∧ PosR R ∧ Rows K H tripV b trips ∧ trips.length ≤ 100 ∧
  LL H rw qs rows ∧ (∀ r ∈ rows, ∀ x ∈ r, x < trips.length) ∧ (∀ r ∈ rows, r.length ≤ 100) ∧ rows.length ≤ 100 ∧ num < trips.length ∧
  ∀ H' p xs, Same H H' → H p = none → H' p = some (.lst xs) → xs.length ≤ 100 → (∀ v ∈ xs, ∃ q l, v = .ref q ∧ H' q = some (.lst (nV l)) ∧ l.length ≤ 300 ∧ (q ∈ qs ∨ H q = none)) → Q (.ref p) H'
section
variable {P : Program} {w : World} {K : PySem.W.Frag} {mg : Str → Option Value} {base : Heap}
theorem cal_law_doubled {f : Addr} {fd : FuncData} (F : Fn K "_law_doubled" s_law_doubled f fd) (g : mg "_law_doubled" = some (.ref f)) (B : Bi mg) (c_lcan : C8.Cal P w K mg base 2 "_law_can" (spLCan K) []) : C8.Cal P w K mg base 3 "_law_doubled" (spDoubled K) [] := by
  refine cal_of F g sc_law_doubled (bi_law_doubled F) (fun vs H Q E h => ?_) (fun cdv A outer s H vs Q E hr h => ?_)
  · obtain ⟨t, b, rw, num, R, trips, qs, rows, rfl, _⟩ := h
    rfl
  · obtain ⟨t, b, rw_, num, R, trips, qs, rows, rfl, hR, hR2, hp, hT, h101, hLL, hlt, hrl, hrn, hnum, q⟩ := h
    have hu := hu_of hr
    refine ⟨_, (pss_cons (ps_set (i := 4) sc_law_doubled.nd rfl (Or.inl rfl) (pe_lst pa_nil)) (pss_cons (ps_for PassesOwn.never rfl (pi_list (pv 2)) (pg_name (i := 5) sc_law_doubled.nd rfl (Or.inl rfl)) (pss_cons (ps_set (i := 7) sc_law_doubled.nd rfl (Or.inl rfl) (pe_callB (r := rSortedP K) cr_sortedP (by rfl) B.sorted (by decide +kernel) (pa_cons (pe_lc (own := [("_law_k", 6)]) (g := gName 6) (tt := tYes) rfl sc_law_doubled.nd (pi_list (pe_op op_cat (pv 5) (pe_lst (pa_cons (pv 3) pa_nil)))) (blkOk_by (N := ["_law_told", "_law_trips_here", "_law_rows", "_law_number", "_law_found", "_law_row", "_law_k", "_law_begins", "_law_more", "_law_good", "_law_pair"]) (sc := defScope s_law_doubled) (by decide +kernel)) (fun _ _ _ _ _ => pg_name (i := 6) sc_law_doubled.nd rfl (Or.inl rfl)) (fun _ _ _ _ _ => pts_nil) (fun _ _ _ _ _ => (pe_tup (pa_cons (pe_ix (r := rIxT K) ix_tup (pe_ix (r := rIxL K) ix_list (pv 1) (pv 6) (fun _ _ => rfl)) pe_int (fun _ _ => rfl)) (pa_cons (pv 6) pa_nil))))) pa_nil))) (pss_cons (ps_setLc (i := 8) (own := [("_law_pair", 10)]) (g := gName 10) (tt := tYes) (by rfl) sc_law_doubled.nd rfl rfl (sw_true rfl rfl rfl (by decide +kernel)) (pi_list (pv 7)) (blkOk_by (N := ["_law_told", "_law_trips_here", "_law_rows", "_law_number", "_law_found", "_law_row", "_law_k", "_law_begins", "_law_more", "_law_good", "_law_pair"]) (sc := defScope s_law_doubled) (by decide +kernel)) (fun _ _ _ _ _ => pg_name (i := 10) sc_law_doubled.nd rfl (Or.inl rfl)) (fun _ _ _ _ _ => pts_nil) (fun _ _ _ _ _ => (pe_ix (r := rIxT K) ix_tup (pv 10) pe_int (fun _ _ => rfl)))) (pss_cons (ps_set (i := 9) sc_law_doubled.nd rfl (Or.inl rfl) (pe_cmpR (r := rIn K true) op_notIn_seq (pv 3) (pv 5) (by rfl))) (pss_cons (ps_for PassesOwn.never rfl (pi_range2 (by rfl) B.range (pa_cons pe_int (pa_cons (pe_callB (r := rLenS K) call_len_seq (by rfl) B.len PySem.boot_len (pa_cons (pv 8) pa_nil)) pa_nil))) (pg_name (i := 6) sc_law_doubled.nd rfl (Or.inl rfl)) (pss_one (ps_if (pt_not (pt_val (C8.pe_c c_lcan hr (by decide) (by rfl) (pa_cons (pv 0) (pa_cons (pe_ix (r := rIxL K) ix_list (pv 1) (pe_ix (r := rIxL K) ix_list (pv 8) (pe_op op_sub (pv 6) pe_int) (fun _ _ => rfl)) (fun _ _ => rfl)) (pa_cons (pe_ix (r := rIxL K) ix_list (pv 1) (pe_ix (r := rIxL K) ix_list (pv 8) (pv 6) (fun _ _ => rfl)) (fun _ _ => rfl)) pa_nil)))))) (pss_one (ps_set (i := 9) sc_law_doubled.nd rfl (Or.inl rfl) pe_bl)) pss_nil))) (C8.pss_cut (ps_if (pt_val (pv 9)) (pss_one (ps_set (i := 5) sc_law_doubled.nd rfl (Or.inl rfl) (pv 8))) pss_nil) (pss_one (ps_expr (pe_bm PySem.F.plainAttrs_list PySem.F.slot_list_append PySem.F.type_list_append mt_append (pv 4) (pa_cons (pv 5) pa_nil)))))))))) (pss_one (ps_ret (pv 4))))), ?_⟩
    obtain ⟨qt, hqt, hTt⟩ := hT
    have ll : (qt.map V.ref).length = trips.length := by rw [List.length_map, hTt.1]
    have tat : ∀ {H' : Hp}, Same H H' → ∀ {i : Nat}, i < trips.length → ∃ q' x, trips[i]? = some x ∧ atI (qt.map V.ref) (i : Int) = some (.ref q') ∧ SqT K H' q' (tripV x) := fun s i hi => by
      have hx : trips[i]? = some trips[i] := List.getElem?_eq_getElem hi
      obtain ⟨q', hq, hs⟩ := (hTt.same s).addr hx
      exact ⟨q', _, hx, atI_nat (by rw [List.getElem?_map, hq]; rfl), hs⟩
    refine ⟨Nat.zero_le _, fun fo nfo => ?_⟩
    have s0 : Same H (upd H fo (.lst [])) := same_upd nfo
    refine ⟨_, rfl, rw_, rfl, ⟨_, sqL_of (s0 _ _ hLL.at_)⟩, for_list (K := K) (a := rw_) (xs := qs.map V.ref) (fun i σ H' => Same H H' ∧ (∃ y5 y6 y7 y8 y9, σ = [some (.ref t), some (.ref b), some (.ref rw_), some (.int num), some (.ref fo), y5, y6, y7, y8, y9, none]) ∧ ∃ xs, H' fo = some (.lst xs) ∧ xs.length ≤ i ∧
      ∀ v ∈ xs, ∃ q l, v = .ref q ∧ H' q = some (.lst (nV l)) ∧ l.length ≤ 300 ∧ (q ∈ qs ∨ H q = none) ∧ q ≠ fo)
      ⟨s0, ⟨none, none, none, none, none, rfl⟩, [], upd_same, Nat.le_refl _, (fun _ h => nomatch h)⟩ (fun i σ H' _ ⟨s, _⟩ => sqL_of (s _ _ hLL.at_)) ?_ ?_⟩
    · rintro i v σ H2 hi ⟨s2, ⟨y5, y6, y7, y8, y9, rfl⟩, xs, exs, lxs, hxs⟩
      have hq1 : i < qs.length := by
        have := (List.getElem?_eq_some_iff.mp hi).1
        rw [List.length_map] at this
        exact this
      have hi1 : i < rows.length := hLL.len ▸ hq1
      have hrow : rows[i]? = some rows[i] := List.getElem?_eq_getElem hi1
      have hqi : qs[i]? = some qs[i] := List.getElem?_eq_getElem hq1
      rw [List.getElem?_map, hqi] at hi
      cases hi
      obtain ⟨nq, eq⟩ := hLL.row i _ _ hqi hrow
      have hrm := List.mem_of_getElem? hrow
      have hqm := List.mem_of_getElem? hqi
      have hrlt := hlt _ hrm
      have hrl1 := hrl _ hrm
      generalize rows[i] = row at *
      generalize qs[i] = q1 at *
      have lrow : (nV row).length = row.length := by rw [List.length_map]
      -- the pairs
      refine ⟨_, rfl, _, rfl, (by show 1 ≤ sizeLine; decide), fun z nz => ?_⟩
      have s3 : Same H2 (upd H2 z (.lst [.int num])) := same_upd nz
      refine ⟨q1, z, _, _, rfl, rfl, s3 _ _ (s2 _ _ eq), upd_same, ?_, fun c nc => ?_⟩
      · rw [lrow]
        exact small1000 (by omega)
      have s4 := s3.trans (same_upd (o := .lst (nV row ++ [.int num])) nc)
      have ec : (upd (upd H2 z (.lst [.int num])) c (.lst (nV row ++ [.int num]))) c = some (.lst (nV (row ++ [num]))) := by
        rw [upd_same, nV_add]
      have S4 := s2.trans s4
      obtain ⟨H4, hH4⟩ : ∃ H4, H4 = upd (upd H2 z (.lst [.int num])) c (.lst (nV row ++ [.int num])) := ⟨_, rfl⟩
      rw [← hH4] at s4 ec S4 ⊢
      clear hH4
      refine ⟨c, rfl, ⟨_, sqL_of ec⟩, fun D nD => ?_⟩
      have hlt2 : ∀ x ∈ row ++ [num], x < trips.length := fun x hx => by
        rcases List.mem_append.mp hx with z | z
        · exact hrlt x z
        · rw [List.mem_singleton.mp z]
          exact hnum
      have hl2 : (row ++ [num]).length ≤ 101 := by
        rw [List.length_append]
        exact Nat.succ_le_succ hrl1
      generalize row ++ [num] = row2 at *
      have lrow2 : (nV row2).length = row2.length := by rw [List.length_map]
      refine lc_list (K := K) (a := c) (xs := nV row2) (fun j H' => Same H4 H' ∧ ∃ ps : List Addr, H' D = some (.lst (ps.map V.ref)) ∧ ps.length = j ∧ ∀ q ∈ ps, ∃ (b : Int) (i : Nat), H' q = some (.tup [.int b, .int i]) ∧ i < trips.length)
        ⟨same_upd nD, [], upd_same, rfl, (fun _ h => nomatch h)⟩ (fun j H' _ ⟨s, _⟩ => sqL_of (s _ _ ec)) ?_ ?_
      · rintro j v H5 hj ⟨s5, ps, e5, lps, hps⟩
        obtain ⟨k, rfl, hk⟩ := nV_get hj
        have hkn := hlt2 k (List.mem_of_getElem? hk)
        have hjl := (List.getElem?_eq_some_iff.mp hk).1
        obtain ⟨p1, x1, hx1, at1, h1⟩ := tat (S4.trans s5) hkn
        refine ⟨rfl, ?_⟩
        refine ⟨_, rfl, _, rfl, b, _, _, _, rfl, rfl, (S4.trans s5).seq hqt, at1, p1, _, 1, _, rfl, rfl, h1, atI_nat (j := 1) rfl, _, rfl, (by show 2 ≤ sizeLine; decide), fun T hT => ?_⟩
        have s6 : Same H5 (upd H5 T (.tup [.int x1.2.1, .int (k : Int)])) := same_upd hT
        refine ⟨_, s6 _ _ e5, ?_, same_put (s5.trans s6) nD, ps ++ [T], ?_, ?_, fun q hq => ?_⟩
        · rw [List.length_map, lps]
          exact small1000 (by omega)
        · rw [upd_same, List.map_append]
          rfl
        · rw [List.length_append, lps]
          rfl
        · rcases List.mem_append.mp hq with z | z
          · obtain ⟨b1, i1, h2, h3⟩ := hps q z
            refine ⟨b1, i1, ?_, h3⟩
            rw [upd_ne fun e : q = D => by
              rw [e, e5] at h2
              cases h2]
            exact s6 _ _ h2
          · rw [List.mem_singleton.mp z]
            refine ⟨x1.2.1, k, ?_, hkn⟩
            have nTD : T ≠ D := fun e => by
              rw [e, e5] at hT
              cases hT
            rw [upd_ne nTD, upd_same]
      · rintro H5 ⟨s5, ps, e5, lps, hps⟩
        rw [lrow2] at lps
        refine ⟨D, _, rfl, sqL_of e5, fun y hy => ?_, fun ys p0 pm np0 => ?_⟩
        · obtain ⟨q2, hq, rfl⟩ := List.mem_map.mp hy
          obtain ⟨b1, i1, h2, _⟩ := hps q2 hq
          exact ⟨q2, _, _, rfl, h2⟩
        have lys : ys.length = row2.length := by rw [pm.length_eq, List.length_map, lps]
        have hys : ∀ y ∈ ys, ∃ (q : Addr) (b : Int) (i : Nat), y = .ref q ∧ H5 q = some (.tup [.int b, .int i]) ∧ i < trips.length := fun y hy => by
          obtain ⟨q2, hq, rfl⟩ := List.mem_map.mp (pm.mem_iff.mp hy)
          obtain ⟨b1, i1, h2, h3⟩ := hps q2 hq
          exact ⟨q2, b1, i1, rfl, h2, h3⟩
        have s6 : Same H5 (upd H5 p0 (.lst ys)) := same_upd np0
        have e6 : (upd H5 p0 (.lst ys)) p0 = some (.lst ys) := upd_same
        obtain ⟨H6, hH6⟩ : ∃ H6, H6 = upd H5 p0 (.lst ys) := ⟨_, rfl⟩
        rw [← hH6] at s6 e6 ⊢
        clear hH6
        -- the numbers of them
        refine ⟨_, rfl, p0, rfl, ⟨_, sqL_of e6⟩, fun mo nmo => ?_⟩
        have S6 := (S4.trans s5).trans s6
        have nmo0 : H mo = none := S6.free nmo
        refine lc_list (K := K) (a := p0) (xs := ys) (fun j H' => Same H6 H' ∧ ∃ l : List Nat, H' mo = some (.lst (nV l)) ∧ l.length = j ∧ ∀ x ∈ l, x < trips.length) ⟨same_upd nmo, [], upd_same, rfl, (fun _ h => nomatch h)⟩ (fun j H' _ ⟨s, _⟩ => sqL_of (s _ _ e6)) ?_ ?_
        · rintro j y H7 hj ⟨s7, l, e7, hl, hll⟩
          obtain ⟨q2, b1, i1, rfl, h1, h2⟩ := hys y (List.mem_of_getElem? hj)
          have hjl := (List.getElem?_eq_some_iff.mp hj).1
          refine ⟨rfl, ?_⟩
          refine ⟨_, rfl, q2, _, 1, _, rfl, rfl, sqT_of ((s6.trans s7) _ _ h1), atI_nat (j := 1) rfl, _, e7, ?_, same_put s7 nmo, l ++ [i1], ?_, ?_, fun x hx => ?_⟩
          · rw [List.length_map]
            exact small1000 (by omega)
          · rw [upd_same, nV_add]
          · rw [List.length_append, hl]
            rfl
          · rcases List.mem_append.mp hx with z | z
            · exact hll x z
            · rw [List.mem_singleton.mp z]
              exact h2
        · rintro H7 ⟨s7, more, e7, hl7, hll⟩
          have S7 := S6.trans s7
          have lmore : (nV more).length = more.length := by rw [List.length_map]
          refine ⟨_, rfl, _, rfl, q1, _, rfl, .inl (sqL_of (S7 _ _ eq)), rfl, flat_nV row, ?_⟩
          -- in time, each
          refine ⟨_, rfl, mo, _, rfl, .inl (sqL_of e7), 1, ((nV more).length : Nat), rfl, ⟨by decide, by decide, by omega, by omega⟩, for_range (lo := 1) (n := (((nV more).length : Int) - 1).toNat)
            (fun k σ H' => Same H7 H' ∧ ∃ (y6 : Option V) (b9 : Bool), σ = [some (.ref t), some (.ref b), some (.ref rw_), some (.int num), some (.ref fo), some (.ref q1), y6, some (.ref p0), some (.ref mo), some (.bl b9), none])
            ⟨Same.refl _, y6, _, rfl⟩ ?_ ?_⟩
          · rintro k σ H8 hk ⟨s8, z6, b9, rfl⟩
            have hk1 : k + 1 < more.length := by omega
            obtain ⟨u, hu1⟩ : ∃ u, more[k]? = some u := ⟨_, List.getElem?_eq_getElem (by omega)⟩
            obtain ⟨v, hv1⟩ : ∃ v, more[k + 1]? = some v := ⟨_, List.getElem?_eq_getElem hk1⟩
            have ek1 : (1 + (k : Int)) - 1 = (k : Nat) := by omega
            have ek2 : (1 + (k : Int)) = ((k + 1 : Nat) : Int) := by omega
            have au : atI (nV more) (1 + (k : Int) - 1) = some (.int u) := by rw [ek1]; exact nV_at hu1
            have av : atI (nV more) (1 + (k : Int)) = some (.int v) := by rw [ek2]; exact nV_at hv1
            have S8 := S7.trans s8
            obtain ⟨p1, x1, hx1, at1, h1⟩ := tat S8 (hll u (List.mem_of_getElem? hu1))
            obtain ⟨p2, x2, hx2, at2, h2⟩ := tat S8 (hll v (List.mem_of_getElem? hv1))
            have eq8 := sqL_of (K := K) (s8 _ _ e7)
            refine ⟨_, rfl, _, rfl, _, rfl, _, rfl, _, _, rfl, rfl, mo, _, _, _, rfl, rfl, eq8, au, b, _, _, _, rfl, rfl, S8.seq hqt, at1, ?_⟩
            refine ⟨_, rfl, _, rfl, _, rfl, mo, _, _, _, rfl, rfl, eq8, av, b, _, _, _, rfl, rfl, S8.seq hqt, at2, ?_⟩
            refine ⟨t, p1, p2, R, x1, x2, rfl, hR.same S8, hR2, hp, h1, h2, fun H9 s9 => ⟨_, rfl, ?_⟩⟩
            cases hc : canM R x1 x2 with
            | false => exact if_t rfl ⟨s8.trans s9, _, false, rfl⟩
            | true => exact if_f rfl ⟨s8.trans s9, _, b9, rfl⟩
          · rintro σ H8 ⟨s8, z6, b9, rfl⟩
            have S8 := S7.trans s8
            have exs8 := ((((s4.trans s5).trans s6).trans s7).trans s8) _ _ exs
            refine ⟨fun σ' H' => H' = H8 ∧ ∃ (q2 : Addr) (l : List Nat), σ' = [some (.ref t), some (.ref b), some (.ref rw_), some (.int num), some (.ref fo), some (.ref q2), z6, some (.ref p0), some (.ref mo), some (.bl b9), none] ∧ H8 q2 = some (.lst (nV l)) ∧ l.length ≤ 300 ∧ (q2 ∈ qs ∨ H q2 = none) ∧ q2 ≠ fo, ?_, ?_⟩
            · refine ⟨_, rfl, _, rfl, ?_⟩
              cases b9 with
              | true =>
                refine if_t rfl ⟨_, rfl, rfl, mo, more, rfl, s8 _ _ e7, by omega, .inr nmo0, fun e => ?_⟩
                have := ((s4.trans s5).trans s6) _ _ exs
                rw [e, this] at nmo
                cases nmo
              | false => exact if_f rfl ⟨rfl, q1, row, rfl, S8 _ _ eq, by omega, .inl hqm, ne_of_none eq nfo⟩
            · rintro σ' H' ⟨rfl, q2, l, rfl, e2, l2, m2, n2⟩
              refine ⟨_, rfl, .inl ⟨rfl, _, sqL_of exs8⟩, _, rfl, fo, _, _, rfl, rfl, exs8, small1000 (by omega), same_put S8 nfo, ⟨_, _, _, _, _, rfl⟩, xs ++ [.ref q2], upd_same, ?_, fun v hv => ?_⟩
              · rw [List.length_append]
                exact Nat.succ_le_succ lxs
              · rcases List.mem_append.mp hv with z | z
                · obtain ⟨q3, l3, rfl, h1, h2, h3, h4⟩ := hxs v z
                  exact ⟨q3, l3, rfl, by rw [upd_ne h4]; exact ((((s4.trans s5).trans s6).trans s7).trans s8) _ _ h1, h2, h3, h4⟩
                · rw [List.mem_singleton.mp z]
                  exact ⟨q2, l, rfl, by rw [upd_ne n2]; exact e2, l2, m2, n2⟩
    · rintro σ H2 ⟨s2, ⟨y5, y6, y7, y8, y9, rfl⟩, xs, exs, lxs, hxs⟩
      have := hLL.len
      rw [List.length_map] at lxs
      refine ⟨_, rfl, q H2 fo xs s2 nfo exs (by omega) fun v hv => ?_⟩
      obtain ⟨q3, l3, e, h1, h2, h3, _⟩ := hxs v hv
      exact ⟨q3, l3, e, h1, h2, h3⟩
end
end Fb
/-! Numbers apart changed (law k09). -/
namespace Fb
open PySem PySem.Spec PyProof.Rows L2
theorem cut_mem {xs : List V} {lo hi : Option Int} : ∀ v ∈ cutV xs lo hi, v ∈ xs := fun _ hv => List.mem_of_mem_drop (List.mem_of_mem_take hv)
theorem ixN_of {n : Nat} {z : Int} (h0 : 0 ≤ z) (h1 : z < (n : Int)) : ixN n z = some z.toNat := by
  unfold ixN
  rw [if_pos h0, if_pos h1]
theorem set_mem {xs : List V} {j : Nat} {w : V} {n : Nat} {K : PySem.W.Frag} {H : Hp} (h : ∀ v ∈ xs, Da K H n v) (hw : Da K H n w) : ∀ v ∈ xs.set j w, Da K H n v := fun v hv => by
  rcases List.mem_or_eq_of_mem_set hv with z | z
  · exact h v z
  · rw [z]
    exact hw
def spNChanged (K : PySem.W.Frag) : Sp := fun vs H Q _ => ∃ (rw ap : Addr) (c cell at_ spot : Int) (P : List Nat), vs = [.ref rw, .ref ap, .int c, .int cell, .int at_, .int spot] ∧ H ap = some (.lst (nV P)) ∧ P.length ≤ 100 ∧ 0 ≤ at_ ∧ at_ < (P.length : Int) ∧
  (c = 6 → ∃ qs rows, LL (hide H ap) rw qs rows ∧ (∀ r ∈ rows, r.length ≤ 100) ∧ rows.length ≤ 100) ∧ ∀ H' p, Same (hide H ap) H' → Lt K H' 1 p → Q (.ref p) H'
section
variable {P : Program} {w : World} {K : PySem.W.Frag} {mg : Str → Option Value} {base : Heap}
theorem cal_law_numbers_changed {f : Addr} {fd : FuncData} (F : Fn K "_law_numbers_changed" s_law_numbers_changed f fd) (g : mg "_law_numbers_changed" = some (.ref f)) (B : Bi mg) (c_odd : C8.Cal P w K mg base 1 "_law_odd" (spLOdd K) []) : C8.Cal P w K mg base 2 "_law_numbers_changed" (spNChanged K) [] := by
  refine cal_of F g sc_law_numbers_changed (bi_law_numbers_changed F) (fun vs H Q E h => ?_) (fun cdv A outer s H vs Q E hr h => ?_)
  · obtain ⟨rw, ap, c, cell, at_, spot, P, rfl, _⟩ := h
    rfl
  · obtain ⟨rw_, ap, c, cell, at_, spot, Pn, rfl, eap, lP, h0, h1, h6, q⟩ := h
    refine ⟨_, (pss_cons (ps_if (pt_cmpR op_eq (pv 2) pe_int (nomark _)) (pss_cons (ps_set (i := 6) sc_law_numbers_changed.nd rfl (Or.inl rfl) (pe_lst pa_nil)) (pss_cons (ps_for PassesOwn.never rfl (pi_list (pv 0)) (pg_name (i := 7) sc_law_numbers_changed.nd rfl (Or.inl rfl)) (pss_one (ps_set (i := 6) sc_law_numbers_changed.nd rfl (Or.inl rfl) (pe_op op_cat (pv 6) (pv 7))))) (pss_cons (ps_setLc (i := 8) (own := [("_law_one", 9)]) (g := gName 9)  (by rfl) sc_law_numbers_changed.nd rfl rfl (sw_true rfl rfl rfl (by decide +kernel)) (pi_list (pv 6)) (blkOk_by (N := ["_law_rows", "_law_apart", "_law_change", "_law_cell", "_law_at", "_law_spot", "_law_numbers_here", "_law_row", "_law_others", "_law_one"]) (sc := defScope s_law_numbers_changed) (by decide +kernel)) (fun _ _ _ _ _ => pg_name (i := 9) sc_law_numbers_changed.nd rfl (Or.inl rfl)) (fun _ _ _ _ _ => (pts_one (pt_cmpR (r := rIn K true) op_notIn_seq (pv 9) (pv 1) (by rfl)))) (fun _ _ _ _ _ => (pv 9))) (pss_cons (ps_if (pt_cmpR op_eq (pe_op op_mod (pv 5) pe_int) pe_int (nomark _)) (pss_one (ps_asg (pe_ix (r := rIxL K) ix_list (pv 1) (pe_op op_mod (pe_op op_fdiv (pv 5) pe_int) (pe_callB (r := rLenS K) call_len_seq (by rfl) B.len PySem.boot_len (pa_cons (pv 1) pa_nil))) (fun _ _ => rfl)) (pg_sub (pv 1) (pv 4) set_list))) (pss_one (ps_if (pt_cmpR (op_neD hr.units) (pv 8) (pe_lst pa_nil) (nomark _)) (pss_one (ps_asg (pe_ix (r := rIxL K) ix_list (pv 8) (pe_op op_mod (pe_op op_fdiv (pv 5) pe_int) (pe_callB (r := rLenS K) call_len_seq (by rfl) B.len PySem.boot_len (pa_cons (pv 8) pa_nil))) (fun _ _ => rfl)) (pg_sub (pv 1) (pv 4) set_list))) pss_nil))) (pss_one (ps_ret (pe_callB (r := rSortedI K) cr_sortedI (by rfl) B.sorted (by decide +kernel) (pa_cons (pv 1) pa_nil)))))))) pss_nil) (pss_cons (ps_if (pt_cmpR op_eq (pv 2) pe_int (nomark _)) (pss_one (ps_ret (pe_revL (pv 1)))) pss_nil) (pss_cons (ps_if (pt_cmpR op_eq (pv 2) pe_int (nomark _)) (pss_one (ps_ret (pe_slice sl_list (pv 1) po_none (po_some (pe_un un_neg pe_int))))) pss_nil) (pss_cons (ps_if (pt_cmpR op_eq (pv 2) pe_int (nomark _)) (pss_one (ps_asg (C8.pe_c c_odd hr (by decide) (by rfl) (pa_cons (pe_op op_fdiv (pv 3) pe_int) pa_nil)) (pg_sub (pv 1) (pv 4) set_list))) pss_nil) (pss_one (ps_ret (pv 1))))))), ?_⟩
    have lPV : (nV Pn).length = Pn.length := by rw [List.length_map]
    have hix : ixN (nV Pn).length at_ = some at_.toNat := ixN_of h0 (by rw [lPV]; exact h1)
    have hP0 : 0 < Pn.length := by omega
    have da : ∀ {H' : Hp} {n : Nat}, ∀ v ∈ nV Pn, Da K H' n v := fun v hv => by
      obtain ⟨k, _, rfl⟩ := List.mem_map.mp hv
      exact int_da _ _
    have put : ∀ {H' : Hp} {u : V}, Same (hide H ap) H' → Da K (upd H' ap (.lst ((nV Pn).set at_.toNat u))) 1 u → Same (hide H ap) (upd H' ap (.lst ((nV Pn).set at_.toNat u))) ∧ Lt K (upd H' ap (.lst ((nV Pn).set at_.toNat u))) 1 ap := fun {H' u} s hu => by
      refine ⟨fun b o e => ?_, _, upd_same, by rw [List.length_set, lPV]; omega, set_mem da hu⟩
      have e2 := s b o e
      unfold hide at e
      by_cases cc : b = ap
      · rw [if_pos cc] at e
        cases e
      · rw [upd_ne cc]
        exact e2
    refine ⟨_, rfl, rfl, _, rfl, ?_⟩
    cases c6 : decide (V.int c = V.int 6) with
    | true =>
      obtain ⟨qs, rows, hLL, hrl, hrn⟩ := h6 (V.int.inj (of_decide_eq_true c6))
      refine if_t rfl ⟨Nat.zero_le _, fun n0 nn0 => ?_⟩
      have s0 : Same H (upd H n0 (.lst [])) := same_upd nn0
      have hH : LL H rw_ qs rows := hLL.same hide_same
      -- all numbers of the rows
      refine ⟨_, rfl, rw_, rfl, ⟨_, sqL_of (s0 _ _ hH.at_)⟩, for_list (K := K) (a := rw_) (xs := qs.map V.ref) (fun i σ H' => Same H H' ∧ ∃ (y7 : Option V) (d : Addr) (l : List Nat), σ = [some (.ref rw_), some (.ref ap), some (.int c), some (.int cell), some (.int at_), some (.int spot), some (.ref d), y7, none, none] ∧ H' d = some (.lst (nV l)) ∧ l.length ≤ 100 * i ∧ H d = none)
        ⟨s0, none, n0, [], rfl, upd_same, Nat.zero_le _, nn0⟩ (fun i σ H' _ ⟨s, _⟩ => sqL_of (s _ _ hH.at_)) ?_ ?_⟩
      · rintro i v σ H2 hi ⟨s2, y7, d, l, rfl, ed, ll, nd⟩
        have hq1 : i < qs.length := by
          have := (List.getElem?_eq_some_iff.mp hi).1
          rw [List.length_map] at this
          exact this
        have hi1 : i < rows.length := hLL.len ▸ hq1
        have hrow : rows[i]? = some rows[i] := List.getElem?_eq_getElem hi1
        have hqi : qs[i]? = some qs[i] := List.getElem?_eq_getElem hq1
        rw [List.getElem?_map, hqi] at hi
        cases hi
        obtain ⟨nq, eq⟩ := hH.row i _ _ hqi hrow
        have hrl1 := hrl _ (List.mem_of_getElem? hrow)
        generalize rows[i] = row at *
        generalize qs[i] = q1 at *
        refine ⟨_, rfl, _, rfl, d, q1, _, _, rfl, rfl, ed, s2 _ _ eq, ?_, fun d2 nd2 => ⟨s2.trans (same_upd nd2), _, d2, l ++ row, rfl, ?_, ?_, s2.free nd2⟩⟩
        · rw [List.length_map, List.length_map]
          have : sizeLine = 16777216 := sizeLine_eq
          omega
        · rw [upd_same]
          unfold nV
          rw [List.map_append]
        · rw [List.length_append]
          omega
      · rintro σ H2 ⟨s2, y7, d, l, rfl, ed, ll, nd⟩
        have lq := hLL.len
        rw [List.length_map] at ll
        have ll2 : l.length ≤ 10000 := by omega
        have eap2 := s2 _ _ eap
        -- the others
        refine ⟨_, rfl, d, rfl, ⟨_, sqL_of ed⟩, fun D nD => ?_⟩
        refine lc_list (K := K) (a := d) (xs := nV l) (fun j H' => Same H2 H' ∧ ∃ m : List Nat, H' D = some (.lst (nV m)) ∧ m.length ≤ j) ⟨same_upd nD, [], upd_same, Nat.le_refl _⟩ (fun j H' _ ⟨s, _⟩ => sqL_of (s _ _ ed)) ?_ ?_
        · rintro j v H3 hj ⟨s3, m, e3, lm⟩
          obtain ⟨x, rfl, hx⟩ := nV_get hj
          have hjl := (List.getElem?_eq_some_iff.mp hx).1
          refine ⟨rfl, _, rfl, _, rfl, ap, _, rfl, .inl (sqL_of (s3 _ _ eap2)), rfl, flat_nV Pn, _, rfl, ?_⟩
          cases hin : (!inV (.int (x : Int)) (nV Pn)) with
          | false => exact if_f rfl ⟨s3, m, e3, by omega⟩
          | true =>
            refine if_t rfl ⟨_, rfl, _, e3, ?_, same_put s3 nD, m ++ [x], ?_, ?_⟩
            · rw [List.length_map]
              have : sizeLine = 16777216 := sizeLine_eq
              omega
            · rw [upd_same, nV_add]
            · rw [List.length_append]
              exact Nat.succ_le_succ lm
        · rintro H3 ⟨s3, m, e3, lm⟩
          rw [List.length_map] at lm
          have S3 := s2.trans s3
          have eap3 := S3 _ _ eap
          have hS : Same (hide H ap) H3 := fun b o e => S3 b o (hide_same b o e)
          have srt : ∀ {H4 : Hp} {Pm : List Nat}, Same (hide H ap) H4 → H4 ap = some (.lst (nV Pm)) → Pm.length = Pn.length → rSortedI K [.ref ap] H4 Q := fun {H4 Pm} s e hl => by
            refine ⟨ap, _, rfl, sqL_of (nV_ints Pm ▸ e), fun ns p pm up np => ?_⟩
            refine q _ p (s.trans (same_upd np)) ⟨ns.map V.int, upd_same, ?_, fun v hv => ?_⟩
            · rw [List.length_map, pm.length_eq, List.length_map]
              omega
            · obtain ⟨k, _, rfl⟩ := List.mem_map.mp hv
              exact int_da _ _
          have putN : ∀ {H4 : Hp} {u : Nat}, Same (hide H ap) H4 → H4 ap = some (.lst (nV Pn)) → rSortedI K [.ref ap] (upd H4 ap (.lst ((nV Pn).set at_.toNat (.int u)))) Q := fun {H4 u} s e => by
            refine srt (Pm := Pn.set at_.toNat u) (put s (int_da _ _)).1 ?_ (by rw [List.length_set])
            rw [upd_same]
            unfold nV
            rw [List.map_set]
          refine ⟨_, rfl, _, _, rfl, rfl, (by show (0 : Int) < 3; decide), rfl, _, rfl, ?_⟩
          cases c3 : decide (V.int (spot % 3) = V.int 0) with
          | true =>
            refine if_t rfl ?_
            obtain ⟨u, hu1⟩ : ∃ u : Nat, Pn[(spot / 64 % (Pn.length : Int)).toNat]? = some u := ⟨_, List.getElem?_eq_getElem (by have := Int.emod_lt_of_pos (spot / 64) (show (0 : Int) < Pn.length by omega); have := Int.emod_nonneg (spot / 64) (show (Pn.length : Int) ≠ 0 by omega); omega)⟩
            have au : atI (nV Pn) (spot / 64 % ((nV Pn).length : Int)) = some (.int u) := by
              have := Int.emod_nonneg (spot / 64) (show (Pn.length : Int) ≠ 0 by omega)
              have e := nV_at hu1
              rw [lPV]
              rw [show (((spot / 64 % (Pn.length : Int)).toNat : Nat) : Int) = spot / 64 % (Pn.length : Int) by omega] at e
              exact e
            refine ⟨_, rfl, _, rfl, _, _, rfl, rfl, ⟨by decide, by decide⟩, _, rfl, ap, _, rfl, .inl (sqL_of eap3), _, _, rfl, rfl, ?_, ap, _, _, _, rfl, rfl, sqL_of eap3, au, ?_⟩
            · rw [lPV]
              omega
            refine ⟨_, rfl, _, rfl, ap, _, _, _, rfl, rfl, eap3, hix, ?_⟩
            exact ⟨_, rfl, putN hS eap3⟩
          | false =>
            refine if_f rfl ⟨_, rfl, Nat.zero_le _, fun e nE => ?_⟩
            have s4 : Same H3 (upd H3 e (.lst [])) := same_upd nE
            obtain ⟨d1, e1, D1, D2, S1, S2, E1⟩ := ne_nil_of (K := K) (s4 _ _ e3) (upd_same (a := e))
            refine ⟨d1, e1, D1, D2, S1, S2, ?_⟩
            rw [E1]
            have e34 := s4 _ _ e3
            have eap4 := s4 _ _ eap3
            have hS4 := hS.trans s4
            obtain ⟨H4, hH4⟩ : ∃ H4, H4 = upd H3 e (.lst []) := ⟨_, rfl⟩
            rw [← hH4] at e34 eap4 hS4 ⊢
            cases m with
            | nil => exact ⟨_, rfl, if_f rfl ⟨_, rfl, srt hS4 eap4 rfl⟩⟩
            | cons m0 ms =>
              refine ⟨_, rfl, if_t rfl ?_⟩
              generalize hm : m0 :: ms = m at *
              have lm0 : 0 < m.length := by
                rw [← hm]
                exact Nat.succ_pos _
              have lmV : (nV m).length = m.length := by rw [List.length_map]
              obtain ⟨u, hu1⟩ : ∃ u : Nat, m[(spot / 64 % (m.length : Int)).toNat]? = some u := ⟨_, List.getElem?_eq_getElem (by have := Int.emod_lt_of_pos (spot / 64) (show (0 : Int) < m.length by omega); have := Int.emod_nonneg (spot / 64) (show (m.length : Int) ≠ 0 by omega); omega)⟩
              have au : atI (nV m) (spot / 64 % ((nV m).length : Int)) = some (.int u) := by
                have := Int.emod_nonneg (spot / 64) (show (m.length : Int) ≠ 0 by omega)
                have e := nV_at hu1
                rw [lmV]
                rw [show (((spot / 64 % (m.length : Int)).toNat : Nat) : Int) = spot / 64 % (m.length : Int) by omega] at e
                exact e
              refine ⟨_, rfl, _, rfl, _, _, rfl, rfl, ⟨by decide, by decide⟩, _, rfl, D, _, rfl, .inl (sqL_of e34), _, _, rfl, rfl, ?_, D, _, _, _, rfl, rfl, sqL_of e34, au, ?_⟩
              · rw [lmV]
                omega
              refine ⟨_, rfl, _, rfl, ap, _, _, _, rfl, rfl, eap4, hix, ?_⟩
              exact ⟨_, rfl, putN hS4 eap4⟩
    | false =>
      refine if_f rfl ⟨_, rfl, rfl, _, rfl, ?_⟩
      cases c8 : decide (V.int c = V.int 8) with
      | true =>
        refine if_t rfl ⟨_, rfl, ap, _, rfl, sqL_of eap, fun p np => ?_⟩
        exact q _ p (fun b o e => same_upd np b o (hide_same b o e)) ⟨_, upd_same, by rw [List.length_reverse, lPV]; omega, fun v hv => da v (List.mem_reverse.mp hv)⟩
      | false =>
      refine if_f rfl ⟨_, rfl, rfl, _, rfl, ?_⟩
      cases c9 : decide (V.int c = V.int 9) with
      | true =>
        refine if_t rfl ⟨_, rfl, 1, rfl, _, rfl, ap, _, rfl, sqL_of eap, fun p np => ?_⟩
        exact q _ p (fun b o e => same_upd np b o (hide_same b o e)) ⟨_, upd_same, by have := cutV_length (nV Pn) none (some (-1)); omega, fun v hv => da v (cut_mem v hv)⟩
      | false =>
      refine if_f rfl ⟨_, rfl, rfl, _, rfl, ?_⟩
      cases c10 : decide (V.int c = V.int 10) with
      | true =>
        refine if_t rfl ⟨_, rfl, _, _, rfl, rfl, ⟨by decide, by decide⟩, cell / 16, rfl, fun H1 v s1 hv => ?_⟩
        have eap1 := s1 _ _ eap
        have hS : Same (hide H ap) H1 := fun b o e => s1 b o (hide_same b o e)
        have w := put hS (hv.same (fresh_put eap))
        exact ⟨_, rfl, _, rfl, ap, _, _, _, rfl, rfl, eap1, hix, _, rfl, q _ ap w.1 w.2⟩
      | false =>
        refine if_f rfl ⟨_, rfl, q _ ap hide_same ⟨_, eap, by omega, da⟩⟩
end
end Fb
/-! Rows and numbers with one thing changed (law k09). -/
namespace Fb
open PySem PySem.Spec PyProof.Rows L2
/-- list(x) within a comprehension, what it asks -/
def rLstOf (K : PySem.W.Frag) : List V → Hp → VK → Prop := fun vs H Q => ∃ a xs, vs = [.ref a] ∧ (SqL K H a xs ∨ SqT K H a xs) ∧ ∀ p, H p = none → Q (.ref p) (upd H p (.lst xs))
theorem LL.atz {H : Hp} {af : Addr} {qs : List Addr} {L : List (List Nat)} (b : LL H af qs L) {z : Int} (h0 : 0 ≤ z) (h1 : z < (L.length : Int)) : ∃ q l, atI (qs.map V.ref) z = some (.ref q) ∧ l ∈ L ∧ q ∈ qs ∧ H q = some (.lst (nV l)) ∧ q ≠ af := by
  have hl : z.toNat < L.length := by omega
  have hq : z.toNat < qs.length := b.len ▸ hl
  have eq : qs[z.toNat]? = some qs[z.toNat] := List.getElem?_eq_getElem hq
  have el : L[z.toNat]? = some L[z.toNat] := List.getElem?_eq_getElem hl
  obtain ⟨n, e⟩ := b.row _ _ _ eq el
  refine ⟨_, _, ?_, List.getElem_mem hl, List.getElem_mem hq, e, n⟩
  have := atI_nat (xs := qs.map V.ref) (j := z.toNat) (by rw [List.getElem?_map, eq]; rfl)
  rw [show ((z.toNat : Nat) : Int) = z by omega] at this
  exact this
theorem LL.mem {H : Hp} {af : Addr} {qs : List Addr} {L : List (List Nat)} (b : LL H af qs L) {q : Addr} (h : q ∈ qs) : ∃ l, l ∈ L ∧ H q = some (.lst (nV l)) ∧ q ≠ af := by
  obtain ⟨i, hi, e⟩ := List.mem_iff_getElem.mp h
  have hl : i < L.length := b.len ▸ hi
  have := b.row i q L[i] (by rw [List.getElem?_eq_getElem hi, e]) (List.getElem?_eq_getElem hl)
  exact ⟨_, List.getElem_mem hl, this.2, this.1⟩
theorem hide_some {H : Hp} {ap b : Addr} {o : HO} (h : hide H ap b = some o) : b ≠ ap ∧ H b = some o := by
  unfold hide at h
  by_cases c : b = ap
  · rw [if_pos c] at h
    cases h
  · rw [if_neg c] at h
    exact ⟨c, h⟩
/-- the rows' own lists, each of numbers -/
def Ns (H : Hp) (k : Nat) (qs : List Addr) : Prop := ∀ q ∈ qs, ∃ l : List Nat, H q = some (.lst (nV l)) ∧ l.length ≤ k
theorem Ns.put {H : Hp} {k : Nat} {qs : List Addr} {p : Addr} {l : List Nat} (n : Ns H k qs) (h : l.length ≤ k) : Ns (upd H p (.lst (nV l))) k qs := fun q hq => by
  by_cases c : q = p
  · subst c
    exact ⟨l, upd_same, h⟩
  · obtain ⟨m, e, lm⟩ := n q hq
    exact ⟨m, by rw [upd_ne c]; exact e, lm⟩
theorem Ns.ups {H : Hp} {k m : Nat} {qs : List Addr} (n : Ns H k qs) (h : k ≤ m) : Ns H m qs := fun q hq => by
  obtain ⟨l, e, ll⟩ := n q hq
  exact ⟨l, e, Nat.le_trans ll h⟩
theorem Ns.same {H H' : Hp} {k : Nat} {qs : List Addr} (n : Ns H k qs) (s : Same H H') : Ns H' k qs := fun q hq => by
  obtain ⟨l, e, ll⟩ := n q hq
  exact ⟨l, s _ _ e, ll⟩
theorem Ns.da {K : PySem.W.Frag} {H : Hp} {k : Nat} {qs : List Addr} (n : Ns H k qs) (h : k ≤ 300) : ∀ v ∈ qs.map V.ref, Da K H 1 v := fun v hv => by
  obtain ⟨q, hq, rfl⟩ := List.mem_map.mp hv
  obtain ⟨l, e, ll⟩ := n q hq
  exact nats_da e (Nat.le_trans ll h)
/-- what is known between the changes: as made, or changed by one that stood ahead -/
structure Chg (K : PySem.W.Frag) (H H' : Hp) (rw ap : Addr) (P : List Nat) (rows : List (List Nat)) (c j : Int) : Prop where
  same : Same H H'
  nap : H ap = none
  eap : H' ap = some (.lst (nV P))
  form : (H rw = none ∧ ∃ qs, LL (hide H' ap) rw qs rows ∧ ∀ q ∈ qs, H q = none) ∨ (c ≤ j ∧ c ≠ 6 ∧ Lt K (hide H' ap) 2 rw)
theorem Chg.up {K : PySem.W.Frag} {H H' : Hp} {rw ap : Addr} {P : List Nat} {rows : List (List Nat)} {c i j : Int} (g : Chg K H H' rw ap P rows c i) (h : i ≤ j) : Chg K H H' rw ap P rows c j :=
  ⟨g.same, g.nap, g.eap, g.form.imp id fun ⟨a, b⟩ => ⟨by omega, b⟩⟩
/-- where the change comes: the rows are as they were made -/
theorem Chg.now {K : PySem.W.Frag} {H H' : Hp} {rw ap : Addr} {P : List Nat} {rows : List (List Nat)} {c j : Int} (g : Chg K H H' rw ap P rows c j) (h : j < c) (hr : ∀ r ∈ rows, r.length ≤ 100) : H rw = none ∧ ∃ qs, LL (hide H' ap) rw qs rows ∧ (∀ q ∈ qs, H q = none) ∧ Ns (hide (hide H' ap) rw) 100 qs ∧ rw ≠ ap := by
  rcases g.form with ⟨a, qs, hL, n⟩ | ⟨a, _⟩
  · refine ⟨a, qs, hL, n, fun q hq => ?_, (hide_some hL.at_).1⟩
    obtain ⟨l, hl, e, ne⟩ := hL.mem hq
    exact ⟨l, by rw [hide_at ne]; exact e, hr l hl⟩
  · omega
theorem same_hput {H' H'' : Hp} {rw ap : Addr} {o : HO} (s : Same H' H'') : Same (hide (hide H' ap) rw) (hide (upd H'' rw o) ap) := fun b u e => by
  obtain ⟨h1, e⟩ := hide_some e
  obtain ⟨h2, e⟩ := hide_some e
  rw [hide_at h2, upd_ne h1]
  exact s _ _ e
theorem lt_set {K : PySem.W.Frag} {H' H'' : Hp} {rw ap : Addr} {xs : List V} {v : V} {j : Nat} (s : Same H' H'') (h : ∀ v ∈ xs, Da K (hide (hide H' ap) rw) 2 v) (l : xs.length ≤ 300) (ne : rw ≠ ap) (hv : Da K (hide (hide H'' ap) rw) 2 v) : Lt K (hide (upd H'' rw (.lst (xs.set j v))) ap) 2 rw :=
  ⟨_, by rw [hide_at ne, upd_same], by rw [List.length_set]; exact l, set_mem (fun u hu => (h u hu).same (same_hput s)) (hv.same (same_hput (Same.refl _)))⟩
theorem ints_new {K : PySem.W.Frag} {H : Hp} {rw ap p : Addr} {xs : List V} (e : H p = some (.lst xs)) (l : xs.length ≤ 300) (h : ∀ v ∈ xs, ∃ k : Int, v = .int k) (n1 : p ≠ ap) (n2 : p ≠ rw) : Da K (hide (hide H ap) rw) 2 (.ref p) :=
  (Lt.da (n := 0) ⟨xs, by rw [hide_at n2, hide_at n1]; exact e, l, fun v hv => by
    obtain ⟨k, rfl⟩ := h v hv
    exact int_da _ _⟩).ups (by decide)
theorem nV_int {l : List Nat} : ∀ v ∈ nV l, ∃ k : Int, v = .int k := fun v hv => by
  obtain ⟨k, _, rfl⟩ := List.mem_map.mp hv
  exact ⟨_, rfl⟩
theorem or_if {b : Bool} {B X : Prop} (h : B) (hx : b = false → B → X) : if b = true then B else X := by
  cases b with
  | true => exact if_t rfl h
  | false => exact if_f rfl (hx rfl h)
def spChanged (K : PySem.W.Frag) : Sp := fun vs H Q _ => ∃ (t b r0 a0 : Addr) (cell spot : Int) (R : List Ride) (trips : List Trip) (qs : List Addr) (rows : List (List Nat)) (P : List Nat), vs = [.ref t, .ref b, .ref r0, .ref a0, .int cell, .int spot] ∧ Rows K H rideV t R ∧ R.length ≤ 200 ∧ PosR R ∧ Rows K H tripV b trips ∧ trips.length ≤ 100 ∧
  LL H r0 qs rows ∧ H a0 = some (.lst (nV P)) ∧ (∀ r ∈ rows, ∀ x ∈ r, x < trips.length) ∧ (∀ r ∈ rows, r.length ≤ 100) ∧ rows.length ≤ 100 ∧ (∀ r ∈ rows, r ≠ []) ∧ P.length = rows.length ∧
  ∀ H' p r p2, Same H H' → SqT K H' p [.ref r, .ref p2] → Lt K H' 2 r → Lt K H' 1 p2 → Q (.ref p) H'
section
variable {P : Program} {w : World} {K : PySem.W.Frag} {mg : Str → Option Value} {base : Heap}
theorem cal_law_changed {f : Addr} {fd : FuncData} (F : Fn K "_law_changed" s_law_changed f fd) (g : mg "_law_changed" = some (.ref f)) (B : Bi mg) (c_odd : C8.Cal P w K mg base 1 "_law_odd" (spLOdd K) []) (c_doubled : C8.Cal P w K mg base 3 "_law_doubled" (spDoubled K) []) (c_numbers_changed : C8.Cal P w K mg base 2 "_law_numbers_changed" (spNChanged K) []) : C8.Cal P w K mg base 4 "_law_changed" (spChanged K) [] := by
  refine cal_of F g sc_law_changed (bi_law_changed F) (fun vs H Q E h => ?_) (fun cdv A outer s H vs Q E hr h => ?_)
  · obtain ⟨t, b, r0, a0, cell, spot, R, trips, qs, rows, P, rfl, _⟩ := h
    rfl
  · obtain ⟨t, b, r0, a0, cell, spot, R, trips, qs0, rows, Pn, rfl, hR, hR2, hp, hT, h101, hLL0, ea0, hlt, hrl, hrn, hne, hPl, q⟩ := h
    have hu := hu_of hr
    refine ⟨_, (pss_cons (ps_set (i := 6) sc_law_changed.nd rfl (Or.inl rfl) (pe_ix (r := rIxL K) ix_list (pe_lst (pa_cons pe_int (pa_cons pe_int (pa_cons pe_int (pa_cons pe_int (pa_cons pe_int (pa_cons pe_int (pa_cons pe_int (pa_cons pe_int (pa_cons pe_int (pa_cons pe_int (pa_cons pe_int (pa_cons pe_int (pa_cons pe_int (pa_cons pe_int (pa_cons pe_int (pa_cons pe_int pa_nil))))))))))))))))) (pe_op op_mod (pv 4) pe_int) (fun _ _ => rfl))) (pss_cons (ps_setLc (i := 2) (own := [("_law_row", 9)]) (g := gName 9) (tt := tYes) (by rfl) sc_law_changed.nd rfl rfl (sw_true rfl rfl rfl (by decide +kernel)) (pi_list (pv 2)) (blkOk_by (N := ["_law_told", "_law_trips_here", "_law_rows", "_law_apart", "_law_cell", "_law_spot", "_law_change", "_law_at", "_law_to", "_law_row"]) (sc := defScope s_law_changed) (by decide +kernel)) (fun _ _ _ _ _ => pg_name (i := 9) sc_law_changed.nd rfl (Or.inl rfl)) (fun _ _ _ _ _ => pts_nil) (fun _ _ _ _ _ => (pe_callTy (T := "list") (r := rLstOf K) call_list_of (by rfl) B.list (by decide +kernel) (pa_cons (pv 9) pa_nil)))) (pss_cons (ps_set (i := 3) sc_law_changed.nd rfl (Or.inl rfl) (pe_callTy call_list_of (by rfl) B.list (by decide +kernel) (pa_cons (pv 3) pa_nil))) (pss_cons (ps_if (PW.pt (pw_or (pt_cmpR (op_eqD hr.units) (pv 2) (pe_lst pa_nil) (nomark _)) (pw_or1 (pt_cmpR op_eq (pv 6) pe_int (nomark _))))) (pss_one (ps_ret (pe_ix (r := rIxL K) ix_list (pe_lst (pa_cons (pe_tup (pa_cons (pe_op op_cat (pv 2) (pe_lst (pa_cons (C8.pe_c c_odd hr (by decide) (by rfl) (pa_cons (pe_op op_fdiv (pv 4) pe_int) pa_nil)) pa_nil))) (pa_cons (pv 3) pa_nil))) (pa_cons (pe_tup (pa_cons (pv 2) (pa_cons (pe_op op_cat (pv 3) (pe_lst (pa_cons (C8.pe_c c_odd hr (by decide) (by rfl) (pa_cons (pe_op op_fdiv (pv 4) pe_int) pa_nil)) pa_nil))) pa_nil))) pa_nil))) (pe_op op_mod (pv 5) pe_int) (fun _ _ => rfl)))) pss_nil) (pss_cons (ps_set (i := 7) sc_law_changed.nd rfl (Or.inl rfl) (pe_op op_mod (pv 5) (pe_callB (r := rLenS K) call_len_seq (by rfl) B.len PySem.boot_len (pa_cons (pv 2) pa_nil)))) (C8.pss_cut (ps_set (i := 8) sc_law_changed.nd rfl (Or.inl rfl) (pe_op op_mod (pe_op op_fdiv (pv 5) pe_int) (pe_callB (r := rLenS K) call_len_seq (by rfl) B.len PySem.boot_len (pa_cons (pv 2) pa_nil)))) (C8.pss_cut (ps_if (pt_cmpR op_eq (pv 6) pe_int (nomark _)) (pss_one (ps_asg (pe_slice sl_list (pe_ix (r := rIxL K) ix_list (pv 2) (pv 7) (fun _ _ => rfl)) (po_some pe_int) po_none) (pg_sub (pv 2) (pv 7) set_list))) pss_nil) (C8.pss_cut (ps_if (pt_cmpR op_eq (pv 6) pe_int (nomark _)) (pss_one (ps_set (i := 2) sc_law_changed.nd rfl (Or.inl rfl) (C8.pe_c c_doubled hr (by decide) (by rfl) (pa_cons (pv 0) (pa_cons (pv 1) (pa_cons (pv 2) (pa_cons (pe_ix (r := rIxL K) ix_list (pe_ix (r := rIxL K) ix_list (pv 2) (pv 7) (fun _ _ => rfl)) (pe_op op_mod (pe_op op_fdiv (pv 5) pe_int) (pe_callB (r := rLenS K) call_len_seq (by rfl) B.len PySem.boot_len (pa_cons (pe_ix (r := rIxL K) ix_list (pv 2) (pv 7) (fun _ _ => rfl)) pa_nil))) (fun _ _ => rfl)) pa_nil))))))) pss_nil) (C8.pss_cut (ps_if (pt_cmpR op_eq (pv 6) pe_int (nomark _)) (pss_one (ps_expr (pe_bm PySem.F.plainAttrs_list PySem.F.slot_list_append PySem.F.type_list_append mt_append (pe_ix (r := rIxL K) ix_list (pv 2) (pv 8) (fun _ _ => rfl)) (pa_cons (pe_bm0 PySem.F.plainAttrs_list PySem.F.slot_list_pop PySem.F.type_list_pop mt_pop (pe_ix (r := rIxL K) ix_list (pv 2) (pv 7) (fun _ _ => rfl))) pa_nil)))) pss_nil) (C8.pss_cut (ps_if (pt_cmpR op_eq (pv 6) pe_int (nomark _)) (pss_one (ps_asg (pe_revL (pe_ix (r := rIxL K) ix_list (pv 2) (pv 7) (fun _ _ => rfl))) (pg_sub (pv 2) (pv 7) set_list))) pss_nil) (C8.pss_cut (ps_if (pt_cmpR op_eq (pv 6) pe_int (nomark _)) (pss_cons (ps_set (i := 2) sc_law_changed.nd rfl (Or.inl rfl) (pe_op op_cat (pv 2) (pe_lst (pa_cons (pe_slice sl_list (pe_ix (r := rIxL K) ix_list (pv 2) (pv 7) (fun _ _ => rfl)) (po_some pe_int) po_none) pa_nil)))) (pss_one (ps_asg (pe_slice sl_list (pe_ix (r := rIxL K) ix_list (pv 2) (pv 7) (fun _ _ => rfl)) po_none (po_some pe_int)) (pg_sub (pv 2) (pv 7) set_list)))) pss_nil) (C8.pss_cut (ps_if (pt_cmpR op_eq (pv 6) pe_int (nomark _)) (pss_one (ps_asg (C8.pe_c c_odd hr (by decide) (by rfl) (pa_cons (pe_op op_fdiv (pv 4) pe_int) pa_nil)) (pg_sub (pe_ix (r := rIxL K) ix_list (pv 2) (pv 7) (fun _ _ => rfl)) pe_int set_list))) pss_nil) (C8.pss_cut (ps_if (pt_cmpR op_eq (pv 6) pe_int (nomark _)) (pss_one (ps_asg (pe_callTy call_tuple_of (by rfl) B.tuple (by decide +kernel) (pa_cons (pe_ix (r := rIxL K) ix_list (pv 2) (pv 7) (fun _ _ => rfl)) pa_nil)) (pg_sub (pv 2) (pv 7) set_list))) pss_nil) (pss_one (ps_ret (pe_tup (pa_cons (pv 2) (pa_cons (C8.pe_c c_numbers_changed hr (by decide) (by rfl) (pa_cons (pv 2) (pa_cons (pv 3) (pa_cons (pv 6) (pa_cons (pv 4) (pa_cons (pv 7) (pa_cons (pv 5) pa_nil))))))) pa_nil)))))))))))))))))), ?_⟩
    -- which change
    refine ⟨(by show 16 ≤ sizeLine; decide), fun l0 nl0 => ?_⟩
    have sl : Same H (upd H l0 (.lst [.int 0, .int 1, .int 2, .int 2, .int 2, .int 3, .int 4, .int 5, .int 6, .int 6, .int 6, .int 7, .int 8, .int 9, .int 10, .int 11])) := same_upd nl0
    obtain ⟨cv, hcat, hcm⟩ := atI_in (xs := [.int 0, .int 1, .int 2, .int 2, .int 2, .int 3, .int 4, .int 5, .int 6, .int 6, .int 6, .int 7, .int 8, .int 9, .int 10, .int 11]) (z := cell % 16) (by omega) (by show cell % 16 < 16; omega)
    obtain ⟨c, rfl⟩ : ∃ c : Int, cv = .int c := by
      have : ∀ v ∈ [V.int 0, .int 1, .int 2, .int 2, .int 2, .int 3, .int 4, .int 5, .int 6, .int 6, .int 6, .int 7, .int 8, .int 9, .int 10, .int 11], ∃ c, v = .int c := by
        intro v hv
        simp only [List.mem_cons, List.not_mem_nil, or_false] at hv
        rcases hv with h | h | h | h | h | h | h | h | h | h | h | h | h | h | h | h <;> exact ⟨_, h⟩
      exact this _ hcm
    refine ⟨_, rfl, _, _, rfl, rfl, (by show (0 : Int) < 16; decide), l0, _, _, _, rfl, rfl, sqL_of upd_same, hcat, ?_⟩
    clear hcat hcm
    -- rows of its own
    refine ⟨_, rfl, r0, rfl, ⟨_, sqL_of (sl _ _ hLL0.at_)⟩, fun D nD1 => ?_⟩
    have nD : H D = none := sl.free nD1
    refine lc_list (K := K) (a := r0) (xs := qs0.map V.ref) (fun j H' => Same H H' ∧ ∃ qs, LL H' D qs (rows.take j) ∧ ∀ q ∈ qs, H q = none) ⟨sl.trans (same_upd nD1), [], LL.nil upd_same, (fun _ h => nomatch h)⟩ (fun j H' _ ⟨s, _⟩ => sqL_of (s _ _ hLL0.at_)) ?_ ?_
    · rintro j v H2 hj ⟨s2, qs, hL, nqs⟩
      have hq1 : j < qs0.length := by
        have := (List.getElem?_eq_some_iff.mp hj).1
        rw [List.length_map] at this
        exact this
      have hj1 : j < rows.length := hLL0.len ▸ hq1
      have hrow : rows[j]? = some rows[j] := List.getElem?_eq_getElem hj1
      have hqj : qs0[j]? = some qs0[j] := List.getElem?_eq_getElem hq1
      rw [List.getElem?_map, hqj] at hj
      cases hj
      obtain ⟨nq, eq⟩ := hLL0.row j _ _ hqj hrow
      have tk : rows.take (j + 1) = rows.take j ++ [rows[j]] := by
        rw [List.take_add_one, hrow]
        rfl
      refine ⟨rfl, ?_⟩
      refine ⟨_, rfl, _, _, rfl, .inl (sqL_of (s2 _ _ eq)), fun l hl => ?_⟩
      have s3 : Same H2 (upd H2 l (.lst (nV rows[j]))) := same_upd hl
      have hL3 := hL.same s3
      have fr := hL.free hl
      refine ⟨_, hL3.at_, ?_, same_put (s2.trans s3) nD, qs ++ [l], ?_, fun q hq => ?_⟩
      · rw [List.length_map, hL.len, List.length_take]
        exact small1000 (by omega)
      · rw [tk]
        exact hL3.add fr.1 upd_same
      · rcases List.mem_append.mp hq with z | z
        · exact nqs q z
        · rw [List.mem_singleton.mp z]
          exact s2.free hl
    rintro H2 ⟨s2, qs, hL2, nqs⟩
    rw [List.length_map, hLL0.len, List.take_length] at hL2
    -- numbers of its own
    refine ⟨_, rfl, _, _, rfl, .inl (sqL_of (s2 _ _ ea0)), fun ap nap2 => ?_⟩
    have nap : H ap = none := s2.free nap2
    obtain ⟨H3, hH3⟩ : ∃ H3, H3 = upd H2 ap (.lst (nV Pn)) := ⟨_, rfl⟩
    rw [← hH3]
    have s3 : Same H2 H3 := hH3 ▸ same_upd nap2
    have eap3 : H3 ap = some (.lst (nV Pn)) := by rw [hH3]; exact upd_same
    have fr := hL2.free nap2
    have hLh : LL (hide H3 ap) D qs rows := by
      refine ⟨by rw [hide_at fr.1.symm]; exact s3 _ _ hL2.at_, hL2.len, fun j q l h h' => ⟨(hL2.row j q l h h').1, ?_⟩⟩
      have nq : q ≠ ap := fun z => fr.2 (z ▸ List.mem_of_getElem? h)
      rw [hide_at nq]
      exact s3 _ _ (hL2.row j q l h h').2
    have S3 := s2.trans s3
    have g0 : Chg K H H3 D ap Pn rows c 0 := ⟨S3, nap, eap3, .inl ⟨nD, qs, hLh, nqs⟩⟩
    clear hH3
    have hL3 := hLh.same hide_same
    have dpr : Dp K H3 (.ref D) (.list (rows.map natsD)) := by
      refine .lst (sqL_of hL3.at_) ?_
      have : ∀ (qs : List Addr) (rows : List (List Nat)), qs.length = rows.length → (∀ (j : Nat) (q : Addr) (l : List Nat), qs[j]? = some q → rows[j]? = some l → H3 q = some (.lst (nV l))) → DpAll K H3 (qs.map V.ref) (rows.map natsD) := by
        intro qs
        induction qs with
        | nil =>
          intro rows hl _
          cases rows with
          | nil => exact .nil
          | cons _ _ => cases hl
        | cons q qs ih =>
          intro rows hl h
          cases rows with
          | nil => cases hl
          | cons r rows => exact .cons (.lst (sqL_of (h 0 q r rfl rfl)) (dp_nats r)) (ih rows (Nat.succ.inj hl) fun j q' l h1 h2 => h (j + 1) q' l (by simpa using h1) (by simpa using h2))
      exact this qs rows hL3.len fun j q l h h' => (hL3.row j q l h h').2
    have shr : Sh 2 (.list (rows.map natsD)) := sh_list fun d hd => by
      obtain ⟨l, _, rfl⟩ := List.mem_map.mp hd
      exact sh_nats l
    refine ⟨_, rfl, Nat.zero_le _, fun e0 ne0 => ?_⟩
    have s4 : Same H3 (upd H3 e0 (.lst [])) := same_upd ne0
    refine ⟨_, _, dpr.same s4, .lst (sqL_of upd_same) .nil, shr.ok (by decide), sh_nil0.ok (by decide), ?_⟩
    rw [eqv_nil]
    have S4 := S3.trans s4
    have hL4 := hL3.same s4
    have eap4 := s4 _ _ eap3
    obtain ⟨H4, hH4⟩ : ∃ H4, H4 = upd H3 e0 (.lst []) := ⟨_, rfl⟩
    rw [← hH4] at s4 S4 hL4 eap4 ⊢
    clear hH4
    -- an odd thing behind the rows, or behind the numbers
    have eD4 := hL4.at_
    have hrow4 : ∀ {H' : Hp}, Same H4 H' → Ns H' 100 qs := fun s q hq => by
      obtain ⟨l, hl, e, _⟩ := hL4.mem hq
      exact ⟨l, s _ _ e, hrl l hl⟩
    have dapP : ∀ {H' : Hp} {n : Nat}, ∀ v ∈ nV Pn, Da K H' n v := fun v hv => by
      obtain ⟨k, _, rfl⟩ := List.mem_map.mp hv
      exact int_da _ _
    have lPV : (nV Pn).length = Pn.length := by rw [List.length_map]
    have lqs : (qs.map V.ref).length = rows.length := by rw [List.length_map, hL4.len]
    refine ⟨_, rfl, or_if ?_ fun hemp body => ⟨_, rfl, rfl, _, rfl, ite2 (fun _ => body) fun c0 => ?_⟩⟩
    · refine ⟨_, rfl, _, rfl, _, _, rfl, rfl, ⟨by decide, by decide⟩, cell / 16, rfl, fun H5 v s5 hv => ⟨(by show 1 ≤ sizeLine; decide), fun z nz => ?_⟩⟩
      have s6 : Same H5 (upd H5 z (.lst [v])) := same_upd nz
      refine ⟨D, z, _, _, rfl, rfl, (s5.trans s6) _ _ eD4, upd_same, ?_, fun cc ncc => ?_⟩
      · rw [lqs]
        exact small1000 (by omega)
      have s7 := s6.trans (same_upd (o := .lst (qs.map V.ref ++ [v])) ncc)
      have e7 : (upd (upd H5 z (.lst [v])) cc (.lst (qs.map V.ref ++ [v]))) cc = some (.lst (qs.map V.ref ++ [v])) := upd_same
      obtain ⟨H7, hH7⟩ : ∃ H7, H7 = upd (upd H5 z (.lst [v])) cc (.lst (qs.map V.ref ++ [v])) := ⟨_, rfl⟩
      rw [← hH7] at s7 e7 ⊢
      clear hH7
      refine ⟨_, rfl, (by show 2 ≤ sizeLine; decide), fun T nT => ?_⟩
      have s8 : Same H7 (upd H7 T (.tup [.ref cc, .ref ap])) := same_upd nT
      have e8 : (upd H7 T (.tup [.ref cc, .ref ap])) T = some (.tup [.ref cc, .ref ap]) := upd_same
      obtain ⟨H8, hH8⟩ : ∃ H8, H8 = upd H7 T (.tup [.ref cc, .ref ap]) := ⟨_, rfl⟩
      rw [← hH8] at s8 e8 ⊢
      clear hH8
      have S8 := (s5.trans s7).trans s8
      refine ⟨_, rfl, _, rfl, _, rfl, _, _, rfl, rfl, ⟨by decide, by decide⟩, cell / 16, rfl, fun H9 v2 s9 hv2 => ⟨(by show 1 ≤ sizeLine; decide), fun z2 nz2 => ?_⟩⟩
      have s10 : Same H9 (upd H9 z2 (.lst [v2])) := same_upd nz2
      have eap9 := (S8.trans s9) _ _ eap4
      refine ⟨ap, z2, _, _, rfl, rfl, s10 _ _ eap9, upd_same, ?_, fun c2 nc2 => ?_⟩
      · rw [lPV]
        exact small1000 (by omega)
      have s11 := s10.trans (same_upd (o := .lst (nV Pn ++ [v2])) nc2)
      have e11 : (upd (upd H9 z2 (.lst [v2])) c2 (.lst (nV Pn ++ [v2]))) c2 = some (.lst (nV Pn ++ [v2])) := upd_same
      obtain ⟨H11, hH11⟩ : ∃ H11, H11 = upd (upd H9 z2 (.lst [v2])) c2 (.lst (nV Pn ++ [v2])) := ⟨_, rfl⟩
      rw [← hH11] at s11 e11 ⊢
      clear hH11
      refine ⟨(by show 2 ≤ sizeLine; decide), fun T2 nT2 => ⟨(by show 2 ≤ sizeLine; decide), fun L nL => ?_⟩⟩
      have s12 : Same H11 (upd H11 T2 (.tup [.ref D, .ref c2])) := same_upd nT2
      have e12 : (upd H11 T2 (.tup [.ref D, .ref c2])) T2 = some (.tup [.ref D, .ref c2]) := upd_same
      have s13 : Same (upd H11 T2 (.tup [.ref D, .ref c2])) (upd (upd H11 T2 (.tup [.ref D, .ref c2])) L (.lst [.ref T, .ref T2])) := same_upd nL
      obtain ⟨vT, hat, hvT⟩ := atI_in (xs := [V.ref T, .ref T2]) (z := spot % 2) (by omega) (by show spot % 2 < 2; omega)
      refine ⟨_, rfl, _, _, rfl, rfl, (by show (0 : Int) < 2; decide), L, _, _, _, rfl, rfl, sqL_of upd_same, hat, ?_⟩
      obtain ⟨H13, hH13⟩ : ∃ H13, H13 = upd (upd H11 T2 (.tup [.ref D, .ref c2])) L (.lst [.ref T, .ref T2]) := ⟨_, rfl⟩
      rw [← hH13] at s13 ⊢
      clear hH13
      have s913 := (s9.trans s11).trans (s12.trans s13)
      have S13 := S8.trans s913
      have hv13 : Da K H13 1 v := (hv.same fresh_same).same ((s7.trans s8).trans s913)
      have hv213 : Da K H13 1 v2 := (hv2.same fresh_same).same (s11.trans (s12.trans s13))
      have dq : ∀ v ∈ qs.map V.ref, Da K H13 1 v := (hrow4 S13).da (by decide)
      have lap : Lt K H13 1 ap := ⟨_, S13 _ _ eap4, by rw [lPV]; omega, dapP⟩
      rcases List.mem_cons.mp hvT with rfl | hvT
      · refine q _ T cc ap (S4.trans S13) (sqT_of (s913 _ _ e8)) (Lt.ups (n := 1) ⟨_, (s8.trans s913) _ _ e7, ?_, fun u hu => ?_⟩ (by decide)) lap
        · rw [List.length_append, lqs]
          show _ + 1 ≤ 300
          omega
        · rcases List.mem_append.mp hu with z | z
          · exact dq u z
          · rw [List.mem_singleton.mp z]
            exact hv13
      · rw [List.mem_singleton.mp hvT]
        refine q _ T2 D c2 (S4.trans S13) (sqT_of (s13 _ _ e12)) (Lt.ups (n := 1) ⟨_, S13 _ _ eD4, by omega, dq⟩ (by decide)) ⟨_, (s12.trans s13) _ _ e11, ?_, fun u hu => ?_⟩
        · rw [List.length_append, lPV]
          show _ + 1 ≤ 300
          omega
        · rcases List.mem_append.mp hu with z | z
          · exact dapP u z
          · rw [List.mem_singleton.mp z]
            exact hv213
    have hr0 : 0 < rows.length := by
      cases rows with
      | nil => cases hemp
      | cons _ _ => exact Nat.succ_pos _
    have g4 : Chg K H H4 D ap Pn rows c 0 := ⟨S4, nap, eap4, .inl ⟨nD, qs, hLh.same (hide_mono s4), nqs⟩⟩
    have az0 := Int.emod_nonneg spot (show ((qs.map V.ref).length : Int) ≠ 0 by omega)
    have az1 := Int.emod_lt_of_pos spot (show (0 : Int) < ((qs.map V.ref).length : Int) by omega)
    have tz0 := Int.emod_nonneg (spot / 8) (show ((qs.map V.ref).length : Int) ≠ 0 by omega)
    have tz1 := Int.emod_lt_of_pos (spot / 8) (show (0 : Int) < ((qs.map V.ref).length : Int) by omega)
    obtain ⟨az, haz⟩ : ∃ az, az = spot % ((qs.map V.ref).length : Int) := ⟨_, rfl⟩
    obtain ⟨tz, htz⟩ : ∃ tz, tz = spot / 8 % ((qs.map V.ref).length : Int) := ⟨_, rfl⟩
    rw [← haz] at az0 az1
    rw [← htz] at tz0 tz1
    refine ⟨_, rfl, _, rfl, D, _, rfl, .inl (sqL_of eD4), _, _, rfl, rfl, by rw [lqs]; omega, fun σ' H' => ∃ rw_ y9, σ' = [some (.ref t), some (.ref b), some (.ref rw_), some (.ref ap), some (.int cell), some (.int spot), some (.int c), some (.int az), some (.int tz), y9] ∧ Chg K H H' rw_ ap Pn rows c 0, ?_, ?_⟩
    · refine ⟨_, rfl, _, _, rfl, rfl, ⟨by decide, by decide⟩, _, rfl, D, _, rfl, .inl (sqL_of eD4), _, _, rfl, rfl, by rw [lqs]; omega, D, none, ?_, g4⟩
      rw [haz, htz]
      rfl
    rw [lqs] at az1 tz1
    clear body hrow4 dpr shr hLh hL3 hL4 eD4 hL2 fr hemp g0 s3 s4 g4 haz htz lqs
    rintro σ' H' ⟨rw_, y9, rfl, g⟩
    refine ⟨fun σ' H' => ∃ rw_ y9, σ' = [some (.ref t), some (.ref b), some (.ref rw_), some (.ref ap), some (.int cell), some (.int spot), some (.int c), some (.int az), some (.int tz), y9] ∧ Chg K H H' rw_ ap Pn rows c 1, ?_, ?_⟩
    · refine ⟨_, rfl, rfl, _, rfl, ?_⟩
      cases cj : decide (V.int c = V.int 1) with
      | false => exact if_f rfl ⟨rw_, _, rfl, g.up (by decide)⟩
      | true =>
        have ec := V.int.inj (of_decide_eq_true cj)
        obtain ⟨nrw, qs, hL, nq, ns, nra⟩ := g.now (by omega) hrl
        obtain ⟨q1, l, atq, hl, hq, eqh, nqr⟩ := hL.atz az0 az1
        obtain ⟨nqa, eq⟩ := hide_some eqh
        have erw := (hide_some hL.at_).2
        have lqs : (qs.map V.ref).length = rows.length := by rw [List.length_map, hL.len]
        have hix : ixN (qs.map V.ref).length az = some az.toNat := ixN_of az0 (by rw [lqs]; exact az1)
        have l100 := hrl l hl
        have lnV : (nV l).length = l.length := by rw [List.length_map]
        have das := fun v hv => (ns.da (K := K) (by decide) v hv).ups (show 1 ≤ 2 by decide)
        refine if_t rfl ⟨_, rfl, _, rfl, rw_, _, _, _, rfl, rfl, sqL_of erw, atq, 1, rfl, q1, _, rfl, sqL_of eq, fun p np => ?_⟩
        have s5 : Same H' (upd H' p (.lst (cutV (nV l) (some 1) none))) := same_upd np
        have nps : p ≠ rw_ := (ne_of_none erw np).symm
        have npa : p ≠ ap := (ne_of_none g.eap np).symm
        refine ⟨_, rfl, _, rfl, rw_, _, _, _, rfl, rfl, s5 _ _ erw, hix, rw_, _, rfl, same_put (g.same.trans s5) nrw, g.nap, ?_, .inr ⟨by omega, by omega, lt_set s5 das (by omega) nra (ints_new upd_same ?_ (fun v hv => nV_int v (cut_mem v hv)) npa nps)⟩⟩
        · rw [upd_ne nra.symm]
          exact s5 _ _ g.eap
        · have := cutV_length (nV l) (some 1) none
          omega
    rintro σ' H' ⟨rw_, y9, rfl, g⟩
    refine ⟨fun σ' H' => ∃ rw_ y9, σ' = [some (.ref t), some (.ref b), some (.ref rw_), some (.ref ap), some (.int cell), some (.int spot), some (.int c), some (.int az), some (.int tz), y9] ∧ Chg K H H' rw_ ap Pn rows c 2, ?_, ?_⟩
    · refine ⟨_, rfl, rfl, _, rfl, ?_⟩
      cases cj : decide (V.int c = V.int 2) with
      | false => exact if_f rfl ⟨rw_, _, rfl, g.up (by decide)⟩
      | true =>
        have ec := V.int.inj (of_decide_eq_true cj)
        obtain ⟨nrw, qs, hL, nq, ns, nra⟩ := g.now (by omega) hrl
        obtain ⟨q1, l, atq, hl, hq, eqh, nqr⟩ := hL.atz az0 az1
        obtain ⟨nqa, eq⟩ := hide_some eqh
        have erw := (hide_some hL.at_).2
        have lqs : (qs.map V.ref).length = rows.length := by rw [List.length_map, hL.len]
        have hix : ixN (qs.map V.ref).length az = some az.toNat := ixN_of az0 (by rw [lqs]; exact az1)
        have l100 := hrl l hl
        have lnV : (nV l).length = l.length := by rw [List.length_map]
        have das := fun v hv => (ns.da (K := K) (by decide) v hv).ups (show 1 ≤ 2 by decide)
        have hl0 : 0 < l.length := List.length_pos_iff.mpr (hne l hl)
        obtain ⟨u, hu1⟩ : ∃ u : Nat, l[(spot / 64 % (l.length : Int)).toNat]? = some u := ⟨_, List.getElem?_eq_getElem (by have := Int.emod_lt_of_pos (spot / 64) (show (0 : Int) < l.length by omega); have := Int.emod_nonneg (spot / 64) (show (l.length : Int) ≠ 0 by omega); omega)⟩
        have au : atI (nV l) (spot / 64 % ((nV l).length : Int)) = some (.int u) := by
          have := Int.emod_nonneg (spot / 64) (show (l.length : Int) ≠ 0 by omega)
          have e := nV_at hu1
          rw [lnV]
          rw [show (((spot / 64 % (l.length : Int)).toNat : Nat) : Int) = spot / 64 % (l.length : Int) by omega] at e
          exact e
        refine if_t rfl ⟨_, rfl, _, rfl, _, rfl, _, rfl, _, rfl, rw_, _, _, _, rfl, rfl, sqL_of erw, atq, _, rfl, _, _, rfl, rfl, ⟨by decide, by decide⟩, _, rfl, _, rfl, rw_, _, _, _, rfl, rfl, sqL_of erw, atq, q1, _, rfl, .inl (sqL_of eq), _, _, rfl, rfl, ?_, q1, _, _, _, rfl, rfl, sqL_of eq, au, ?_⟩
        · rw [lnV]
          omega
        have S := g.same
        refine ⟨t, b, rw_, u, R, trips, qs, rows, rfl, hR.same S, hR2, hp, hT.same S, h101, hL.same hide_same, hlt, hrl, hrn, hlt l hl u (List.mem_of_getElem? hu1), fun H5 p xs s5 np e5 lx hxs => ⟨p, _, rfl, S.trans s5, g.nap, s5 _ _ g.eap, .inr ⟨by omega, by omega, xs, ?_, by omega, fun v hv => ?_⟩⟩⟩
        · rw [hide_at (ne_of_none g.eap np).symm]
          exact e5
        · obtain ⟨q2, l2, rfl, h1, h2, h3⟩ := hxs v hv
          have n2 : q2 ≠ ap := by
            rcases h3 with z | z
            · obtain ⟨_, _, e, _⟩ := hL.mem z
              exact (hide_some e).1
            · exact (ne_of_none g.eap z).symm
          exact (nats_da (by rw [hide_at n2]; exact h1) h2).ups (by decide)
    rintro σ' H' ⟨rw_, y9, rfl, g⟩
    refine ⟨fun σ' H' => ∃ rw_ y9, σ' = [some (.ref t), some (.ref b), some (.ref rw_), some (.ref ap), some (.int cell), some (.int spot), some (.int c), some (.int az), some (.int tz), y9] ∧ Chg K H H' rw_ ap Pn rows c 3, ?_, ?_⟩
    · refine ⟨_, rfl, rfl, _, rfl, ?_⟩
      cases cj : decide (V.int c = V.int 3) with
      | false => exact if_f rfl ⟨rw_, _, rfl, g.up (by decide)⟩
      | true =>
        have ec := V.int.inj (of_decide_eq_true cj)
        obtain ⟨nrw, qs, hL, nq, ns, nra⟩ := g.now (by omega) hrl
        obtain ⟨q1, l, atq, hl, hq, eqh, nqr⟩ := hL.atz az0 az1
        obtain ⟨nqa, eq⟩ := hide_some eqh
        have erw := (hide_some hL.at_).2
        have lqs : (qs.map V.ref).length = rows.length := by rw [List.length_map, hL.len]
        have hix : ixN (qs.map V.ref).length az = some az.toNat := ixN_of az0 (by rw [lqs]; exact az1)
        have l100 := hrl l hl
        have lnV : (nV l).length = l.length := by rw [List.length_map]
        have das := fun v hv => (ns.da (K := K) (by decide) v hv).ups (show 1 ≤ 2 by decide)
        obtain ⟨q2, l2, atq2, hl2, hq2, eqh2, nqr2⟩ := hL.atz tz0 tz1
        obtain ⟨nqa2, eq2⟩ := hide_some eqh2
        obtain ⟨k, l', rfl⟩ : ∃ k l', l = l' ++ [k] := by
          rcases List.eq_nil_or_concat l with h | ⟨l', k, h⟩
          · exact absurd h (hne l hl)
          · exact ⟨k, l', by rw [h, List.concat_eq_append]⟩
        rw [nV_add] at eq
        have N0 : Ns H' 100 qs := ns.same fun b o e => (hide_some (hide_some e).2).2
        have N1 : Ns (upd H' q1 (.lst (nV l'))) 100 qs := N0.put (by rw [List.length_append] at l100; exact Nat.le_of_succ_le l100)
        obtain ⟨l3, e3, ll3⟩ := N1 q2 hq2
        have nq1 := nq q1 hq
        have nq2 := nq q2 hq2
        have s5 : Same H (upd H' q1 (.lst (nV l'))) := same_put g.same nq1
        have N2 : Ns (upd (upd H' q1 (.lst (nV l'))) q2 (.lst (nV (l3 ++ [k])))) 101 qs := (N1.ups (by decide)).put (by rw [List.length_append]; exact Nat.succ_le_succ ll3)
        refine if_t rfl ⟨_, rfl, _, rfl, rw_, _, _, _, rfl, rfl, sqL_of erw, atq2, .inl ⟨rfl, _, sqL_of eq2⟩, _, rfl, _, rfl, rw_, _, _, _, rfl, rfl, sqL_of erw, atq, .inl ⟨rfl, _, sqL_of eq⟩, q1, _, .int k, rfl, rfl, eq, ?_, ?_⟩
        · rw [List.length_append, List.getElem?_append_right (by show _ ≤ _ + 1 - 1; omega)]
          simp
        rw [List.dropLast_concat]
        refine ⟨q2, _, _, rfl, rfl, e3, small1000 (by rw [List.length_map]; omega), rw_, _, rfl, same_put s5 nq2, g.nap, ?_, .inr ⟨by omega, by omega, qs.map V.ref, ?_, by omega, fun v hv => ?_⟩⟩
        · rw [upd_ne nqa2.symm, upd_ne nqa.symm]
          exact g.eap
        · rw [hide_at nra, upd_ne nqr2.symm, upd_ne nqr.symm]
          exact erw
        · obtain ⟨q3, hq3, rfl⟩ := List.mem_map.mp hv
          obtain ⟨l4, e4, ll4⟩ := N2 q3 hq3
          have n3 : q3 ≠ ap := by
            obtain ⟨_, _, e, _⟩ := hL.mem hq3
            exact (hide_some e).1
          exact (nats_da (l := l4) (by rw [hide_at n3, ← e4, nV_add]) (by omega)).ups (by decide)
    rintro σ' H' ⟨rw_, y9, rfl, g⟩
    refine ⟨fun σ' H' => ∃ rw_ y9, σ' = [some (.ref t), some (.ref b), some (.ref rw_), some (.ref ap), some (.int cell), some (.int spot), some (.int c), some (.int az), some (.int tz), y9] ∧ Chg K H H' rw_ ap Pn rows c 4, ?_, ?_⟩
    · refine ⟨_, rfl, rfl, _, rfl, ?_⟩
      cases cj : decide (V.int c = V.int 4) with
      | false => exact if_f rfl ⟨rw_, _, rfl, g.up (by decide)⟩
      | true =>
        have ec := V.int.inj (of_decide_eq_true cj)
        obtain ⟨nrw, qs, hL, nq, ns, nra⟩ := g.now (by omega) hrl
        obtain ⟨q1, l, atq, hl, hq, eqh, nqr⟩ := hL.atz az0 az1
        obtain ⟨nqa, eq⟩ := hide_some eqh
        have erw := (hide_some hL.at_).2
        have lqs : (qs.map V.ref).length = rows.length := by rw [List.length_map, hL.len]
        have hix : ixN (qs.map V.ref).length az = some az.toNat := ixN_of az0 (by rw [lqs]; exact az1)
        have l100 := hrl l hl
        have lnV : (nV l).length = l.length := by rw [List.length_map]
        have das := fun v hv => (ns.da (K := K) (by decide) v hv).ups (show 1 ≤ 2 by decide)
        refine if_t rfl ⟨_, rfl, _, rfl, rw_, _, _, _, rfl, rfl, sqL_of erw, atq, q1, _, rfl, sqL_of eq, fun p np => ?_⟩
        have s5 : Same H' (upd H' p (.lst (nV l).reverse)) := same_upd np
        have nps : p ≠ rw_ := (ne_of_none erw np).symm
        have npa : p ≠ ap := (ne_of_none g.eap np).symm
        refine ⟨_, rfl, _, rfl, rw_, _, _, _, rfl, rfl, s5 _ _ erw, hix, rw_, _, rfl, same_put (g.same.trans s5) nrw, g.nap, ?_, .inr ⟨by omega, by omega, lt_set s5 das (by omega) nra (ints_new upd_same ?_ (fun v hv => nV_int v (List.mem_reverse.mp hv)) npa nps)⟩⟩
        · rw [upd_ne nra.symm]
          exact s5 _ _ g.eap
        · rw [List.length_reverse]
          omega
    rintro σ' H' ⟨rw_, y9, rfl, g⟩
    refine ⟨fun σ' H' => ∃ rw_ y9, σ' = [some (.ref t), some (.ref b), some (.ref rw_), some (.ref ap), some (.int cell), some (.int spot), some (.int c), some (.int az), some (.int tz), y9] ∧ Chg K H H' rw_ ap Pn rows c 5, ?_, ?_⟩
    · refine ⟨_, rfl, rfl, _, rfl, ?_⟩
      cases cj : decide (V.int c = V.int 5) with
      | false => exact if_f rfl ⟨rw_, _, rfl, g.up (by decide)⟩
      | true =>
        have ec := V.int.inj (of_decide_eq_true cj)
        obtain ⟨nrw, qs, hL, nq, ns, nra⟩ := g.now (by omega) hrl
        obtain ⟨q1, l, atq, hl, hq, eqh, nqr⟩ := hL.atz az0 az1
        obtain ⟨nqa, eq⟩ := hide_some eqh
        have erw := (hide_some hL.at_).2
        have lqs : (qs.map V.ref).length = rows.length := by rw [List.length_map, hL.len]
        have hix : ixN (qs.map V.ref).length az = some az.toNat := ixN_of az0 (by rw [lqs]; exact az1)
        have l100 := hrl l hl
        have lnV : (nV l).length = l.length := by rw [List.length_map]
        have das := fun v hv => (ns.da (K := K) (by decide) v hv).ups (show 1 ≤ 2 by decide)
        refine if_t rfl ⟨_, rfl, _, rfl, _, rfl, rw_, _, _, _, rfl, rfl, sqL_of erw, atq, 1, rfl, q1, _, rfl, sqL_of eq, fun p np => ⟨(by show 1 ≤ sizeLine; decide), fun z nz => ?_⟩⟩
        have s5 : Same H' (upd H' p (.lst (cutV (nV l) (some 1) none))) := same_upd np
        have s6 := s5.trans (same_upd (o := .lst [V.ref p]) nz)
        have ep : (upd (upd H' p (.lst (cutV (nV l) (some 1) none))) z (.lst [V.ref p])) p = some (.lst (cutV (nV l) (some 1) none)) := (same_upd nz) _ _ upd_same
        have ez : (upd (upd H' p (.lst (cutV (nV l) (some 1) none))) z (.lst [V.ref p])) z = some (.lst [V.ref p]) := upd_same
        obtain ⟨H6, hH6⟩ : ∃ H6, H6 = upd (upd H' p (.lst (cutV (nV l) (some 1) none))) z (.lst [V.ref p]) := ⟨_, rfl⟩
        rw [← hH6] at s6 ep ez ⊢
        clear hH6
        refine ⟨rw_, z, _, _, rfl, rfl, s6 _ _ erw, ez, ?_, fun d nd => ?_⟩
        · rw [lqs]
          exact small1000 (by omega)
        have npa : p ≠ ap := (ne_of_none g.eap np).symm
        have s7 : Same H6 (upd H6 d (.lst (qs.map V.ref ++ [V.ref p]))) := same_upd nd
        have ed : (upd H6 d (.lst (qs.map V.ref ++ [V.ref p]))) d = some (.lst (qs.map V.ref ++ [V.ref p])) := upd_same
        obtain ⟨H7, hH7⟩ : ∃ H7, H7 = upd H6 d (.lst (qs.map V.ref ++ [V.ref p])) := ⟨_, rfl⟩
        rw [← hH7] at s7 ed ⊢
        clear hH7
        have s67 := s6.trans s7
        have S7 := g.same.trans s67
        have nd0 : H d = none := (g.same.trans s6).free nd
        have nda : d ≠ ap := (ne_of_none (s6 _ _ g.eap) nd).symm
        have atq2 : atI (qs.map V.ref ++ [V.ref p]) az = some (.ref q1) := by
          have h1 : (qs.map V.ref)[az.toNat]? = some (.ref q1) := by
            have := atq
            unfold atI at this
            rw [hix] at this
            exact this
          have h2 := atI_nat (xs := qs.map V.ref ++ [V.ref p]) (j := az.toNat) (by rw [List.getElem?_append_left (List.getElem?_eq_some_iff.mp h1).1]; exact h1)
          rw [show ((az.toNat : Nat) : Int) = az by omega] at h2
          exact h2
        refine ⟨_, rfl, _, rfl, d, _, _, _, rfl, rfl, sqL_of ed, atq2, 1, rfl, q1, _, rfl, sqL_of (s67 _ _ eq), fun p2 np2 => ?_⟩
        have s8 : Same H7 (upd H7 p2 (.lst (cutV (nV l) none (some 1)))) := same_upd np2
        have np2d : p2 ≠ d := (ne_of_none ed np2).symm
        have np2a : p2 ≠ ap := (ne_of_none (s67 _ _ g.eap) np2).symm
        have hix2 : ixN (qs.map V.ref ++ [V.ref p]).length az = some az.toNat := ixN_of az0 (by rw [List.length_append, lqs]; show az < ((rows.length + 1 : Nat) : Int); omega)
        refine ⟨_, rfl, _, rfl, d, _, _, _, rfl, rfl, s8 _ _ ed, hix2, d, _, rfl, same_put (S7.trans s8) nd0, g.nap, ?_, .inr ⟨by omega, by omega, lt_set (H' := H7) s8 (fun v hv => ?_) ?_ nda (ints_new upd_same ?_ (fun v hv => nV_int v (cut_mem v hv)) np2a np2d)⟩⟩
        · rw [upd_ne nda.symm]
          exact s8 _ _ (s67 _ _ g.eap)
        · rcases List.mem_append.mp hv with hv | hv
          · obtain ⟨q3, hq3, rfl⟩ := List.mem_map.mp hv
            obtain ⟨l4, h4, e4, _⟩ := hL.mem hq3
            obtain ⟨n4, e4⟩ := hide_some e4
            exact ints_new (s67 _ _ e4) (by rw [List.length_map]; have := hrl l4 h4; omega) nV_int n4 (ne_of_none (s6 _ _ e4) nd)
          · rw [List.mem_singleton.mp hv]
            exact ints_new (s7 _ _ ep) (by have := cutV_length (nV l) (some 1) none; omega) (fun v hv => nV_int v (cut_mem v hv)) npa (ne_of_none ep nd)
        · rw [List.length_append, lqs]
          show _ + 1 ≤ 300
          omega
        · have := cutV_length (nV l) none (some 1)
          omega
    rintro σ' H' ⟨rw_, y9, rfl, g⟩
    refine ⟨fun σ' H' => ∃ rw_ y9, σ' = [some (.ref t), some (.ref b), some (.ref rw_), some (.ref ap), some (.int cell), some (.int spot), some (.int c), some (.int az), some (.int tz), y9] ∧ Chg K H H' rw_ ap Pn rows c 7, ?_, ?_⟩
    · refine ⟨_, rfl, rfl, _, rfl, ?_⟩
      cases cj : decide (V.int c = V.int 7) with
      | false => exact if_f rfl ⟨rw_, _, rfl, g.up (by decide)⟩
      | true =>
        have ec := V.int.inj (of_decide_eq_true cj)
        obtain ⟨nrw, qs, hL, nq, ns, nra⟩ := g.now (by omega) hrl
        obtain ⟨q1, l, atq, hl, hq, eqh, nqr⟩ := hL.atz az0 az1
        obtain ⟨nqa, eq⟩ := hide_some eqh
        have erw := (hide_some hL.at_).2
        have lqs : (qs.map V.ref).length = rows.length := by rw [List.length_map, hL.len]
        have hix : ixN (qs.map V.ref).length az = some az.toNat := ixN_of az0 (by rw [lqs]; exact az1)
        have l100 := hrl l hl
        have lnV : (nV l).length = l.length := by rw [List.length_map]
        have das := fun v hv => (ns.da (K := K) (by decide) v hv).ups (show 1 ≤ 2 by decide)
        refine if_t rfl ⟨_, rfl, _, _, rfl, rfl, ⟨by decide, by decide⟩, cell / 16, rfl, fun H5 v s5 hv => ?_⟩
        have hl0 : 0 < l.length := List.length_pos_iff.mpr (hne l hl)
        have hix0 : ixN (nV l).length 0 = some 0 := ixN_of (by decide) (by rw [lnV]; omega)
        have eq5 := s5 _ _ eq
        refine ⟨_, rfl, _, rfl, rw_, _, _, _, rfl, rfl, sqL_of (s5 _ _ erw), atq, q1, _, _, 0, rfl, rfl, eq5, hix0, rw_, _, rfl, same_put (g.same.trans s5) (nq q1 hq), g.nap, ?_, .inr ⟨by omega, by omega, qs.map V.ref, ?_, by omega, fun u hu => ?_⟩⟩
        · rw [upd_ne nqa.symm]
          exact s5 _ _ g.eap
        · rw [hide_at nra, upd_ne nqr.symm]
          exact s5 _ _ erw
        · obtain ⟨q3, hq3, rfl⟩ := List.mem_map.mp hu
          by_cases e : q3 = q1
          · subst e
            refine Lt.da (n := 1) ⟨(nV l).set 0 v, by rw [hide_at nqa, upd_same], by rw [List.length_set, lnV]; omega, set_mem (fun u hu => ?_) (hv.same fun b o eb => ?_)⟩
            · obtain ⟨k, rfl⟩ := nV_int u hu
              exact int_da _ _
            · obtain ⟨h1, h2⟩ := fresh_in eb
              have n1 : b ≠ ap := (ne_of_none g.eap h1).symm
              have n2 : b ≠ q3 := (ne_of_none eq h1).symm
              rw [hide_at n1, upd_ne n2]
              exact h2
          · obtain ⟨l4, h4, e4, _⟩ := hL.mem hq3
            obtain ⟨n4, e4⟩ := hide_some e4
            exact (nats_da (l := l4) (by rw [hide_at n4, upd_ne e]; exact s5 _ _ e4) (by have := hrl l4 h4; omega)).ups (by decide)
    rintro σ' H' ⟨rw_, y9, rfl, g⟩
    refine ⟨fun σ' H' => ∃ rw_ y9, σ' = [some (.ref t), some (.ref b), some (.ref rw_), some (.ref ap), some (.int cell), some (.int spot), some (.int c), some (.int az), some (.int tz), y9] ∧ Chg K H H' rw_ ap Pn rows c 11, ?_, ?_⟩
    · refine ⟨_, rfl, rfl, _, rfl, ?_⟩
      cases cj : decide (V.int c = V.int 11) with
      | false => exact if_f rfl ⟨rw_, _, rfl, g.up (by decide)⟩
      | true =>
        have ec := V.int.inj (of_decide_eq_true cj)
        obtain ⟨nrw, qs, hL, nq, ns, nra⟩ := g.now (by omega) hrl
        obtain ⟨q1, l, atq, hl, hq, eqh, nqr⟩ := hL.atz az0 az1
        obtain ⟨nqa, eq⟩ := hide_some eqh
        have erw := (hide_some hL.at_).2
        have lqs : (qs.map V.ref).length = rows.length := by rw [List.length_map, hL.len]
        have hix : ixN (qs.map V.ref).length az = some az.toNat := ixN_of az0 (by rw [lqs]; exact az1)
        have l100 := hrl l hl
        have lnV : (nV l).length = l.length := by rw [List.length_map]
        have das := fun v hv => (ns.da (K := K) (by decide) v hv).ups (show 1 ≤ 2 by decide)
        refine if_t rfl ⟨_, rfl, _, rfl, rw_, _, _, _, rfl, rfl, sqL_of erw, atq, q1, _, rfl, .inl ⟨sqL_of eq, fun p np => ?_⟩⟩
        have s5 : Same H' (upd H' p (.tup (nV l))) := same_upd np
        have nps : p ≠ rw_ := (ne_of_none erw np).symm
        have npa : p ≠ ap := (ne_of_none g.eap np).symm
        refine ⟨_, rfl, _, rfl, rw_, _, _, _, rfl, rfl, s5 _ _ erw, hix, rw_, _, rfl, same_put (g.same.trans s5) nrw, g.nap, ?_, .inr ⟨by omega, by omega, lt_set s5 das (by omega) nra ((tup_da (n := 0) (xs := nV l) (sqT_of (by rw [hide_at nps, hide_at npa, upd_same])) (by omega) fun v hv => ?_).ups (by decide))⟩⟩
        · rw [upd_ne nra.symm]
          exact s5 _ _ g.eap
        · obtain ⟨k, rfl⟩ := nV_int v hv
          exact int_da _ _
    rintro σ' H' ⟨rw_, y9, rfl, g⟩
    have lap : az < (Pn.length : Int) := by omega
    have g6 : c = 6 → ∃ qs rows', LL (hide H' ap) rw_ qs rows' ∧ (∀ r ∈ rows', r.length ≤ 100) ∧ rows'.length ≤ 100 := fun e => by
      rcases g.form with ⟨_, qs, hL, _⟩ | ⟨_, n, _⟩
      · exact ⟨qs, rows, hL, hrl, hrn⟩
      · exact absurd e n
    have gl : Lt K (hide H' ap) 2 rw_ := by
      rcases g.form with ⟨_, qs, hL, _⟩ | ⟨_, _, h⟩
      · refine ⟨_, hL.at_, by rw [List.length_map, hL.len]; omega, fun v hv => ?_⟩
        obtain ⟨q3, hq3, rfl⟩ := List.mem_map.mp hv
        obtain ⟨l4, h4, e4, _⟩ := hL.mem hq3
        exact (nats_da e4 (by have := hrl l4 h4; omega)).ups (by decide)
      · exact h
    refine ⟨_, rfl, _, rfl, _, rfl, _, rfl, _, rfl, _, rfl, _, rfl, rw_, ap, c, cell, az, spot, Pn, rfl, g.eap, by omega, az0, lap, g6, fun H5 p s5 hp5 => ⟨(by show 2 ≤ sizeLine; decide), fun T nT => ?_⟩⟩
    have s6 : Same H5 (upd H5 T (.tup [.ref rw_, .ref p])) := same_upd nT
    refine q _ T rw_ p (fun b o e => s6 _ _ (s5 b o ?_)) (sqT_of upd_same) (gl.same (s5.trans s6)) (hp5.same s6)
    have n : b ≠ ap := ne_of_none e g.nap
    rw [hide_at n]
    exact g.same b o e
end
end Fb
/-! law_k09: what holds tells. -/
namespace Fb
open PySem PySem.Spec PyProof.Rows L2
abbrev lawLevel : Nat := 8
def spLaw (K : PySem.W.Frag) : Sp := fun vs H Q _ => ∃ (a : Addr) (ns : List Int), vs = [.ref a] ∧ SqL K H a (ns.map V.int) ∧ ns.length ≤ 63 ∧ ∀ H', Q (.bl true) H'
/-- the copy of rows and numbers, as data -/
def copyD : PyData → PyData → PyData
  | .list ds, e => .list (e :: ds)
  | d, e => .list [d, e]
theorem copyD_lst {n : Nat} {d e : PyData} (sd : Sm n d) (se : Sm n e) : Sh (n + 2) (copyD d e) := by
  have two : ∀ {d : PyData}, Sm n d → Sh (n + 2) (.list [d, e]) := fun {d} sd => (sh_list fun x hx => by
    rcases List.mem_cons.mp hx with rfl | hx
    · exact sd.sh
    · rw [List.mem_singleton.mp hx]
      exact se.sh).up (Nat.le_succ _)
  cases sd with
  | non => exact two (.non _)
  | bl _ b => exact two (.bl _ b)
  | int _ i => exact two (.int _ i)
  | str _ z h h2 => exact two (.str _ z h h2)
  | tup h h2 => exact two (.tup h h2)
  | lst h h2 =>
    refine (sh_list fun x hx => ?_).up (Nat.le_succ _)
    rcases List.mem_cons.mp hx with rfl | hx
    · exact se.sh
    · exact ((h2 x hx).up).sh
def spCopy (K : PySem.W.Frag) : Sp := fun vs H Q _ => ∃ (x y : V) (d e : PyData), vs = [x, y] ∧ Dl K H x d ∧ Dl K H y e ∧ Sm 4 d ∧ Sm 4 e ∧ ∀ H' p, Same H H' → Dp K H' (.ref p) (copyD d e) → Q (.ref p) H'
theorem copyD_no {d e : PyData} (h : ∀ ds, d ≠ .list ds) : copyD d e = .list [d, e] := by
  cases d with
  | list ds => exact absurd rfl (h ds)
  | _ => rfl
theorem hide_free {H H' : Hp} {fo : Addr} (s : Same H H') (h : H fo = none) : Same H (hide H' fo) := fun b o e => by
  rw [hide_at (ne_of_none e h)]
  exact s b o e
/-- a list's copy at l, apart from fo -/
theorem dl_copy {K : PySem.W.Frag} {H : Hp} {l fo : Addr} {xs : List V} {ds : List PyData} (e : H l = some (.lst xs)) (n : l ≠ fo) (h : DlAll K (hide H fo) xs ds) : Dl K (hide H fo) (.ref l) (.list ds) := .lst (by rw [hide_at n]; exact e) h
section
variable {P : Program} {w : World} {K : PySem.W.Frag} {mg : Str → Option Value} {base : Heap}
theorem cal_law_copy {f : Addr} {fd : FuncData} (F : Fn K "_law_copy" s_law_copy f fd) (g : mg "_law_copy" = some (.ref f)) (B : Bi mg) : C8.Cal P w K mg base 1 "_law_copy" (spCopy K) [] := by
  refine cal_of F g sc_law_copy (bi_law_copy F) (fun vs H Q E h => ?_) (fun cdv A outer s H vs Q E hr h => ?_)
  · obtain ⟨x, y, d, e, rfl, _⟩ := h
    rfl
  · obtain ⟨x, y, d, e, rfl, px, py, sd, se, q⟩ := h
    refine ⟨_, (pss_cons (ps_set (i := 2) sc_law_copy.nd rfl (Or.inl rfl) (pe_lst (pa_cons (pv 1) pa_nil))) (C8.pss_cut (ps_if (pt_val (pe_callB (r := rIsi K) call_isi (by rfl) B.isi (by decide +kernel) (pa_cons (pv 1) (pa_cons (pe_bltn (v := .ty "list") (u := .type "list") (by rfl) B.list (by decide +kernel) (by rfl)) pa_nil)))) (pss_one (ps_set (i := 2) sc_law_copy.nd rfl (Or.inl rfl) (pe_lst (pa_cons (pe_callTy call_list_of (by rfl) B.list (by decide +kernel) (pa_cons (pv 1) pa_nil)) pa_nil)))) pss_nil) (pss_cons (ps_if (pt_not (pt_val (pe_callB (r := rIsi K) call_isi (by rfl) B.isi (by decide +kernel) (pa_cons (pv 0) (pa_cons (pe_bltn (v := .ty "list") (u := .type "list") (by rfl) B.list (by decide +kernel) (by rfl)) pa_nil))))) (pss_one (ps_ret (pe_op op_cat (pe_lst (pa_cons (pv 0) pa_nil)) (pv 2)))) pss_nil) (pss_cons (ps_for PassesOwn.never rfl (pi_list (pv 0)) (pg_name (i := 3) sc_law_copy.nd rfl (Or.inl rfl)) (C8.pss_cut (ps_if (pt_val (pe_callB (r := rIsi K) call_isi (by rfl) B.isi (by decide +kernel) (pa_cons (pv 3) (pa_cons (pe_bltn (v := .ty "list") (u := .type "list") (by rfl) B.list (by decide +kernel) (by rfl)) pa_nil)))) (pss_one (ps_set (i := 3) sc_law_copy.nd rfl (Or.inl rfl) (pe_callTy call_list_of (by rfl) B.list (by decide +kernel) (pa_cons (pv 3) pa_nil)))) pss_nil) (pss_one (ps_expr (pe_bm PySem.F.plainAttrs_list PySem.F.slot_list_append PySem.F.type_list_append mt_append (pv 2) (pa_cons (pv 3) pa_nil)))))) (pss_one (ps_ret (pv 2))))))), ?_⟩
    refine ⟨_, rfl, (by show 1 ≤ sizeLine; decide), fun f1 nf1 => ?_⟩
    have s1 : Same H (upd H f1 (.lst [y])) := same_upd nf1
    refine ⟨fun σ' H' => ∃ fo v, σ' = [some x, some y, some (.ref fo), none] ∧ Same H H' ∧ H fo = none ∧ H' fo = some (.lst [v]) ∧ Dl K (hide H' fo) v e, ?_, ?_⟩
    · refine ⟨_, rfl, _, _, _, _, _, rfl, .ty _, (((py.dp.same s1).plain se)).ty, kit_ty (kd_lst (kdOf e)), _, rfl, ?_⟩
      cases k1 : (kdOf e).isLst with
      | false => exact if_f rfl ⟨f1, y, rfl, s1, nf1, upd_same, py.same (hide_free s1 nf1)⟩
      | true =>
        obtain ⟨es, rfl⟩ := kd_lst_t se k1
        obtain ⟨ay, ys, rfl, hY, dY⟩ := py.lst_of
        refine if_t rfl ⟨_, rfl, ay, _, rfl, .inl (sqL_of (s1 _ _ hY)), fun l nl => ⟨(by show 1 ≤ sizeLine; decide), fun f2 nf2 => ?_⟩⟩
        have s2 := s1.trans (same_upd (o := .lst ys) nl)
        have s3 := s2.trans (same_upd (o := .lst [.ref l]) nf2)
        have nf20 : H f2 = none := s2.free nf2
        have nlf : l ≠ f2 := ne_of_none (upd_same (o := .lst ys)) nf2
        exact ⟨f2, .ref l, rfl, s3, nf20, upd_same, dl_copy ((same_upd nf2) _ _ upd_same) nlf (dY.same (hide_free s3 nf20))⟩
    · rintro σ' H2 ⟨fo, v, rfl, s2, nfo, efo, pv2⟩
      refine ⟨_, rfl, _, _, _, _, _, rfl, .ty _, (((px.dp.same s2).plain sd)).ty, kit_ty (kd_lst (kdOf d)), _, rfl, ?_⟩
      cases k1 : (kdOf d).isLst with
      | false =>
        refine if_t rfl ⟨_, rfl, (by show 1 ≤ sizeLine; decide), fun z nz => ?_⟩
        have s3 : Same H2 (upd H2 z (.lst [x])) := same_upd nz
        refine ⟨_, rfl, z, fo, _, _, rfl, rfl, upd_same, s3 _ _ efo, (by show 2 ≤ sizeLine; decide), fun p np => ?_⟩
        have s4 := s3.trans (same_upd (o := .lst ([x] ++ [v])) np)
        refine q _ p (s2.trans s4) ?_
        rw [copyD_no fun ds z => kd_lst_f k1 ds z]
        exact .lst (sqL_of upd_same) (.cons (px.dp.same (s2.trans s4)) (.cons ((pv2.dp.same hide_same).same s4) .nil))
      | true =>
        obtain ⟨ds, rfl⟩ := kd_lst_t sd k1
        obtain ⟨ax, xs, rfl, hX, dX⟩ := px.lst_of
        have lx := dp_len dX.dp
        have hd300 := sd.items.1
        refine if_f rfl ⟨_, rfl, ax, rfl, ⟨_, sqL_of (s2 _ _ hX)⟩, for_list (K := K) (a := ax) (xs := xs) (fun i σ H' => Same H H' ∧ (∃ y3, σ = [some (.ref ax), some y, some (.ref fo), y3]) ∧ ∃ zs, H' fo = some (.lst zs) ∧ zs.length = i + 1 ∧ DlAll K (hide H' fo) zs (e :: ds.take i))
          ⟨s2, ⟨none, rfl⟩, [v], efo, rfl, .cons pv2 .nil⟩ (fun i σ H' _ ⟨s, _⟩ => sqL_of (s _ _ hX)) ?_ ?_⟩
        · rintro i u σ H3 hi ⟨s3, ⟨y3, rfl⟩, zs, ez, lz, pz⟩
          have hil := (List.getElem?_eq_some_iff.mp hi).1
          obtain ⟨du, hdu, pu⟩ := dl_get dX hi
          have sdu := sd.items.2 du (List.mem_of_getElem? hdu)
          refine ⟨fun σ' H' => Same H3 H' ∧ ∃ u', σ' = [some (.ref ax), some y, some (.ref fo), some u'] ∧ Dl K (hide H' fo) u' du, ?_, ?_⟩
          · refine ⟨_, rfl, _, _, _, _, _, rfl, .ty _, (((pu.dp.same s3).plain sdu)).ty, kit_ty (kd_lst (kdOf du)), _, rfl, ?_⟩
            cases k2 : (kdOf du).isLst with
            | false => exact if_f rfl ⟨Same.refl _, u, rfl, pu.same (hide_free s3 nfo)⟩
            | true =>
              obtain ⟨es, rfl⟩ := kd_lst_t sdu k2
              obtain ⟨au, us, rfl, hU, dU⟩ := pu.lst_of
              refine if_t rfl ⟨_, rfl, au, _, rfl, .inl (sqL_of (s3 _ _ hU)), fun l nl => ?_⟩
              have s4 : Same H3 (upd H3 l (.lst us)) := same_upd nl
              exact ⟨s4, .ref l, rfl, dl_copy upd_same (ne_of_none ez nl).symm (dU.same (hide_free (s3.trans s4) nfo))⟩
          · rintro σ' H4 ⟨s4, u', rfl, pu4⟩
            have ez4 := s4 _ _ ez
            refine ⟨_, rfl, .inl ⟨rfl, _, sqL_of ez4⟩, _, rfl, fo, _, _, rfl, rfl, ez4, small1000 (by omega), same_put (s3.trans s4) nfo, ⟨_, rfl⟩, zs ++ [u'], upd_same, by rw [List.length_append, lz]; rfl, ?_⟩
            have hs : Same (hide H4 fo) (hide (upd H4 fo (.lst (zs ++ [u']))) fo) := fun b o e => by
              obtain ⟨n, e⟩ := hide_some e
              rw [hide_at n, upd_ne n]
              exact e
            have := dl_snoc ((pz.same (hide_mono s4)).same hs) (pu4.same hs)
            rw [List.take_add_one, hdu]
            exact this
        · rintro σ H3 ⟨s3, ⟨y3, rfl⟩, zs, ez, lz, pz⟩
          rw [lx, List.take_length] at pz
          exact ⟨_, rfl, q H3 fo s3 (.lst (sqL_of ez) (pz.dp.same hide_same))⟩
/-- the rows that a plan tells, and numbers apart, as many -/
structure RP (n : Nat) (rows : List (List Nat)) (P : List Nat) : Prop where
  lt : ∀ r ∈ rows, ∀ x ∈ r, x < n
  len : ∀ r ∈ rows, r.length ≤ 100
  many : rows.length ≤ 100
  ne : ∀ r ∈ rows, r ≠ []
  eq : P.length = rows.length
theorem LL.rev {H : Hp} {af p : Addr} {qs : List Addr} {L : List (List Nat)} (b : LL H af qs L) (np : H p = none) : LL (upd H p (.lst (qs.map V.ref).reverse)) p qs.reverse L.reverse := by
  have fr := b.free np
  refine ⟨by rw [upd_same, List.map_reverse], by rw [List.length_reverse, List.length_reverse, b.len], fun j q l h h' => ?_⟩
  have hj : j < qs.length := by
    have := (List.getElem?_eq_some_iff.mp h).1
    rw [List.length_reverse] at this
    exact this
  rw [List.getElem?_reverse hj] at h
  rw [List.getElem?_reverse (b.len ▸ hj), ← b.len] at h'
  obtain ⟨n, e⟩ := b.row _ q l h h'
  have nq : q ≠ p := fun z => fr.2 (z ▸ List.mem_of_getElem? h)
  exact ⟨nq, by rw [upd_ne nq]; exact e⟩
theorem RP.rev {n : Nat} {rows : List (List Nat)} {P : List Nat} (r : RP n rows P) : RP n rows.reverse P := ⟨fun x hx => r.lt x (List.mem_reverse.mp hx), fun x hx => r.len x (List.mem_reverse.mp hx), by rw [List.length_reverse]; exact r.many, fun x hx => r.ne x (List.mem_reverse.mp hx), by rw [List.length_reverse]; exact r.eq⟩
theorem LL.lt {K : PySem.W.Frag} {H : Hp} {af : Addr} {qs : List Addr} {L : List (List Nat)} (b : LL H af qs L) (h : ∀ r ∈ L, r.length ≤ 100) (m : L.length ≤ 100) : Lt K H 1 af := by
  refine ⟨_, b.at_, by rw [List.length_map, b.len]; omega, fun v hv => ?_⟩
  obtain ⟨q, hq, rfl⟩ := List.mem_map.mp hv
  obtain ⟨l, hl, e, _⟩ := b.mem hq
  exact nats_da e (by have := h l hl; omega)
theorem nums_lt {K : PySem.W.Frag} {H : Hp} {a : Addr} {l : List Nat} (e : H a = some (.lst (nV l))) (h : l.length ≤ 300) : Lt K H 1 a := (nats_lt (K := K) e h).ups (by decide)
theorem rp_of {A : Nat → Nat → Prop} {n : Nat} {rows : List (List Nat)} {P : List Nat} (ok : PlanOk A n rows P) (hn : n ≤ 100) : RP n rows P := by
  have hfl : rows.flatten.length = n := by
    have := ok.perm.length_eq
    rw [List.length_range] at this
    exact this
  refine ⟨fun r hr x hx => List.mem_range.mp (ok.perm.mem_iff.mp (List.mem_flatten.mpr ⟨r, hr, hx⟩)), fun r hr => ?_, ?_, ok.ne, ok.len⟩
  · have h1 : r.length ≤ rows.flatten.length := (List.sublist_flatten_of_mem hr).length_le
    omega
  · rw [← ok.len]
    have := nodup_len (m := List.range n) (l := P) (ok.up.imp fun h => Nat.ne_of_lt h) fun x hx => List.mem_range.mpr (ok.lt x hx)
    rw [List.length_range] at this
    omega
theorem cal_law {f : Addr} {fd : FuncData} (F : Fn K "law" s_law f fd) (B : Bi mg) (c_built : C8.Cal P w K mg base 3 "_law_built" (spBuilt K) []) (c_cell : C8.Cal P w K mg base 1 "_law_cell_at" (spCellAt K) [])
    (c_lroads : C8.Cal P w K mg base 1 "_law_roads" (spLRoads K) []) (c_plan : C8.Cal P w K mg base 7 "plan" (spPlan K) []) (c_changed : C8.Cal P w K mg base 4 "_law_changed" (spChanged K) []) (c_odd : C8.Cal P w K mg base 1 "_law_odd" (spLOdd K) [])
    (c_due : C8.Cal P w K mg base 3 "_law_due" (spDue K) []) (c_copy : C8.Cal P w K mg base 1 "_law_copy" (spCopy K) []) (c_holds : C8.Cal P w K mg base 7 "holds" (spHolds K) []) : FnOk P w K mg base CX0 8 f fd ["_law_script"] (spLaw K) := by
  refine F.ok sc_law (fun vs H Q E h => ?_) (fun cdv A outer s H vs Q E hr h => ?_)
  · obtain ⟨a, ns, rfl, _⟩ := h
    rfl
  · obtain ⟨a, ns, rfl, hS, hlen, q⟩ := h
    have hu := hu_of hr
    refine ⟨_, PSs.nox (pss_cons (ps_asg (C8.pe_c c_built hr (by decide) (by rfl) (pa_cons (pv 0) pa_nil)) (pg_tup (by rfl) (pgs_cons (pg_name (i := 1) sc_law.nd rfl (Or.inl rfl)) (pgs_cons (pg_name (i := 2) sc_law.nd rfl (Or.inl rfl)) (pgs_cons (pg_name (i := 3) sc_law.nd rfl (Or.inl rfl)) pgs_nil))))) (pss_cons (ps_set (i := 3) sc_law.nd rfl (Or.inl rfl) (pe_slice sl_list (pv 3) po_none (po_some pe_int))) (pss_cons (ps_set (i := 4) sc_law.nd rfl (Or.inl rfl) (C8.pe_c c_lroads hr (by decide) (by rfl) (pa_cons (pv 2) (pa_cons (pv 3) pa_nil)))) (pss_cons (ps_asg (C8.pe_c c_plan hr (by decide) (by rfl) (pa_cons (pe_callTy call_list_of (by rfl) B.list (by decide +kernel) (pa_cons (pv 2) pa_nil)) (pa_cons (pe_callTy call_list_of (by rfl) B.list (by decide +kernel) (pa_cons (pv 3) pa_nil)) pa_nil))) (pg_tup (by rfl) (pgs_cons (pg_name (i := 5) sc_law.nd rfl (Or.inl rfl)) (pgs_cons (pg_name (i := 6) sc_law.nd rfl (Or.inl rfl)) pgs_nil)))) (pss_cons (ps_set (i := 7) sc_law.nd rfl (Or.inl rfl) (C8.pe_c c_cell hr (by decide) (by rfl) (pa_cons (pv 0) (pa_cons pe_int pa_nil)))) (C8.pss_cut (ps_if (pt_cmpR op_eq (pe_op op_mod (pv 7) pe_int) pe_int (nomark _)) (pss_one (ps_set (i := 5) sc_law.nd rfl (Or.inl rfl) (pe_revL (pv 5)))) pss_nil) (C8.pss_cut (ps_if (pt_cmpR op_gt (pe_op op_mod (pe_op op_fdiv (pv 7) pe_int) pe_int) pe_int (nomark _)) (pss_cons (ps_set (i := 8) sc_law.nd rfl (Or.inl rfl) (C8.pe_c c_cell hr (by decide) (by rfl) (pa_cons (pv 0) (pa_cons pe_int pa_nil)))) (pss_one (ps_asg (C8.pe_c c_changed hr (by decide) (by rfl) (pa_cons (pv 4) (pa_cons (pv 3) (pa_cons (pv 5) (pa_cons (pv 6) (pa_cons (C8.pe_c c_cell hr (by decide) (by rfl) (pa_cons (pv 0) (pa_cons pe_int pa_nil))) (pa_cons (pv 8) pa_nil))))))) (pg_tup (by rfl) (pgs_cons (pg_name (i := 5) sc_law.nd rfl (Or.inl rfl)) (pgs_cons (pg_name (i := 6) sc_law.nd rfl (Or.inl rfl)) pgs_nil)))))) pss_nil) (C8.pss_cut (ps_if (pt_cmpR op_eq (pe_op op_mod (pe_op op_fdiv (pv 7) pe_int) pe_int) pe_int (nomark _)) (pss_cons (ps_set (i := 9) sc_law.nd rfl (Or.inl rfl) (C8.pe_c c_odd hr (by decide) (by rfl) (pa_cons (pe_op op_fdiv (pv 7) pe_int) pa_nil))) (pss_one (ps_asg (pe_ix (r := rIxL K) ix_list (pe_lst (pa_cons (pe_tup (pa_cons (pv 9) (pa_cons (pv 6) pa_nil))) (pa_cons (pe_tup (pa_cons (pv 5) (pa_cons (pv 9) pa_nil))) (pa_cons (pe_tup (pa_cons (pe_callTy call_tuple_of (by rfl) B.tuple (by decide +kernel) (pa_cons (pv 5) pa_nil)) (pa_cons (pv 6) pa_nil))) (pa_cons (pe_tup (pa_cons (pv 5) (pa_cons (pe_callTy call_tuple_of (by rfl) B.tuple (by decide +kernel) (pa_cons (pv 6) pa_nil)) pa_nil))) pa_nil))))) (pe_op op_mod (pe_op op_fdiv (pv 7) pe_int) pe_int) (fun _ _ => rfl)) (pg_tup (by rfl) (pgs_cons (pg_name (i := 5) sc_law.nd rfl (Or.inl rfl)) (pgs_cons (pg_name (i := 6) sc_law.nd rfl (Or.inl rfl)) pgs_nil)))))) pss_nil) (pss_cons (ps_set (i := 10) sc_law.nd rfl (Or.inl rfl) (pe_lst (pa_cons (pe_callTy call_list_of (by rfl) B.list (by decide +kernel) (pa_cons (pv 2) pa_nil)) (pa_cons (pe_callTy call_list_of (by rfl) B.list (by decide +kernel) (pa_cons (pv 3) pa_nil)) pa_nil)))) (pss_cons (ps_set (i := 11) sc_law.nd rfl (Or.inl rfl) (C8.pe_c c_due hr (by decide) (by rfl) (pa_cons (pv 4) (pa_cons (pv 3) (pa_cons (pv 5) (pa_cons (pv 6) pa_nil)))))) (pss_cons (ps_set (i := 12) sc_law.nd rfl (Or.inl rfl) (C8.pe_c c_copy hr (by decide) (by rfl) (pa_cons (pv 5) (pa_cons (pv 6) pa_nil)))) (pss_cons (ps_for PassesOwn.never rfl (pi_range1 (by rfl) B.range (pa_cons pe_int pa_nil)) (pg_name (i := 13) sc_law.nd rfl (Or.inl rfl)) (pss_cons (ps_set (i := 14) sc_law.nd rfl (Or.inl rfl) (C8.pe_c c_holds hr (by decide) (by rfl) (pa_cons (pe_ix (r := rIxL K) ix_list (pv 10) pe_int (fun _ _ => rfl)) (pa_cons (pe_ix (r := rIxL K) ix_list (pv 10) pe_int (fun _ _ => rfl)) (pa_cons (pv 5) (pa_cons (pv 6) pa_nil)))))) (pss_one (ps_if (PW.pt (pw_or (pt_not (pt_val (pe_callB (r := rIsi K) call_isi (by rfl) B.isi (by decide +kernel) (pa_cons (pv 14) (pa_cons (pe_bltn (v := .ty "bool") (u := .type "bool") (by rfl) B.bool (by decide +kernel) (by rfl)) pa_nil))))) (pw_or1 (pt_cmpR op_ne (pv 14) (pv 11) (nomark _))))) (pss_one (ps_ret pe_bl)) pss_nil)))) (pss_one (ps_ret (pe_and (pe_cmpR (op_eqD hr.units) (pv 10) (pe_lst (pa_cons (pv 2) (pa_cons (pv 3) pa_nil))) (nomark _)) (pe_one (pe_cmpR (op_eqD hr.units) (C8.pe_c c_copy hr (by decide) (by rfl) (pa_cons (pv 5) (pa_cons (pv 6) pa_nil))) (pv 12) (nomark _)))))))))))))))))), ?_⟩
    refine ⟨_, rfl, a, ns, rfl, hS, fun H1 p n r t names rides trips qr qt b ep => ?_⟩
    refine ⟨p, _, rfl, sqT_of ep, rfl, _, _, rfl, _, _, rfl, _, _, rfl, rfl, ?_⟩
    have hlr := b.lr
    have okR := b.okR
    refine ⟨_, rfl, 6, rfl, t, _, rfl, sqL_of b.et, fun c nc => ?_⟩
    have ecut : cutV (qt.map V.ref) none (some 6) = (qt.take 6).map V.ref := by
      rw [show cutV (qt.map V.ref) none (some 6) = (qt.map V.ref).take 6 from cut_take _ 6, List.map_take]
    rw [ecut]
    obtain ⟨H2, hH2⟩ : ∃ H2, H2 = upd H1 c (.lst ((qt.take 6).map V.ref)) := ⟨_, rfl⟩
    rw [← hH2]
    have s2 : Same H1 H2 := hH2 ▸ same_upd nc
    have ec : H2 c = some (.lst ((qt.take 6).map V.ref)) := hH2 ▸ upd_same
    have tt6 := (b.tt.take 6).same s2
    have okT : ∀ x ∈ trips.take 6, okTrip x := fun x hx => b.okT x (List.mem_of_mem_take hx)
    have l6 : (trips.take 6).length ≤ 6 := by rw [List.length_take]; omega
    have R2 : Rows K H2 rideV r rides := ⟨qr, sqL_of (s2 _ _ b.er), b.tr.same s2⟩
    have S2 : Same H H2 := b.same.trans s2
    clear hH2 ecut
    generalize trips.take 6 = T6 at *
    generalize qt.take 6 = q6 at *
    have T2 : Rows K H2 tripV c T6 := ⟨q6, sqL_of ec, tt6⟩
    have hp := posR okR okT
    have lM := roadsM_len rides T6
    -- told
    refine ⟨_, rfl, _, rfl, r, c, rides, T6, rfl, R2, T2, by omega, by omega, fun H3 td qd s3 ntd etd ttd => ?_⟩
    -- the plan
    have er3 := s3 _ _ (s2 _ _ b.er)
    refine ⟨_, rfl, r, _, rfl, .inl (sqL_of er3), fun h0 n0 => ?_⟩
    have s4 : Same H3 (upd H3 h0 (.lst (qr.map V.ref))) := same_upd n0
    refine ⟨_, rfl, c, _, rfl, .inl (sqL_of (s4 _ _ (s3 _ _ ec))), fun h1 n1 => ?_⟩
    have s5 : Same (upd H3 h0 (.lst (qr.map V.ref))) (upd (upd H3 h0 (.lst (qr.map V.ref))) h1 (.lst (q6.map V.ref))) := same_upd n1
    have e0 : (upd (upd H3 h0 (.lst (qr.map V.ref))) h1 (.lst (q6.map V.ref))) h0 = some (.lst (qr.map V.ref)) := s5 _ _ upd_same
    have e1 : (upd (upd H3 h0 (.lst (qr.map V.ref))) h1 (.lst (q6.map V.ref))) h1 = some (.lst (q6.map V.ref)) := upd_same
    obtain ⟨H5, hH5⟩ : ∃ H5, H5 = upd (upd H3 h0 (.lst (qr.map V.ref))) h1 (.lst (q6.map V.ref)) := ⟨_, rfl⟩
    rw [← hH5] at s5 e0 e1 ⊢
    have s35 : Same H3 H5 := s4.trans s5
    clear hH5
    have tr5 := (b.tr.same s2).same (s3.trans s35)
    have tt5 := tt6.same (s3.trans s35)
    have Th : Told2 K H5 h0 h1 rides T6 := ⟨⟨qr, sqL_of e0, tr5⟩, ⟨q6, sqL_of e1, tt5⟩, okR, okT, by omega, by omega⟩
    have R5 : Rows K H5 rideV r rides := R2.same (s3.trans s35)
    have T5 : Rows K H5 tripV c T6 := T2.same (s3.trans s35)
    have RT5 : Rows K H5 rideV td (roadsM rides T6) := ⟨qd, sqL_of (s35 _ _ etd), ttd.same s35⟩
    refine ⟨h0, h1, rides, T6, rfl, Th, fun H6 pp rp_ tp qs rows apart pa ok => ?_⟩
    have rp := rp_of ok (by omega)
    refine ⟨pp, _, rfl, pa.ep, rfl, _, _, rfl, _, _, rfl, rfl, ?_⟩
    have s56 := pa.same
    have S6 := S2.trans (s3.trans (s35.trans s56))
    have er6 := pa.er
    have et6 := pa.et
    clear Th pa ok e0 e1 s4 s5 n0 n1
    have lap : apart.length ≤ 100 := by
      rw [rp.eq]
      exact rp.many
    have C : ∀ {H' : Hp}, Same H6 H' → SqL K H' a (ns.map V.int) := fun s => (S6.trans s).seq hS
    refine ⟨_, rfl, a, ns, 24, rfl, C (Same.refl _), by omega, ?_⟩
    generalize cellAt ns 24 = cell
    -- turned about, or not
    refine ⟨fun σ' H' => Same H6 H' ∧ ∃ r1 qs1 rows1, σ' = [some (.ref a), some (.ref n), some (.ref r), some (.ref c), some (.ref td), some (.ref r1), some (.ref tp), some (.int cell), none, none, none, none, none, none, none] ∧ LL H' r1 qs1 rows1 ∧ RP T6.length rows1 apart, ?_, ?_⟩
    · refine ⟨_, rfl, _, _, rfl, rfl, (by show (0 : Int) < 2; decide), rfl, _, rfl, ite2 (fun _ => ?_) (fun _ => ?_)⟩
      · exact ⟨_, rfl, rp_, _, rfl, sqL_of er6.at_, fun p' np' => ⟨same_upd np', p', _, _, rfl, er6.rev np', rp.rev⟩⟩
      · exact ⟨Same.refl _, rp_, qs, rows, rfl, er6, rp⟩
    rintro σ' H7 ⟨s7, r1, qs1, rows1, rfl, er7, rp1⟩
    -- changed, or not
    refine ⟨fun σ' H' => Same H6 H' ∧ ∃ r2 a2 y8, σ' = [some (.ref a), some (.ref n), some (.ref r), some (.ref c), some (.ref td), some (.ref r2), some (.ref a2), some (.int cell), y8, none, none, none, none, none, none] ∧ Lt K H' 2 r2 ∧ Lt K H' 1 a2, ?_, ?_⟩
    · refine ⟨_, rfl, _, _, rfl, rfl, ⟨by decide, by decide⟩, _, _, rfl, rfl, (by show (0 : Int) < 4; decide), _, _, rfl, rfl, _, rfl, ite2 (fun _ => ?_) (fun _ => ?_)⟩
      · refine ⟨_, rfl, a, ns, 26, rfl, C s7, by omega, _, rfl, _, rfl, _, rfl, _, rfl, _, rfl, a, ns, 25, rfl, C s7, by omega, _, rfl, ?_⟩
        have s57 := s56.trans s7
        exact ⟨td, c, r1, tp, cellAt ns 25, cellAt ns 26, roadsM rides T6, T6, qs1, rows1, apart, rfl, RT5.same s57, by omega, hp, T5.same s57, by omega, er7, s7 _ _ et6, rp1.lt, rp1.len, rp1.many, rp1.ne, rp1.eq,
          fun H8 p8 r8 a8 s8 e8 l8 m8 => ⟨p8, _, rfl, e8, rfl, _, _, rfl, _, _, rfl, rfl, s7.trans s8, r8, a8, _, rfl, l8, m8⟩⟩
      · exact ⟨s7, r1, tp, none, rfl, (er7.lt rp1.len rp1.many).ups (by decide), nums_lt (s7 _ _ et6) (by omega)⟩
    clear er7 rp1 s7
    rintro σ' H7 ⟨s7, r2, a2, y8, rfl, lr2, la2⟩
    -- odd as a whole, or a tuple
    refine ⟨fun σ' H' => Same H6 H' ∧ ∃ x y y8 y9, σ' = [some (.ref a), some (.ref n), some (.ref r), some (.ref c), some (.ref td), some x, some y, some (.int cell), y8, y9, none, none, none, none, none] ∧ Da K H' 3 x ∧ Da K H' 3 y, ?_, ?_⟩
    · refine ⟨_, rfl, _, _, rfl, rfl, ⟨by decide, by decide⟩, _, _, rfl, rfl, (by show (0 : Int) < 12; decide), rfl, _, rfl, ite2 (fun _ => ?_) (fun _ => ?_)⟩
      · refine ⟨_, rfl, _, _, rfl, rfl, ⟨by decide, by decide⟩, cell / 384, rfl, fun H8 v s8 hv => ?_⟩
        have dv : Da K H8 3 v := (hv.same fresh_same).ups (by decide)
        have lr8 := lr2.same s8
        have la8 := la2.same s8
        obtain ⟨xs, er, lx, hxs⟩ := id lr8
        obtain ⟨ys, ea, ly, hys⟩ := id la8
        refine ⟨_, rfl, _, rfl, (by show 2 ≤ sizeLine; decide), fun T1 n1 => ?_⟩
        have t1 : Same H8 (upd H8 T1 (.tup [v, .ref a2])) := same_upd n1
        have e1 : (upd H8 T1 (.tup [v, .ref a2])) T1 = some (.tup [v, .ref a2]) := upd_same
        generalize upd H8 T1 (.tup [v, .ref a2]) = G1 at *
        refine ⟨_, rfl, _, rfl, (by show 2 ≤ sizeLine; decide), fun T2 n2 => ?_⟩
        have t2 : Same G1 (upd G1 T2 (.tup [.ref r2, v])) := same_upd n2
        have e2 : (upd G1 T2 (.tup [.ref r2, v])) T2 = some (.tup [.ref r2, v]) := upd_same
        generalize upd G1 T2 (.tup [.ref r2, v]) = G2 at *
        refine ⟨_, rfl, r2, _, rfl, .inl ⟨sqL_of ((t1.trans t2) _ _ er), fun u1 nu1 => ?_⟩⟩
        have t3 : Same G2 (upd G2 u1 (.tup xs)) := same_upd nu1
        have e3 : (upd G2 u1 (.tup xs)) u1 = some (.tup xs) := upd_same
        generalize upd G2 u1 (.tup xs) = G3 at *
        refine ⟨_, rfl, (by show 2 ≤ sizeLine; decide), fun T3 n3 => ?_⟩
        have t4 : Same G3 (upd G3 T3 (.tup [.ref u1, .ref a2])) := same_upd n3
        have e4 : (upd G3 T3 (.tup [.ref u1, .ref a2])) T3 = some (.tup [.ref u1, .ref a2]) := upd_same
        generalize upd G3 T3 (.tup [.ref u1, .ref a2]) = G4 at *
        refine ⟨_, rfl, _, rfl, a2, _, rfl, .inl ⟨sqL_of ((((t1.trans t2).trans t3).trans t4) _ _ ea), fun u2 nu2 => ⟨(by show 2 ≤ sizeLine; decide), fun T4 n4 => ⟨(by show 4 ≤ sizeLine; decide), fun L nL => ?_⟩⟩⟩⟩
        have t5 : Same G4 (upd G4 u2 (.tup ys)) := same_upd nu2
        have e5 : (upd G4 u2 (.tup ys)) u2 = some (.tup ys) := upd_same
        generalize upd G4 u2 (.tup ys) = G5 at *
        have t6 : Same G5 (upd G5 T4 (.tup [.ref r2, .ref u2])) := same_upd n4
        have e6 : (upd G5 T4 (.tup [.ref r2, .ref u2])) T4 = some (.tup [.ref r2, .ref u2]) := upd_same
        generalize upd G5 T4 (.tup [.ref r2, .ref u2]) = G6 at *
        have t7 : Same G6 (upd G6 L (.lst [.ref T1, .ref T2, .ref T3, .ref T4])) := same_upd nL
        have e7 : (upd G6 L (.lst [.ref T1, .ref T2, .ref T3, .ref T4])) L = some (.lst [.ref T1, .ref T2, .ref T3, .ref T4]) := upd_same
        generalize upd G6 L (.lst [.ref T1, .ref T2, .ref T3, .ref T4]) = G7 at *
        obtain ⟨vT, hat, hvT⟩ := atI_in (xs := [V.ref T1, .ref T2, .ref T3, .ref T4]) (z := cell / 96 % 4) (by omega) (by show cell / 96 % 4 < 4; omega)
        refine ⟨_, rfl, _, _, rfl, rfl, ⟨by decide, by decide⟩, _, _, rfl, rfl, (by show (0 : Int) < 4; decide), L, _, _, _, rfl, rfl, sqL_of e7, hat, ?_⟩
        have w := ((t1.trans t2).trans (t3.trans t4)).trans ((t5.trans t6).trans t7)
        have dr : Da K G7 3 (.ref r2) := (lr8.same w).da
        have da : Da K G7 3 (.ref a2) := ((la8.same w).da).ups (by decide)
        have du1 : Da K G7 3 (.ref u1) := tup_da (sqT_of ((t4.trans ((t5.trans t6).trans t7)) _ _ e3)) lx fun z hz => (hxs z hz).same w
        have du2 : Da K G7 3 (.ref u2) := tup_da (sqT_of ((t6.trans t7) _ _ e5)) ly fun z hz => ((hys z hz).same w).ups (by decide)
        have dv7 := dv.same w
        obtain ⟨T, x, y, rfl, eT, dx, dy⟩ : ∃ T x y, vT = V.ref T ∧ SqT K G7 T [x, y] ∧ Da K G7 3 x ∧ Da K G7 3 y := by
          rcases List.mem_cons.mp hvT with rfl | hvT
          · exact ⟨T1, _, _, rfl, sqT_of (((t2.trans (t3.trans t4)).trans ((t5.trans t6).trans t7)) _ _ e1), dv7, da⟩
          rcases List.mem_cons.mp hvT with rfl | hvT
          · exact ⟨T2, _, _, rfl, sqT_of (((t3.trans t4).trans ((t5.trans t6).trans t7)) _ _ e2), dr, dv7⟩
          rcases List.mem_cons.mp hvT with rfl | hvT
          · exact ⟨T3, _, _, rfl, sqT_of (((t5.trans t6).trans t7) _ _ e4), du1, da⟩
          rw [List.mem_singleton.mp hvT]
          exact ⟨T4, _, _, rfl, sqT_of (t7 _ _ e6), dr, du2⟩
        exact ⟨T, _, rfl, eT, rfl, _, _, rfl, _, _, rfl, rfl, (s7.trans s8).trans w, x, y, _, _, rfl, dx, dy⟩
      · exact ⟨s7, .ref r2, .ref a2, y8, none, rfl, lr2.da, la2.da.ups (by decide)⟩
    clear lr2 la2 s7
    rintro σ' H7 ⟨s7, x, y, z8, z9, rfl, ⟨d, px, sd⟩, ⟨e, py, se⟩⟩
    have s57 := s56.trans s7
    have S57 := s35.trans s57
    -- kept
    have er7 := S57 _ _ er3
    have ec7 := S57 _ _ (s3 _ _ ec)
    refine ⟨_, rfl, r, _, rfl, .inl (sqL_of er7), fun k0 nk0 => ?_⟩
    have t1 : Same H7 (upd H7 k0 (.lst (qr.map V.ref))) := same_upd nk0
    have e1 : (upd H7 k0 (.lst (qr.map V.ref))) k0 = some (.lst (qr.map V.ref)) := upd_same
    generalize upd H7 k0 (.lst (qr.map V.ref)) = G1 at *
    refine ⟨_, rfl, c, _, rfl, .inl (sqL_of (t1 _ _ ec7)), fun k1 nk1 => ⟨(by show 2 ≤ sizeLine; decide), fun kd nkd => ?_⟩⟩
    have t2 : Same G1 (upd G1 k1 (.lst (q6.map V.ref))) := same_upd nk1
    have e2 : (upd G1 k1 (.lst (q6.map V.ref))) k1 = some (.lst (q6.map V.ref)) := upd_same
    generalize upd G1 k1 (.lst (q6.map V.ref)) = G2 at *
    have t3 : Same G2 (upd G2 kd (.lst [.ref k0, .ref k1])) := same_upd nkd
    have e3 : (upd G2 kd (.lst [.ref k0, .ref k1])) kd = some (.lst [.ref k0, .ref k1]) := upd_same
    generalize upd G2 kd (.lst [.ref k0, .ref k1]) = G3 at *
    have t13 := (t1.trans t2).trans t3
    have W := s57.trans t13
    have Tk : Told2 K G3 k0 k1 rides T6 := ⟨⟨qr, sqL_of ((t2.trans t3) _ _ e1), tr5.same W⟩, ⟨q6, sqL_of (t3 _ _ e2), tt5.same W⟩, okR, okT, by omega, by omega⟩
    -- due
    refine ⟨_, rfl, _, rfl, _, rfl, _, rfl, td, c, x, y, roadsM rides T6, T6, d, e, rfl, RT5.same W, by omega, hp, T5.same W, by omega, okT, px.same t13, py.same t13, sd.ups (by decide), se.ups (by decide), fun H8 s8 => ?_⟩
    -- before
    refine ⟨_, rfl, _, rfl, x, y, d, e, rfl, (px.same t13).same s8, (py.same t13).same s8, sd.ups (by decide), se.ups (by decide), fun H9 bf s9 dbf => ?_⟩
    have s39 := s8.trans s9
    refine ⟨2, rfl, by decide, by decide, for_range (lo := 0) (n := 2) (fun i σ H' => Same H9 H' ∧ ∃ y13 y14, σ = [some (.ref a), some (.ref n), some (.ref r), some (.ref c), some (.ref td), some x, some y, some (.int cell), z8, z9, some (.ref kd), some (.bl (goodB (fun i j => Cm (roadsM rides T6) T6 i j = true) T6.length d e)), some (.ref bf), y13, y14]) ⟨Same.refl _, none, none, rfl⟩ ?_ ?_⟩
    · rintro i σ H10 hi ⟨s10, y13, y14, rfl⟩
      have s310 := s39.trans s10
      have ekd := sqL_of (K := K) (s310 _ _ e3)
      refine ⟨_, rfl, kd, _, 0, _, rfl, rfl, ekd, atI_nat (j := 0) rfl, _, rfl, kd, _, 1, _, rfl, rfl, ekd, atI_nat (j := 1) rfl, _, rfl, _, rfl, k0, k1, rides, T6, x, y, d, e, rfl, Tk.same s310, (px.dp.same t13).same s310, (py.dp.same t13).same s310, sd.ups (by decide), se.ups (by decide), fun H11 s11 => ?_⟩
      refine ⟨_, rfl, _, _, _, _, _, rfl, .ty _, ((Plain.bool (K := K) (H := H11) (goodB (CA rides T6) T6.length d e))).ty, kit_ty (kd_bool .bool), _, rfl, if_f rfl ⟨_, rfl, _, rfl, rfl, _, rfl, if_f ?_ ⟨s10.trans s11, _, _, rfl⟩⟩⟩
      simp
    · rintro σ H10 ⟨s10, y13, y14, rfl⟩
      have s310 := s39.trans s10
      refine ⟨_, rfl, _, rfl, _, rfl, (by show 2 ≤ sizeLine; decide), fun z nz => ?_⟩
      have s11 : Same H10 (upd H10 z (.lst [.ref r, .ref c])) := same_upd nz
      have e11 : (upd H10 z (.lst [.ref r, .ref c])) z = some (.lst [.ref r, .ref c]) := upd_same
      generalize upd H10 z (.lst [.ref r, .ref c]) = G4 at *
      have s311 := s310.trans s11
      have W2 := W.trans s311
      have sh2 := sh_two okR okT
      refine ⟨_, _, dp_two (sqL_of (s311 _ _ e3)) (Tk.lR.same s311) (Tk.lT.same s311), dp_two (sqL_of e11) (R5.same W2) (T5.same W2), sh2.ok (by decide), sh2.ok (by decide), ?_⟩
      rw [eqv_same sh2]
      refine ⟨_, rfl, if_t rfl ⟨_, rfl, _, rfl, x, y, d, e, rfl, (px.same t13).same s311, (py.same t13).same s311, sd.ups (by decide), se.ups (by decide), fun H12 p12 s12 d12 => ?_⟩⟩
      have shc := copyD_lst sd se
      refine ⟨_, rfl, _, _, d12, dbf.same ((s10.trans s11).trans s12), shc.ok (by decide), shc.ok (by decide), ?_⟩
      rw [eqv_same shc]
      exact q _
end
end Fb
namespace Fb
open PySem PySem.Spec PyProof.Rows L2
abbrev dd (x : Str) (i : Nat) : He.DefD := ⟨(x, none), x, x, defArgs (top i), defBody (top i), defScope (top i), [], []⟩
def fn : List He.DefD := [dd "is_whole" 9, dd "is_place" 10, dd "is_ride" 11, dd "is_trip" 12, dd "looked" 13, dd "need_place" 14, dd "roads" 16, dd "spread" 17, dd "comes" 19, dd "behind" 20, dd "free_one" 22, dd "paired" 23, dd "apart_of" 24, dd "plan" 25, dd "holds" 26, dd "_law_whole" 28, dd "_law_cell_at" 29, dd "_law_names" 30, dd "_law_rides" 31, dd "_law_trips" 32, dd "_law_roads" 33, dd "_law_least" 34, dd "_law_can" 35, dd "_law_built" 36, dd "_law_numbers" 37, dd "_law_due" 38, dd "_law_odd" 39, dd "_law_doubled" 40, dd "_law_numbers_changed" 41, dd "_law_changed" 42, dd "_law_copy" 43, dd "law" 44]
def fa : List He.Fa := [.glo "is_whole", .glo "is_place", .glo "is_ride", .glo "is_trip", .glo "looked", .glo "need_place", .glo "roads", .glo "spread", .glo "comes", .glo "behind", .glo "free_one", .glo "paired", .glo "apart_of", .glo "plan", .glo "holds", .glo "_law_whole", .glo "_law_cell_at", .glo "_law_names", .glo "_law_rides", .glo "_law_trips", .glo "_law_roads", .glo "_law_least", .glo "_law_can", .glo "_law_built", .glo "_law_numbers", .glo "_law_due", .glo "_law_odd", .glo "_law_doubled", .glo "_law_numbers_changed", .glo "_law_changed", .glo "_law_copy", .glo "law", .free "len", .free "isinstance", .free "int", .free "bool", .free "str", .free "tuple", .free "list", .free "dict", .free "range", .free "max", .free "min", .free "sorted", .str "LETTERS" "abcdefghijklmnopqrstuvwxyz", .int "MOST_RIDE" 9999, .int "MOST_MINUTE" 99999]
abbrev R : PySem.W.OpenRow := PySem.W.OpenLaw.row PySem.Challenge.rw_fewbuses_k09_holds
abbrev hk : PySem.W.Hook := He.hookD 4 fa fn
def ob (s : PySem.W.SharedT) : He.AlD := He.obsDG 4 fa fn (HandSHeadRun.getT s)
theorem ob_eq (s : PySem.W.SharedT) : ob s = hk.obs s.abs := He.obsDG_eq (HandSHeadRun.getT_eq s)
def loose : List Str := (["BusError", "NoRide", "NoTrip", "NoPlace", "LETTERS", "MOST_RIDE", "MOST_MINUTE", "is_whole", "is_place", "is_ride", "is_trip", "looked", "need_place", "roads", "spread", "comes", "behind", "free_one", "paired", "apart_of"] : List Str) ++ (["plan", "holds", "_law_whole", "_law_cell_at", "_law_names", "_law_rides", "_law_trips", "_law_roads", "_law_least", "_law_can", "_law_built", "_law_numbers", "_law_due", "_law_odd", "_law_doubled", "_law_numbers_changed", "_law_changed", "_law_copy"] : List Str)
set_option maxHeartbeats 0 in
theorem run (w : World) : HandSHeadRun.RunEq R (PySem.W.view R.prog [44]) hk ob 6000 loose w := by
  intro os
  kernel_rfl
theorem facts {P : Program} {w : World} {K : PySem.W.Frag} {h : Heap} {mg : Str → Option Value} {f : Addr} (X : K.In h) (G : h.Ns mainGlobals mg) (hfa : mg ("law" : Str) = some (.ref f)) (c : He.SaysD fa fn K) :
    ∃ fd : FuncData, (∀ (s : Shared) (v : Value), BindsTo s fd ⟨[v], []⟩ [("_law_script", v)]) ∧ ∀ base : Heap, K.In base → base.Ns mainGlobals mg → FnOk P w K mg base CX0 lawLevel f fd ["_law_script"] (spLaw K) := by
  obtain ⟨d_is_whole, F_is_whole⟩ := c.def_ 0 (d := dd "is_whole" 9) rfl
  obtain ⟨d_is_place, F_is_place⟩ := c.def_ 1 (d := dd "is_place" 10) rfl
  obtain ⟨d_is_ride, F_is_ride⟩ := c.def_ 2 (d := dd "is_ride" 11) rfl
  obtain ⟨d_is_trip, F_is_trip⟩ := c.def_ 3 (d := dd "is_trip" 12) rfl
  obtain ⟨d_looked, F_looked⟩ := c.def_ 4 (d := dd "looked" 13) rfl
  obtain ⟨d_need_place, F_need_place⟩ := c.def_ 5 (d := dd "need_place" 14) rfl
  obtain ⟨d_roads, F_roads⟩ := c.def_ 6 (d := dd "roads" 16) rfl
  obtain ⟨d_spread, F_spread⟩ := c.def_ 7 (d := dd "spread" 17) rfl
  obtain ⟨d_comes, F_comes⟩ := c.def_ 8 (d := dd "comes" 19) rfl
  obtain ⟨d_behind, F_behind⟩ := c.def_ 9 (d := dd "behind" 20) rfl
  obtain ⟨d_free_one, F_free_one⟩ := c.def_ 10 (d := dd "free_one" 22) rfl
  obtain ⟨d_paired, F_paired⟩ := c.def_ 11 (d := dd "paired" 23) rfl
  obtain ⟨d_apart_of, F_apart_of⟩ := c.def_ 12 (d := dd "apart_of" 24) rfl
  obtain ⟨d_plan, F_plan⟩ := c.def_ 13 (d := dd "plan" 25) rfl
  obtain ⟨d_holds, F_holds⟩ := c.def_ 14 (d := dd "holds" 26) rfl
  obtain ⟨d_law_whole, F_law_whole⟩ := c.def_ 15 (d := dd "_law_whole" 28) rfl
  obtain ⟨d_law_cell_at, F_law_cell_at⟩ := c.def_ 16 (d := dd "_law_cell_at" 29) rfl
  obtain ⟨d_law_names, F_law_names⟩ := c.def_ 17 (d := dd "_law_names" 30) rfl
  obtain ⟨d_law_rides, F_law_rides⟩ := c.def_ 18 (d := dd "_law_rides" 31) rfl
  obtain ⟨d_law_trips, F_law_trips⟩ := c.def_ 19 (d := dd "_law_trips" 32) rfl
  obtain ⟨d_law_roads, F_law_roads⟩ := c.def_ 20 (d := dd "_law_roads" 33) rfl
  obtain ⟨d_law_least, F_law_least⟩ := c.def_ 21 (d := dd "_law_least" 34) rfl
  obtain ⟨d_law_can, F_law_can⟩ := c.def_ 22 (d := dd "_law_can" 35) rfl
  obtain ⟨d_law_built, F_law_built⟩ := c.def_ 23 (d := dd "_law_built" 36) rfl
  obtain ⟨d_law_numbers, F_law_numbers⟩ := c.def_ 24 (d := dd "_law_numbers" 37) rfl
  obtain ⟨d_law_due, F_law_due⟩ := c.def_ 25 (d := dd "_law_due" 38) rfl
  obtain ⟨d_law_odd, F_law_odd⟩ := c.def_ 26 (d := dd "_law_odd" 39) rfl
  obtain ⟨d_law_doubled, F_law_doubled⟩ := c.def_ 27 (d := dd "_law_doubled" 40) rfl
  obtain ⟨d_law_numbers_changed, F_law_numbers_changed⟩ := c.def_ 28 (d := dd "_law_numbers_changed" 41) rfl
  obtain ⟨d_law_changed, F_law_changed⟩ := c.def_ 29 (d := dd "_law_changed" 42) rfl
  obtain ⟨d_law_copy, F_law_copy⟩ := c.def_ 30 (d := dd "_law_copy" 43) rfl
  obtain ⟨d_law, F_law⟩ := c.def_ 31 (d := dd "law" 44) rfl
  have g_is_whole := He.glo_ok X G (c.fact 0 (f := .glo "is_whole") rfl)
  have g_is_place := He.glo_ok X G (c.fact 1 (f := .glo "is_place") rfl)
  have g_is_ride := He.glo_ok X G (c.fact 2 (f := .glo "is_ride") rfl)
  have g_is_trip := He.glo_ok X G (c.fact 3 (f := .glo "is_trip") rfl)
  have g_looked := He.glo_ok X G (c.fact 4 (f := .glo "looked") rfl)
  have g_need_place := He.glo_ok X G (c.fact 5 (f := .glo "need_place") rfl)
  have g_roads := He.glo_ok X G (c.fact 6 (f := .glo "roads") rfl)
  have g_spread := He.glo_ok X G (c.fact 7 (f := .glo "spread") rfl)
  have g_comes := He.glo_ok X G (c.fact 8 (f := .glo "comes") rfl)
  have g_behind := He.glo_ok X G (c.fact 9 (f := .glo "behind") rfl)
  have g_free_one := He.glo_ok X G (c.fact 10 (f := .glo "free_one") rfl)
  have g_paired := He.glo_ok X G (c.fact 11 (f := .glo "paired") rfl)
  have g_apart_of := He.glo_ok X G (c.fact 12 (f := .glo "apart_of") rfl)
  have g_plan := He.glo_ok X G (c.fact 13 (f := .glo "plan") rfl)
  have g_holds := He.glo_ok X G (c.fact 14 (f := .glo "holds") rfl)
  have g_law_whole := He.glo_ok X G (c.fact 15 (f := .glo "_law_whole") rfl)
  have g_law_cell_at := He.glo_ok X G (c.fact 16 (f := .glo "_law_cell_at") rfl)
  have g_law_names := He.glo_ok X G (c.fact 17 (f := .glo "_law_names") rfl)
  have g_law_rides := He.glo_ok X G (c.fact 18 (f := .glo "_law_rides") rfl)
  have g_law_trips := He.glo_ok X G (c.fact 19 (f := .glo "_law_trips") rfl)
  have g_law_roads := He.glo_ok X G (c.fact 20 (f := .glo "_law_roads") rfl)
  have g_law_least := He.glo_ok X G (c.fact 21 (f := .glo "_law_least") rfl)
  have g_law_can := He.glo_ok X G (c.fact 22 (f := .glo "_law_can") rfl)
  have g_law_built := He.glo_ok X G (c.fact 23 (f := .glo "_law_built") rfl)
  have g_law_numbers := He.glo_ok X G (c.fact 24 (f := .glo "_law_numbers") rfl)
  have g_law_due := He.glo_ok X G (c.fact 25 (f := .glo "_law_due") rfl)
  have g_law_odd := He.glo_ok X G (c.fact 26 (f := .glo "_law_odd") rfl)
  have g_law_doubled := He.glo_ok X G (c.fact 27 (f := .glo "_law_doubled") rfl)
  have g_law_numbers_changed := He.glo_ok X G (c.fact 28 (f := .glo "_law_numbers_changed") rfl)
  have g_law_changed := He.glo_ok X G (c.fact 29 (f := .glo "_law_changed") rfl)
  have g_law_copy := He.glo_ok X G (c.fact 30 (f := .glo "_law_copy") rfl)
  have g_law := He.glo_ok X G (c.fact 31 (f := .glo "law") rfl)
  have f_len := He.free_ok X G (c.fact 32 (f := .free "len") rfl)
  have f_isinstance := He.free_ok X G (c.fact 33 (f := .free "isinstance") rfl)
  have f_int := He.free_ok X G (c.fact 34 (f := .free "int") rfl)
  have f_bool := He.free_ok X G (c.fact 35 (f := .free "bool") rfl)
  have f_str := He.free_ok X G (c.fact 36 (f := .free "str") rfl)
  have f_tuple := He.free_ok X G (c.fact 37 (f := .free "tuple") rfl)
  have f_list := He.free_ok X G (c.fact 38 (f := .free "list") rfl)
  have f_dict := He.free_ok X G (c.fact 39 (f := .free "dict") rfl)
  have f_range := He.free_ok X G (c.fact 40 (f := .free "range") rfl)
  have f_max := He.free_ok X G (c.fact 41 (f := .free "max") rfl)
  have f_min := He.free_ok X G (c.fact 42 (f := .free "min") rfl)
  have f_sorted := He.free_ok X G (c.fact 43 (f := .free "sorted") rfl)
  have c_LETTERS := He.str_ok X G (c.fact 44 (f := .str "LETTERS" "abcdefghijklmnopqrstuvwxyz") rfl)
  have c_MOST_RIDE := He.int_ok X G (c.fact 45 (f := .int "MOST_RIDE" 9999) rfl)
  have c_MOST_MINUTE := He.int_ok X G (c.fact 46 (f := .int "MOST_MINUTE" 99999) rfl)
  have e := hfa.symm.trans g_law
  cases e
  have B : Bi mg := ⟨f_len, f_isinstance, f_int, f_bool, f_str, f_tuple, f_list, f_dict, f_range, f_max, f_min, f_sorted⟩
  have b := FunD.bindsA (ps := ["_law_script"]) F_law fun _ _ _ _ _ _ us hl => match us, hl with | [_], _ => rfl
  refine ⟨d_law, fun s v => b s [v] rfl, fun base _ _ => ?_⟩
  have c_is_whole := cal_is_whole (P := P) (w := w) (base := base) F_is_whole g_is_whole B
  have c_is_place := cal_is_place (P := P) (w := w) (base := base) F_is_place g_is_place B c_LETTERS
  have c_is_ride := cal_is_ride (P := P) (w := w) (base := base) F_is_ride g_is_ride B c_MOST_RIDE c_is_place c_is_whole
  have c_is_trip := cal_is_trip (P := P) (w := w) (base := base) F_is_trip g_is_trip B c_MOST_MINUTE c_is_place c_is_whole
  have c_looked := cal_looked (P := P) (w := w) (base := base) F_looked g_looked c_is_ride c_is_trip
  have c_roads := cal_roads (P := P) (w := w) (base := base) F_roads g_roads B c_looked
  have c_cell := cal_law_cell_at (P := P) (w := w) (base := base) F_law_cell_at g_law_cell_at B
  have c_names := cal_law_names (P := P) (w := w) (base := base) F_law_names g_law_names B
  have c_rides := cal_law_rides (P := P) (w := w) (base := base) F_law_rides g_law_rides B c_cell
  have c_trips := cal_law_trips (P := P) (w := w) (base := base) F_law_trips g_law_trips B c_cell
  have c_lroads := cal_law_roads (P := P) (w := w) (base := base) F_law_roads g_law_roads B
  have c_built := cal_law_built (P := P) (w := w) (base := base) F_law_built g_law_built B c_cell c_names c_rides c_trips
  have c_need_place := cal_need_place (P := P) (w := w) (base := base) F_need_place g_need_place c_is_place
  have c_spread := cal_spread (P := P) (w := w) (base := base) F_spread g_spread c_roads c_need_place
  have c_comes := cal_comes (P := P) (w := w) (base := base) F_comes g_comes
  have c_behind := cal_behind (P := P) (w := w) (base := base) F_behind g_behind B c_looked c_spread c_comes
  have c_free_one := cal_free_one (P := P) (w := w) (base := base) F_free_one g_free_one B
  have c_paired := cal_paired (P := P) (w := w) (base := base) F_paired g_paired B c_free_one
  have c_apart_of := cal_apart_of (P := P) (w := w) (base := base) F_apart_of g_apart_of B
  have c_plan := cal_plan (P := P) (w := w) (base := base) F_plan g_plan B c_behind c_paired c_apart_of
  have c_least := cal_law_least (P := P) (w := w) (base := base) F_law_least g_law_least B
  have c_lcan := cal_law_can (P := P) (w := w) (base := base) F_law_can g_law_can c_least
  have c_whole := cal_law_whole (P := P) (w := w) (base := base) F_law_whole g_law_whole B
  have c_holds := cal_holds (P := P) (w := w) (base := base) F_holds g_holds B c_looked c_behind c_is_whole
  have c_odd := cal_law_odd (P := P) (w := w) (base := base) F_law_odd g_law_odd B
  have c_numbers := cal_law_numbers (P := P) (w := w) (base := base) F_law_numbers g_law_numbers B c_whole
  have c_due := cal_law_due (P := P) (w := w) (base := base) F_law_due g_law_due B c_numbers c_lcan
  have c_doubled := cal_law_doubled (P := P) (w := w) (base := base) F_law_doubled g_law_doubled B c_lcan
  have c_numbers_changed := cal_law_numbers_changed (P := P) (w := w) (base := base) F_law_numbers_changed g_law_numbers_changed B c_odd
  have c_changed := cal_law_changed (P := P) (w := w) (base := base) F_law_changed g_law_changed B c_odd c_doubled c_numbers_changed
  have c_copy := cal_law_copy (P := P) (w := w) (base := base) F_law_copy g_law_copy B
  exact cal_law F_law B c_built c_cell c_lroads c_plan c_changed c_odd c_due c_copy c_holds
end Fb
open PySem PySem.W PySem.Calls PyProof.Rows
set_option maxHeartbeats 0 in
theorem PySem.Challenge.cw_fewbuses_k09_holds_holds : PySem.Challenge.rw_fewbuses_k09_holds.Holds := by
  w_on; o_law
  refine HandSHeadRun.head_any (r := OpenLaw.row PySem.Challenge.rw_fewbuses_k09_holds) (q := view (OpenLaw.row PySem.Challenge.rw_fewbuses_k09_holds).prog [44]) (H := Fb.hk) (ob := Fb.ob) (M := 6000) (loose := Fb.loose) (d := HandSHeadRun.topDef (OpenLaw.row PySem.Challenge.rw_fewbuses_k09_holds).prog 44) (kwd := []) Fb.ob_eq
    (by kernel_rfl) (fun s => by kernel_rfl) Fb.run (by kernel_rfl) (by kernel_rfl) (by kernel_rfl) (by rfl) (by first | assumption | decide +kernel) (by decide +kernel) ⟨rfl, rfl, rfl, rfl, rfl, by decide +kernel⟩ ?hw ?hc
  case hw => w_witness2
  case hc =>
    refine L2.walk_ofE (l := PySem.Challenge.rw_fewbuses_k09_holds) (n := 63) (k := Fb.lawLevel) (x := "_law_script") (CX := L2.CX0) rfl (by decide) (by kernel_rfl) ⟨rfl, by decide, by decide⟩ ?F (fun _ _ _ _ z => z)
    intro w mg fa h Y G hmg0
    obtain ⟨K, KX, c⟩ := Y
    have hmg : mg ("law" : PySem.Str) = some (.ref fa) := by
      have e : (HandSHeadRun.topDef (OpenLaw.row PySem.Challenge.rw_fewbuses_k09_holds).prog 44).name = ("law" : PySem.Str) := by kernel_rfl
      rw [← e]
      exact hmg0
    obtain ⟨fd, hb, hF⟩ := Fb.facts (P := (PySem.Challenge.rw_fewbuses_k09_holds).prog) (w := w) KX G hmg c
    exact ⟨K, fd, Fb.spLaw K, KX, hb, fun H a ns hl _ hS => ⟨a, ns, rfl, hS, hl, fun _ => rfl⟩, hF⟩
#print axioms PySem.Challenge.cw_fewbuses_k09_holds_holds
