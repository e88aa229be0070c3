import PyProof.Rows.All
import Wide.All
import OpenK.AllK
import Wide.FinOn
import KE.KStateDown
import Lean
import HandS.ForMost
import HandS.WordsExc
import HandS.Defaults
import HandS.Codes
import KE.DataEq
import HandS.IsInst
import HandS.Conv
import HandS.Walk
import HandS.Style
import HandS.Deep
import HandS.Sort
import HandS.SortInts
import HandS.DictComp
import HandS.More
import HandS.Head0
import HandS.Head1
import HandS.Head2
import HandS.HeadEnd
import HandS.HeadHook1
import HandS.HeadHook2
import HandS.ExcIs
import HandS.HotCalls
import HandS.ExcCtx
import PySem.Challenge.RW_fewbuses_k06_refused
set_option Elab.async false
set_option linter.all false
set_option maxRecDepth 100000
set_option maxHeartbeats 4000000
/-! Roads, ways along them, the least minutes, and going over all roads again and again: plain Lean, no program. -/
namespace Fb
section
variable {α : Type}
/-- a way from x along the roads R: to where, in how many minutes -/
inductive Path (R : List (α × α × Int)) (x : α) : α → Int → Prop
  | nil : Path R x x 0
  | snoc {y z : α} {m w : Int} : Path R x y m → (y, z, w) ∈ R → Path R x z (m + w)
def PosR (R : List (α × α × Int)) : Prop := ∀ r ∈ R, 1 ≤ r.2.2
theorem Path.nonneg {R : List (α × α × Int)} {x y : α} {m : Int} (hp : PosR R) (p : Path R x y m) : 0 ≤ m := by
  induction p with
  | nil => exact Int.le_refl 0
  | snoc p h ih =>
    have := hp _ h
    simp only at this
    omega
def Least (R : List (α × α × Int)) (x y : α) (m : Int) : Prop := Path R x y m ∧ ∀ m', Path R x y m' → m ≤ m'
theorem least_of {R : List (α × α × Int)} {x y : α} (hp : PosR R) : ∀ (n : Nat) (m : Int), m.toNat = n → Path R x y m → ∃ m', Least R x y m' := by
  intro n
  induction n using Nat.strongRecOn with
  | _ n ih =>
    intro m hm p
    by_cases h : ∃ m', Path R x y m' ∧ m' < m
    · obtain ⟨m', p', l⟩ := h
      have h0 := p'.nonneg hp
      have h1 := p.nonneg hp
      exact ih m'.toNat (by omega) m' rfl p'
    · refine ⟨m, p, fun m' p' => ?_⟩
      exact Int.not_lt.mp fun z => h ⟨m', p', z⟩
theorem Path.least {R : List (α × α × Int)} {x y : α} {m : Int} (hp : PosR R) (p : Path R x y m) : ∃ m', Least R x y m' ∧ m' ≤ m := by
  obtain ⟨m', h⟩ := least_of hp _ m rfl p
  exact ⟨m', h, h.2 _ p⟩
theorem Least.one {R : List (α × α × Int)} {x y : α} {m m' : Int} (h : Least R x y m) (h' : Least R x y m') : m = m' := by
  have := h.2 _ h'.1
  have := h'.2 _ h.1
  omega
theorem Path.trans {R : List (α × α × Int)} {x y z : α} {m m' : Int} (p : Path R x y m) (q : Path R y z m') : Path R x z (m + m') := by
  induction q with
  | nil => rw [Int.add_zero]; exact p
  | snoc q h ih => rw [← Int.add_assoc]; exact ih.snoc h
open Classical in
/-- the least minutes from x to y -/
noncomputable def dist (R : List (α × α × Int)) (x y : α) : Option Int := if h : ∃ m, Least R x y m then some (choose h) else none
theorem dist_eq {R : List (α × α × Int)} {x y : α} {m : Int} : dist R x y = some m ↔ Least R x y m := by
  unfold dist
  by_cases h : ∃ m, Least R x y m
  · rw [dif_pos h]
    have hs := Classical.choose_spec h
    constructor
    · intro e
      rw [← Option.some.inj e]
      exact hs
    · intro l
      rw [hs.one l]
  · rw [dif_neg h]
    constructor
    · intro e
      cases e
    · intro l
      exact absurd ⟨m, l⟩ h
theorem dist_none {R : List (α × α × Int)} {x y : α} (hp : PosR R) : dist R x y = none ↔ ∀ m, ¬ Path R x y m := by
  constructor
  · intro e m p
    obtain ⟨m', l, _⟩ := p.least hp
    rw [dist_eq.mpr l] at e
    cases e
  · intro h
    cases e : dist R x y with
    | none => rfl
    | some m => exact absurd (dist_eq.mp e).1 (h m)
theorem dist_self {R : List (α × α × Int)} (hp : PosR R) (x : α) : dist R x x = some 0 := dist_eq.mpr ⟨.nil, fun _ p => p.nonneg hp⟩
theorem dist_nonneg {R : List (α × α × Int)} (hp : PosR R) {x y : α} {m : Int} (h : dist R x y = some m) : 0 ≤ m := (dist_eq.mp h).1.nonneg hp
theorem dist_path {R : List (α × α × Int)} (hp : PosR R) {x y : α} {m : Int} (p : Path R x y m) : ∃ m', dist R x y = some m' ∧ m' ≤ m := by
  obtain ⟨m', l, h⟩ := p.least hp
  exact ⟨m', dist_eq.mpr l, h⟩
theorem dist_road {R : List (α × α × Int)} (hp : PosR R) {x y z : α} {m w : Int} (h : dist R x y = some m) (hr : (y, z, w) ∈ R) : ∃ m', dist R x z = some m' ∧ m' ≤ m + w :=
  dist_path hp ((dist_eq.mp h).1.snoc hr)
theorem dist_tri {R : List (α × α × Int)} (hp : PosR R) {x y z : α} {m w : Int} (h : dist R x y = some m) (h2 : dist R y z = some w) : ∃ m', dist R x z = some m' ∧ m' ≤ m + w :=
  dist_path hp ((dist_eq.mp h).1.trans (dist_eq.mp h2).1)
/-- the last road of a quickest way -/
theorem dist_pred {R : List (α × α × Int)} (hp : PosR R) {x z : α} {m : Int} (h : dist R x z = some m) (hne : z ≠ x) : ∃ y w m', (y, z, w) ∈ R ∧ dist R x y = some m' ∧ m' + w = m := by
  obtain ⟨p, l⟩ := dist_eq.mp h
  cases p with
  | nil => exact absurd rfl hne
  | @snoc y _ m0 w p hr =>
    obtain ⟨m', hl, hle⟩ := p.least hp
    refine ⟨y, w, m', hr, dist_eq.mpr hl, ?_⟩
    have := l _ (hl.1.snoc hr)
    omega
/-- what tells ways alone and is undercut by no road is the least -/
theorem dist_only {R : List (α × α × Int)} (hp : PosR R) {x : α} {f : α → Option Int} (h0 : f x = some 0) (h1 : ∀ y m, f y = some m → Path R x y m)
    (h2 : ∀ r ∈ R, ∀ m, f r.1 = some m → ∃ m', f r.2.1 = some m' ∧ m' ≤ m + r.2.2) (y : α) : f y = dist R x y := by
  have key : ∀ y m, Path R x y m → ∃ m', f y = some m' ∧ m' ≤ m := by
    intro y m p
    induction p with
    | nil => exact ⟨0, h0, Int.le_refl 0⟩
    | @snoc y z m w p hr ih =>
      obtain ⟨m', e, l⟩ := ih
      obtain ⟨m2, e2, l2⟩ := h2 _ hr m' e
      refine ⟨m2, e2, ?_⟩
      simp only at l2
      omega
  cases e : f y with
  | none =>
    refine ((dist_none hp).mpr fun m p => ?_).symm
    obtain ⟨m', e', _⟩ := key y m p
    rw [e] at e'
    cases e'
  | some m =>
    refine (dist_eq.mpr ⟨h1 y m e, fun m' p => ?_⟩).symm
    obtain ⟨m2, e2, l⟩ := key y m' p
    rw [e] at e2
    cases e2
    exact l
end
/-! ### a table from places to minutes, as a list of pairs -/
section
variable {α β : Type} [DecidableEq α]
def look : List (α × β) → α → Option β
  | [], _ => none
  | p :: r, k => if p.1 = k then some p.2 else look r k
def put : List (α × β) → α → β → List (α × β)
  | [], k, v => [(k, v)]
  | p :: r, k, v => if p.1 = k then (p.1, v) :: r else p :: put r k v
theorem look_put : ∀ (l : List (α × β)) (k j : α) (v : β), look (put l k v) j = if j = k then some v else look l j
  | [], k, j, v => by
    by_cases e : k = j
    · subst e
      simp [put, look]
    · have e' : ¬ j = k := fun z => e z.symm
      simp [put, look, e, e']
  | p :: r, k, j, v => by
    by_cases e : p.1 = k
    · subst e
      by_cases e2 : p.1 = j
      · subst e2
        simp [put, look]
      · have e' : ¬ j = p.1 := fun z => e2 z.symm
        simp [put, look, e2, e']
    · by_cases e2 : p.1 = j
      · have e' : ¬ j = k := fun z => e (e2.trans z)
        subst e2
        simp [put, look, e]
      · simp [put, look, e, e2, look_put r k j v]
theorem look_mem : ∀ {l : List (α × β)} {k : α} {v : β}, look l k = some v → (k, v) ∈ l
  | [], k, v, h => by cases h
  | p :: r, k, v, h => by
    by_cases e : p.1 = k
    · simp [look, e] at h
      subst h
      subst e
      simp
    · simp [look, e] at h
      exact List.mem_cons_of_mem _ (look_mem h)
theorem look_none : ∀ {l : List (α × β)} {k : α}, look l k = none ↔ k ∉ l.map (·.1)
  | [], k => by simp [look]
  | p :: r, k => by
    by_cases e : p.1 = k
    · subst e
      simp [look]
    · have e' : ¬ k = p.1 := fun z => e z.symm
      simp only [look, e, if_false, List.map_cons, List.mem_cons, not_or, e', not_false_eq_true, true_and]
      exact look_none
theorem look_of_mem : ∀ {l : List (α × β)} {k : α} {v : β}, (l.map (·.1)).Nodup → (k, v) ∈ l → look l k = some v
  | [], k, v, _, h => by cases h
  | p :: r, k, v, hn, h => by
    simp only [List.map_cons, List.nodup_cons] at hn
    rcases List.mem_cons.mp h with e | e
    · subst e
      simp [look]
    · have : ¬ p.1 = k := fun z => hn.1 (by rw [z]; exact List.mem_map_of_mem (f := (·.1)) e)
      simp only [look, this, if_false]
      exact look_of_mem hn.2 e
theorem put_keys : ∀ (l : List (α × β)) (k : α) (v : β), (put l k v).map (·.1) = if k ∈ l.map (·.1) then l.map (·.1) else l.map (·.1) ++ [k]
  | [], k, v => by simp [put]
  | p :: r, k, v => by
    by_cases e : p.1 = k
    · subst e
      simp [put]
    · have e' : ¬ k = p.1 := fun z => e z.symm
      by_cases hm : k ∈ r.map (·.1)
      · have ih := put_keys r k v
        rw [if_pos hm] at ih
        simp only [put, e, if_false, List.map_cons, ih]
        rw [if_pos (List.mem_cons_of_mem _ hm)]
      · have ih := put_keys r k v
        rw [if_neg hm] at ih
        simp only [put, e, if_false, List.map_cons, ih]
        rw [if_neg (by simp only [List.mem_cons, not_or]; exact ⟨e', hm⟩)]
        rfl
theorem nodup_snoc {l : List α} {k : α} (h : l.Nodup) (hk : k ∉ l) : (l ++ [k]).Nodup := by
  rw [List.nodup_append]
  refine ⟨h, by simp, ?_⟩
  intro a ha b hb e
  simp at hb
  subst hb
  subst e
  exact hk ha
theorem put_nodup {l : List (α × β)} (h : (l.map (·.1)).Nodup) (k : α) (v : β) : ((put l k v).map (·.1)).Nodup := by
  rw [put_keys]
  by_cases hm : k ∈ l.map (·.1)
  · rw [if_pos hm]
    exact h
  · rw [if_neg hm]
    exact nodup_snoc h hm
theorem put_mem_keys {l : List (α × β)} {k j : α} {v : β} (h : j ∈ (put l k v).map (·.1)) : j ∈ l.map (·.1) ∨ j = k := by
  rw [put_keys] at h
  by_cases hm : k ∈ l.map (·.1)
  · rw [if_pos hm] at h
    exact .inl h
  · rw [if_neg hm] at h
    simpa using h
/-- a list without repeats whose items all stand in another one is no longer -/
theorem nodup_len : ∀ {l m : List α}, l.Nodup → (∀ a ∈ l, a ∈ m) → l.length ≤ m.length
  | [], m, _, _ => Nat.zero_le _
  | a :: l, m, hn, hs => by
    rw [List.nodup_cons] at hn
    have ha := hs a List.mem_cons_self
    have := nodup_len (l := l) (m := m.erase a) hn.2 fun b hb => by
      have hne : b ≠ a := fun e => hn.1 (e ▸ hb)
      exact (List.mem_erase_of_ne hne).mpr (hs b (List.mem_cons_of_mem _ hb))
    rw [List.length_erase_of_mem ha] at this
    have : 0 < m.length := List.length_pos_of_mem ha
    simp only [List.length_cons]
    omega
theorem len_of_look {l m : List (α × β)} (hl : (l.map (·.1)).Nodup) (hm : (m.map (·.1)).Nodup) (h : ∀ k, look l k = look m k) : l.length = m.length := by
  have key : ∀ {l m : List (α × β)}, (∀ k, look l k = look m k) → ∀ a ∈ l.map (·.1), a ∈ m.map (·.1) := by
    intro l m h a ha
    by_cases hm : a ∈ m.map (·.1)
    · exact hm
    · have e := look_none.mpr hm
      rw [← h] at e
      exact absurd ha (look_none.mp e)
  have h1 := nodup_len hl (key h)
  have h2 := nodup_len hm (key fun k => (h k).symm)
  simp only [List.length_map] at h1 h2
  omega
end
/-! ### going over a road, over all roads -/
section
variable {α : Type} [DecidableEq α]
/-- one road: where it leads is told with no more than it adds -/
def relax (l : List (α × Int)) (r : α × α × Int) : List (α × Int) :=
  match look l r.1 with
  | none => l
  | some m =>
    match look l r.2.1 with
    | none => put l r.2.1 (m + r.2.2)
    | some v => if m + r.2.2 < v then put l r.2.1 (m + r.2.2) else l
def pass (R : List (α × α × Int)) (l : List (α × Int)) : List (α × Int) := R.foldl relax l
theorem relax_none {l : List (α × Int)} {r : α × α × Int} (h : look l r.1 = none) : relax l r = l := by
  unfold relax; rw [h]
theorem relax_new {l : List (α × Int)} {r : α × α × Int} {m : Int} (h : look l r.1 = some m) (h2 : look l r.2.1 = none) : relax l r = put l r.2.1 (m + r.2.2) := by
  unfold relax; rw [h]; simp only []; rw [h2]
theorem relax_less {l : List (α × Int)} {r : α × α × Int} {m v : Int} (h : look l r.1 = some m) (h2 : look l r.2.1 = some v) (h3 : m + r.2.2 < v) : relax l r = put l r.2.1 (m + r.2.2) := by
  unfold relax; rw [h]; simp only []; rw [h2]; simp only []; rw [if_pos h3]
theorem relax_keep {l : List (α × Int)} {r : α × α × Int} {m v : Int} (h : look l r.1 = some m) (h2 : look l r.2.1 = some v) (h3 : ¬ m + r.2.2 < v) : relax l r = l := by
  unfold relax; rw [h]; simp only []; rw [h2]; simp only []; rw [if_neg h3]
/-- what is told is told by ways from x; x with 0; no place twice; each place is x or one that a road leads to -/
structure Told (R : List (α × α × Int)) (x : α) (l : List (α × Int)) : Prop where
  zero : look l x = some 0
  way : ∀ y m, look l y = some m → Path R x y m
  nd : (l.map (·.1)).Nodup
  keys : ∀ y ∈ l.map (·.1), y = x ∨ y ∈ R.map (·.2.1)
theorem Told.first (R : List (α × α × Int)) (x : α) : Told R x [(x, 0)] :=
  ⟨by simp [look], fun y m h => by
    by_cases e : x = y
    · subst e
      simp [look] at h
      subst h
      exact .nil
    · simp [look, e] at h, by simp, fun y hy => by simp at hy; exact .inl hy⟩
theorem Told.len {R : List (α × α × Int)} {x : α} {l : List (α × Int)} (t : Told R x l) : l.length ≤ R.length + 1 := by
  have := nodup_len (m := x :: R.map (·.2.1)) t.nd fun a ha => by
    rcases t.keys a ha with e | e
    · rw [e]; exact List.mem_cons_self
    · exact List.mem_cons_of_mem _ e
  simpa using this
/-- how two tables stand: what the first tells the second tells, with no more -/
def Leq (l m : List (α × Int)) : Prop := ∀ y a, look l y = some a → ∃ b, look m y = some b ∧ b ≤ a
theorem Leq.refl (l : List (α × Int)) : Leq l l := fun _ a h => ⟨a, h, Int.le_refl a⟩
theorem Leq.trans {l m n : List (α × Int)} (h : Leq l m) (h' : Leq m n) : Leq l n := fun y a e => by
  obtain ⟨b, e1, l1⟩ := h y a e
  obtain ⟨c, e2, l2⟩ := h' y b e1
  exact ⟨c, e2, Int.le_trans l2 l1⟩
theorem relax_put {R : List (α × α × Int)} (hp : PosR R) {x : α} {l : List (α × Int)} (t : Told R x l) {y z : α} {m w : Int} (hr : (y, z, w) ∈ R) (hm : look l y = some m)
    (hz : ∀ v, look l z = some v → m + w < v) : Told R x (put l z (m + w)) ∧ Leq l (put l z (m + w)) := by
  have h0 := (t.way _ _ hm).nonneg hp
  have h1 := hp _ hr
  simp only at h1
  have hzx : ¬ x = z := fun e => by
    subst e
    have := hz _ t.zero
    omega
  refine ⟨⟨?_, ?_, put_nodup t.nd _ _, ?_⟩, ?_⟩
  · rw [look_put, if_neg hzx]
    exact t.zero
  · intro y' m' h
    rw [look_put] at h
    by_cases e : y' = z
    · rw [if_pos e] at h
      cases h
      subst e
      exact (t.way _ _ hm).snoc hr
    · rw [if_neg e] at h
      exact t.way _ _ h
  · intro j hj
    rcases put_mem_keys hj with h | h
    · exact t.keys j h
    · subst h
      exact .inr (List.mem_map_of_mem (f := fun r : α × α × Int => r.2.1) hr)
  · intro j a h
    rw [look_put]
    by_cases e : j = z
    · rw [if_pos e]
      subst e
      exact ⟨_, rfl, Int.le_of_lt (hz _ h)⟩
    · rw [if_neg e]
      exact ⟨a, h, Int.le_refl a⟩
theorem relax_told {R : List (α × α × Int)} (hp : PosR R) {x : α} {l : List (α × Int)} (t : Told R x l) {r : α × α × Int} (hr : r ∈ R) : Told R x (relax l r) ∧ Leq l (relax l r) := by
  obtain ⟨y, z, w⟩ := r
  cases hy : look l y with
  | none => rw [relax_none (r := (y, z, w)) hy]; exact ⟨t, Leq.refl l⟩
  | some m =>
    cases hz : look l z with
    | none =>
      rw [relax_new (r := (y, z, w)) hy hz]
      exact relax_put hp t hr hy fun v h => by rw [hz] at h; cases h
    | some v =>
      by_cases c : m + w < v
      · rw [relax_less (r := (y, z, w)) hy hz c]
        exact relax_put hp t hr hy fun v' h => by rw [hz] at h; cases h; exact c
      · rw [relax_keep (r := (y, z, w)) hy hz c]
        exact ⟨t, Leq.refl l⟩
/-- behind a road, where it leads is told with no more than it adds -/
theorem relax_done {l : List (α × Int)} {y z : α} {m w : Int} (hy : look l y = some m) : ∃ v, look (relax l (y, z, w)) z = some v ∧ v ≤ m + w := by
  cases hz : look l z with
  | none =>
    rw [relax_new (r := (y, z, w)) hy hz, look_put, if_pos rfl]
    exact ⟨_, rfl, Int.le_refl _⟩
  | some v =>
    by_cases c : m + w < v
    · rw [relax_less (r := (y, z, w)) hy hz c, look_put, if_pos rfl]
      exact ⟨_, rfl, Int.le_refl _⟩
    · rw [relax_keep (r := (y, z, w)) hy hz c]
      exact ⟨v, hz, Int.not_lt.mp c⟩
/-- a road that changes nothing is met already -/
theorem relax_same {l : List (α × Int)} {r : α × α × Int} (h : relax l r = l) {m : Int} (hy : look l r.1 = some m) : ∃ v, look l r.2.1 = some v ∧ v ≤ m + r.2.2 := by
  have := relax_done (l := l) (y := r.1) (z := r.2.1) (w := r.2.2) hy
  rw [show (r.1, r.2.1, r.2.2) = r from rfl, h] at this
  exact this
theorem pass_told {R : List (α × α × Int)} (hp : PosR R) {x : α} : ∀ (S : List (α × α × Int)), (∀ r ∈ S, r ∈ R) → ∀ {l : List (α × Int)}, Told R x l → Told R x (pass S l) ∧ Leq l (pass S l)
  | [], _, l, t => ⟨t, Leq.refl l⟩
  | r :: S, hs, l, t => by
    have h1 := relax_told hp t (hs r List.mem_cons_self)
    have h2 := pass_told hp S (fun q hq => hs q (List.mem_cons_of_mem _ hq)) h1.1
    exact ⟨h2.1, h1.2.trans h2.2⟩
/-- nothing told undercuts the least -/
theorem Told.ge {R : List (α × α × Int)} {x y : α} {l : List (α × Int)} (t : Told R x l) {m d : Int} (h : look l y = some m) (hd : dist R x y = some d) : d ≤ m := (dist_eq.mp hd).2 _ (t.way _ _ h)
theorem Told.reach {R : List (α × α × Int)} (hp : PosR R) {x y : α} {l : List (α × Int)} (t : Told R x l) {m : Int} (h : look l y = some m) : ∃ d, dist R x y = some d ∧ d ≤ m := dist_path hp (t.way _ _ h)
/-- if no road changes anything, the table is the least -/
theorem Told.still {R : List (α × α × Int)} (hp : PosR R) {x : α} {l : List (α × Int)} (t : Told R x l) (h : ∀ r ∈ R, relax l r = l) (y : α) : look l y = dist R x y :=
  dist_only hp t.zero t.way (fun r hr _ hm => relax_same (h r hr) hm) y
/-- if the table is the least, no road changes anything -/
theorem Told.keeps {R : List (α × α × Int)} (hp : PosR R) {x : α} {l : List (α × Int)} (h : ∀ y, look l y = dist R x y) {r : α × α × Int} (hr : r ∈ R) : relax l r = l := by
  obtain ⟨y, z, w⟩ := r
  cases hy : look l y with
  | none => exact relax_none hy
  | some m =>
    obtain ⟨v, hv, hle⟩ := dist_road hp ((h y).symm.trans hy) hr
    exact relax_keep (r := (y, z, w)) hy ((h z).trans hv) (by simp only []; omega)
/-- how many roads lead to where it is nearer than d -/
def isLess (d : Int) : Option Int → Bool
  | some m => decide (m < d)
  | none => false
noncomputable def nearer (R : List (α × α × Int)) (x : α) (d : Int) : Nat := R.countP fun r => isLess d (dist R x r.2.1)
theorem countP_lt {β : Type} {p q : β → Bool} : ∀ {l : List β}, (∀ a ∈ l, p a = true → q a = true) → (∃ a ∈ l, q a = true ∧ p a = false) → l.countP p < l.countP q
  | [], _, h => by obtain ⟨a, ha, _⟩ := h; cases ha
  | a :: l, hs, h => by
    have hmono : l.countP p ≤ l.countP q := List.countP_mono_left fun b hb => hs b (List.mem_cons_of_mem _ hb)
    rw [List.countP_cons, List.countP_cons]
    by_cases hq : q a = true ∧ p a = false
    · rw [hq.1, hq.2]
      simp only [if_true, Bool.false_eq_true, if_false]
      omega
    · obtain ⟨b, hb, h1, h2⟩ := h
      rcases List.mem_cons.mp hb with e | e
      · subst e
        exact absurd ⟨h1, h2⟩ hq
      · have ih := countP_lt (l := l) (fun b hb => hs b (List.mem_cons_of_mem _ hb)) ⟨b, e, h1, h2⟩
        have : (if p a = true then 1 else 0) ≤ (if q a = true then 1 else 0) := by
          cases hpa : p a with
          | false => simp
          | true => rw [hs a List.mem_cons_self hpa]; simp
        omega
theorem nearer_lt {R : List (α × α × Int)} {x y : α} {m d : Int} (hy : dist R x y = some m) (hyx : y ∈ R.map (·.2.1)) (hlt : m < d) : nearer R x m < nearer R x d := by
  unfold nearer
  refine countP_lt (fun r _ h => ?_) ?_
  · cases e : dist R x r.2.1 with
    | none =>
      rw [e] at h
      cases h
    | some a =>
      rw [e] at h
      have h : a < m := of_decide_eq_true h
      exact decide_eq_true (Int.lt_trans h hlt)
  · obtain ⟨r, hr, e⟩ := List.mem_map.mp hyx
    refine ⟨r, hr, ?_, ?_⟩
    · rw [e, hy]
      exact decide_eq_true hlt
    · rw [e, hy]
      exact decide_eq_false (Int.lt_irrefl m)
theorem nearer_le {R : List (α × α × Int)} {x y : α} {d : Int} (hy : dist R x y = some d) (hyx : y ∈ R.map (·.2.1)) : nearer R x d < R.length := by
  unfold nearer
  have h1 : R.countP (fun _ : α × α × Int => true) = R.length := by simp
  rw [← h1]
  refine countP_lt (fun _ _ _ => rfl) ?_
  obtain ⟨r, hr, e⟩ := List.mem_map.mp hyx
  refine ⟨r, hr, rfl, ?_⟩
  rw [e, hy]
  exact decide_eq_false (Int.lt_irrefl d)
/-- the tables behind 0, 1, 2 .. times over all roads -/
def times (R : List (α × α × Int)) (x : α) : Nat → List (α × Int)
  | 0 => [(x, 0)]
  | k + 1 => pass R (times R x k)
theorem times_told {R : List (α × α × Int)} (hp : PosR R) (x : α) : ∀ k, Told R x (times R x k)
  | 0 => Told.first R x
  | k + 1 => (pass_told hp R (fun _ h => h) (times_told hp x k)).1
theorem times_near {R : List (α × α × Int)} (hp : PosR R) (x : α) : ∀ (k : Nat) (y : α) (d : Int), dist R x y = some d → y ≠ x → nearer R x d < k → look (times R x k) y = some d
  | 0, _, _, _, _, h => absurd h (Nat.not_lt_zero _)
  | k + 1, y, d, hd, hne, hk => by
    obtain ⟨z, w, m, hr, hz, e⟩ := dist_pred hp hd hne
    have hw := hp _ hr
    simp only at hw
    have t := times_told hp x k
    have ez : look (times R x k) z = some m := by
      by_cases c : z = x
      · subst c
        have : m = 0 := Option.some.inj (hz.symm.trans (dist_self hp z))
        rw [this]
        exact t.zero
      · refine times_near hp x k z m hz c ?_
        have hzk : z ∈ R.map (·.2.1) := by
          obtain ⟨y2, w2, m2, hr2, _, _⟩ := dist_pred hp hz c
          exact List.mem_map_of_mem (f := fun r : α × α × Int => r.2.1) hr2
        have := nearer_lt (d := d) hz hzk (by omega)
        omega
    show look (pass R (times R x k)) y = some d
    obtain ⟨pre, post, hR⟩ := List.append_of_mem hr
    have hpre : ∀ r ∈ pre, r ∈ R := fun r h => by rw [hR]; exact List.mem_append_left _ h
    have hpost : ∀ r ∈ post, r ∈ R := fun r h => by rw [hR]; exact List.mem_append_right _ (List.mem_cons_of_mem _ h)
    have t1 := pass_told hp pre hpre t
    obtain ⟨m1, e1, l1⟩ := t1.2 z m ez
    have g1 := t1.1.ge e1 hz
    have em : m1 = m := by omega
    subst em
    have t2 := relax_told hp t1.1 hr
    obtain ⟨v, ev, lv⟩ := relax_done (z := y) (w := w) e1
    have t3 := pass_told hp post hpost t2.1
    obtain ⟨v', ev', lv'⟩ := t3.2 y v ev
    have g3 := t3.1.ge ev' hd
    have : pass R (times R x k) = pass post (relax (pass pre (times R x k)) (z, y, w)) := by
      have h : ∀ l, pass R l = pass post (relax (pass pre l) (z, y, w)) := fun l => by
        rw [hR]
        unfold pass
        rw [List.foldl_append, List.foldl_cons]
      exact h _
    rw [this, ev']
    congr 1
    omega
/-- as many times as there are roads are enough -/
theorem times_all {R : List (α × α × Int)} (hp : PosR R) (x : α) {k : Nat} (hk : R.length ≤ k) (y : α) : look (times R x k) y = dist R x y := by
  have t := times_told hp x k
  by_cases e : y = x
  · subst e
    rw [t.zero, dist_self hp]
  · cases hd : dist R x y with
    | none =>
      cases hl : look (times R x k) y with
      | none => rfl
      | some m => exact absurd (t.way _ _ hl) ((dist_none hp).mp hd m)
    | some d =>
      have hyk : y ∈ R.map (·.2.1) := by
        obtain ⟨y2, w2, m2, hr2, _, _⟩ := dist_pred hp hd e
        exact List.mem_map_of_mem (f := fun r : α × α × Int => r.2.1) hr2
      have := nearer_le hd hyk
      exact times_near hp x k y d hd e (by omega)
end
end Fb
/-! As few rows as can be: a matching, its growth along a chain, what shows that it can't grow; plain Lean, no program. -/
namespace Fb
section
variable {A : Nat → Nat → Prop} {nx ah : Nat → Option Nat}
/-- f with v at k -/
def at' (f : Nat → Option Nat) (k v : Nat) : Nat → Option Nat := fun j => if j = k then some v else f j
theorem at_same {f : Nat → Option Nat} {k v : Nat} : at' f k v k = some v := if_pos rfl
theorem at_ne {f : Nat → Option Nat} {k v j : Nat} (h : j ≠ k) : at' f k v j = f j := if_neg h
theorem look_at (l : List (Nat × Nat)) (k v : Nat) : look (put l k v) = at' (look l) k v := funext fun j => look_put l k j v
/-- who is next, who is ahead: the same pairs, each one that can be done -/
structure Mat (A : Nat → Nat → Prop) (nx ah : Nat → Option Nat) : Prop where
  inv : ∀ i j, nx i = some j ↔ ah j = some i
  ok : ∀ i j, nx i = some j → A i j
/-- the same but for j, whose own row in ah is not right -/
structure Hole (A : Nat → Nat → Prop) (nx ah : Nat → Option Nat) (j : Nat) : Prop where
  inv : ∀ i k, nx i = some k ↔ (ah k = some i ∧ k ≠ j)
  ok : ∀ i k, nx i = some k → A i k
theorem Mat.hole (m : Mat A nx ah) {j : Nat} (h : ah j = none) : Hole A nx ah j :=
  ⟨fun i k => by
    rw [m.inv]
    constructor
    · intro e
      refine ⟨e, fun z => ?_⟩
      rw [z, h] at e
      cases e
    · exact fun e => e.1, m.ok⟩
theorem Hole.fill {j i : Nat} (h : Hole A nx ah j) (ha : A i j) (hn : nx i = none) : Mat A (at' nx i j) (at' ah j i) := by
  refine ⟨fun a b => ?_, fun a b e => ?_⟩
  · by_cases hb : b = j
    · subst hb
      rw [at_same]
      by_cases hai : a = i
      · subst hai
        simp [at_same]
      · rw [at_ne hai]
        constructor
        · intro e
          exact absurd rfl ((h.inv a b).mp e).2
        · intro e
          exact absurd (Option.some.inj e).symm hai
    · rw [at_ne hb]
      by_cases hai : a = i
      · subst hai
        rw [at_same]
        constructor
        · intro e
          exact absurd (Option.some.inj e).symm hb
        · intro e
          have := (h.inv a b).mpr ⟨e, hb⟩
          rw [hn] at this
          cases this
      · rw [at_ne hai, h.inv]
        exact ⟨fun e => e.1, fun e => ⟨e, hb⟩⟩
  · by_cases hai : a = i
    · subst hai
      rw [at_same] at e
      rw [← Option.some.inj e]
      exact ha
    · rw [at_ne hai] at e
      exact h.ok _ _ e
theorem Hole.move {j i j' : Nat} (h : Hole A nx ah j) (ha : A i j) (hn : nx i = some j') : Hole A (at' nx i j) (at' ah j i) j' := by
  have hj := ((h.inv _ _).mp hn).2
  have hj1 := ((h.inv _ _).mp hn).1
  refine ⟨fun a b => ?_, fun a b e => ?_⟩
  · by_cases hb : b = j
    · subst hb
      rw [at_same]
      by_cases hai : a = i
      · subst hai
        rw [at_same]
        exact ⟨fun _ => ⟨rfl, fun z => hj z.symm⟩, fun _ => rfl⟩
      · rw [at_ne hai]
        constructor
        · intro e
          exact absurd rfl ((h.inv a b).mp e).2
        · intro e
          exact absurd (Option.some.inj e.1).symm hai
    · rw [at_ne hb]
      by_cases hai : a = i
      · subst hai
        rw [at_same]
        constructor
        · intro e
          exact absurd (Option.some.inj e).symm hb
        · intro e
          have := (h.inv a b).mpr ⟨e.1, hb⟩
          rw [hn] at this
          exact absurd (Option.some.inj this).symm e.2
      · rw [at_ne hai, h.inv]
        constructor
        · intro e
          refine ⟨e.1, fun z => ?_⟩
          rw [z, hj1] at e
          exact hai (Option.some.inj e.1).symm
        · exact fun e => ⟨e.1, hb⟩
  · by_cases hai : a = i
    · subst hai
      rw [at_same] at e
      rw [← Option.some.inj e]
      exact ha
    · rw [at_ne hai] at e
      exact h.ok _ _ e
/-- from DL nothing leads but to DR, and each of DR has one of DL ahead -/
structure Closed (A : Nat → Nat → Prop) (ah : Nat → Option Nat) (DL DR : Nat → Prop) : Prop where
  out : ∀ i j, DL i → A i j → DR j
  back : ∀ j, DR j → ∃ i, ah j = some i ∧ DL i
theorem Closed.none (A : Nat → Nat → Prop) (ah : Nat → Option Nat) : Closed A ah (fun _ => False) (fun _ => False) := ⟨fun _ _ h _ => h.elim, fun _ h => h.elim⟩
theorem Closed.or {DL DR EL ER : Nat → Prop} (c : Closed A ah DL DR) (d : Closed A ah EL ER) : Closed A ah (fun i => DL i ∨ EL i) (fun i => DR i ∨ ER i) :=
  ⟨fun i j h a => h.elim (fun h => .inl (c.out i j h a)) (fun h => .inr (d.out i j h a)),
   fun j h => h.elim (fun h => by obtain ⟨i, e, k⟩ := c.back j h; exact ⟨i, e, .inl k⟩) (fun h => by obtain ⟨i, e, k⟩ := d.back j h; exact ⟨i, e, .inr k⟩)⟩
/-- what a search from first has met: of each one by whom it was come to; that one is first, or has an elder one behind it -/
structure Came (A : Nat → Nat → Prop) (ah : Nat → Option Nat) (first : Nat) (l : List (Nat × Nat)) : Prop where
  nd : (l.map (·.1)).Nodup
  pre : ∀ p k i q, l = p ++ (k, i) :: q → A i k ∧ (i = first ∨ ∃ k', k' ∈ p.map (·.1) ∧ ah k' = some i)
theorem Came.nil (A : Nat → Nat → Prop) (ah : Nat → Option Nat) (first : Nat) : Came A ah first [] := ⟨List.nodup_nil, fun p k i q e => by simp at e⟩
theorem put_new : ∀ {l : List (Nat × Nat)} {k v : Nat}, look l k = none → put l k v = l ++ [(k, v)]
  | [], _, _, _ => rfl
  | p :: r, k, v, h => by
    by_cases e : p.1 = k
    · simp [look, e] at h
    · simp only [look, e, if_false] at h
      simp only [put, e, if_false, List.cons_append]
      rw [put_new h]
theorem Came.add {first : Nat} {l : List (Nat × Nat)} (c : Came A ah first l) {k i : Nat} (hk : look l k = none) (ha : A i k) (hi : i = first ∨ ∃ k', k' ∈ l.map (·.1) ∧ ah k' = some i) : Came A ah first (put l k i) := by
  refine ⟨put_nodup c.nd k i, fun p k2 i2 q e => ?_⟩
  rw [put_new hk] at e
  rcases List.eq_nil_or_concat q with hq | ⟨q', x, hq⟩
  · subst hq
    have e2 : l ++ [(k, i)] = p ++ [(k2, i2)] := e
    obtain ⟨e3, e4⟩ := List.append_inj' e2 rfl
    cases e4
    subst e3
    exact ⟨ha, hi⟩
  · subst hq
    have e2 : l ++ [(k, i)] = (p ++ (k2, i2) :: q') ++ [x] := by rw [e]; simp
    obtain ⟨e3, _⟩ := List.append_inj' e2 rfl
    exact c.pre p k2 i2 q' e3
def ixOf : List Nat → Nat → Nat
  | [], _ => 0
  | a :: l, k => if a = k then 0 else ixOf l k + 1
def rank (l : List (Nat × Nat)) (k : Nat) : Nat := ixOf (l.map (·.1)) k
theorem ixOf_in : ∀ {p q : List Nat} {k : Nat}, k ∈ p → ixOf (p ++ q) k < p.length
  | [], _, _, h => by cases h
  | a :: p, q, k, h => by
    show ixOf (a :: (p ++ q)) k < p.length + 1
    by_cases e : a = k
    · simp [ixOf, e]
    · simp only [ixOf, e, if_false]
      have := ixOf_in (q := q) ((List.mem_cons.mp h).resolve_left fun z => e z.symm)
      omega
theorem ixOf_out : ∀ {p q : List Nat} {k : Nat}, k ∉ p → p.length ≤ ixOf (p ++ q) k
  | [], _, _, _ => Nat.zero_le _
  | a :: p, q, k, h => by
    show p.length + 1 ≤ ixOf (a :: (p ++ q)) k
    have e : ¬ a = k := fun z => h (by rw [z]; exact List.mem_cons_self)
    simp only [ixOf, e, if_false]
    have := ixOf_out (q := q) (k := k) fun z => h (List.mem_cons_of_mem _ z)
    omega
theorem idx_lt {p q : List Nat} {k k' : Nat} (hn : (p ++ k :: q).Nodup) (h : k' ∈ p) : ixOf (p ++ k :: q) k' < ixOf (p ++ k :: q) k := by
  have hk : k ∉ p := fun z => by
    rw [List.nodup_append] at hn
    exact hn.2.2 k z k List.mem_cons_self rfl
  exact Nat.lt_of_lt_of_le (ixOf_in h) (ixOf_out hk)
theorem Came.come {first : Nat} {l : List (Nat × Nat)} (c : Came A ah first l) {k i : Nat} (h : look l k = some i) : A i k ∧ (i = first ∨ ∃ k', (∃ i', look l k' = some i') ∧ ah k' = some i ∧ rank l k' < rank l k) := by
  obtain ⟨p, q, e⟩ := List.append_of_mem (look_mem h)
  obtain ⟨ha, hi⟩ := c.pre p k i q e
  refine ⟨ha, hi.imp id fun ⟨k', hk', h2⟩ => ⟨k', ?_, h2, ?_⟩⟩
  · cases e2 : look l k' with
    | none =>
      have := look_none.mp e2
      rw [e, List.map_append] at this
      exact absurd (List.mem_append_left _ hk') this
    | some i' => exact ⟨i', rfl⟩
  · have hn := c.nd
    rw [e, List.map_append, List.map_cons] at hn
    unfold rank
    rw [e, List.map_append, List.map_cons]
    exact idx_lt hn hk'
theorem Came.lt {first n : Nat} {l : List (Nat × Nat)} (c : Came A ah first l) (hA : ∀ i j, A i j → j < n) : l.length ≤ n := by
  have := nodup_len (m := List.range n) c.nd fun k hk => by
    obtain ⟨⟨k2, i⟩, hm, e⟩ := List.mem_map.mp hk
    have e : k2 = k := e
    subst e
    obtain ⟨p, q, e⟩ := List.append_of_mem hm
    exact List.mem_range.mpr (hA _ _ (c.pre p _ _ q e).1)
  simpa using this
/-- a search under way: first, and whoever is ahead of one met, waits or is gone through -/
structure Seek (A : Nat → Nat → Prop) (ah : Nat → Option Nat) (first : Nat) (l : List (Nat × Nat)) (waiting : List Nat) : Prop where
  came : Came A ah first l
  full : ∀ k i, look l k = some i → ∃ i', ah k = some i'
  wait : ∀ i ∈ waiting, i = first ∨ ∃ k, k ∈ l.map (·.1) ∧ ah k = some i
  done : ∀ i, (i = first ∨ ∃ k, k ∈ l.map (·.1) ∧ ah k = some i) → i ∈ waiting ∨ ∀ j, A i j → j ∈ l.map (·.1)
theorem Seek.first (A : Nat → Nat → Prop) (ah : Nat → Option Nat) (first : Nat) : Seek A ah first [] [first] :=
  ⟨Came.nil A ah first, (fun k i h => nomatch h), fun i h => .inl (List.mem_singleton.mp h), fun i h => .inl (by
    rcases h with h | ⟨k, hk, _⟩
    · exact List.mem_singleton.mpr h
    · cases hk)⟩
/-- all is gone through and no free one met -/
theorem Seek.end {first : Nat} {l : List (Nat × Nat)} (s : Seek A ah first l []) : ∃ DL DR, Closed A ah DL DR ∧ DL first := by
  refine ⟨fun i => i = first ∨ ∃ k, k ∈ l.map (·.1) ∧ ah k = some i, fun j => j ∈ l.map (·.1), ⟨fun i j h a => ?_, fun j h => ?_⟩, .inl rfl⟩
  · rcases s.done i h with h | h
    · cases h
    · exact h j a
  · have : ∃ i, look l j = some i := by
      cases e : look l j with
      | none => exact absurd h (look_none.mp e)
      | some i => exact ⟨i, rfl⟩
    obtain ⟨i, e⟩ := this
    obtain ⟨i', e'⟩ := s.full j i e
    exact ⟨i', e', .inr ⟨j, h, e'⟩⟩
/-- one turn's state: one is taken out, the first of its followers are met -/
structure Turn (A : Nat → Nat → Prop) (ah : Nat → Option Nat) (first one : Nat) (l : List (Nat × Nat)) (waiting seen : List Nat) : Prop where
  came : Came A ah first l
  full : ∀ k i, look l k = some i → ∃ i', ah k = some i'
  mine : one = first ∨ ∃ k, k ∈ l.map (·.1) ∧ ah k = some one
  wait : ∀ i ∈ waiting, i = first ∨ ∃ k, k ∈ l.map (·.1) ∧ ah k = some i
  done : ∀ i, (i = first ∨ ∃ k, k ∈ l.map (·.1) ∧ ah k = some i) → i = one ∨ i ∈ waiting ∨ ∀ j, A i j → j ∈ l.map (·.1)
  seen : ∀ j ∈ seen, j ∈ l.map (·.1)
theorem Seek.turn {first one : Nat} {l : List (Nat × Nat)} {waiting : List Nat} (s : Seek A ah first l (waiting ++ [one])) : Turn A ah first one l waiting [] :=
  ⟨s.came, s.full, s.wait one (List.mem_append_right _ List.mem_cons_self), fun i h => s.wait i (List.mem_append_left _ h), fun i h => by
    rcases s.done i h with h | h
    · rcases List.mem_append.mp h with h | h
      · exact .inr (.inl h)
      · exact .inl (List.mem_singleton.mp h)
    · exact .inr (.inr h), fun j h => by cases h⟩
theorem Turn.end {first one : Nat} {l : List (Nat × Nat)} {waiting seen : List Nat} (t : Turn A ah first one l waiting seen) (h : ∀ j, A one j → j ∈ seen) : Seek A ah first l waiting :=
  ⟨t.came, t.full, t.wait, fun i hi => by
    rcases t.done i hi with e | e | e
    · exact .inr fun j a => t.seen j (h j (e ▸ a))
    · exact .inl e
    · exact .inr e⟩
theorem Turn.old {first one j : Nat} {l : List (Nat × Nat)} {waiting seen : List Nat} (t : Turn A ah first one l waiting seen) (h : j ∈ l.map (·.1)) : Turn A ah first one l waiting (seen ++ [j]) :=
  ⟨t.came, t.full, t.mine, t.wait, t.done, fun k hk => by
    rcases List.mem_append.mp hk with e | e
    · exact t.seen k e
    · rw [List.mem_singleton.mp e]; exact h⟩
theorem keys_put {l : List (Nat × Nat)} {k v : Nat} (h : look l k = none) : (put l k v).map (·.1) = l.map (·.1) ++ [k] := by
  rw [put_new h, List.map_append]; rfl
theorem Turn.met {first one j : Nat} {l : List (Nat × Nat)} {waiting seen : List Nat} (t : Turn A ah first one l waiting seen) (ha : A one j) (h : look l j = none) : Came A ah first (put l j one) := t.came.add h ha t.mine
theorem Turn.new {first one j i : Nat} {l : List (Nat × Nat)} {waiting seen : List Nat} (t : Turn A ah first one l waiting seen) (ha : A one j) (h : look l j = none) (hi : ah j = some i) :
    Turn A ah first one (put l j one) (waiting ++ [i]) (seen ++ [j]) := by
  have hk := keys_put (v := one) h
  have sub : ∀ k, k ∈ l.map (·.1) → k ∈ (put l j one).map (·.1) := fun k z => by rw [hk]; exact List.mem_append_left _ z
  have new : j ∈ (put l j one).map (·.1) := by rw [hk]; exact List.mem_append_right _ List.mem_cons_self
  refine ⟨t.met ha h, fun k v e => ?_, ?_, fun x hx => ?_, fun x hx => ?_, fun x hx => ?_⟩
  · rw [look_put] at e
    by_cases c : k = j
    · subst c
      exact ⟨i, hi⟩
    · rw [if_neg c] at e
      exact t.full k v e
  · exact t.mine.imp id fun ⟨k, z, e⟩ => ⟨k, sub k z, e⟩
  · rcases List.mem_append.mp hx with z | z
    · exact (t.wait x z).imp id fun ⟨k, z, e⟩ => ⟨k, sub k z, e⟩
    · rw [List.mem_singleton.mp z]
      exact .inr ⟨j, new, hi⟩
  · by_cases old : x = first ∨ ∃ k, k ∈ l.map (·.1) ∧ ah k = some x
    · rcases t.done x old with z | z | z
      · exact .inl z
      · exact .inr (.inl (List.mem_append_left _ z))
      · exact .inr (.inr fun y a => sub y (z y a))
    · rcases hx with z | ⟨k, z, e⟩
      · exact absurd (.inl z) old
      · rw [hk] at z
        rcases List.mem_append.mp z with z | z
        · exact absurd (.inr ⟨k, z, e⟩) old
        · rw [List.mem_singleton.mp z, hi] at e
          rw [← Option.some.inj e]
          exact .inr (.inl (List.mem_append_right _ List.mem_cons_self))
  · rcases List.mem_append.mp hx with z | z
    · exact sub x (t.seen x z)
    · rw [List.mem_singleton.mp z]
      exact new
/-- the pairs are turned over along a chain: other is the one to be filled next. nx0, ah0: how the pairs stood ahead of it -/
structure Flip (A : Nat → Nat → Prop) (nx0 ah0 nx ah : Nat → Option Nat) (DR : Nat → Prop) (first : Nat) (l : List (Nat × Nat)) (other : Nat) : Prop where
  hole : Hole A nx ah other
  there : ∃ i, look l other = some i
  free : nx first = none
  old : ∀ k, rank l k < rank l other → ah k = ah0 k
  off : ¬ DR other
  dr : ∀ k, DR k → ah k = ah0 k
  dom : ∀ i, nx i = none → nx0 i = none
  dom2 : ∀ i, nx0 i = none → nx i = none
theorem Flip.start {first other : Nat} {l : List (Nat × Nat)} {DL DR : Nat → Prop} (m : Mat A nx ah) (c : Closed A ah DL DR) (hf : nx first = none) (ho : ah other = none) (hl : ∃ i, look l other = some i) : Flip A nx ah nx ah DR first l other :=
  ⟨m.hole ho, hl, hf, fun _ _ => rfl, (fun h => by
    obtain ⟨i, e, _⟩ := c.back other h
    rw [ho] at e
    cases e), fun _ _ => rfl, fun _ h => h, fun _ h => h⟩
/-- the chain's end: the pairs are right again, first has one, what was closed is -/
theorem Flip.end {nx0 ah0 : Nat → Option Nat} {DL DR : Nat → Prop} {first other one : Nat} {l : List (Nat × Nat)} (f : Flip A nx0 ah0 nx ah DR first l other) (c : Closed A ah0 DL DR) (k : Came A ah0 first l) (ho : look l other = some one) (hn : nx one = none) :
    Mat A (at' nx one other) (at' ah other one) ∧ Closed A (at' ah other one) DL DR ∧ at' nx one other first ≠ none ∧ (∀ i, at' nx one other i = none → nx0 i = none) ∧ ∀ i, i ≠ first → nx0 i = none → at' nx one other i = none := by
  have hc := k.come ho
  have h1 : one = first := by
    rcases hc.2 with e | ⟨k', _, e, lt⟩
    · exact e
    · rw [← f.old k' lt] at e
      have := (f.hole.inv one k').mpr ⟨e, fun z => by rw [z] at lt; omega⟩
      rw [hn] at this
      cases this
  subst h1
  refine ⟨f.hole.fill hc.1 hn, ⟨c.out, fun j h => ?_⟩, by rw [at_same]; exact (fun z => nomatch z), fun i h => ?_, fun i hi h => by rw [at_ne hi]; exact f.dom2 i h⟩
  · rw [at_ne (fun z : j = other => f.off (z ▸ h)), f.dr j h]
    exact c.back j h
  · by_cases e : i = one
    · rw [e, at_same] at h
      cases h
    · rw [at_ne e] at h
      exact f.dom i h
theorem Flip.next {nx0 ah0 : Nat → Option Nat} {DL DR : Nat → Prop} {first other one left : Nat} {l : List (Nat × Nat)} (f : Flip A nx0 ah0 nx ah DR first l other) (c : Closed A ah0 DL DR) (k : Came A ah0 first l) (ho : look l other = some one) (hn : nx one = some left) :
    Flip A nx0 ah0 (at' nx one other) (at' ah other one) DR first l left ∧ rank l left < rank l other := by
  have hc := k.come ho
  have hone : one ≠ first := fun z => by
    rw [z, f.free] at hn
    cases hn
  obtain ⟨k', hk', e, lt⟩ : ∃ k', (∃ i', look l k' = some i') ∧ ah0 k' = some one ∧ rank l k' < rank l other := by
    rcases hc.2 with e | e
    · exact absurd e hone
    · exact e
  have e0 := e
  rw [← f.old k' lt] at e
  have hne : k' ≠ other := fun z => by rw [z] at lt; omega
  have h2 := (f.hole.inv one k').mpr ⟨e, hne⟩
  rw [hn] at h2
  have h3 : left = k' := Option.some.inj h2
  subst h3
  refine ⟨⟨f.hole.move hc.1 hn, hk', ?_, fun k2 lt2 => ?_, fun hd => ?_, fun k2 hd => ?_, fun i h => ?_, fun i h => ?_⟩, lt⟩
  · rw [at_ne fun z => hone z.symm]
    exact f.free
  · rw [at_ne fun z => by rw [z] at lt2; omega]
    exact f.old k2 (Nat.lt_trans lt2 lt)
  · obtain ⟨i, e2, hd2⟩ := c.back left hd
    rw [e0] at e2
    cases e2
    exact f.off (c.out _ _ hd2 hc.1)
  · rw [at_ne (fun z : k2 = other => f.off (z ▸ hd))]
    exact f.dr k2 hd
  · by_cases e : i = one
    · rw [e, at_same] at h
      cases h
    · rw [at_ne e] at h
      exact f.dom i h
  · rw [at_ne fun z : i = one => by
      have := f.dom2 i h
      rw [z, hn] at this
      cases this]
    exact f.dom2 i h
end
end Fb
/-! Rows and trips apart: as many of these as of those; plain Lean, no program. -/
namespace Fb
theorem perm_of_mem {α : Type} [DecidableEq α] : ∀ {l m : List α}, l.Nodup → m.Nodup → (∀ a, a ∈ l ↔ a ∈ m) → l.Perm m
  | [], m, _, _, h => by
    cases m with
    | nil => exact .nil
    | cons a m => exact absurd ((h a).mpr List.mem_cons_self) (fun z => nomatch z)
  | a :: l, m, hl, hm, h => by
    rw [List.nodup_cons] at hl
    have ha : a ∈ m := (h a).mp List.mem_cons_self
    have p := List.perm_cons_erase ha
    refine (List.Perm.cons a (perm_of_mem hl.2 (hm.erase a) fun b => ?_)).trans p.symm
    by_cases e : b = a
    · subst e
      constructor
      · exact fun z => absurd z hl.1
      · exact fun z => absurd z (List.Nodup.not_mem_erase hm)
    · rw [List.mem_erase_of_ne e, ← h b]
      simp [e]
section
variable {A : Nat → Nat → Prop} {nx ah : Nat → Option Nat} {n : Nat}
/-- a row: from its first, each next one the one that nx tells, to one without -/
structure Row (nx : Nat → Option Nat) (first : Nat) (row : List Nat) : Prop where
  head : row[0]? = some first
  step : ∀ i u v, row[i]? = some u → row[i + 1]? = some v → nx u = some v
/-- .. and it is at its end -/
def Full (nx : Nat → Option Nat) (row : List Nat) : Prop := ∀ i u, row[i]? = some u → row[i + 1]? = none → nx u = none
theorem Row.start (nx : Nat → Option Nat) (first : Nat) : Row nx first [first] := ⟨rfl, fun i u v _ h => by simp at h⟩
theorem Row.add {first last v : Nat} {row : List Nat} (r : Row nx first (row ++ [last])) (h : nx last = some v) : Row nx first ((row ++ [last]) ++ [v]) := by
  refine ⟨by rw [List.getElem?_append_left (by simp)]; exact r.head, fun i u w h1 h2 => ?_⟩
  by_cases hi : i + 1 < (row ++ [last]).length
  · rw [List.getElem?_append_left (by omega)] at h1
    rw [List.getElem?_append_left hi] at h2
    exact r.step i u w h1 h2
  · have hlt := (List.getElem?_eq_some_iff.mp h2).1
    simp only [List.length_append, List.length_cons, List.length_nil] at hlt hi
    have hi2 : i = row.length := by omega
    subst hi2
    rw [List.getElem?_append_left (by simp), List.getElem?_append_right (Nat.le_refl _), Nat.sub_self] at h1
    rw [List.getElem?_append_right (by simp)] at h2
    simp at h2
    have e1 : last = u := Option.some.inj h1
    rw [← e1, ← h2]
    exact h
theorem Row.full {first last : Nat} {row : List Nat} (h : nx last = none) : Full nx (row ++ [last]) := fun i u h1 h2 => by
  have hl := (List.getElem?_eq_some_iff.mp h1).1
  have hn : (row ++ [last]).length ≤ i + 1 := List.getElem?_eq_none_iff.mp h2
  simp only [List.length_append, List.length_cons, List.length_nil] at hl hn
  have hi : i = row.length := by omega
  subst hi
  rw [List.getElem?_append_right (Nat.le_refl _), Nat.sub_self] at h1
  rw [← Option.some.inj h1]
  exact h
theorem pair_add {row : List Nat} {last v : Nat} (tr : ∀ i j k, A i j → A j k → A i k) (h : (row ++ [last]).Pairwise A) (ha : A last v) : ((row ++ [last]) ++ [v]).Pairwise A := by
  rw [List.pairwise_append]
  refine ⟨h, List.pairwise_singleton _ _, fun a ha' b hb => ?_⟩
  rw [List.mem_singleton.mp hb]
  rw [List.pairwise_append] at h
  rcases List.mem_append.mp ha' with z | z
  · exact tr _ _ _ (h.2.2 a z last List.mem_cons_self) ha
  · rw [List.mem_singleton.mp z]
    exact ha
theorem pair_nodup {row : List Nat} (irr : ∀ i, ¬ A i i) (h : row.Pairwise A) : row.Nodup := by
  unfold List.Nodup
  refine List.Pairwise.imp ?_ h
  intro a b hab e
  rw [← e] at hab
  exact irr a hab
/-- the rows of a matching: one for each that has none ahead -/
structure Rows1 (A : Nat → Nat → Prop) (nx ah : Nat → Option Nat) (t : Nat) (rows : List (List Nat)) : Prop where
  row : ∀ r ∈ rows, ∃ f, f < t ∧ ah f = none ∧ Row nx f r ∧ Full nx r ∧ r.Pairwise A
  all : ∀ f, f < t → ah f = none → ∃ r ∈ rows, r[0]? = some f
  heads : (rows.map fun r => r.headD 0).Pairwise (· < ·)
theorem head_of {r : List Nat} {f : Nat} (h : r[0]? = some f) : r.headD 0 = f := by
  cases r with
  | nil => cases h
  | cons a r => exact Option.some.inj h
theorem Rows1.nil : Rows1 A nx ah 0 [] := ⟨(fun _ h => nomatch h), fun _ h => absurd h (Nat.not_lt_zero _), List.Pairwise.nil⟩
theorem Rows1.skip {t : Nat} {rows : List (List Nat)} (h : Rows1 A nx ah t rows) {i : Nat} (hi : ah t = some i) : Rows1 A nx ah (t + 1) rows :=
  ⟨fun r hr => by
    obtain ⟨f, hf, x⟩ := h.row r hr
    exact ⟨f, by omega, x⟩, fun f hf ha => by
    by_cases e : f = t
    · rw [e, hi] at ha
      cases ha
    · exact h.all f (by omega) ha, h.heads⟩
theorem Rows1.add {t : Nat} {rows : List (List Nat)} (h : Rows1 A nx ah t rows) {r : List Nat} (ht : ah t = none) (hr : Row nx t r) (hf : Full nx r) (hp : r.Pairwise A) : Rows1 A nx ah (t + 1) (rows ++ [r]) := by
  refine ⟨fun r' hr' => ?_, fun f hf' ha => ?_, ?_⟩
  · rcases List.mem_append.mp hr' with z | z
    · obtain ⟨f, hf, x⟩ := h.row r' z
      exact ⟨f, by omega, x⟩
    · rw [List.mem_singleton.mp z]
      exact ⟨t, by omega, ht, hr, hf, hp⟩
  · by_cases e : f = t
    · exact ⟨r, List.mem_append_right _ List.mem_cons_self, by rw [e]; exact hr.head⟩
    · obtain ⟨r', h1, h2⟩ := h.all f (by omega) ha
      exact ⟨r', List.mem_append_left _ h1, h2⟩
  · rw [List.map_append, List.pairwise_append]
    refine ⟨h.heads, List.pairwise_singleton _ _, fun a ha b hb => ?_⟩
    obtain ⟨r', hr', rfl⟩ := List.mem_map.mp ha
    have hb : b = r.headD 0 := List.mem_singleton.mp hb
    obtain ⟨f, hf, _, hrow, _⟩ := h.row r' hr'
    rw [hb, head_of hr.head, head_of hrow.head]
    exact hf
/-- rows as few as can be, trips apart that show it -/
structure PlanOk (A : Nat → Nat → Prop) (n : Nat) (rows : List (List Nat)) (apart : List Nat) : Prop where
  ne : ∀ r ∈ rows, r ≠ []
  chain : ∀ r ∈ rows, r.Pairwise A
  perm : rows.flatten.Perm (List.range n)
  heads : (rows.map fun r => r.headD 0).Pairwise (· < ·)
  up : apart.Pairwise (· < ·)
  lt : ∀ i ∈ apart, i < n
  anti : ∀ i ∈ apart, ∀ j ∈ apart, ¬ A i j
  len : apart.length = rows.length
  pairs : ∃ nx ah, Mat A nx ah ∧ ((List.range n).filter fun x => (nx x).isNone).length = rows.length
theorem Rows1.apart {rows : List (List Nat)} (h : Rows1 A nx ah n rows) (m : Mat A nx ah) {u : Nat} : ∀ (i j : Nat) (r r' : List Nat), r ∈ rows → r' ∈ rows → r[i]? = some u → r'[j]? = some u → r.headD 0 = r'.headD 0 ∧ i = j := by
  intro i
  induction i generalizing u with
  | zero =>
    intro j r r' hr hr' h1 h2
    obtain ⟨f, _, hf, row, _⟩ := h.row r hr
    obtain ⟨f', _, hf', row', _⟩ := h.row r' hr'
    have e1 : f = u := Option.some.inj (row.head.symm.trans h1)
    cases j with
    | zero =>
      have e2 : f' = u := Option.some.inj (row'.head.symm.trans h2)
      rw [head_of row.head, head_of row'.head, e1, e2]
      exact ⟨rfl, rfl⟩
    | succ j =>
      have hj : j < r'.length := by have := (List.getElem?_eq_some_iff.mp h2).1; omega
      have := (m.inv _ _).mp (row'.step j r'[j] u (List.getElem?_eq_getElem hj) h2)
      rw [← e1, hf] at this
      cases this
  | succ i ih =>
    intro j r r' hr hr' h1 h2
    obtain ⟨f, _, hf, row, _⟩ := h.row r hr
    obtain ⟨f', _, hf', row', _⟩ := h.row r' hr'
    have hi : i < r.length := by have := (List.getElem?_eq_some_iff.mp h1).1; omega
    have a1 := (m.inv _ _).mp (row.step i r[i] u (List.getElem?_eq_getElem hi) h1)
    cases j with
    | zero =>
      have e2 : f' = u := Option.some.inj (row'.head.symm.trans h2)
      rw [← e2, hf'] at a1
      cases a1
    | succ j =>
      have hj : j < r'.length := by have := (List.getElem?_eq_some_iff.mp h2).1; omega
      have a2 := (m.inv _ _).mp (row'.step j r'[j] u (List.getElem?_eq_getElem hj) h2)
      rw [a1] at a2
      have e : r[i] = r'[j] := Option.some.inj a2
      have := ih j r r' hr hr' (List.getElem?_eq_getElem hi) (by rw [List.getElem?_eq_getElem hj, e])
      exact ⟨this.1, by omega⟩
theorem nodup_flat : ∀ {rows : List (List Nat)}, (∀ r ∈ rows, r.Nodup) → rows.Pairwise (fun r r' => ∀ a ∈ r, a ∉ r') → rows.flatten.Nodup
  | [], _, _ => List.nodup_nil
  | r :: rows, h1, h2 => by
    rw [List.pairwise_cons] at h2
    rw [List.flatten_cons, List.nodup_append]
    refine ⟨h1 r List.mem_cons_self, nodup_flat (fun r' h => h1 r' (List.mem_cons_of_mem _ h)) h2.2, fun a ha b hb e => ?_⟩
    obtain ⟨r', hr', hb'⟩ := List.mem_flatten.mp hb
    exact h2.1 r' hr' a ha (e ▸ hb')
theorem Rows1.perm {rows : List (List Nat)} (h : Rows1 A nx ah n rows) (m : Mat A nx ah) (irr : ∀ i, ¬ A i i) (hA : ∀ i j, A i j → i < n ∧ j < n) {key : Nat → Nat} (hk : ∀ i j, A i j → key i < key j) : rows.flatten.Perm (List.range n) := by
  have nd : rows.flatten.Nodup := by
    refine nodup_flat (fun r hr => ?_) ?_
    · obtain ⟨f, _, _, _, _, hp⟩ := h.row r hr
      exact pair_nodup irr hp
    · have hh := h.heads
      rw [List.pairwise_map] at hh
      refine List.Pairwise.imp_of_mem (R := fun r r' : List Nat => r.headD 0 < r'.headD 0) ?_ hh
      intro r r' hr hr' hlt a ha ha'
      obtain ⟨i, hi, e⟩ := List.mem_iff_getElem.mp ha
      obtain ⟨j, hj, e'⟩ := List.mem_iff_getElem.mp ha'
      have := (h.apart m i j r r' hr hr' (u := a) (by rw [List.getElem?_eq_getElem hi, e]) (by rw [List.getElem?_eq_getElem hj, e'])).1
      omega
  refine perm_of_mem nd List.nodup_range fun v => ?_
  rw [List.mem_range]
  constructor
  · intro hv
    obtain ⟨r, hr, hv⟩ := List.mem_flatten.mp hv
    obtain ⟨f, hf, _, row, _⟩ := h.row r hr
    obtain ⟨i, hi, e⟩ := List.mem_iff_getElem.mp hv
    cases i with
    | zero =>
      have := row.head
      rw [List.getElem?_eq_getElem hi, e] at this
      rw [Option.some.inj this]
      exact hf
    | succ i =>
      have := m.ok _ _ (row.step i r[i] v (List.getElem?_eq_getElem (by omega)) (by rw [List.getElem?_eq_getElem hi, e]))
      exact (hA _ _ this).2
  · have key' : ∀ (k v : Nat), key v = k → v < n → v ∈ rows.flatten := by
      intro k
      induction k using Nat.strongRecOn with
      | _ k ih =>
        intro v hkv hv
        cases e : ah v with
        | none =>
          obtain ⟨r, hr, h0⟩ := h.all v hv e
          exact List.mem_flatten.mpr ⟨r, hr, List.mem_of_getElem? h0⟩
        | some u =>
          have hn := (m.inv u v).mpr e
          have ha := m.ok u v hn
          obtain ⟨r, hr, hu⟩ := List.mem_flatten.mp (ih (key u) (by have := hk _ _ ha; omega) u rfl (hA _ _ ha).1)
          obtain ⟨f, _, _, row, full, _⟩ := h.row r hr
          obtain ⟨i, hi, e'⟩ := List.mem_iff_getElem.mp hu
          have hgi : r[i]? = some u := by rw [List.getElem?_eq_getElem hi, e']
          cases hg : r[i + 1]? with
          | none =>
            rw [full i u hgi hg] at hn
            cases hn
          | some v' =>
            have := row.step i u v' hgi hg
            rw [hn] at this
            have e2 : v = v' := Option.some.inj this
            rw [e2]
            exact List.mem_flatten.mpr ⟨r, hr, List.mem_of_getElem? hg⟩
    exact fun hv => key' _ v rfl hv
/-- what the last search tells -/
structure Reach (A : Nat → Nat → Prop) (nx ah : Nat → Option Nat) (n : Nat) (pL pR : Nat → Bool) : Prop where
  base : ∀ i, i < n → nx i = none → pL i = true
  out : ∀ i j, pL i = true → A i j → pR j = true
  back : ∀ j, pR j = true → ∃ i, ah j = some i ∧ pL i = true
theorem Reach.some {pL pR : Nat → Bool} (s : Reach A nx ah n pL pR) (m : Mat A nx ah) {f : Nat} {r : List Nat} (hf : ah f = none) (row : Row nx f r) : ∀ (t u : Nat), r[t]? = some u → pL u = true → ∃ v ∈ r, pL v = true ∧ pR v = false
  | 0, u, h, hu => by
    have e : f = u := Option.some.inj (row.head.symm.trans h)
    refine ⟨u, List.mem_of_getElem? h, hu, ?_⟩
    cases c : pR u with
    | false => rfl
    | true =>
      obtain ⟨i, hi, _⟩ := s.back u c
      rw [← e, hf] at hi
      cases hi
  | t + 1, u, h, hu => by
    cases c : pR u with
    | false => exact ⟨u, List.mem_of_getElem? h, hu, c⟩
    | true =>
      obtain ⟨i, hi, hl⟩ := s.back u c
      have ht : t < r.length := by have := (List.getElem?_eq_some_iff.mp h).1; omega
      have := (m.inv _ _).mp (row.step t r[t] u (List.getElem?_eq_getElem ht) h)
      rw [hi] at this
      have e : i = r[t] := Option.some.inj this
      rw [e] at hl
      exact s.some m hf row t r[t] (List.getElem?_eq_getElem ht) hl
theorem len_one {r : List Nat} {p : Nat → Bool} (hp : r.Pairwise A) (h1 : ∃ v ∈ r, p v = true) (h2 : ∀ a b, p a = true → p b = true → ¬ A a b) : (r.filter p).length = 1 := by
  have hs : (r.filter p).Pairwise A := hp.sublist List.filter_sublist
  have hm : ∀ a ∈ r.filter p, p a = true := fun a ha => (List.mem_filter.mp ha).2
  obtain ⟨v, hv, hpv⟩ := h1
  have hv2 : v ∈ r.filter p := List.mem_filter.mpr ⟨hv, hpv⟩
  cases e : r.filter p with
  | nil =>
    rw [e] at hv2
    cases hv2
  | cons a l =>
    cases l with
    | nil => rfl
    | cons b l =>
      rw [e] at hs hm
      rw [List.pairwise_cons] at hs
      exact absurd (hs.1 b List.mem_cons_self) (h2 a b (hm a List.mem_cons_self) (hm b (List.mem_cons_of_mem _ List.mem_cons_self)))
theorem sum_ones : ∀ {rows : List (List Nat)} {p : Nat → Bool}, (∀ r ∈ rows, (r.filter p).length = 1) → (rows.flatten.filter p).length = rows.length
  | [], _, _ => rfl
  | r :: rows, p, h => by
    rw [List.flatten_cons, List.filter_append, List.length_append, h r List.mem_cons_self, sum_ones fun r' hr' => h r' (List.mem_cons_of_mem _ hr'), List.length_cons, Nat.add_comm]
theorem len_last {first : Nat} {r : List Nat} (row : Row nx first r) (full : Full nx r) : (r.filter fun x => (nx x).isNone).length = 1 := by
  rcases List.eq_nil_or_concat r with rfl | ⟨l, x, rfl⟩
  · have := row.head
    cases this
  · rw [List.concat_eq_append] at row full ⊢
    have hx : nx x = none := full l.length x (by simp) (by simp)
    have hl : l.filter (fun x => (nx x).isNone) = [] := List.filter_eq_nil_iff.mpr fun a ha => by
      obtain ⟨i, hi, e⟩ := List.mem_iff_getElem.mp ha
      have h1 : (l ++ [x])[i]? = some a := by rw [List.getElem?_append_left hi, List.getElem?_eq_getElem hi, e]
      have h2 : i + 1 < (l ++ [x]).length := by
        rw [List.length_append]
        show i + 1 < l.length + 1
        omega
      have := row.step i a _ h1 (List.getElem?_eq_getElem h2)
      rw [this]
      exact Bool.false_ne_true
    rw [List.filter_append, hl, List.filter_cons_of_pos (by rw [hx]; rfl)]
    rfl
theorem plan_ok {rows : List (List Nat)} {pL pR : Nat → Bool} (h : Rows1 A nx ah n rows) (m : Mat A nx ah) (s : Reach A nx ah n pL pR) (irr : ∀ i, ¬ A i i) (hA : ∀ i j, A i j → i < n ∧ j < n) {key : Nat → Nat} (hk : ∀ i j, A i j → key i < key j) :
    PlanOk A n rows ((List.range n).filter fun i => pL i && !pR i) := by
  have anti : ∀ a b, (pL a && !pR a) = true → (pL b && !pR b) = true → ¬ A a b := fun a b ha hb hab => by
    rw [Bool.and_eq_true] at ha hb
    have := s.out a b ha.1 hab
    rw [this] at hb
    cases hb.2
  have pm := h.perm m irr hA hk
  refine ⟨fun r hr e => ?_, fun r hr => ?_, pm, h.heads, ?_, fun i hi => ?_, fun i hi j hj => ?_, ?_, ⟨nx, ah, m, ?_⟩⟩
  · obtain ⟨f, _, _, row, _⟩ := h.row r hr
    have := row.head
    rw [e] at this
    cases this
  · obtain ⟨f, _, _, _, _, hp⟩ := h.row r hr
    exact hp
  · exact List.pairwise_lt_range.sublist List.filter_sublist
  · exact List.mem_range.mp (List.mem_filter.mp hi).1
  · exact anti i j (List.mem_filter.mp hi).2 (List.mem_filter.mp hj).2
  · rw [← (pm.filter fun i => pL i && !pR i).length_eq]
    refine sum_ones fun r hr => ?_
    obtain ⟨f, hf, haf, row, full, hp⟩ := h.row r hr
    refine len_one hp ?_ anti
    have hr0 : 0 < r.length := (List.getElem?_eq_some_iff.mp row.head).1
    have hlast : r[r.length - 1]? = some r[r.length - 1] := List.getElem?_eq_getElem (by omega)
    have hnone : nx r[r.length - 1] = none := full (r.length - 1) _ hlast (List.getElem?_eq_none_iff.mpr (by omega))
    have hlt : r[r.length - 1] < n := List.mem_range.mp (pm.mem_iff.mp (List.mem_flatten.mpr ⟨r, hr, List.getElem_mem _⟩))
    obtain ⟨v, hv, h1, h2⟩ := s.some m haf row _ _ hlast (s.base _ hlt hnone)
    exact ⟨v, hv, by rw [h1, h2]; rfl⟩
  · rw [← (pm.filter fun x => (nx x).isNone).length_eq]
    refine sum_ones fun r hr => ?_
    obtain ⟨f, _, _, row, full, _⟩ := h.row r hr
    exact len_last row full
end
end Fb
/-! What the walk shares: places, rides, trips; how they lie in the heap. -/
namespace Fb
open PySem PySem.Spec PyProof.Rows L2
abbrev Fn (K : PySem.W.Frag) (x : Str) (st : Stmt) (f : Addr) (fd : FuncData) : Prop := FunD K x x (defArgs st) (defBody st) (defScope st) [] [] f fd
/-- the built-ins' names are no names of the module's own -/
structure Bi (mg : Str → Option Value) : Prop where
  len : mg "len" = none
  isi : mg "isinstance" = none
  int : mg "int" = none
  bool : mg "bool" = none
  str : mg "str" = none
  tuple : mg "tuple" = none
  list : mg "list" = none
  dict : mg "dict" = none
  range : mg "range" = none
  max : mg "max" = none
  min : mg "min" = none
  sorted : mg "sorted" = none
section
variable {P : Program} {w : World} {K : PySem.W.Frag} {mg : Str → Option Value} {base : Heap}
/-- a def of the text that lets nothing out, as one that may be called -/
theorem cal_of {x : Str} {st : Stmt} {f : Addr} {fd : FuncData} {N ps : List Str} {k : Nat} {sp : Sp} (F : Fn K x st f fd) (g : mg x = some (.ref f)) (S : FnScope N ps (defScope st)) (b : Binds K fd ps []) (len : ∀ vs H Q E, sp vs H Q E → vs.length = ps.length)
    (hbody : ∀ (cdv : Value) (A : Around) (outer : List Env) (s : Shared) (H : Hp) (vs : List V) (Q : VK) (E : XK), Room k (A.deeper (envOfC x (defScope st) s.heap.objs.size f cdv)) → sp vs H Q E →
      ∃ t, PSs (cxOf CX0 P w K mg base N x (defScope st) f cdv A outer s H E).nox (defBody st) t ∧ t { nx := fun _ H' => Q .non H', rt := Q } (start N vs) H) : C8.Cal P w K mg base (k + 1) x sp [] :=
  ⟨f, fd, ps, [], F.ok S len fun cdv A outer s H vs Q E hr hsp => by
    obtain ⟨t, h, q⟩ := hbody cdv A outer s H vs Q E hr hsp
    exact ⟨t, h.nox, q⟩, g, F.kp, b, .nil⟩
theorem _root_.C8.Cal.mono {j k : Nat} {x : Str} {sp : Sp} {dvs : List V} (c : C8.Cal P w K mg base j x sp dvs) (h : j ≤ k) : C8.Cal P w K mg base k x sp dvs := by
  obtain ⟨f, fd, ps, ds, F, r⟩ := c.ex
  exact ⟨f, fd, ps, ds, F.mono h, r⟩
end
/-! ### the heap -/
theorem same_upd {H : Hp} {p : Addr} {o : HO} (h : H p = none) : Same H (upd H p o) := fun b x e => by
  rw [upd_ne (ne_of_none e h)]
  exact e
/-- what was tracked ahead of a new object stands when that object is changed -/
theorem same_put {H0 H : Hp} {p : Addr} {o : HO} (s : Same H0 H) (h : H0 p = none) : Same H0 (upd H p o) := fun b x e => by
  rw [upd_ne (ne_of_none e h)]
  exact s b x e
theorem same_seqT {K : PySem.W.Frag} {H H' : Hp} {a : Addr} {xs : List V} (e : Same H H') (h : SqT K H a xs) : SqT K H' a xs := by
  rcases h with (h | ⟨o, h⟩) | h
  · exact .inl (.inl (e _ _ h))
  · exact .inl (.inr ⟨o, e _ _ h⟩)
  · exact .inr h
theorem sqT_of {K : PySem.W.Frag} {H : Hp} {a : Addr} {xs : List V} (h : H a = some (.tup xs)) : SqT K H a xs := .inl (.inl h)
theorem sqL_of {K : PySem.W.Frag} {H : Hp} {a : Addr} {xs : List V} (h : H a = some (.lst xs)) : SqL K H a xs := .inl (.inl h)
theorem ty_tup {K : PySem.W.Frag} {H : Hp} {a : Addr} {xs : List V} (h : SqT K H a xs) : TyX K H (.ref a) (.type "tuple") := by
  rcases h with (h | ⟨o, h⟩) | ⟨o, its, n, h, c, _⟩
  · exact .base (.tup h)
  · exact .fTuple h
  · exact .kTuple h c
theorem ty_lst {K : PySem.W.Frag} {H : Hp} {a : Addr} {xs : List V} (h : SqL K H a xs) : TyX K H (.ref a) (.type "list") := by
  rcases h with (h | ⟨o, h⟩) | ⟨o, its, n, h, c, _⟩
  · exact .base (.lst h)
  · exact .base (.frz h)
  · exact .kList h c
theorem seqT_put {K : PySem.W.Frag} {H : Hp} {p q : Addr} {o u : HO} {ys : List V} (hp : H p = some o) (h1 : ∀ zs, o ≠ .tup zs) (h2 : ∀ ob zs, o ≠ .frz ob zs) (h : SqT K H q ys) : SqT K (upd H p u) q ys := by
  rcases h with (h | ⟨ob, h⟩) | h
  · have n : q ≠ p := fun e => by
      rw [e, hp] at h
      exact h1 ys (Option.some.inj h)
    exact .inl (.inl (by rw [upd_ne n]; exact h))
  · have n : q ≠ p := fun e => by
      rw [e, hp] at h
      exact h2 ob _ (Option.some.inj h)
    exact .inl (.inr ⟨ob, by rw [upd_ne n]; exact h⟩)
  · exact .inr h
theorem seqT_putL {K : PySem.W.Frag} {H : Hp} {p q : Addr} {xs ys : List V} {u : HO} (hp : H p = some (.lst xs)) (h : SqT K H q ys) : SqT K (upd H p u) q ys := seqT_put hp (fun _ e => nomatch e) (fun _ _ e => nomatch e) h
theorem seqT_putD {K : PySem.W.Frag} {H : Hp} {p q : Addr} {kvs : List (Key × V)} {ys : List V} {u : HO} (hp : H p = some (.dK kvs)) (h : SqT K H q ys) : SqT K (upd H p u) q ys := seqT_put hp (fun _ e => nomatch e) (fun _ _ e => nomatch e) h
/-- things of one form lie at these addresses, as tuples -/
def Tups {β : Type} (K : PySem.W.Frag) (H : Hp) (f : β → List V) (qs : List Addr) (xs : List β) : Prop := qs.length = xs.length ∧ ∀ (i : Nat) (q : Addr) (x : β), qs[i]? = some q → xs[i]? = some x → SqT K H q (f x)
section
variable {β : Type} {K : PySem.W.Frag} {H H' : Hp} {f : β → List V} {qs : List Addr} {xs : List β}
theorem Tups.same (t : Tups K H f qs xs) (s : Same H H') : Tups K H' f qs xs := ⟨t.1, fun i q x h1 h2 => same_seqT s (t.2 i q x h1 h2)⟩
theorem Tups.putL (t : Tups K H f qs xs) {p : Addr} {zs : List V} {u : HO} (hp : H p = some (.lst zs)) : Tups K (upd H p u) f qs xs := ⟨t.1, fun i q x h1 h2 => seqT_putL hp (t.2 i q x h1 h2)⟩
theorem Tups.putD (t : Tups K H f qs xs) {p : Addr} {kvs : List (Key × V)} {u : HO} (hp : H p = some (.dK kvs)) : Tups K (upd H p u) f qs xs := ⟨t.1, fun i q x h1 h2 => seqT_putD hp (t.2 i q x h1 h2)⟩
theorem Tups.nil : Tups K H f [] [] := ⟨rfl, fun i q x h _ => by simp at h⟩
theorem Tups.add (t : Tups K H f qs xs) {q : Addr} {x : β} (h : SqT K H q (f x)) : Tups K H f (qs ++ [q]) (xs ++ [x]) := by
  refine ⟨by rw [List.length_append, List.length_append, t.1]; rfl, fun i q' x' h1 h2 => ?_⟩
  by_cases hi : i < qs.length
  · rw [List.getElem?_append_left hi] at h1
    rw [List.getElem?_append_left (t.1 ▸ hi)] at h2
    exact t.2 i q' x' h1 h2
  · rw [List.getElem?_append_right (Nat.le_of_not_lt hi)] at h1
    rw [List.getElem?_append_right (t.1 ▸ Nat.le_of_not_lt hi), ← t.1] at h2
    cases e : i - qs.length with
    | zero =>
      rw [e] at h1 h2
      cases h1
      cases h2
      exact h
    | succ n =>
      rw [e] at h1
      simp at h1
theorem Tups.append {rs : List Addr} {ys : List β} (t : Tups K H f qs xs) (u : Tups K H f rs ys) : Tups K H f (qs ++ rs) (xs ++ ys) := by
  refine ⟨by rw [List.length_append, List.length_append, t.1, u.1], fun i q' x' h1 h2 => ?_⟩
  by_cases hi : i < qs.length
  · rw [List.getElem?_append_left hi] at h1
    rw [List.getElem?_append_left (t.1 ▸ hi)] at h2
    exact t.2 i q' x' h1 h2
  · rw [List.getElem?_append_right (Nat.le_of_not_lt hi)] at h1
    rw [List.getElem?_append_right (t.1 ▸ Nat.le_of_not_lt hi), ← t.1] at h2
    exact u.2 _ q' x' h1 h2
theorem Tups.take (t : Tups K H f qs xs) (n : Nat) : Tups K H f (qs.take n) (xs.take n) := by
  refine ⟨by rw [List.length_take, List.length_take, t.1], fun i q' x' h1 h2 => ?_⟩
  rw [List.getElem?_take] at h1 h2
  by_cases hi : i < n
  · rw [if_pos hi] at h1 h2
    exact t.2 i q' x' h1 h2
  · rw [if_neg hi] at h1
    cases h1
/-- the i-th: its address and what it is -/
theorem Tups.at (t : Tups K H f qs xs) {i : Nat} {v : V} (h : (qs.map V.ref)[i]? = some v) : ∃ q x, v = .ref q ∧ xs[i]? = some x ∧ SqT K H q (f x) := by
  rw [List.getElem?_map] at h
  cases e : qs[i]? with
  | none =>
    rw [e] at h
    cases h
  | some q =>
    rw [e] at h
    have hi : i < xs.length := by
      rw [← t.1]
      exact (List.getElem?_eq_some_iff.mp e).1
    exact ⟨q, xs[i], (Option.some.inj h).symm, List.getElem?_eq_getElem hi, t.2 i q _ e (List.getElem?_eq_getElem hi)⟩
theorem Tups.rev (t : Tups K H f qs xs) : Tups K H f qs.reverse xs.reverse := by
  refine ⟨by rw [List.length_reverse, List.length_reverse, t.1], fun i q x h1 h2 => ?_⟩
  have hi : i < qs.length := by
    have := (List.getElem?_eq_some_iff.mp h1).1
    rw [List.length_reverse] at this
    exact this
  rw [List.getElem?_reverse hi] at h1
  rw [List.getElem?_reverse (t.1 ▸ hi), ← t.1] at h2
  exact t.2 _ q x h1 h2
theorem Tups.addr (t : Tups K H f qs xs) {i : Nat} {x : β} (h : xs[i]? = some x) : ∃ q, qs[i]? = some q ∧ SqT K H q (f x) := by
  have hi : i < qs.length := by
    rw [t.1]
    exact (List.getElem?_eq_some_iff.mp h).1
  exact ⟨qs[i], List.getElem?_eq_getElem hi, t.2 i _ x (List.getElem?_eq_getElem hi) h⟩
end
/-- a list of things of one form -/
def Rows {β : Type} (K : PySem.W.Frag) (H : Hp) (f : β → List V) (a : Addr) (xs : List β) : Prop := ∃ qs, SqL K H a (qs.map V.ref) ∧ Tups K H f qs xs
theorem Rows.same {β : Type} {K : PySem.W.Frag} {H H' : Hp} {f : β → List V} {a : Addr} {xs : List β} (r : Rows K H f a xs) (s : Same H H') : Rows K H' f a xs := by
  obtain ⟨qs, h, t⟩ := r
  exact ⟨qs, s.seq h, t.same s⟩
/-! ### places, rides, trips -/
abbrev Ride : Type := Str × Str × Int
abbrev Trip : Type := Str × Int × Str × Int
def letters : Str := "abcdefghijklmnopqrstuvwxyz"
def okPlace (z : Str) : Prop := 1 ≤ z.length ∧ z.length ≤ 12 ∧ ∀ c ∈ z.cps.toList, c ∈ letters.cps.toList
def okRide (r : Ride) : Prop := okPlace r.1 ∧ okPlace r.2.1 ∧ r.1 ≠ r.2.1 ∧ 1 ≤ r.2.2 ∧ r.2.2 ≤ 9999
def okTrip (t : Trip) : Prop := okPlace t.1 ∧ okPlace t.2.2.1 ∧ 0 ≤ t.2.1 ∧ t.2.1 < t.2.2.2 ∧ t.2.2.2 ≤ 99999
def rideV (r : Ride) : List V := [.str r.1, .str r.2.1, .int r.2.2]
def tripV (t : Trip) : List V := [.str t.1, .int t.2.1, .str t.2.2.1, .int t.2.2.2]
/-- the road of a trip that ends elsewhere -/
def roadOf (t : Trip) : List Ride := if t.1 = t.2.2.1 then [] else [(t.1, t.2.2.1, t.2.2.2 - t.2.1)]
def roadsM (rides : List Ride) (trips : List Trip) : List Ride := rides ++ trips.flatMap roadOf
/-- the lists that a def takes: rides at a, trips at b -/
structure Told2 (K : PySem.W.Frag) (H : Hp) (a b : Addr) (rides : List Ride) (trips : List Trip) : Prop where
  lR : Rows K H rideV a rides
  lT : Rows K H tripV b trips
  okR : ∀ r ∈ rides, okRide r
  okT : ∀ t ∈ trips, okTrip t
  lenR : rides.length ≤ 100
  lenT : trips.length ≤ 100
theorem Told2.same {K : PySem.W.Frag} {H H' : Hp} {a b : Addr} {rides : List Ride} {trips : List Trip} (t : Told2 K H a b rides trips) (s : Same H H') : Told2 K H' a b rides trips := ⟨t.lR.same s, t.lT.same s, t.okR, t.okT, t.lenR, t.lenT⟩
theorem posR {rides : List Ride} {trips : List Trip} (h1 : ∀ r ∈ rides, okRide r) (h2 : ∀ t ∈ trips, okTrip t) : PosR (roadsM rides trips) := fun r hr => by
  rcases List.mem_append.mp hr with h | h
  · exact (h1 r h).2.2.2.1
  · obtain ⟨t, ht, hm⟩ := List.mem_flatMap.mp h
    unfold roadOf at hm
    by_cases c : t.1 = t.2.2.1
    · rw [if_pos c] at hm
      cases hm
    · rw [if_neg c] at hm
      rw [List.mem_singleton.mp hm]
      have := (h2 t ht).2.2.2.1
      show 1 ≤ t.2.2.2 - t.2.1
      omega
/-- len of a list or a tuple, what it asks -/
def rLenS (K : PySem.W.Frag) : List V → Hp → VK → Prop := fun xs H Q => ∃ p ys, xs = [.ref p] ∧ (SqL K H p ys ∨ SqT K H p ys) ∧ Q (.int ys.length) H
/-! ### tests that are known -/
theorem if_t {c : Bool} {A B : Prop} (hc : c = true) (h : A) : if c = true then A else B := by
  rw [if_pos hc]
  exact h
theorem if_f {c : Bool} {A B : Prop} (hc : c = false) (h : B) : if c = true then A else B := by
  rw [hc, if_neg Bool.false_ne_true]
  exact h
end Fb
namespace Fb
open PySem PySem.Spec PyProof.Rows L2
def top (i : Nat) : Stmt := PySem.Challenge.pw_fewbuses_k06_refused.main.body.getD i (.Pass ⟨0, 0, 0, 0⟩)
abbrev s_is_whole : Stmt := top 11
theorem sc_is_whole : FnScope ["thing", "least", "most"] ["thing", "least", "most"] (defScope s_is_whole) := ⟨rfl, rfl, rfl, by decide +kernel, rfl, by decide +kernel, by decide +kernel⟩
theorem bi_is_whole {K : PySem.W.Frag} {f : Addr} {fd : FuncData} (F : Fn K "is_whole" s_is_whole f fd) : Binds K fd ["thing", "least", "most"] [] := F.bindsN fun _ _ _ _ _ _ us hl => match us, hl with | [_, _, _], _ => rfl
abbrev s_is_place : Stmt := top 12
theorem sc_is_place : FnScope ["thing", "sign"] ["thing"] (defScope s_is_place) := ⟨rfl, rfl, rfl, by decide +kernel, rfl, by decide +kernel, by decide +kernel⟩
theorem bi_is_place {K : PySem.W.Frag} {f : Addr} {fd : FuncData} (F : Fn K "is_place" s_is_place f fd) : Binds K fd ["thing"] [] := F.bindsN fun _ _ _ _ _ _ us hl => match us, hl with | [_], _ => rfl
abbrev s_is_ride : Stmt := top 13
theorem sc_is_ride : FnScope ["thing"] ["thing"] (defScope s_is_ride) := ⟨rfl, rfl, rfl, by decide +kernel, rfl, by decide +kernel, by decide +kernel⟩
theorem bi_is_ride {K : PySem.W.Frag} {f : Addr} {fd : FuncData} (F : Fn K "is_ride" s_is_ride f fd) : Binds K fd ["thing"] [] := F.bindsN fun _ _ _ _ _ _ us hl => match us, hl with | [_], _ => rfl
abbrev s_is_trip : Stmt := top 14
theorem sc_is_trip : FnScope ["thing"] ["thing"] (defScope s_is_trip) := ⟨rfl, rfl, rfl, by decide +kernel, rfl, by decide +kernel, by decide +kernel⟩
theorem bi_is_trip {K : PySem.W.Frag} {f : Addr} {fd : FuncData} (F : Fn K "is_trip" s_is_trip f fd) : Binds K fd ["thing"] [] := F.bindsN fun _ _ _ _ _ _ us hl => match us, hl with | [_], _ => rfl
abbrev s_looked : Stmt := top 15
theorem sc_looked : FnScope ["rides", "trips", "ride", "trip"] ["rides", "trips"] (defScope s_looked) := ⟨rfl, rfl, rfl, by decide +kernel, rfl, by decide +kernel, by decide +kernel⟩
theorem bi_looked {K : PySem.W.Frag} {f : Addr} {fd : FuncData} (F : Fn K "looked" s_looked f fd) : Binds K fd ["rides", "trips"] [] := F.bindsN fun _ _ _ _ _ _ us hl => match us, hl with | [_, _], _ => rfl
abbrev s_need_place : Stmt := top 16
theorem sc_need_place : FnScope ["place"] ["place"] (defScope s_need_place) := ⟨rfl, rfl, rfl, by decide +kernel, rfl, by decide +kernel, by decide +kernel⟩
theorem bi_need_place {K : PySem.W.Frag} {f : Addr} {fd : FuncData} (F : Fn K "need_place" s_need_place f fd) : Binds K fd ["place"] [] := F.bindsN fun _ _ _ _ _ _ us hl => match us, hl with | [_], _ => rfl
abbrev s_need_number : Stmt := top 17
theorem sc_need_number : FnScope ["trips", "number"] ["trips", "number"] (defScope s_need_number) := ⟨rfl, rfl, rfl, by decide +kernel, rfl, by decide +kernel, by decide +kernel⟩
theorem bi_need_number {K : PySem.W.Frag} {f : Addr} {fd : FuncData} (F : Fn K "need_number" s_need_number f fd) : Binds K fd ["trips", "number"] [] := F.bindsN fun _ _ _ _ _ _ us hl => match us, hl with | [_, _], _ => rfl
abbrev s_roads : Stmt := top 19
theorem sc_roads : FnScope ["rides", "trips", "found", "trip"] ["rides", "trips"] (defScope s_roads) := ⟨rfl, rfl, rfl, by decide +kernel, rfl, by decide +kernel, by decide +kernel⟩
theorem bi_roads {K : PySem.W.Frag} {f : Addr} {fd : FuncData} (F : Fn K "roads" s_roads f fd) : Binds K fd ["rides", "trips"] [] := F.bindsN fun _ _ _ _ _ _ us hl => match us, hl with | [_, _], _ => rfl
abbrev s_spread : Stmt := top 20
theorem sc_spread : FnScope ["rides", "trips", "place", "rows", "found", "changed", "row", "minutes"] ["rides", "trips", "place"] (defScope s_spread) := ⟨rfl, rfl, rfl, by decide +kernel, rfl, by decide +kernel, by decide +kernel⟩
theorem bi_spread {K : PySem.W.Frag} {f : Addr} {fd : FuncData} (F : Fn K "spread" s_spread f fd) : Binds K fd ["rides", "trips", "place"] [] := F.bindsN fun _ _ _ _ _ _ us hl => match us, hl with | [_, _, _], _ => rfl
abbrev s_way : Stmt := top 21
theorem sc_way : FnScope ["rides", "trips", "one", "other", "rows", "minutes", "found", "here", "ahead", "row"] ["rides", "trips", "one", "other"] (defScope s_way) := ⟨rfl, rfl, rfl, by decide +kernel, rfl, by decide +kernel, by decide +kernel⟩
theorem bi_way {K : PySem.W.Frag} {f : Addr} {fd : FuncData} (F : Fn K "way" s_way f fd) : Binds K fd ["rides", "trips", "one", "other"] [] := F.bindsN fun _ _ _ _ _ _ us hl => match us, hl with | [_, _, _, _], _ => rfl
abbrev s_comes : Stmt := top 23
theorem sc_comes : FnScope ["minutes", "ahead", "trip"] ["minutes", "ahead", "trip"] (defScope s_comes) := ⟨rfl, rfl, rfl, by decide +kernel, rfl, by decide +kernel, by decide +kernel⟩
theorem bi_comes {K : PySem.W.Frag} {f : Addr} {fd : FuncData} (F : Fn K "comes" s_comes f fd) : Binds K fd ["minutes", "ahead", "trip"] [] := F.bindsN fun _ _ _ _ _ _ us hl => match us, hl with | [_, _, _], _ => rfl
abbrev s_can : Stmt := top 24
theorem sc_can : FnScope ["rides", "trips", "one", "other"] ["rides", "trips", "one", "other"] (defScope s_can) := ⟨rfl, rfl, rfl, by decide +kernel, rfl, by decide +kernel, by decide +kernel⟩
theorem bi_can {K : PySem.W.Frag} {f : Addr} {fd : FuncData} (F : Fn K "can" s_can f fd) : Binds K fd ["rides", "trips", "one", "other"] [] := F.bindsN fun _ _ _ _ _ _ us hl => match us, hl with | [_, _, _, _], _ => rfl
abbrev s_behind : Stmt := top 25
theorem sc_behind : FnScope ["rides", "trips", "found", "ahead", "minutes", "k"] ["rides", "trips"] (defScope s_behind) := ⟨rfl, rfl, rfl, by decide +kernel, rfl, by decide +kernel, by decide +kernel⟩
theorem bi_behind {K : PySem.W.Frag} {f : Addr} {fd : FuncData} (F : Fn K "behind" s_behind f fd) : Binds K fd ["rides", "trips"] [] := F.bindsN fun _ _ _ _ _ _ us hl => match us, hl with | [_, _], _ => rfl
abbrev s_ridden : Stmt := top 26
theorem sc_ridden : FnScope ["rows", "places", "minute", "found", "k", "least", "row"] ["rows", "places", "minute"] (defScope s_ridden) := ⟨rfl, rfl, rfl, by decide +kernel, rfl, by decide +kernel, by decide +kernel⟩
theorem bi_ridden {K : PySem.W.Frag} {f : Addr} {fd : FuncData} (F : Fn K "ridden" s_ridden f fd) : Binds K fd ["rows", "places", "minute"] [] := F.bindsN fun _ _ _ _ _ _ us hl => match us, hl with | [_, _, _], _ => rfl
abbrev s_day : Stmt := top 27
theorem sc_day : FnScope ["rides", "trips", "row", "rows", "number", "k", "found", "trip", "places"] ["rides", "trips", "row"] (defScope s_day) := ⟨rfl, rfl, rfl, by decide +kernel, rfl, by decide +kernel, by decide +kernel⟩
theorem bi_day {K : PySem.W.Frag} {f : Addr} {fd : FuncData} (F : Fn K "day" s_day f fd) : Binds K fd ["rides", "trips", "row"] [] := F.bindsN fun _ _ _ _ _ _ us hl => match us, hl with | [_, _, _], _ => rfl
abbrev s_free_one : Stmt := top 29
theorem sc_free_one : FnScope ["after", "ahead_of", "first", "came", "waiting", "one", "other"] ["after", "ahead_of", "first"] (defScope s_free_one) := ⟨rfl, rfl, rfl, by decide +kernel, rfl, by decide +kernel, by decide +kernel⟩
theorem bi_free_one {K : PySem.W.Frag} {f : Addr} {fd : FuncData} (F : Fn K "free_one" s_free_one f fd) : Binds K fd ["after", "ahead_of", "first"] [] := F.bindsN fun _ _ _ _ _ _ us hl => match us, hl with | [_, _, _], _ => rfl
abbrev s_paired : Stmt := top 30
theorem sc_paired : FnScope ["after", "next_of", "ahead_of", "first", "told", "other", "going", "one", "left"] ["after"] (defScope s_paired) := ⟨rfl, rfl, rfl, by decide +kernel, rfl, by decide +kernel, by decide +kernel⟩
theorem bi_paired {K : PySem.W.Frag} {f : Addr} {fd : FuncData} (F : Fn K "paired" s_paired f fd) : Binds K fd ["after"] [] := F.bindsN fun _ _ _ _ _ _ us hl => match us, hl with | [_], _ => rfl
abbrev s_apart_of : Stmt := top 31
theorem sc_apart_of : FnScope ["after", "next_of", "ahead_of", "left", "right", "one", "waiting", "other"] ["after", "next_of", "ahead_of"] (defScope s_apart_of) := ⟨rfl, rfl, rfl, by decide +kernel, rfl, by decide +kernel, by decide +kernel⟩
theorem bi_apart_of {K : PySem.W.Frag} {f : Addr} {fd : FuncData} (F : Fn K "apart_of" s_apart_of f fd) : Binds K fd ["after", "next_of", "ahead_of"] [] := F.bindsN fun _ _ _ _ _ _ us hl => match us, hl with | [_, _, _], _ => rfl
abbrev s_plan : Stmt := top 32
theorem sc_plan : FnScope ["rides", "trips", "after", "next_of", "ahead_of", "rows", "first", "row"] ["rides", "trips"] (defScope s_plan) := ⟨rfl, rfl, rfl, by decide +kernel, rfl, by decide +kernel, by decide +kernel⟩
theorem bi_plan {K : PySem.W.Frag} {f : Addr} {fd : FuncData} (F : Fn K "plan" s_plan f fd) : Binds K fd ["rides", "trips"] [] := F.bindsN fun _ _ _ _ _ _ us hl => match us, hl with | [_, _], _ => rfl
abbrev s_holds : Stmt := top 33
theorem sc_holds : FnScope ["rides", "trips", "rows", "apart", "after", "done", "row", "k", "one"] ["rides", "trips", "rows", "apart"] (defScope s_holds) := ⟨rfl, rfl, rfl, by decide +kernel, rfl, by decide +kernel, by decide +kernel⟩
theorem bi_holds {K : PySem.W.Frag} {f : Addr} {fd : FuncData} (F : Fn K "holds" s_holds f fd) : Binds K fd ["rides", "trips", "rows", "apart"] [] := F.bindsN fun _ _ _ _ _ _ us hl => match us, hl with | [_, _, _, _], _ => rfl
abbrev s_law_cell_at : Stmt := top 35
theorem sc_law_cell_at : FnScope ["_law_script", "_law_k"] ["_law_script", "_law_k"] (defScope s_law_cell_at) := ⟨rfl, rfl, rfl, by decide +kernel, rfl, by decide +kernel, by decide +kernel⟩
theorem bi_law_cell_at {K : PySem.W.Frag} {f : Addr} {fd : FuncData} (F : Fn K "_law_cell_at" s_law_cell_at f fd) : Binds K fd ["_law_script", "_law_k"] [] := F.bindsN fun _ _ _ _ _ _ us hl => match us, hl with | [_, _], _ => rfl
abbrev s_law_odd_name : Stmt := top 36
theorem sc_law_odd_name : FnScope ["_law_cell"] ["_law_cell"] (defScope s_law_odd_name) := ⟨rfl, rfl, rfl, by decide +kernel, rfl, by decide +kernel, by decide +kernel⟩
theorem bi_law_odd_name {K : PySem.W.Frag} {f : Addr} {fd : FuncData} (F : Fn K "_law_odd_name" s_law_odd_name f fd) : Binds K fd ["_law_cell"] [] := F.bindsN fun _ _ _ _ _ _ us hl => match us, hl with | [_], _ => rfl
abbrev s_law_odd_ride : Stmt := top 37
theorem sc_law_odd_ride : FnScope ["_law_cell", "_law_some"] ["_law_cell"] (defScope s_law_odd_ride) := ⟨rfl, rfl, rfl, by decide +kernel, rfl, by decide +kernel, by decide +kernel⟩
theorem bi_law_odd_ride {K : PySem.W.Frag} {f : Addr} {fd : FuncData} (F : Fn K "_law_odd_ride" s_law_odd_ride f fd) : Binds K fd ["_law_cell"] [] := F.bindsN fun _ _ _ _ _ _ us hl => match us, hl with | [_], _ => rfl
abbrev s_law_odd_trip : Stmt := top 38
theorem sc_law_odd_trip : FnScope ["_law_cell", "_law_some"] ["_law_cell"] (defScope s_law_odd_trip) := ⟨rfl, rfl, rfl, by decide +kernel, rfl, by decide +kernel, by decide +kernel⟩
theorem bi_law_odd_trip {K : PySem.W.Frag} {f : Addr} {fd : FuncData} (F : Fn K "_law_odd_trip" s_law_odd_trip f fd) : Binds K fd ["_law_cell"] [] := F.bindsN fun _ _ _ _ _ _ us hl => match us, hl with | [_], _ => rfl
abbrev s_law_put : Stmt := top 39
theorem sc_law_put : FnScope ["_law_row", "_law_thing", "_law_cell", "_law_place"] ["_law_row", "_law_thing", "_law_cell"] (defScope s_law_put) := ⟨rfl, rfl, rfl, by decide +kernel, rfl, by decide +kernel, by decide +kernel⟩
theorem bi_law_put {K : PySem.W.Frag} {f : Addr} {fd : FuncData} (F : Fn K "_law_put" s_law_put f fd) : Binds K fd ["_law_row", "_law_thing", "_law_cell"] [] := F.bindsN fun _ _ _ _ _ _ us hl => match us, hl with | [_, _, _], _ => rfl
abbrev s_law_asked : Stmt := top 40
theorem sc_law_asked : FnScope ["_law_way_by", "_law_rides", "_law_trips", "_law_place", "_law_number"] ["_law_way_by", "_law_rides", "_law_trips", "_law_place", "_law_number"] (defScope s_law_asked) := ⟨rfl, rfl, rfl, by decide +kernel, rfl, by decide +kernel, by decide +kernel⟩
theorem bi_law_asked {K : PySem.W.Frag} {f : Addr} {fd : FuncData} (F : Fn K "_law_asked" s_law_asked f fd) : Binds K fd ["_law_way_by", "_law_rides", "_law_trips", "_law_place", "_law_number"] [] := F.bindsN fun _ _ _ _ _ _ us hl => match us, hl with | [_, _, _, _, _], _ => rfl
abbrev s_law_marks : Stmt := top 41
theorem sc_law_marks : FnScope ["_law_e", "_law_marks_here"] ["_law_e"] (defScope s_law_marks) := ⟨rfl, rfl, rfl, by decide +kernel, rfl, by decide +kernel, by decide +kernel⟩
theorem bi_law_marks {K : PySem.W.Frag} {f : Addr} {fd : FuncData} (F : Fn K "_law_marks" s_law_marks f fd) : Binds K fd ["_law_e"] [] := F.bindsN fun _ _ _ _ _ _ us hl => match us, hl with | [_], _ => rfl
abbrev s_law : Stmt := top 42
theorem sc_law : FnScope ["_law_script", "_law_first", "_law_rides", "_law_trips", "_law_second", "_law_due", "_law_way_by", "_law_bad", "_law_place", "_law_number", "_law_marks_here", "_law_e", "_law_k"] ["_law_script"] (defScope s_law) := ⟨rfl, rfl, rfl, by decide +kernel, rfl, by decide +kernel, by decide +kernel⟩
theorem bi_law {K : PySem.W.Frag} {f : Addr} {fd : FuncData} (F : Fn K "law" s_law f fd) : Binds K fd ["_law_script"] [] := F.bindsN fun _ _ _ _ _ _ us hl => match us, hl with | [_], _ => rfl
end Fb
/-! looks.py: whole numbers, places, rides, trips, all of them; roads. Here for what is in form. -/
namespace Fb
open PySem PySem.Spec PyProof.Rows L2
/-! ### kinds -/
inductive Kd where
  | int | bool | str | non | lst | tup
def Kd.nm : Kd → String
  | .int => "int" | .bool => "bool" | .str => "str" | .non => "NoneType" | .lst => "list" | .tup => "tuple"
inductive Plain (K : PySem.W.Frag) (H : Hp) : V → Kd → Prop where
  | int (i : Int) : Plain K H (.int i) .int
  | bool (b : Bool) : Plain K H (.bl b) .bool
  | str (z : Str) (h : z.length ≤ sizeLine) : Plain K H (.str z) .str
  | non : Plain K H .non .non
  | lst {a : Addr} {xs : List V} (h : SqL K H a xs) : Plain K H (.ref a) .lst
  | tup {a : Addr} {xs : List V} (h : SqT K H a xs) : Plain K H (.ref a) .tup
theorem Plain.ty {K : PySem.W.Frag} {H : Hp} {x : V} {k : Kd} (p : Plain K H x k) : TyX K H x (.type k.nm) := by
  cases p with
  | int i => exact .base (.int i)
  | bool b => exact .base (.bl b)
  | str z _ => exact .base (.str z)
  | non => exact .base .non
  | lst h => exact ty_lst h
  | tup h => exact ty_tup h
def Kd.isInt : Kd → Bool
  | .int => true | .bool => true | _ => false
def Kd.isBool : Kd → Bool
  | .bool => true | _ => false
def Kd.isStr : Kd → Bool
  | .str => true | _ => false
def Kd.isTup : Kd → Bool
  | .tup => true | _ => false
def Kd.isLst : Kd → Bool
  | .lst => true | _ => false
theorem kd_int (k : Kd) : kitB k.nm "int" = some k.isInt := by cases k <;> decide +kernel
theorem kd_bool (k : Kd) : kitB k.nm "bool" = some k.isBool := by cases k <;> decide +kernel
theorem kd_str (k : Kd) : kitB k.nm "str" = some k.isStr := by cases k <;> decide +kernel
theorem kd_tup (k : Kd) : kitB k.nm "tuple" = some k.isTup := by cases k <;> decide +kernel
theorem kd_lst (k : Kd) : kitB k.nm "list" = some k.isLst := by cases k <;> decide +kernel
/-! ### a whole number from one to another -/
def isWhole : V → Int → Int → Bool
  | .int i, lo, hi => decide (lo ≤ i) && decide (i ≤ hi)
  | _, _, _ => false
def spWhole (K : PySem.W.Frag) : Sp := fun vs H Q _ => ∃ (x : V) (k : Kd) (lo hi : Int), vs = [x, .int lo, .int hi] ∧ Plain K H x k ∧ Q (.bl (isWhole x lo hi)) H
section
variable {P : Program} {w : World} {K : PySem.W.Frag} {mg : Str → Option Value} {base : Heap}
theorem cal_is_whole {f : Addr} {fd : FuncData} (F : Fn K "is_whole" s_is_whole f fd) (g : mg "is_whole" = some (.ref f)) (B : Bi mg) : C8.Cal P w K mg base 1 "is_whole" (spWhole K) [] := by
  refine cal_of F g sc_is_whole (bi_is_whole F) (fun vs H Q E h => ?_) (fun cdv A outer s H vs Q E hr h => ?_)
  · obtain ⟨x, k, lo, hi, rfl, _⟩ := h
    rfl
  · obtain ⟨x, k, lo, hi, rfl, p, q⟩ := h
    refine ⟨_, pss_one (ps_ret (pe_and (pe_callB call_isi (by rfl) B.isi (by decide +kernel) (pa_cons (pv 0) (pa_cons (pe_bltn (v := .ty "int") (u := .type "int") (by rfl) B.int (by decide +kernel) (by rfl)) pa_nil))) (pe_and (pe_not (pe_callB call_isi (by rfl) B.isi (by decide +kernel) (pa_cons (pv 0) (pa_cons (pe_bltn (v := .ty "bool") (u := .type "bool") (by rfl) B.bool (by decide +kernel) (by rfl)) pa_nil)))) (pe_one (pe_chain op_le op_le (pv 1) (pv 0) (pv 2)))))), ?_⟩
    refine ⟨x, rfl, _, _, _, _, _, rfl, .ty _, (p).ty, kit_ty (kd_int k), _, rfl, ?_⟩
    cases p with
    | int i =>
      refine if_t rfl ⟨.int i, rfl, _, _, _, _, _, rfl, .ty _, (Plain.int i).ty, kit_ty (kd_bool .int), _, rfl, _, rfl, if_t rfl ?_⟩
      refine ⟨_, rfl, _, rfl, lo, i, rfl, rfl, _, rfl, ite2 (fun c => ?_) (fun c => ?_)⟩
      · refine ⟨_, rfl, i, hi, rfl, rfl, ?_⟩
        have e : isWhole (.int i) lo hi = decide (i ≤ hi) := by
          show (decide (lo ≤ i) && decide (i ≤ hi)) = _
          rw [c, Bool.true_and]
        rw [e] at q
        exact q
      · have e : isWhole (.int i) lo hi = false := by
          show (decide (lo ≤ i) && decide (i ≤ hi)) = _
          rw [Bool.eq_false_iff.mpr c, Bool.false_and]
        rw [e] at q
        exact q
    | bool b => exact if_t rfl ⟨.bl b, rfl, _, _, _, _, _, rfl, .ty _, (Plain.bool b).ty, kit_ty (kd_bool .bool), _, rfl, _, rfl, if_f rfl q⟩
    | str z _ => exact if_f rfl q
    | non => exact if_f rfl q
    | lst h => exact if_f rfl q
    | tup h => exact if_f rfl q
/-! ### a place's name -/
def signsOk (l : List Nat) : Bool := l.all fun c => decide (c ∈ letters.cps.toList)
def isPlace : V → Bool
  | .str z => decide (1 ≤ (z.length : Int)) && (decide ((z.length : Int) ≤ 12) && signsOk z.cps.toList)
  | _ => false
theorem isPlace_ok {z : Str} (h : okPlace z) : isPlace (.str z) = true := by
  obtain ⟨h1, h2, h3⟩ := h
  show (decide (1 ≤ (z.length : Int)) && (decide ((z.length : Int) ≤ 12) && signsOk z.cps.toList)) = true
  rw [decide_eq_true (by omega), decide_eq_true (by omega), Bool.true_and, Bool.true_and]
  exact List.all_eq_true.mpr fun c hc => decide_eq_true (h3 c hc)
def spPlace (K : PySem.W.Frag) : Sp := fun vs H Q _ => ∃ (x : V) (k : Kd), vs = [x] ∧ Plain K H x k ∧ Q (.bl (isPlace x)) H
theorem cal_is_place {f : Addr} {fd : FuncData} (F : Fn K "is_place" s_is_place f fd) (g : mg "is_place" = some (.ref f)) (B : Bi mg) (cL : ∃ t, mg "LETTERS" = some (.str "abcdefghijklmnopqrstuvwxyz" t)) : C8.Cal P w K mg base 1 "is_place" (spPlace K) [] := by
  obtain ⟨tL, cL⟩ := cL
  refine cal_of F g sc_is_place (bi_is_place F) (fun vs H Q E h => ?_) (fun cdv A outer s H vs Q E hr h => ?_)
  · obtain ⟨x, k, rfl, _⟩ := h
    rfl
  · obtain ⟨x, k, rfl, p, q⟩ := h
    
    refine ⟨_, (pss_cons (ps_if (PW.pt (pw_or (pt_not (pt_val (pe_callB call_isi (by rfl) B.isi (by decide +kernel) (pa_cons (pv 0) (pa_cons (pe_bltn (v := .ty "str") (u := .type "str") (by rfl) B.str (by decide +kernel) (by rfl)) pa_nil))))) (pw_or1 (pt_not (pt_chain op_le op_le pe_int (pe_callB call_len (by rfl) B.len PySem.boot_len (pa_cons (pv 0) pa_nil)) pe_int))))) (pss_one (ps_ret pe_bl)) pss_nil) (pss_cons (ps_for PassesOwn.never rfl (pi_str (pv 0)) (pg_name (i := 1) sc_is_place.nd rfl (Or.inl rfl)) (pss_one (ps_if (pt_cmpR op_notIn_sign (pv 1) (pe_glob (v := .str letters) rfl cL ⟨_, rfl⟩) (by rfl)) (pss_one (ps_ret pe_bl)) pss_nil))) (pss_one (ps_ret pe_bl)))), ?_⟩
    have no : k.isStr = false → isPlace x = false := fun h => by
      cases p with
      | str z _ => cases h
      | _ => rfl
    refine ⟨_, rfl, _, _, _, _, _, rfl, .ty _, (p).ty, kit_ty (kd_str k), _, rfl, ?_⟩
    cases hk : k.isStr with
    | false =>
      rw [no hk] at q
      exact if_t rfl (if_t rfl q)
    | true =>
      cases p with
      | str z hz =>
        refine if_f rfl ?_
        -- not 1 <= len(thing) <= 12
        refine ⟨_, rfl, _, _, rfl, ⟨hz, rfl⟩, 1, _, rfl, rfl, _, rfl, ite2 (fun c1 => ?_) (fun c1 => ?_)⟩
        · refine ⟨_, _, rfl, rfl, _, rfl, ?_⟩
          cases c2 : decide ((z.length : Int) ≤ 12) with
          | false =>
            have e : isPlace (.str z) = false := by
              show (decide (1 ≤ (z.length : Int)) && (decide ((z.length : Int) ≤ 12) && signsOk z.cps.toList)) = false
              rw [c2, Bool.false_and, Bool.and_false]
            rw [e] at q
            exact if_t rfl q
          | true =>
            refine if_f rfl ?_
            have e : isPlace (.str z) = signsOk z.cps.toList := by
              show (decide (1 ≤ (z.length : Int)) && (decide ((z.length : Int) ≤ 12) && signsOk z.cps.toList)) = _
              rw [c1, c2, Bool.true_and, Bool.true_and]
            rw [e] at q
            -- for sign in thing
            refine ⟨_, rfl, z, rfl, for_it walk_str (fun i σ H' => H' = H ∧ (∃ y, σ = [some (.str z), y]) ∧ signsOk (z.cps.toList.take i) = true)
              ⟨rfl, ⟨none, rfl⟩, rfl⟩ (fun _ _ _ _ _ => trivial) ?_ ?_⟩
            · rintro i x σ H1 H2 hi ⟨rfl, ⟨y, rfl⟩, hs⟩ ⟨rfl, c, hc, rfl⟩
              have hl : z.cps.toList[i]? = some c := by rw [Array.getElem?_toList]; exact hc
              refine ⟨_, rfl, c, letters, rfl, rfl, _, rfl, ?_⟩
              cases hin : decide (c ∈ letters.cps.toList) with
              | true =>
                refine if_f rfl ⟨rfl, ⟨_, rfl⟩, ?_⟩
                rw [List.take_add_one, hl]
                show signsOk (z.cps.toList.take i ++ [c]) = true
                unfold signsOk at hs ⊢
                rw [List.all_append, hs, Bool.true_and]
                show (decide (c ∈ letters.cps.toList) && true) = true
                rw [hin]
                rfl
              | false =>
                refine if_t rfl ?_
                have e2 : signsOk z.cps.toList = false := by
                  cases e3 : signsOk z.cps.toList with
                  | false => rfl
                  | true =>
                    have := List.all_eq_true.mp e3 c (List.mem_of_getElem? hl)
                    rw [hin] at this
                    cases this
                rw [e2] at q
                exact q
            · rintro σ H1 ⟨rfl, ⟨y, rfl⟩, hs⟩
              rw [List.take_of_length_le (by simp)] at hs
              rw [hs] at q
              exact q
        · have e : isPlace (.str z) = false := by
            show (decide (1 ≤ (z.length : Int)) && (decide ((z.length : Int) ≤ 12) && signsOk z.cps.toList)) = false
            rw [Bool.eq_false_iff.mpr c1, Bool.false_and]
          rw [e] at q
          exact ⟨_, rfl, if_t rfl q⟩
      | _ => cases hk
/-! ### a ride, a trip -/
def rideB : List V → Bool
  | [u, v, m] => isPlace u && (isPlace v && (!decide (u = v) && isWhole m 1 9999))
  | _ => false
def ltV : V → V → Bool
  | .int i, .int j => decide (i < j)
  | _, _ => false
def tripB : List V → Bool
  | [u, b, v, e] => isPlace u && (isPlace v && (isWhole b 0 99999 && (isWhole e 0 99999 && ltV b e)))
  | _ => false
theorem rideB_ok {r : Ride} (h : okRide r) : rideB (rideV r) = true := by
  obtain ⟨h1, h2, h3, h4, h5⟩ := h
  have hne : ¬ (V.str r.1 = V.str r.2.1) := fun e => h3 (V.str.inj e)
  show (isPlace (.str r.1) && (isPlace (.str r.2.1) && (!decide (V.str r.1 = V.str r.2.1) && (decide (1 ≤ r.2.2) && decide (r.2.2 ≤ 9999))))) = true
  rw [isPlace_ok h1, isPlace_ok h2, decide_eq_false hne, decide_eq_true h4, decide_eq_true h5]
  rfl
theorem tripB_ok {t : Trip} (h : okTrip t) : tripB (tripV t) = true := by
  obtain ⟨h1, h2, h3, h4, h5⟩ := h
  show (isPlace (.str t.1) && (isPlace (.str t.2.2.1) && ((decide (0 ≤ t.2.1) && decide (t.2.1 ≤ 99999)) && ((decide (0 ≤ t.2.2.2) && decide (t.2.2.2 ≤ 99999)) && decide (t.2.1 < t.2.2.2))))) = true
  rw [isPlace_ok h1, isPlace_ok h2, decide_eq_true h3, decide_eq_true h4, decide_eq_true h5, decide_eq_true (by omega), decide_eq_true (by omega)]
  rfl
theorem isPlace_str {x : V} (h : isPlace x = true) : ∃ z, x = .str z := by
  cases x with
  | str z => exact ⟨z, rfl⟩
  | _ => cases h
/-- a thing: a tuple of plain things, or something plain that is none -/
def spForm (K : PySem.W.Frag) (f : List V → Bool) : Sp := fun vs H Q _ => ∃ x, vs = [x] ∧
  ((∃ a items, x = .ref a ∧ SqT K H a items ∧ (∀ v ∈ items, ∃ k, Plain K H v k) ∧ Q (.bl (f items)) H) ∨ ∃ k, Plain K H x k ∧ k.isTup = false ∧ Q (.bl false) H)
theorem len3 {items : List V} {n : Nat} (h : (items.length : Int) = (n : Nat)) : items.length = n := by omega
theorem cal_is_ride {f : Addr} {fd : FuncData} (F : Fn K "is_ride" s_is_ride f fd) (g : mg "is_ride" = some (.ref f)) (B : Bi mg) (cM : ∃ t, mg "MOST_RIDE" = some (.int 9999 t))
    (c_is_place : C8.Cal P w K mg base 1 "is_place" (spPlace K) []) (c_is_whole : C8.Cal P w K mg base 1 "is_whole" (spWhole K) []) : C8.Cal P w K mg base 2 "is_ride" (spForm K rideB) [] := by
  obtain ⟨tM, cM⟩ := cM
  refine cal_of F g sc_is_ride (bi_is_ride F) (fun vs H Q E h => ?_) (fun cdv A outer s H vs Q E hr h => ?_)
  · obtain ⟨x, rfl, _⟩ := h
    rfl
  · obtain ⟨x, rfl, h⟩ := h
    
    refine ⟨_, (pss_cons (ps_if (PW.pt (pw_or (pt_not (pt_val (pe_callB call_isi (by rfl) B.isi (by decide +kernel) (pa_cons (pv 0) (pa_cons (pe_bltn (v := .ty "tuple") (u := .type "tuple") (by rfl) B.tuple (by decide +kernel) (by rfl)) pa_nil))))) (pw_or1 (pt_cmpR op_ne (pe_callB call_len (by rfl) B.len PySem.boot_len (pa_cons (pv 0) pa_nil)) pe_int (nomark _))))) (pss_one (ps_ret pe_bl)) pss_nil) (pss_cons (ps_if (PW.pt (pw_or (pt_not (pt_val (C8.pe_c c_is_place hr (by decide) (by rfl) (pa_cons (pe_ix (r := rIxT K) ix_tup (pv 0) pe_int (fun _ _ => rfl)) pa_nil)))) (pw_or (pt_not (pt_val (C8.pe_c c_is_place hr (by decide) (by rfl) (pa_cons (pe_ix (r := rIxT K) ix_tup (pv 0) pe_int (fun _ _ => rfl)) pa_nil)))) (pw_or1 (pt_cmpR op_eq (pe_ix (r := rIxT K) ix_tup (pv 0) pe_int (fun _ _ => rfl)) (pe_ix (r := rIxT K) ix_tup (pv 0) pe_int (fun _ _ => rfl)) (nomark _)))))) (pss_one (ps_ret pe_bl)) pss_nil) (pss_one (ps_ret (C8.pe_c c_is_whole hr (by decide) (by rfl) (pa_cons (pe_ix (r := rIxT K) ix_tup (pv 0) pe_int (fun _ _ => rfl)) (pa_cons pe_int (pa_cons (pe_glob (v := .int 9999) rfl cM ⟨_, rfl⟩) pa_nil)))))))), ?_⟩
    rcases h with ⟨a, items, rfl, hS, hp, q⟩ | ⟨k, p, hk, q⟩
    · refine ⟨_, rfl, _, _, _, _, _, rfl, .ty _, (Plain.tup hS).ty, kit_ty (kd_tup .tup), _, rfl, if_f rfl ?_⟩
      refine ⟨_, rfl, _, _, rfl, .inr ⟨_, hS, rfl⟩, rfl, _, rfl, ?_⟩
      cases c3 : decide (V.int (items.length : Int) = V.int 3) with
      | false =>
        have e : rideB items = false := by
          have hl : items.length ≠ 3 := fun z => by
            rw [z] at c3
            exact absurd rfl (of_decide_eq_false c3)
          match items, hl with
          | [], _ => rfl
          | [_], _ => rfl
          | [_, _], _ => rfl
          | _ :: _ :: _ :: _ :: _, _ => rfl
          | [_, _, _], hl => exact absurd rfl hl
        rw [e] at q
        exact if_t rfl q
      | true =>
        have hl : items.length = 3 := len3 (V.int.inj (of_decide_eq_true c3))
        obtain ⟨u, v, m, rfl⟩ : ∃ u v m, items = [u, v, m] := by
          match items, hl with
          | [u, v, m], _ => exact ⟨u, v, m, rfl⟩
        obtain ⟨ku, pu⟩ := hp u List.mem_cons_self
        obtain ⟨kv, pv'⟩ := hp v (List.mem_cons_of_mem _ List.mem_cons_self)
        obtain ⟨km, pm⟩ := hp m (List.mem_cons_of_mem _ (List.mem_cons_of_mem _ List.mem_cons_self))
        have qq : Q (.bl (isPlace u && (isPlace v && (!decide (u = v) && isWhole m 1 9999)))) H := q
        refine if_f rfl ?_
        refine ⟨_, rfl, a, _, 0, u, rfl, rfl, hS, atI_nat (j := 0) rfl, u, ku, rfl, pu, _, rfl, ?_⟩
        cases cu : isPlace u with
        | false =>
          rw [cu] at qq
          exact if_t rfl (if_t rfl qq)
        | true =>
          rw [cu, Bool.true_and] at qq
          refine if_f rfl ⟨_, rfl, a, _, 1, v, rfl, rfl, hS, atI_nat (j := 1) rfl, v, kv, rfl, pv', _, rfl, ?_⟩
          cases cv : isPlace v with
          | false =>
            rw [cv] at qq
            exact if_t rfl (if_t rfl qq)
          | true =>
            rw [cv, Bool.true_and] at qq
            obtain ⟨zu, rfl⟩ := isPlace_str cu
            obtain ⟨zv, rfl⟩ := isPlace_str cv
            refine if_f rfl ⟨_, rfl, a, _, 0, _, rfl, rfl, hS, atI_nat (j := 0) rfl, _, rfl, a, _, 1, _, rfl, rfl, hS, atI_nat (j := 1) rfl, rfl, _, rfl, ?_⟩
            cases ce : decide (V.str zu = V.str zv) with
            | true =>
              rw [ce] at qq
              exact if_t rfl qq
            | false =>
              rw [ce] at qq
              exact if_f rfl ⟨_, rfl, a, _, 2, m, rfl, rfl, hS, atI_nat (j := 2) rfl, m, km, 1, 9999, rfl, pm, qq⟩
    · refine ⟨_, rfl, _, _, _, _, _, rfl, .ty _, (p).ty, kit_ty (kd_tup k), _, rfl, ?_⟩
      rw [hk]
      exact if_t rfl (if_t rfl q)
theorem cal_is_trip {f : Addr} {fd : FuncData} (F : Fn K "is_trip" s_is_trip f fd) (g : mg "is_trip" = some (.ref f)) (B : Bi mg) (cM : ∃ t, mg "MOST_MINUTE" = some (.int 99999 t))
    (c_is_place : C8.Cal P w K mg base 1 "is_place" (spPlace K) []) (c_is_whole : C8.Cal P w K mg base 1 "is_whole" (spWhole K) []) : C8.Cal P w K mg base 2 "is_trip" (spForm K tripB) [] := by
  obtain ⟨tM, cM⟩ := cM
  refine cal_of F g sc_is_trip (bi_is_trip F) (fun vs H Q E h => ?_) (fun cdv A outer s H vs Q E hr h => ?_)
  · obtain ⟨x, rfl, _⟩ := h
    rfl
  · obtain ⟨x, rfl, h⟩ := h
    
    refine ⟨_, (pss_cons (ps_if (PW.pt (pw_or (pt_not (pt_val (pe_callB call_isi (by rfl) B.isi (by decide +kernel) (pa_cons (pv 0) (pa_cons (pe_bltn (v := .ty "tuple") (u := .type "tuple") (by rfl) B.tuple (by decide +kernel) (by rfl)) pa_nil))))) (pw_or1 (pt_cmpR op_ne (pe_callB call_len (by rfl) B.len PySem.boot_len (pa_cons (pv 0) pa_nil)) pe_int (nomark _))))) (pss_one (ps_ret pe_bl)) pss_nil) (pss_cons (ps_if (PW.pt (pw_or (pt_not (pt_val (C8.pe_c c_is_place hr (by decide) (by rfl) (pa_cons (pe_ix (r := rIxT K) ix_tup (pv 0) pe_int (fun _ _ => rfl)) pa_nil)))) (pw_or1 (pt_not (pt_val (C8.pe_c c_is_place hr (by decide) (by rfl) (pa_cons (pe_ix (r := rIxT K) ix_tup (pv 0) pe_int (fun _ _ => rfl)) pa_nil))))))) (pss_one (ps_ret pe_bl)) pss_nil) (pss_one (ps_ret (pe_and (C8.pe_c c_is_whole hr (by decide) (by rfl) (pa_cons (pe_ix (r := rIxT K) ix_tup (pv 0) pe_int (fun _ _ => rfl)) (pa_cons pe_int (pa_cons (pe_glob (v := .int 99999) rfl cM ⟨_, rfl⟩) pa_nil)))) (pe_and (C8.pe_c c_is_whole hr (by decide) (by rfl) (pa_cons (pe_ix (r := rIxT K) ix_tup (pv 0) pe_int (fun _ _ => rfl)) (pa_cons pe_int (pa_cons (pe_glob (v := .int 99999) rfl cM ⟨_, rfl⟩) pa_nil)))) (pe_one (pe_cmpR op_lt (pe_ix (r := rIxT K) ix_tup (pv 0) pe_int (fun _ _ => rfl)) (pe_ix (r := rIxT K) ix_tup (pv 0) pe_int (fun _ _ => rfl)) (nomark _))))))))), ?_⟩
    rcases h with ⟨a, items, rfl, hS, hp, q⟩ | ⟨k, p, hk, q⟩
    · refine ⟨_, rfl, _, _, _, _, _, rfl, .ty _, (Plain.tup hS).ty, kit_ty (kd_tup .tup), _, rfl, if_f rfl ?_⟩
      refine ⟨_, rfl, _, _, rfl, .inr ⟨_, hS, rfl⟩, rfl, _, rfl, ?_⟩
      cases c3 : decide (V.int (items.length : Int) = V.int 4) with
      | false =>
        have e : tripB items = false := by
          have hl : items.length ≠ 4 := fun z => by
            rw [z] at c3
            exact absurd rfl (of_decide_eq_false c3)
          match items, hl with
          | [], _ => rfl
          | [_], _ => rfl
          | [_, _], _ => rfl
          | [_, _, _], _ => rfl
          | _ :: _ :: _ :: _ :: _ :: _, _ => rfl
          | [_, _, _, _], hl => exact absurd rfl hl
        rw [e] at q
        exact if_t rfl q
      | true =>
        have hl : items.length = 4 := len3 (V.int.inj (of_decide_eq_true c3))
        obtain ⟨u, b, v, e, rfl⟩ : ∃ u b v e, items = [u, b, v, e] := by
          match items, hl with
          | [u, b, v, e], _ => exact ⟨u, b, v, e, rfl⟩
        obtain ⟨ku, pu⟩ := hp u List.mem_cons_self
        obtain ⟨kb, pb⟩ := hp b (List.mem_cons_of_mem _ List.mem_cons_self)
        obtain ⟨kv, pv'⟩ := hp v (List.mem_cons_of_mem _ (List.mem_cons_of_mem _ List.mem_cons_self))
        obtain ⟨ke, pe'⟩ := hp e (List.mem_cons_of_mem _ (List.mem_cons_of_mem _ (List.mem_cons_of_mem _ List.mem_cons_self)))
        have qq : Q (.bl (isPlace u && (isPlace v && (isWhole b 0 99999 && (isWhole e 0 99999 && ltV b e))))) H := q
        refine if_f rfl ?_
        refine ⟨_, rfl, a, _, 0, u, rfl, rfl, hS, atI_nat (j := 0) rfl, u, ku, rfl, pu, _, rfl, ?_⟩
        cases cu : isPlace u with
        | false =>
          rw [cu] at qq
          exact if_t rfl (if_t rfl qq)
        | true =>
          rw [cu, Bool.true_and] at qq
          refine if_f rfl ⟨_, rfl, a, _, 2, v, rfl, rfl, hS, atI_nat (j := 2) rfl, v, kv, rfl, pv', _, rfl, ?_⟩
          cases cv : isPlace v with
          | false =>
            rw [cv] at qq
            exact if_t rfl qq
          | true =>
            rw [cv, Bool.true_and] at qq
            refine if_f rfl ⟨_, rfl, a, _, 1, b, rfl, rfl, hS, atI_nat (j := 1) rfl, b, kb, 0, 99999, rfl, pb, _, rfl, ?_⟩
            cases cb : isWhole b 0 99999 with
            | false =>
              rw [cb] at qq
              exact if_f rfl qq
            | true =>
              rw [cb, Bool.true_and] at qq
              refine if_t rfl ⟨_, rfl, a, _, 3, e, rfl, rfl, hS, atI_nat (j := 3) rfl, e, ke, 0, 99999, rfl, pe', _, rfl, ?_⟩
              cases ce : isWhole e 0 99999 with
              | false =>
                rw [ce] at qq
                exact if_f rfl qq
              | true =>
                rw [ce, Bool.true_and] at qq
                obtain ⟨i, rfl⟩ : ∃ i, b = .int i := by cases b <;> first | exact ⟨_, rfl⟩ | cases cb
                obtain ⟨j, rfl⟩ : ∃ i, e = .int i := by cases e <;> first | exact ⟨_, rfl⟩ | cases ce
                exact if_t rfl ⟨_, rfl, a, _, 1, _, rfl, rfl, hS, atI_nat (j := 1) rfl, _, rfl, a, _, 3, _, rfl, rfl, hS, atI_nat (j := 3) rfl, i, j, rfl, rfl, qq⟩
    · refine ⟨_, rfl, _, _, _, _, _, rfl, .ty _, (p).ty, kit_ty (kd_tup k), _, rfl, ?_⟩
      rw [hk]
      exact if_t rfl (if_t rfl q)
end
end Fb
/-! all rides and trips, in form; roads. -/
namespace Fb
open PySem PySem.Spec PyProof.Rows L2
section
variable {P : Program} {w : World} {K : PySem.W.Frag} {mg : Str → Option Value} {base : Heap}
/-! ### all rides and trips, in form -/
theorem plain_of {K : PySem.W.Frag} {H : Hp} {z : Str} (h : okPlace z) : Plain K H (.str z) .str := .str z (Nat.le_trans h.2.1 (by decide))
theorem ride_plain {K : PySem.W.Frag} {H : Hp} {r : Ride} (h : okRide r) : ∀ v ∈ rideV r, ∃ k, Plain K H v k := fun v hv => by
  rcases List.mem_cons.mp hv with rfl | hv
  · exact ⟨_, plain_of h.1⟩
  rcases List.mem_cons.mp hv with rfl | hv
  · exact ⟨_, plain_of h.2.1⟩
  rw [List.mem_singleton.mp hv]
  exact ⟨_, .int _⟩
theorem trip_plain {K : PySem.W.Frag} {H : Hp} {t : Trip} (h : okTrip t) : ∀ v ∈ tripV t, ∃ k, Plain K H v k := fun v hv => by
  rcases List.mem_cons.mp hv with rfl | hv
  · exact ⟨_, plain_of h.1⟩
  rcases List.mem_cons.mp hv with rfl | hv
  · exact ⟨_, .int _⟩
  rcases List.mem_cons.mp hv with rfl | hv
  · exact ⟨_, plain_of h.2.1⟩
  rw [List.mem_singleton.mp hv]
  exact ⟨_, .int _⟩
def spLooked (K : PySem.W.Frag) : Sp := fun vs H Q _ => ∃ a b rides trips, vs = [.ref a, .ref b] ∧ Told2 K H a b rides trips ∧ Q .non H
theorem cal_looked {f : Addr} {fd : FuncData} (F : Fn K "looked" s_looked f fd) (g : mg "looked" = some (.ref f)) (c_is_ride : C8.Cal P w K mg base 2 "is_ride" (spForm K rideB) []) (c_is_trip : C8.Cal P w K mg base 2 "is_trip" (spForm K tripB) []) :
    C8.Cal P w K mg base 3 "looked" (spLooked K) [] := by
  refine cal_of F g sc_looked (bi_looked F) (fun vs H Q E h => ?_) (fun cdv A outer s H vs Q E hr h => ?_)
  · obtain ⟨a, b, rides, trips, rfl, _⟩ := h
    rfl
  · obtain ⟨a, b, rides, trips, rfl, T, q⟩ := h
    
    refine ⟨_, (pss_cons (ps_for PassesOwn.never rfl (pi_list (pv 0)) (pg_name (i := 2) sc_looked.nd rfl (Or.inl rfl)) (pss_one (ps_if (pt_not (pt_val (C8.pe_c c_is_ride hr (by decide) (by rfl) (pa_cons (pv 2) pa_nil)))) (pss_one ps_never) pss_nil))) (pss_one (ps_for PassesOwn.never rfl (pi_list (pv 1)) (pg_name (i := 3) sc_looked.nd rfl (Or.inl rfl)) (pss_one (ps_if (pt_not (pt_val (C8.pe_c c_is_trip hr (by decide) (by rfl) (pa_cons (pv 3) pa_nil)))) (pss_one ps_never) pss_nil))))), ?_⟩
    obtain ⟨qs, hL, hT⟩ := T.lR
    obtain ⟨rs, hL2, hT2⟩ := T.lT
    refine ⟨_, rfl, a, rfl, ⟨_, hL⟩, for_list (K := K) (a := a) (xs := qs.map V.ref) (fun i σ H' => H' = H ∧ ∃ y, σ = [some (.ref a), some (.ref b), y, none]) ⟨rfl, none, rfl⟩ (fun i σ H' _ ⟨e, _⟩ => e ▸ hL) ?_ ?_⟩
    · rintro i x σ H' hi ⟨rfl, y, rfl⟩
      obtain ⟨p, r, rfl, hr2, hs⟩ := hT.at hi
      have ok := T.okR r (List.mem_of_getElem? hr2)
      refine ⟨_, rfl, _, rfl, .inl ⟨p, _, rfl, hs, ride_plain ok, ?_⟩⟩
      rw [rideB_ok ok]
      exact ⟨_, rfl, if_f rfl ⟨rfl, _, rfl⟩⟩
    · rintro σ H' ⟨rfl, y, rfl⟩
      refine ⟨_, rfl, b, rfl, ⟨_, hL2⟩, for_list (K := K) (a := b) (xs := rs.map V.ref) (fun i σ H2 => H2 = H' ∧ ∃ z, σ = [some (.ref a), some (.ref b), y, z]) ⟨rfl, none, rfl⟩ (fun i σ H' _ ⟨e, _⟩ => e ▸ hL2) ?_ ?_⟩
      · rintro i x σ H2 hi ⟨rfl, z, rfl⟩
        obtain ⟨p, t, rfl, hr2, hs⟩ := hT2.at hi
        have ok := T.okT t (List.mem_of_getElem? hr2)
        refine ⟨_, rfl, _, rfl, .inl ⟨p, _, rfl, hs, trip_plain ok, ?_⟩⟩
        rw [tripB_ok ok]
        exact ⟨_, rfl, if_f rfl ⟨rfl, _, rfl⟩⟩
      · rintro σ H2 ⟨rfl, z, rfl⟩
        exact q
/-! ### roads -/
theorem roadsM_take {rides : List Ride} {trips : List Trip} {i : Nat} {t : Trip} (h : trips[i]? = some t) : roadsM rides (trips.take (i + 1)) = roadsM rides (trips.take i) ++ roadOf t := by
  unfold roadsM
  rw [List.take_add_one, h, List.flatMap_append, List.append_assoc]
  show _ = rides ++ (_ ++ roadOf t)
  simp
theorem roadsM_len (rides : List Ride) (trips : List Trip) : (roadsM rides trips).length ≤ rides.length + trips.length := by
  unfold roadsM
  rw [List.length_append]
  have : ∀ l : List Trip, (l.flatMap roadOf).length ≤ l.length := fun l => by
    induction l with
    | nil => exact Nat.le_refl 0
    | cons t l ih =>
      rw [List.flatMap_cons, List.length_append, List.length_cons]
      have : (roadOf t).length ≤ 1 := by
        unfold roadOf
        split <;> simp
      omega
  have := this trips
  omega
def spRoads (K : PySem.W.Frag) : Sp := fun vs H Q _ => ∃ a b rides trips, vs = [.ref a, .ref b] ∧ Told2 K H a b rides trips ∧
  ∀ H' p qs, Same H H' → H p = none → H' p = some (.lst (qs.map V.ref)) → Tups K H' rideV qs (roadsM rides trips) → Q (.ref p) H'
theorem cal_roads {f : Addr} {fd : FuncData} (F : Fn K "roads" s_roads f fd) (g : mg "roads" = some (.ref f)) (B : Bi mg) (c_looked : C8.Cal P w K mg base 3 "looked" (spLooked K) []) : C8.Cal P w K mg base 4 "roads" (spRoads K) [] := by
  refine cal_of F g sc_roads (bi_roads F) (fun vs H Q E h => ?_) (fun cdv A outer s H vs Q E hr h => ?_)
  · obtain ⟨a, b, rides, trips, rfl, _⟩ := h
    rfl
  · obtain ⟨a, b, rides, trips, rfl, T, q⟩ := h
    
    refine ⟨_, (pss_cons (ps_expr (C8.pe_c c_looked hr (by decide) (by rfl) (pa_cons (pv 0) (pa_cons (pv 1) pa_nil)))) (pss_cons (ps_set (i := 2) sc_roads.nd rfl (Or.inl rfl) (pe_callTy call_list_of (by rfl) B.list (by decide +kernel) (pa_cons (pv 0) pa_nil))) (pss_cons (ps_for PassesOwn.never rfl (pi_list (pv 1)) (pg_name (i := 3) sc_roads.nd rfl (Or.inl rfl)) (pss_one (ps_if (pt_cmpR op_ne (pe_ix (r := rIxT K) ix_tup (pv 3) pe_int (fun _ _ => rfl)) (pe_ix (r := rIxT K) ix_tup (pv 3) pe_int (fun _ _ => rfl)) (nomark _)) (pss_one (ps_expr (pe_bm PySem.F.plainAttrs_list PySem.F.slot_list_append PySem.F.type_list_append mt_append (pv 2) (pa_cons (pe_tup (pa_cons (pe_ix (r := rIxT K) ix_tup (pv 3) pe_int (fun _ _ => rfl)) (pa_cons (pe_ix (r := rIxT K) ix_tup (pv 3) pe_int (fun _ _ => rfl)) (pa_cons (pe_op op_sub (pe_ix (r := rIxT K) ix_tup (pv 3) pe_int (fun _ _ => rfl)) (pe_ix (r := rIxT K) ix_tup (pv 3) pe_int (fun _ _ => rfl))) pa_nil)))) pa_nil)))) pss_nil))) (pss_one (ps_ret (pv 2)))))), ?_⟩
    obtain ⟨qs, hL, hT⟩ := T.lR
    obtain ⟨rs, hL2, hT2⟩ := T.lT
    refine ⟨_, rfl, _, rfl, a, b, rides, trips, rfl, T, ?_⟩
    refine ⟨_, rfl, a, _, rfl, .inl hL, fun p np => ?_⟩
    have s1 : Same H (upd H p (.lst (qs.map V.ref))) := same_upd np
    refine ⟨_, rfl, b, rfl, ⟨_, s1.seq hL2⟩, for_list (K := K) (a := b) (xs := rs.map V.ref)
      (fun i σ H' => Same H H' ∧ (∃ y, σ = [some (.ref a), some (.ref b), some (.ref p), y]) ∧ ∃ zs, H' p = some (.lst (zs.map V.ref)) ∧ Tups K H' rideV zs (roadsM rides (trips.take i)))
      ⟨s1, ⟨none, rfl⟩, qs, upd_same, ?_⟩ (fun i σ H' _ ⟨e, _⟩ => e.seq hL2) ?_ ?_⟩
    · have e : roadsM rides (trips.take 0) = rides := by simp [roadsM]
      rw [e]
      exact hT.same s1
    · rintro i x σ H' hi ⟨s2, ⟨y, rfl⟩, zs, hz, hzs⟩
      obtain ⟨p1, t, rfl, ht, hs⟩ := (hT2.same s2).at hi
      have e := roadsM_take (rides := rides) ht
      have hlen : i < trips.length := (List.getElem?_eq_some_iff.mp ht).1
      refine ⟨_, rfl, p1, _, 0, _, rfl, rfl, hs, atI_nat (j := 0) rfl, _, rfl, p1, _, 2, _, rfl, rfl, hs, atI_nat (j := 2) rfl, rfl, _, rfl, ?_⟩
      by_cases c : t.1 = t.2.2.1
      · have c2 : decide (V.str t.1 = V.str t.2.2.1) = true := decide_eq_true (by rw [c])
        rw [c2]
        refine if_f rfl ⟨s2, ⟨_, rfl⟩, zs, hz, ?_⟩
        rw [e]
        unfold roadOf
        rw [if_pos c, List.append_nil]
        exact hzs
      · have c2 : decide (V.str t.1 = V.str t.2.2.1) = false := decide_eq_false fun z => c (V.str.inj z)
        rw [c2]
        refine if_t rfl ⟨_, rfl, .inl ⟨rfl, _, sqL_of hz⟩, ?_⟩
        refine ⟨_, rfl, p1, _, 0, _, rfl, rfl, hs, atI_nat (j := 0) rfl, _, rfl, p1, _, 2, _, rfl, rfl, hs, atI_nat (j := 2) rfl, _, rfl, p1, _, 3, _, rfl, rfl, hs, atI_nat (j := 3) rfl, _, rfl, p1, _, 1, _, rfl, rfl, hs, atI_nat (j := 1) rfl, _, _, rfl, rfl, (by show 3 ≤ sizeLine; decide), fun q' nq => ?_⟩
        have npq : p ≠ q' := ne_of_none hz nq
        have hz2 : (upd H' q' (.tup [.str t.1, .str t.2.2.1, .int (t.2.2.2 - t.2.1)])) p = some (.lst (zs.map V.ref)) := by
          rw [upd_ne npq]
          exact hz
        have s3 : Same H' (upd H' q' (.tup [.str t.1, .str t.2.2.1, .int (t.2.2.2 - t.2.1)])) := same_upd nq
        refine ⟨p, _, _, rfl, rfl, hz2, ?_, ?_⟩
        · rw [List.length_map, hzs.1]
          have := roadsM_len rides (trips.take i)
          rw [List.length_take] at this
          have h1 := T.lenR
          have h2 := T.lenT
          exact small1000 (by omega)
        · refine ⟨same_put (s2.trans s3) np, ⟨_, rfl⟩, zs ++ [q'], ?_, ?_⟩
          · rw [upd_same, List.map_append]
            rfl
          · rw [e]
            unfold roadOf
            rw [if_neg c]
            exact Tups.add ((hzs.same s3).putL hz2) (seqT_putL hz2 (sqT_of upd_same))
    · rintro σ H' ⟨s2, ⟨y, rfl⟩, zs, hz, hzs⟩
      refine ⟨_, rfl, q H' p zs s2 np hz ?_⟩
      rw [List.length_map, hT2.1, List.take_length] at hzs
      exact hzs
end
end Fb
/-! The errors of looked, need_place, need_number (law_k06). -/
namespace Fb
open PySem PySem.Spec PyProof.Rows L2
/-- a class of error of the text, over ValueError -/
structure ExN (K : PySem.W.Frag) (mg : Str → Option Value) (x : Str) (C : Addr) : Prop where
  g : mg x = some (.ref C)
  q : PySem.W.excIn K C He.veBase "ValueError.__new__" = true
  k : PySem.W.keepIn K (.ref C) = true
  e : PySem.W.subIn K (.ref C) (.type "BaseException") = some true
  t : PySem.W.typeIn K (.ref C) = some (.type "type")
/-- asked whether they are of a form, these say so -/
def Verd (K : PySem.W.Frag) (f : List V → Bool) (H : Hp) (xs : List V) (bs : List Bool) : Prop := xs.length = bs.length ∧ ∀ (i : Nat) (x : V) (b : Bool), xs[i]? = some x → bs[i]? = some b → (∃ a items, x = .ref a ∧ SqT K H a items ∧ (∀ v ∈ items, ∃ k, Plain K H v k) ∧ f items = b) ∨ ∃ k, Plain K H x k ∧ k.isTup = false ∧ b = false
def spLookedX (K : PySem.W.Frag) (CR CT : Addr) : Sp := fun vs H _ E => ∃ (a b : Addr) (xs ys : List V) (bs cs : List Bool), vs = [.ref a, .ref b] ∧ SqL K H a xs ∧ SqL K H b ys ∧ Verd K rideB H xs bs ∧ Verd K tripB H ys cs ∧
  ((false ∈ bs ∧ E (.ref CR) none H) ∨ (false ∉ bs ∧ false ∈ cs ∧ E (.ref CT) none H))
def spNeedPX (K : PySem.W.Frag) (C : Addr) : Sp := fun vs H _ E => ∃ (x : V) (k : Kd), vs = [x] ∧ Plain K H x k ∧ isPlace x = false ∧ E (.ref C) none H
def spNeedNX (K : PySem.W.Frag) (C : Addr) : Sp := fun vs H _ E => ∃ (b : Addr) (xs : List V) (x : V) (k : Kd), vs = [.ref b, x] ∧ SqL K H b xs ∧ Plain K H x k ∧ isWhole x 0 ((xs.length : Int) - 1) = false ∧ E (.ref C) none H
section
variable {P : Program} {w : World} {K : PySem.W.Frag} {mg : Str → Option Value} {base : Heap}
theorem ok_looked_x {f : Addr} {fd : FuncData} {CR CT : Addr} (F : Fn K "looked" s_looked f fd) (c_is_ride : C8.Cal P w K mg base 2 "is_ride" (spForm K rideB) []) (c_is_trip : C8.Cal P w K mg base 2 "is_trip" (spForm K tripB) []) (n_NoRide : ExN K mg "NoRide" CR) (n_NoTrip : ExN K mg "NoTrip" CT) :
    FnOk P w K mg base (L2N.CX P w) 3 f fd ["rides", "trips"] (spLookedX K CR CT) := by
  refine F.ok sc_looked (fun vs H Q E h => ?_) (fun cdv A outer s H vs Q E hr h => ?_)
  · obtain ⟨a, b, xs, ys, bs, cs, rfl, _⟩ := h
    rfl
  · obtain ⟨a, b, xs, ys, bs, cs, rfl, hX, hY, vX, vY, q⟩ := h
    refine ⟨_, (pss_cons (ps_for (passes_of rfl) rfl (pi_list (pv 0)) (pg_name (i := 2) sc_looked.nd rfl (Or.inl rfl)) (pss_one (ps_if (pt_not (pt_val (C8.pe_c c_is_ride hr (by decide) (by rfl) (pa_cons (pv 2) pa_nil)))) (pss_one (L2N.ps_raise rfl (L2N.takes_of rfl rfl rfl rfl) (L2N.pmk_own PySem.F.excBase_ValueError n_NoRide.q n_NoRide.g n_NoRide.k (raises_own n_NoRide.e n_NoRide.t) rfl))) pss_nil))) (pss_one (ps_for (passes_of rfl) rfl (pi_list (pv 1)) (pg_name (i := 3) sc_looked.nd rfl (Or.inl rfl)) (pss_one (ps_if (pt_not (pt_val (C8.pe_c c_is_trip hr (by decide) (by rfl) (pa_cons (pv 3) pa_nil)))) (pss_one (L2N.ps_raise rfl (L2N.takes_of rfl rfl rfl rfl) (L2N.pmk_own PySem.F.excBase_ValueError n_NoTrip.q n_NoTrip.g n_NoTrip.k (raises_own n_NoTrip.e n_NoTrip.t) rfl))) pss_nil))))), ?_⟩
    have step : ∀ {f : List V → Bool} {zs : List V} {ds : List Bool} {i : Nat} {x : V}, Verd K f H zs ds → zs[i]? = some x → ∃ d, ds[i]? = some d ∧ ((∃ a items, x = .ref a ∧ SqT K H a items ∧ (∀ v ∈ items, ∃ k, Plain K H v k) ∧ f items = d) ∨ ∃ k, Plain K H x k ∧ k.isTup = false ∧ d = false) := fun {f zs ds i x} v h => by
      have hi := (List.getElem?_eq_some_iff.mp h).1
      have hd : ds[i]? = some (ds[i]'(v.1 ▸ hi)) := List.getElem?_eq_getElem _
      exact ⟨_, hd, v.2 i x _ h hd⟩
    have more : ∀ {ds : List Bool} {i : Nat}, ds[i]? = some true → false ∉ ds.take i → false ∉ ds.take (i + 1) := fun {ds i} h hn hm => by
      rw [List.take_add_one, h] at hm
      rcases List.mem_append.mp hm with z | z
      · exact hn z
      · cases List.mem_singleton.mp z
    refine ⟨_, rfl, a, rfl, ⟨_, hX⟩, for_list (K := K) (a := a) (xs := xs) (fun i σ H' => H' = H ∧ (∃ y, σ = [some (.ref a), some (.ref b), y, none]) ∧ false ∉ bs.take i) ⟨rfl, ⟨none, rfl⟩, (fun h => nomatch h)⟩ (fun i σ H' _ ⟨e, _⟩ => e ▸ hX) ?_ ?_⟩
    · rintro i x σ H' hi ⟨rfl, ⟨y, rfl⟩, hno⟩
      obtain ⟨d, hd, hs⟩ := step vX hi
      have no : d = false → E (.ref CR) none H' := fun e => by
        subst e
        have hm : false ∈ bs := List.mem_of_getElem? hd
        rcases q with q | q
        · exact q.2
        · exact absurd hm q.1
      rcases hs with ⟨p, items, rfl, g1, g2, g3⟩ | ⟨k, g1, g2, g3⟩
      · refine ⟨_, rfl, _, rfl, .inl ⟨p, items, rfl, g1, g2, ?_⟩⟩
        rw [g3]
        cases d with
        | true => exact ⟨_, rfl, if_f rfl ⟨rfl, ⟨_, rfl⟩, more hd hno⟩⟩
        | false => exact ⟨_, rfl, if_t rfl (no rfl)⟩
      · exact ⟨_, rfl, _, rfl, .inr ⟨k, g1, g2, _, rfl, if_t rfl (no g3)⟩⟩
    · rintro σ H' ⟨rfl, ⟨y, rfl⟩, hno⟩
      rw [vX.1, List.take_length] at hno
      have q2 : false ∈ cs ∧ E (.ref CT) none H' := by
        rcases q with q | q
        · exact absurd q.1 hno
        · exact q.2
      refine ⟨_, rfl, b, rfl, ⟨_, hY⟩, for_list (K := K) (a := b) (xs := ys) (fun i σ H2 => H2 = H' ∧ (∃ z, σ = [some (.ref a), some (.ref b), y, z]) ∧ false ∉ cs.take i) ⟨rfl, ⟨none, rfl⟩, (fun h => nomatch h)⟩ (fun i σ H' _ ⟨e, _⟩ => e ▸ hY) ?_ ?_⟩
      · rintro i x σ H2 hi ⟨rfl, ⟨z, rfl⟩, hno2⟩
        obtain ⟨d, hd, hs⟩ := step vY hi
        rcases hs with ⟨p, items, rfl, g1, g2, g3⟩ | ⟨k, g1, g2, g3⟩
        · refine ⟨_, rfl, _, rfl, .inl ⟨p, items, rfl, g1, g2, ?_⟩⟩
          rw [g3]
          cases d with
          | true => exact ⟨_, rfl, if_f rfl ⟨rfl, ⟨_, rfl⟩, more hd hno2⟩⟩
          | false => exact ⟨_, rfl, if_t rfl q2.2⟩
        · exact ⟨_, rfl, _, rfl, .inr ⟨k, g1, g2, _, rfl, if_t rfl q2.2⟩⟩
      · rintro σ H2 ⟨rfl, ⟨z, rfl⟩, hno2⟩
        rw [vY.1, List.take_length] at hno2
        exact absurd q2.1 hno2
theorem ok_need_place_x {f : Addr} {fd : FuncData} {C : Addr} (F : Fn K "need_place" s_need_place f fd) (c_is_place : C8.Cal P w K mg base 1 "is_place" (spPlace K) []) (n_NoPlace : ExN K mg "NoPlace" C) : FnOk P w K mg base (L2N.CX P w) 2 f fd ["place"] (spNeedPX K C) := by
  refine F.ok sc_need_place (fun vs H Q E h => ?_) (fun cdv A outer s H vs Q E hr h => ?_)
  · obtain ⟨x, k, rfl, _⟩ := h
    rfl
  · obtain ⟨x, k, rfl, p, hb, q⟩ := h
    refine ⟨_, (pss_one (ps_if (pt_not (pt_val (C8.pe_c c_is_place hr (by decide) (by rfl) (pa_cons (pv 0) pa_nil)))) (pss_one (L2N.ps_raise rfl (L2N.takes_of rfl rfl rfl rfl) (L2N.pmk_own PySem.F.excBase_ValueError n_NoPlace.q n_NoPlace.g n_NoPlace.k (raises_own n_NoPlace.e n_NoPlace.t) rfl))) pss_nil)), ?_⟩
    refine ⟨_, rfl, x, k, rfl, p, ?_⟩
    rw [hb]
    exact ⟨_, rfl, if_t rfl q⟩
theorem ok_need_number_x {f : Addr} {fd : FuncData} {C : Addr} (F : Fn K "need_number" s_need_number f fd) (B : Bi mg) (c_is_whole : C8.Cal P w K mg base 1 "is_whole" (spWhole K) []) (n_NoNumber : ExN K mg "NoNumber" C) : FnOk P w K mg base (L2N.CX P w) 2 f fd ["trips", "number"] (spNeedNX K C) := by
  refine F.ok sc_need_number (fun vs H Q E h => ?_) (fun cdv A outer s H vs Q E hr h => ?_)
  · obtain ⟨b, xs, x, k, rfl, _⟩ := h
    rfl
  · obtain ⟨b, xs, x, k, rfl, hS, p, hb, q⟩ := h
    refine ⟨_, (pss_one (ps_if (pt_not (pt_val (C8.pe_c c_is_whole hr (by decide) (by rfl) (pa_cons (pv 1) (pa_cons pe_int (pa_cons (pe_op op_sub (pe_callB (r := rLenS K) call_len_seq (by rfl) B.len PySem.boot_len (pa_cons (pv 0) pa_nil)) pe_int) pa_nil)))))) (pss_one (L2N.ps_raise rfl (L2N.takes_of rfl rfl rfl rfl) (L2N.pmk_own PySem.F.excBase_ValueError n_NoNumber.q n_NoNumber.g n_NoNumber.k (raises_own n_NoNumber.e n_NoNumber.t) rfl))) pss_nil)), ?_⟩
    refine ⟨_, rfl, _, rfl, b, _, rfl, .inl hS, _, _, rfl, rfl, x, k, 0, (xs.length : Int) - 1, rfl, p, ?_⟩
    rw [hb]
    exact ⟨_, rfl, if_t rfl q⟩
end
end Fb
/-! The errors of what is not in form, of all that looks first (law_k06). -/
namespace Fb
open PySem PySem.Spec PyProof.Rows L2
def Bad (K : PySem.W.Frag) (CR CT : Addr) (H : Hp) (a b : Addr) (E : XK) : Prop := ∃ (xs ys : List V) (bs cs : List Bool), SqL K H a xs ∧ SqL K H b ys ∧ Verd K rideB H xs bs ∧ Verd K tripB H ys cs ∧ ((false ∈ bs ∧ E (.ref CR) none H) ∨ (false ∉ bs ∧ false ∈ cs ∧ E (.ref CT) none H))
/-- the first two are no rides, no trips; m more -/
def spBad (K : PySem.W.Frag) (CR CT : Addr) (m : Nat) : Sp := fun vs H _ E => ∃ (a b : Addr) (more : List V), vs = .ref a :: .ref b :: more ∧ more.length = m ∧ Bad K CR CT H a b E
section
variable {P : Program} {w : World} {K : PySem.W.Frag} {mg : Str → Option Value} {base : Heap}
theorem ok_looked_bad {f : Addr} {fd : FuncData} {CR CT : Addr} (F : Fn K "looked" s_looked f fd) (c_is_ride : C8.Cal P w K mg base 2 "is_ride" (spForm K rideB) []) (c_is_trip : C8.Cal P w K mg base 2 "is_trip" (spForm K tripB) []) (n_NoRide : ExN K mg "NoRide" CR) (n_NoTrip : ExN K mg "NoTrip" CT) :
    FnOk P w K mg base (L2N.CX P w) 3 f fd ["rides", "trips"] (spBad K CR CT 0) := (ok_looked_x F c_is_ride c_is_trip n_NoRide n_NoTrip).imp fun vs H Q E h => by
  obtain ⟨a, b, more, rfl, hm, xs, ys, bs, cs, h⟩ := h
  rw [List.length_eq_zero_iff.mp hm]
  exact ⟨a, b, xs, ys, bs, cs, rfl, h⟩
theorem ok_roads_bad {f fC : Addr} {fd fdC : FuncData} {CR CT : Addr} (F : Fn K "roads" s_roads f fd) (FC : Fn K "looked" s_looked fC fdC) (gC : mg "looked" = some (.ref fC)) (G : FnOk P w K mg base (L2N.CX P w) 3 fC fdC ["rides", "trips"] (spBad K CR CT 0)) :
    FnOk P w K mg base (L2N.CX P w) 4 f fd ["rides", "trips"] (spBad K CR CT 0) := by
  refine F.ok sc_roads (fun vs H Q E h => ?_) (fun cdv A outer s H vs Q E hr h => ?_)
  · obtain ⟨a, b, more, rfl, hm, _⟩ := h
    show more.length + 1 + 1 = _
    rw [hm]
    rfl
  · obtain ⟨a, b, more, rfl, hm, bad⟩ := h
    have bC := bi_looked FC
    refine ⟨_, pss_cons (ps_expr (by exact (pe_callS G hr rfl gC FC.kp bC (fun σ => L2N.passAt (L2N.takes_of rfl rfl rfl rfl) σ) (by exact (pa_cons (pv 0) (pa_cons (pv 1) pa_nil)))))) pss_never, ?_⟩
    exact ⟨_, rfl, _, rfl, a, b, [], rfl, rfl, bad⟩
theorem ok_spread_bad {f fC : Addr} {fd fdC : FuncData} {CR CT : Addr} (F : Fn K "spread" s_spread f fd) (FC : Fn K "roads" s_roads fC fdC) (gC : mg "roads" = some (.ref fC)) (G : FnOk P w K mg base (L2N.CX P w) 4 fC fdC ["rides", "trips"] (spBad K CR CT 0)) :
    FnOk P w K mg base (L2N.CX P w) 5 f fd ["rides", "trips", "place"] (spBad K CR CT 1) := by
  refine F.ok sc_spread (fun vs H Q E h => ?_) (fun cdv A outer s H vs Q E hr h => ?_)
  · obtain ⟨a, b, more, rfl, hm, _⟩ := h
    show more.length + 1 + 1 = _
    rw [hm]
    rfl
  · obtain ⟨a, b, more, rfl, hm, bad⟩ := h
    have bC := bi_roads FC
    refine ⟨_, pss_cons (ps_set (i := 3) sc_spread.nd rfl (Or.inl rfl) (by exact (pe_callS G hr rfl gC FC.kp bC (fun σ => L2N.passAt (L2N.takes_of rfl rfl rfl rfl) σ) (by exact (pa_cons (pv 0) (pa_cons (pv 1) pa_nil)))))) pss_never, ?_⟩
    exact ⟨_, rfl, _, rfl, a, b, [], rfl, rfl, bad⟩
theorem ok_way_bad {f fC : Addr} {fd fdC : FuncData} {CR CT : Addr} (F : Fn K "way" s_way f fd) (FC : Fn K "roads" s_roads fC fdC) (gC : mg "roads" = some (.ref fC)) (G : FnOk P w K mg base (L2N.CX P w) 4 fC fdC ["rides", "trips"] (spBad K CR CT 0)) :
    FnOk P w K mg base (L2N.CX P w) 5 f fd ["rides", "trips", "one", "other"] (spBad K CR CT 2) := by
  refine F.ok sc_way (fun vs H Q E h => ?_) (fun cdv A outer s H vs Q E hr h => ?_)
  · obtain ⟨a, b, more, rfl, hm, _⟩ := h
    show more.length + 1 + 1 = _
    rw [hm]
    rfl
  · obtain ⟨a, b, more, rfl, hm, bad⟩ := h
    have bC := bi_roads FC
    refine ⟨_, pss_cons (ps_set (i := 4) sc_way.nd rfl (Or.inl rfl) (by exact (pe_callS G hr rfl gC FC.kp bC (fun σ => L2N.passAt (L2N.takes_of rfl rfl rfl rfl) σ) (by exact (pa_cons (pv 0) (pa_cons (pv 1) pa_nil)))))) pss_never, ?_⟩
    exact ⟨_, rfl, _, rfl, a, b, [], rfl, rfl, bad⟩
theorem ok_can_bad {f fC : Addr} {fd fdC : FuncData} {CR CT : Addr} (F : Fn K "can" s_can f fd) (FC : Fn K "looked" s_looked fC fdC) (gC : mg "looked" = some (.ref fC)) (G : FnOk P w K mg base (L2N.CX P w) 3 fC fdC ["rides", "trips"] (spBad K CR CT 0)) :
    FnOk P w K mg base (L2N.CX P w) 4 f fd ["rides", "trips", "one", "other"] (spBad K CR CT 2) := by
  refine F.ok sc_can (fun vs H Q E h => ?_) (fun cdv A outer s H vs Q E hr h => ?_)
  · obtain ⟨a, b, more, rfl, hm, _⟩ := h
    show more.length + 1 + 1 = _
    rw [hm]
    rfl
  · obtain ⟨a, b, more, rfl, hm, bad⟩ := h
    have bC := bi_looked FC
    refine ⟨_, pss_cons (ps_expr (by exact (pe_callS G hr rfl gC FC.kp bC (fun σ => L2N.passAt (L2N.takes_of rfl rfl rfl rfl) σ) (by exact (pa_cons (pv 0) (pa_cons (pv 1) pa_nil)))))) pss_never, ?_⟩
    exact ⟨_, rfl, _, rfl, a, b, [], rfl, rfl, bad⟩
theorem ok_day_bad {f fC : Addr} {fd fdC : FuncData} {CR CT : Addr} (F : Fn K "day" s_day f fd) (FC : Fn K "roads" s_roads fC fdC) (gC : mg "roads" = some (.ref fC)) (G : FnOk P w K mg base (L2N.CX P w) 4 fC fdC ["rides", "trips"] (spBad K CR CT 0)) :
    FnOk P w K mg base (L2N.CX P w) 5 f fd ["rides", "trips", "row"] (spBad K CR CT 1) := by
  refine F.ok sc_day (fun vs H Q E h => ?_) (fun cdv A outer s H vs Q E hr h => ?_)
  · obtain ⟨a, b, more, rfl, hm, _⟩ := h
    show more.length + 1 + 1 = _
    rw [hm]
    rfl
  · obtain ⟨a, b, more, rfl, hm, bad⟩ := h
    have bC := bi_roads FC
    refine ⟨_, pss_cons (ps_set (i := 3) sc_day.nd rfl (Or.inl rfl) (by exact (pe_callS G hr rfl gC FC.kp bC (fun σ => L2N.passAt (L2N.takes_of rfl rfl rfl rfl) σ) (by exact (pa_cons (pv 0) (pa_cons (pv 1) pa_nil)))))) pss_never, ?_⟩
    exact ⟨_, rfl, _, rfl, a, b, [], rfl, rfl, bad⟩
theorem ok_behind_bad {f fC : Addr} {fd fdC : FuncData} {CR CT : Addr} (F : Fn K "behind" s_behind f fd) (FC : Fn K "looked" s_looked fC fdC) (gC : mg "looked" = some (.ref fC)) (G : FnOk P w K mg base (L2N.CX P w) 3 fC fdC ["rides", "trips"] (spBad K CR CT 0)) :
    FnOk P w K mg base (L2N.CX P w) 4 f fd ["rides", "trips"] (spBad K CR CT 0) := by
  refine F.ok sc_behind (fun vs H Q E h => ?_) (fun cdv A outer s H vs Q E hr h => ?_)
  · obtain ⟨a, b, more, rfl, hm, _⟩ := h
    show more.length + 1 + 1 = _
    rw [hm]
    rfl
  · obtain ⟨a, b, more, rfl, hm, bad⟩ := h
    have bC := bi_looked FC
    refine ⟨_, pss_cons (ps_expr (by exact (pe_callS G hr rfl gC FC.kp bC (fun σ => L2N.passAt (L2N.takes_of rfl rfl rfl rfl) σ) (by exact (pa_cons (pv 0) (pa_cons (pv 1) pa_nil)))))) pss_never, ?_⟩
    exact ⟨_, rfl, _, rfl, a, b, [], rfl, rfl, bad⟩
theorem ok_plan_bad {f fC : Addr} {fd fdC : FuncData} {CR CT : Addr} (F : Fn K "plan" s_plan f fd) (FC : Fn K "behind" s_behind fC fdC) (gC : mg "behind" = some (.ref fC)) (G : FnOk P w K mg base (L2N.CX P w) 4 fC fdC ["rides", "trips"] (spBad K CR CT 0)) :
    FnOk P w K mg base (L2N.CX P w) 5 f fd ["rides", "trips"] (spBad K CR CT 0) := by
  refine F.ok sc_plan (fun vs H Q E h => ?_) (fun cdv A outer s H vs Q E hr h => ?_)
  · obtain ⟨a, b, more, rfl, hm, _⟩ := h
    show more.length + 1 + 1 = _
    rw [hm]
    rfl
  · obtain ⟨a, b, more, rfl, hm, bad⟩ := h
    have bC := bi_behind FC
    refine ⟨_, pss_cons (ps_set (i := 2) sc_plan.nd rfl (Or.inl rfl) (by exact (pe_callS G hr rfl gC FC.kp bC (fun σ => L2N.passAt (L2N.takes_of rfl rfl rfl rfl) σ) (by exact (pa_cons (pv 0) (pa_cons (pv 1) pa_nil)))))) pss_never, ?_⟩
    exact ⟨_, rfl, _, rfl, a, b, [], rfl, rfl, bad⟩
theorem ok_holds_bad {f fC : Addr} {fd fdC : FuncData} {CR CT : Addr} (F : Fn K "holds" s_holds f fd) (FC : Fn K "looked" s_looked fC fdC) (gC : mg "looked" = some (.ref fC)) (G : FnOk P w K mg base (L2N.CX P w) 3 fC fdC ["rides", "trips"] (spBad K CR CT 0)) :
    FnOk P w K mg base (L2N.CX P w) 4 f fd ["rides", "trips", "rows", "apart"] (spBad K CR CT 2) := by
  refine F.ok sc_holds (fun vs H Q E h => ?_) (fun cdv A outer s H vs Q E hr h => ?_)
  · obtain ⟨a, b, more, rfl, hm, _⟩ := h
    show more.length + 1 + 1 = _
    rw [hm]
    rfl
  · obtain ⟨a, b, more, rfl, hm, bad⟩ := h
    have bC := bi_looked FC
    refine ⟨_, pss_cons (ps_expr (by exact (pe_callS G hr rfl gC FC.kp bC (fun σ => L2N.passAt (L2N.takes_of rfl rfl rfl rfl) σ) (by exact (pa_cons (pv 0) (pa_cons (pv 1) pa_nil)))))) pss_never, ?_⟩
    exact ⟨_, rfl, _, rfl, a, b, [], rfl, rfl, bad⟩
end
end Fb
/-! Within an except suite: a def that is handed the caught error, isinstance of it there, a comprehension over a range. -/
namespace Fb
open PySem PySem.Spec PyProof.Rows L2
/-! ### a def that is handed the caught error: what it promises may speak of it -/
structure FnM (P : Program) (w : World) (K : PySem.W.Frag) (mg : Str → Option Value) (base : Heap) (k : Nat) (f : Addr) (fd : FuncData) (ps : List Str) (sp : Addr × Obj → Sp) : Prop where
  len : ∀ p vs H Q E, sp p vs H Q E → vs.length = ps.length
  run : ∀ (p : Addr × Obj) (A : Around) (outer : List Env) (s : Shared) (H : Hp) (args : Args) (us : List Value) (vs : List V) (Q : VK) (E : XK),
    L2H.RoomH k A → L2H.PinOk outer H s p → Env0 P w K mg base A outer s H → BindsTo s fd args (ps.zip us) → Vals vs us → sp p vs H Q E →
      codeAny (model P w) A (.call (.ref f) args) (CR CX0 outer P w H s Q E) s
section
variable {P : Program} {w : World} {K : PySem.W.Frag} {mg : Str → Option Value} {base : Heap}
theorem fnM_of {x : Str} {st : Stmt} {f : Addr} {fd : FuncData} {N ps : List Str} {k : Nat} {sp : Addr × Obj → Sp} (F : Fn K x st f fd) (S : FnScope N ps (defScope st)) (len : ∀ p vs H Q E, sp p vs H Q E → vs.length = ps.length)
    (walk : ∀ (p : Addr × Obj) (cdv : Value) (A : Around) (outer : List Env) (s : Shared) (H : Hp) (vs : List V) (Q : VK) (E : XK), L2H.RoomH k (A.deeper (envOfC x (defScope st) s.heap.objs.size f cdv)) → sp p vs H Q E →
      ∃ t, PSs (L2H.cxH CX0 P w K mg base N x (defScope st) f cdv A outer s H E p) (defBody st) t ∧ t { nx := fun _ H' => Q .non H', rt := Q } (L2.start N vs) H) : FnM P w K mg base (k + 1) f fd ps sp := by
  obtain ⟨oc, od, dV, kV, doc, pm, an, cdv, ct, osl, rfl, at_f, code, _, _⟩ := F.ex
  constructor
  · exact len
  intro p A outer s H args us vs Q E room pin around binds rel told
  have many := len p vs H Q E told
  have old : ∀ b o, base.get? b = some o → s.heap.get? b = some o := fun b o e => (around.bs b o e).1
  have kin : K.In s.heap := around.mod.kin.keeps old
  have free : s.heap.NoLimit := around.mod.nolimit.keeps old
  have names : ∀ y ∈ ps.zip us, (defScope st).names.lookup y.1 = some .local ∨ ((defScope st).names.lookup y.1 = some .cell ∧ ((cellsFrom (s.heap.objs.size + 1) (defScope st).names []).lookup y.1).isSome = true) := by
    rintro ⟨n, v⟩ hy
    exact (S.par n (List.of_mem_zip hy).1).imp id fun c => ⟨c, PySem.W.cellsFrom_some _ _ _ (.inl c)⟩
  refine codeAny_call_function room.depth (kin _ _ at_f) rfl S.co S.gen rfl (PySem.W.codeRec_of kin code) (binds _ _ _ _ (wpAny_newFunctionEnv_cells S.kind names fun env he s1 entry => ?_))
  subst he
  obtain ⟨t, body, told2⟩ := walk p cdv A outer s H vs Q E (room.deeper _) told
  have I := L2H.inv_startH (CX := CX0) (E := E) S pin around many rel entry
  refine ⟨free.keeps entry.toInCall.keep, codeAny_func (wpAny_mono (body.run [] s1 _ H _ I told2) (fun fl s' after => ?_) fun _ _ z => z)⟩
  cases fl with
  | next =>
    obtain ⟨σ', H', J, q⟩ := after
    exact ⟨V.non, H', J.os, J.bare, J.base, J.hok, rfl, q⟩
  | ret u =>
    obtain ⟨v, σ', H', J, r, q⟩ := after
    exact ⟨v, H', J.os, J.bare, J.base, J.hok, r, q⟩
  | brk =>
    obtain ⟨_, _, _, q⟩ := after
    exact q.elim
  | cont =>
    obtain ⟨_, _, _, q⟩ := after
    exact q.elim
end
section
variable {X : Cx} {k : Nat} {f : Addr} {fd : FuncData} {ps : List Str} {sp : Addr × Obj → Sp} {x : Str} {q pos : Pos} {e : Expr} {es : List Expr} {t : TA}
/-- its call, p one of the objects that the context pins -/
theorem pe_callM {sp' : List V → Hp → VK → Prop} (p : Addr × Obj) (hp : p ∈ X.pn) (hsp : ∀ vs H Q, sp' vs H Q → sp p vs H Q fun _ _ _ => False) (F : FnM X.prog X.w X.K X.mg X.base k f fd ps sp) (hr : L2H.RoomH k X.A) (hg : Gl X x) (hm : X.mg x = some (.ref f)) (hk : PySem.W.keepIn X.K (.ref f) = true) (hb : Binds X.K fd ps []) (ha : PA X (e :: es) t)
    (hdb : (x == ("__debug__" : Str)) = false := by decide)
    (he : starEach (e :: es) X.env = (false, eval e X.env) :: starEach es X.env := by rfl)
    (hpl : (backTo pos (starEach es X.env)).any (·.1) = false := by rfl) :
    PE X (.Call (.Name x q) (e :: es) [] pos) (fun σ H Q => t σ H fun vs H1 => sp' vs H1 Q) := by
  constructor
  intro pins s σ H Q I told
  refine wpAny_Call_Name_kw (ld_glob I hg hm (PySem.W.callWith_K (h₀ := X.base) I.ok.mod.kin hk (thn (ha.run pos pins s σ H _ I told) fun us s1 got => ?_) he hpl) hdb)
  obtain ⟨vs, H1, J, rel, told0⟩ := got
  have told1 := hsp vs H1 Q told0
  refine ⟨J.kIn, ?_⟩
  have many : us.length = ps.length := rel.length ▸ F.len p vs H1 Q _ told1
  have bt := hb s1 us J.kIn (by rw [List.append_nil]; exact many)
  rw [List.append_nil] at bt
  obtain ⟨p1, p2, p3, p4, p5⟩ := J.pin p (List.mem_append_left _ hp)
  have pin : L2H.PinOk X.stack H1 s1 p := ⟨p1, p2, fun z => (List.mem_cons.mp (J.stkSub p.1 z)).elim p3 p4, p5⟩
  refine wpAny_call (codeAny_mono (F.run p X.A X.stack s1 H1 ⟨us, []⟩ us vs Q _ hr pin J.env0 bt rel told1) fun r s2 done => ?_)
  match r, done with
  | .ok (.ret u), done => exact J.after done
  | .ok .next, done => exact done.elim
  | .ok .brk, done => exact done.elim
  | .ok .cont, done => exact done.elim
  | .error u, done => exact done.elim
/-- isinstance of an object that the context pins, an instance of the class D -/
theorem call_isM {D : Addr} {p : Addr × Obj} (C : ExcC X.K D) (hp : p ∈ X.pn) (hc : p.2.cls = .ref D) (hd : p.2.dict = none) (hf : ∃ vs, p.2.data = .fields vs) : CallR X (.builtin "isinstance") (rIsE X.K D p.1) := by
  intro pins s σ H xs us Q I rel told
  obtain ⟨c, cv, b, rfl, hcv, kit, q⟩ := told
  cases rel with
  | cons r1 rel =>
    cases rel with
    | cons r2 rel =>
      cases rel
      cases r1
      obtain rfl := hcv _ r2
      have at_p := (I.pin p (List.mem_append_left _ hp)).1
      have inst : PySem.W.InstAt s.heap p.1 p.2 D none := by
        obtain ⟨a, oc, od, oda, osl⟩ := p
        obtain ⟨vs, hf⟩ := hf
        dsimp only at hc hd hf at_p
        subst hc hd hf
        exact ⟨at_p, rfl, rfl, trivial⟩
      exact PySem.W.kia_one (PySem.W.handS_kitx_exc C.hg C.hk C.hs C.hd C.ha C.hn C.ht C.hm) I.kIn inst kit (fun z => nomatch z) fun tk => ⟨.bl b, H, I.kept (t' := tk) fun _ _ z => z, rfl, q⟩
end
/-! ### [elt for k in range(n)] there -/
/-- the block of a comprehension, where a handled error is pinned -/
abbrev blkH (X : Cx) (s : Shared) (H : Hp) (scope : Scope) (cenv : Env) (fp : List Addr) (p : Addr × Obj) : Cx := { X.blk s H scope cenv fp with pn := [p] }
section
variable {X : Cx} {σ : L2.St} {s s0 : Shared} {H H0 : Hp} {scope : Scope} {ce : Env} {fp : List Addr} {p : Addr × Obj}
theorem blk_pin {pins : List (Addr × Obj)} (I : Inv (X.blk s0 H0 scope ce fp) pins σ H s) (h : s.heap.get? p.1 = some p.2 ∧ H p.1 = none ∧ p.1 ≠ ce.locals ∧ p.1 ∉ frs X.stack ∧ ∀ v, p.2.data ≠ .cell v) : Inv (blkH X s0 H0 scope ce fp p) pins σ H s :=
  have o := I.ok
  { ok := ⟨o.mod, o.kind, o.glob, o.blt, o.above, o.inj, o.has, o.cab, o.hd, o.frames, o.stk, o.exf, o.bs, o.bsz, o.noex, o.exfs, o.funs, o.frf⟩
    os := I.os, bare := I.bare, base := I.base, loc := I.loc, cell := I.cell, free := I.free, freeC := I.freeC, hok := I.hok, len := I.len
    pin := fun r hr => (List.mem_append.mp hr).elim (fun z => List.mem_singleton.mp z ▸ h) fun z => I.pin r (List.mem_append_right _ z) }
end
theorem pe_lcH {X : Cx} {elt tg iter : Expr} {scope : Scope} {own : List (Str × Nat)} {pos : Pos} {wi : TI} {g : TG} {te : TE} (hot : L2H.HotC X) (hN : X.N.Nodup) (hi : L2H.PIH X tg iter wi) (ok : BlkOk X.N X.env.scope scope own)
    (hg : ∀ (s : Shared) (H : Hp) (C : Addr) (cl : List (Str × Addr)) (fp : List Addr) (p : Addr × Obj), PG (blkH X s H scope (compEnvC scope cl C X.env) fp p) tg g) (he : ∀ (s : Shared) (H : Hp) (C : Addr) (cl : List (Str × Addr)) (fp : List Addr) (p : Addr × Obj), PE (blkH X s H scope (compEnvC scope cl C X.env) fp p) elt te) (hs : ∀ x, foldedSetIterable iter X.env x = pure x := by intro _; rfl) :
    PE X (.ListComp elt [⟨tg, iter, [], 0⟩] scope pos) (tLc wi g tYes te (own.map (·.2))) := by
  constructor
  intro pins s σ H Q I told
  obtain ⟨p, hp, hpn⟩ := hot
  have caught : ∀ y ∈ scope.names, y.2 = .free → ∃ c, X.env.cells.lookup y.1 = some c := fun y hy e => I.ok.has _ (ok.free y hy e)
  rw [eval_ListComp]
  refine wpAny_comprehension_free (use := none) rfl hs (closure_ok caught) ok.kind (fun y hy e => (ok.uniq y hy).trans (by rw [e])) (thn (hi.run pins s σ H _ I told) fun xv s1 made => thn made fun itv s2 walk => ?_)
  obtain ⟨it, fp, tn, J, H2, rfl, v2, T, k2, o2, next⟩ := walk
  refine wpAny_newObj_type (newEnv_comp ?_) (Nat.zero_le _)
  -- the list that is made, at D
  obtain ⟨D, hD⟩ : ∃ D, D = s2.heap.objs.size := ⟨_, rfl⟩
  obtain ⟨W, ⟨m0, w0⟩, turn⟩ := next D (v2.hok.fresh (Nat.le_of_eq hD.symm))
  obtain ⟨s3, hs3⟩ : ∃ s3 : Shared, s3 = { s2 with heap := s2.heap.push { cls := .type "list", data := .seq ([] : List Value).toArray } } := ⟨_, rfl⟩
  have grown : ∀ b o, s2.heap.get? b = some o → s3.heap.get? b = some o := fun b o e => by
    rw [hs3]
    exact Heap.get?_push_of_some _ e
  have v3 : Inv X pins σ (upd H2 D (.lst [])) s3 := by
    have new : ObjOk X.prog X.w (upd H2 D (.lst [])) s3.heap D (.lst []) := ⟨Nat.zero_le _, [], 0, .nil, by rw [hs3, hD]; exact Heap.get?_push_size _ rfl⟩
    have J3 := v2.laid (t' := s2.toks) grown (Nat.le_of_eq hD.symm) new
    have e : ({ s2 with heap := s3.heap, toks := s2.toks } : Shared) = s3 := by rw [hs3]
    rw [e] at J3
    exact J3
  have o3 : ∀ b ∈ fp, FpOk X pins (upd H2 D (.lst [])) b ∧ b < s3.heap.objs.size := fun b hb => by
    obtain ⟨o, e, _⟩ := T.obj _ _ k2 b hb
    have below := Heap.lt_size e
    refine ⟨⟨?_, (o2 b hb).2⟩, Heap.lt_size (grown _ _ e)⟩
    rw [upd_ne (fun z => absurd below (by rw [z, hD]; exact Nat.lt_irrefl _))]
    exact (o2 b hb).1
  have k3 : tn 0 s3.heap := T.keep _ _ _ k2 fun b _ o e => grown b o e
  obtain ⟨H3, hH3⟩ : ∃ H3, H3 = upd H2 D (.lst []) := ⟨_, rfl⟩
  rw [← hH3] at v3 o3 w0
  rw [show ({ s2 with heap := s2.heap.push { cls := .type "list", data := .seq ([] : List Value).toArray } } : Shared) = s3 from hs3.symm, ← hD]
  -- the block
  have pin3 := v3.pin p (List.mem_append_left _ hpn)
  have v4 := block_start v3 ok hN o3
  have G := fun fp' => hg s3 H3 s3.heap.objs.size (cellsFrom (s3.heap.objs.size + 1) scope.names (cloFrom X.env.cells scope.names [])) fp' p
  have L := fun fp' => he s3 H3 s3.heap.objs.size (cellsFrom (s3.heap.objs.size + 1) scope.names (cloFrom X.env.cells scope.names [])) fp' p
  show codeAny _ _ (.compStart (.ListComp elt [⟨tg, iter, [], 0⟩] scope pos) 0 (.ref it) (.ref D) (compEnvC scope (cellsFrom (s3.heap.objs.size + 1) scope.names (cloFrom X.env.cells scope.names [])) s3.heap.objs.size X.env)) (compPost (model X.prog X.w) X.A X.xe none (EP X pins σ Q) (.ref D) s3.heap.objs.size) { s3 with heap := pushCells (s3.heap.push { cls := .type "dict", data := .dict #[] }) scope.names }
  obtain ⟨ce, hce⟩ : ∃ ce, ce = compEnvC scope (cellsFrom (s3.heap.objs.size + 1) scope.names (cloFrom X.env.cells scope.names [])) s3.heap.objs.size X.env := ⟨_, rfl⟩
  have loc : ce.locals = s3.heap.objs.size := by rw [hce]; rfl
  rw [← hce] at v4 ⊢
  have G : PG (blkH X s3 H3 scope ce fp p) tg g := by rw [hce]; exact G fp
  have L : PE (blkH X s3 H3 scope ce fp p) elt te := by rw [hce]; exact L fp
  obtain ⟨s4, hs4⟩ : ∃ s4 : Shared, s4 = { s3 with heap := pushCells (s3.heap.push { cls := .type "dict", data := .dict #[] }) scope.names } := ⟨_, rfl⟩
  rw [← hs4] at v4 ⊢
  have grown4 : ∀ b o, s3.heap.get? b = some o → s4.heap.get? b = some o := fun b o e => by
    rw [hs4]
    exact pushCells_keeps _ _ _ _ (Heap.get?_push_of_some _ e)
  have k4 : tn 0 s4.heap := T.keep _ _ _ k3 fun b _ o e => grown4 b o e
  have nstk : p.1 ∉ frs X.stack := fun z => (List.mem_cons.mp (v3.stkSub p.1 z)).elim pin3.2.2.1 pin3.2.2.2.1
  have B4 : Inv (blkH X s3 H3 scope ce fp p) [] (wipe σ (own.map (·.2))) H3 s4 := blk_pin v4 ⟨grown4 _ _ pin3.1, pin3.2.1, by rw [loc]; exact Nat.ne_of_lt (Heap.lt_size pin3.1), nstk, pin3.2.2.2.2⟩
  have hotB : L2H.HotC (blkH X s3 H3 scope ce fp p) := ⟨p, hp, List.mem_singleton.mpr rfl⟩
  have stay : ∀ {σ' : L2.St} {H' : Hp} {s' : Shared}, Inv (blkH X s3 H3 scope ce fp p) [] σ' H' s' → (∀ b ∈ fp, H' b = none) → ∀ b ∈ fp, FpOk (blkH X s3 H3 scope ce fp p) [] H' b := fun J free b hb =>
    ⟨free b hb, (J.ok.exf b hb).1, J.ok.exfs b hb, .inl hb, fun x c e => (J.ok.exf b hb).2 x c e, fun r hr z => (o3 b hb).1.2.2.2.2.2 p (List.mem_append_left _ hpn) (by
      have er : r = p := (List.mem_append.mp hr).elim (fun y => List.mem_singleton.mp y) fun y => nomatch y
      rw [← er]
      exact z)⟩
  have loop : codeAny (model X.prog X.w) X.A (.compLoop (.ListComp elt [⟨tg, iter, [], 0⟩] scope pos) 0 (.ref it) (.ref D) ce) (compPost (model X.prog X.w) X.A X.xe none (EP X pins σ Q) (.ref D) s3.heap.objs.size) s4 := by
    refine compLoop_any (fun n s' => ∃ i H', Inv (blkH X s3 H3 scope ce fp p) [] (wipe σ (own.map (·.2))) H' s' ∧ tn i s'.heap ∧ (∀ b ∈ fp, H' b = none) ∧ W i n H') ?_ m0 ⟨0, H3, B4, k4, fun b hb => (o3 b hb).1.1, w0⟩
    intro n s5 ⟨i, H5, v5, k5, z5, w5⟩
    rcases turn i n H5 w5 with ⟨stop, told5⟩ | ⟨go, Nx, less, step⟩
    · refine thnF (T.done (blkH X s3 H3 scope ce fp p) rfl rfl rfl hotB i [] s5 _ H5 _ v5 (stay v5 z5) k5 stop) fun r s6 ⟨none_, v6⟩ => ?_
      subst none_
      have back : Inv X pins σ H5 s6 := v3.call' (ch := fp) v6.os v6.base v6.hok v6.bare fun b hb => ⟨(o3 b hb).1.2.2.2.1, (o3 b hb).1.2.1, (o3 b hb).1.2.2.2.2.1, (o3 b hb).1.2.2.2.2.2⟩
      have freeC : H5 s3.heap.objs.size = none := loc ▸ (show H5 ce.locals = none from v6.free)
      obtain ⟨m, held, _⟩ := v6.loc
      obtain ⟨f0, f1, f2', f3', f4, f5⟩ := v3.fpOk (Nat.le_refl _) freeC
      refine ⟨m, loc ▸ (show s6.heap.Ns ce.locals m from held), fun h'' but => ⟨.ref D, H5, back.turned (t' := s6.toks) (fun b o hb e => (but.2 b hb).trans e) f0 f1 f3' f4 f5, rfl, told5⟩⟩
    · refine thnF (T.item (blkH X s3 H3 scope ce fp p) rfl rfl rfl hotB i [] s5 _ H5 _ v5 (stay v5 z5) k5 go) fun r s6 ⟨u, some_, yields⟩ => ?_
      subst some_
      refine thnF yields fun _ s7 ⟨x, H7, v7, r7, y7, k7, z7⟩ => ?_
      have w7 := v7.pinned (stay v7 z7) (T.obj _ _ k7)
      refine thnF (G.run _ s7 _ H7 x u _ w7 r7 (step x H7 y7)) fun _ s8 ⟨σ8, H8, v8, same8, q8⟩ => ?_
      refine wpAny_tests_nil ?_
      rw [if_pos rfl]
      have q8 : te σ8 H8 fun y H4 => ∃ acc, H4 D = some (.lst acc) ∧ acc.length < sizeLine ∧ Nx (upd H4 D (.lst (acc ++ [y]))) := q8
      refine thnF (L.run _ s8 σ8 H8 _ v8 q8) fun z s9 ⟨y, H9, v9, r9, acc, atD, short, nx⟩ => ?_
      refine app_ok (X := blkH X s3 H3 scope ce fp p) v9 atD short r9 fun s10 v10 => ?_
      obtain ⟨m', lt', w'⟩ := less _ nx
      have kept : ∀ b ∈ fp, ∀ o, s7.heap.get? b = some o → s10.heap.get? b = some o ∧ (upd H9 D (.lst (acc ++ [y]))) b = none := fun b hb o e =>
        have z := v10.pin (b, o) (List.mem_append_right _ (List.mem_append_right _ (mem_pinsAt hb e)))
        ⟨z.1, z.2.1⟩
      refine ⟨m', lt', i + 1, _, (v10.unpinned (pins := [])).weak (by rw [← same8, wipe_length]) (fun j v e => ?_), T.keep _ _ _ k7 fun b hb o e => (kept b hb o e).1, fun b hb => ?_, w'⟩
      · rw [← same8] at e
        exact (wipe_some e).1
      · obtain ⟨o, e, _⟩ := T.obj _ _ k7 b hb
        exact (kept b hb o e).2
  refine codeAny_compStart_list loop (T.self X.A 0 _ _ _ k4 loop)
end Fb
/-! What a law builds: letters, cells of the script. -/
namespace Fb
open PySem PySem.Spec PyProof.Rows L2
/-! ### letters -/
def letL : List Nat := letters.cps.toList
theorem letL_len : letL.length = 26 := by decide +kernel
def lt (z : Int) : Nat := letL.getD z.toNat 97
theorem lt_at {z : Int} (h0 : 0 ≤ z) (h1 : z < 26) : atI letL z = some (lt z) := by
  have hz : z.toNat < letL.length := by rw [letL_len]; omega
  have e : letL[z.toNat]? = some (lt z) := by
    unfold lt
    rw [List.getD_eq_getElem?_getD, List.getElem?_eq_getElem hz]
    rfl
  have := atI_nat e
  rw [show ((z.toNat : Nat) : Int) = z by omega] at this
  exact this
theorem lt_in (z : Int) : lt z ∈ letters.cps.toList := by
  have h : ∀ n : Nat, letL.getD n 97 ∈ letL := fun n => by
    by_cases hn : n < letL.length
    · rw [List.getD_eq_getElem?_getD, List.getElem?_eq_getElem hn]
      exact List.getElem_mem hn
    · rw [List.getD_eq_getElem?_getD, List.getElem?_eq_none (by omega)]
      exact (by decide +kernel : 97 ∈ letL)
  exact h z.toNat
theorem lt_inj {a b : Int} (ha : 0 ≤ a) (ha1 : a < 26) (hb : 0 ≤ b) (hb1 : b < 26) (h : lt a = lt b) : a = b := by
  have key : ∀ i : Nat, i < 26 → ∀ j : Nat, j < 26 → letL.getD i 97 = letL.getD j 97 → i = j := by decide +kernel
  have := key a.toNat (by omega) b.toNat (by omega) h
  omega
theorem okPlace_of {l : List Nat} (h1 : 1 ≤ l.length) (h2 : l.length ≤ 12) (h : ∀ c ∈ l, c ∈ letters.cps.toList) : okPlace (SX.S l) := ⟨by rw [SX.S_len]; exact h1, by rw [SX.S_len]; exact h2, fun c hc => h c hc⟩
theorem nodup_range_map {β : Type} {f : Nat → β} {n : Nat} (h : ∀ i j, i < n → j < n → f i = f j → i = j) : ((List.range n).map f).Nodup := by
  unfold List.Nodup
  rw [List.pairwise_map]
  refine List.Pairwise.imp_of_mem (R := fun a b => a < b) ?_ List.pairwise_lt_range
  intro a b ha hb hlt e
  have := h a b (List.mem_range.mp ha) (List.mem_range.mp hb) e
  omega
/-! ### a sign, so many times -/
section
variable {X : Cx}
theorem op_mul_sign : OpR X (binaryOp .Mult) (fun x y H Q => ∃ (c : Nat) (k : Int), x = .str ⟨#[c]⟩ ∧ y = .int k ∧ -1000 ≤ k ∧ k ≤ 1000 ∧ Q (.str (SX.S (List.replicate k.toNat c))) H) := by
  intro pins s σ H x y v u Q I rx ry h
  obtain ⟨c, k, rfl, rfl, h1, h2, q⟩ := h
  obtain ⟨t, rfl⟩ := rx
  obtain ⟨t', rfl⟩ := ry
  refine SB.mul (mulOk_of 1 1000 (Nat.le_refl 1) h2 (by omega) (by decide) (by decide)) fun t' tk => ⟨.str (SX.S (List.replicate k.toNat c)), H, I.tok _, ⟨t', ?_⟩, q⟩
  have e : Txt.mul ⟨#[c]⟩ k = SX.S (List.replicate k.toNat c) := TL.ext_tl (mul_one_list c k)
  rw [e]
end
theorem cut_take (xs : List V) (k : Nat) : cutV xs none (some (k : Int)) = xs.take k := by
  unfold cutV
  rw [show HT.sIx xs.length 0 none = 0 from HT.sIx_none _ _, show HT.sIx xs.length xs.length (some (k : Int)) = min k xs.length from HT.sIx_nat _ _ k, List.drop_zero, Nat.sub_zero]
  by_cases h : k ≤ xs.length
  · rw [Nat.min_eq_left h]
  · rw [Nat.min_eq_right (by omega), List.take_of_length_le (Nat.le_refl _), List.take_of_length_le (by omega)]
/-! ### cells -/
def cellAt (ns : List Int) (k : Int) : Int := ns.getD k.toNat 0
def spCellAt (K : PySem.W.Frag) : Sp := fun vs H Q _ => ∃ a ns k, vs = [.ref a, .int k] ∧ SqL K H a (ns.map V.int) ∧ 0 ≤ k ∧ Q (.int (cellAt ns k)) H
section
variable {P : Program} {w : World} {K : PySem.W.Frag} {mg : Str → Option Value} {base : Heap}
theorem cal_law_cell_at {f : Addr} {fd : FuncData} (F : Fn K "_law_cell_at" s_law_cell_at f fd) (g : mg "_law_cell_at" = some (.ref f)) (B : Bi mg) : C8.Cal P w K mg base 1 "_law_cell_at" (spCellAt K) [] := by
  refine cal_of F g sc_law_cell_at (bi_law_cell_at F) (fun vs H Q E h => ?_) (fun cdv A outer s H vs Q E hr h => ?_)
  · obtain ⟨a, ns, k, rfl, _⟩ := h
    rfl
  · obtain ⟨a, ns, k, rfl, hS, h0, q⟩ := h
    
    refine ⟨_, (pss_cons (ps_if (pt_cmpR op_lt (pv 1) (pe_callB call_len_seq (by rfl) B.len PySem.boot_len (pa_cons (pv 0) pa_nil)) (nomark _)) (pss_one (ps_ret (pe_ix (r := rIxL K) ix_list (pv 0) (pv 1) (fun _ _ => rfl)))) pss_nil) (pss_one (ps_ret pe_int))), ?_⟩
    refine ⟨_, rfl, _, rfl, a, _, rfl, .inl hS, k, _, rfl, rfl, _, rfl, ite2 (fun c => ?_) (fun c => ?_)⟩
    · have hk : k.toNat < ns.length := by
        have := of_decide_eq_true c
        rw [List.length_map] at this
        omega
      have e : (ns.map V.int)[k.toNat]? = some (.int (cellAt ns k)) := by
        unfold cellAt
        rw [List.getElem?_map, List.getElem?_eq_getElem hk, List.getD_eq_getElem?_getD, List.getElem?_eq_getElem hk]
        rfl
      have e2 := atI_nat e
      rw [show ((k.toNat : Nat) : Int) = k by omega] at e2
      exact ⟨_, rfl, _, rfl, a, _, k, _, rfl, rfl, hS, e2, q⟩
    · have hk : ns.length ≤ k.toNat := by
        have := of_decide_eq_false (Bool.eq_false_iff.mpr c)
        rw [List.length_map] at this
        omega
      have e : cellAt ns k = 0 := by
        unfold cellAt
        rw [List.getD_eq_getElem?_getD, List.getElem?_eq_none hk]
        rfl
      rw [e] at q
      exact q
end
end Fb
/-! Dicts as lists of pairs; the table of a search. -/
namespace Fb
open PySem PySem.Spec PyProof.Rows L2
section
variable {α β : Type} [DecidableEq α]
def dOf (kf : α → Key) (vf : β → V) (l : List (α × β)) : List (Key × V) := l.map fun p => (kf p.1, vf p.2)
theorem valV_dOf {kf : α → Key} {vf : β → V} (inj : ∀ a b, kf a = kf b → a = b) (k : α) : ∀ l : List (α × β), valV (dOf kf vf l) (kf k) = (look l k).map vf
  | [] => rfl
  | p :: r => by
    show valV ((kf p.1, vf p.2) :: dOf kf vf r) (kf k) = _
    by_cases e : p.1 = k
    · rw [valV_pos (p := (kf p.1, vf p.2)) (show kf p.1 = kf k by rw [e])]
      simp [look, e]
    · rw [valV_neg (p := (kf p.1, vf p.2)) (show ¬ kf p.1 = kf k from fun z => e (inj _ _ z)), valV_dOf inj k r]
      simp [look, e]
theorem any_dOf {kf : α → Key} {vf : β → V} (inj : ∀ a b, kf a = kf b → a = b) (k : α) (l : List (α × β)) : ((dOf kf vf l).any fun kv => decide (kv.1 = kf k)) = (look l k).isSome := by
  rw [valV_any, valV_dOf inj]
  cases look l k <;> rfl
theorem map_keep {kf : α → Key} {vf : β → V} (inj : ∀ a b, kf a = kf b → a = b) {k : α} {v : β} : ∀ {l : List (α × β)}, k ∉ l.map (·.1) → (dOf kf vf l).map (fun kv => if kv.1 = kf k then (kv.1, vf v) else kv) = dOf kf vf l
  | [], _ => rfl
  | p :: r, h => by
    have hp : ¬ p.1 = k := fun z => h (by rw [← z]; exact List.mem_cons_self)
    have ih := map_keep (vf := vf) inj (k := k) (v := v) (l := r) fun z => h (List.mem_cons_of_mem _ z)
    show (if kf p.1 = kf k then (kf p.1, vf v) else (kf p.1, vf p.2)) :: (dOf kf vf r).map _ = (kf p.1, vf p.2) :: dOf kf vf r
    rw [if_neg fun z => hp (inj _ _ z), ih]
theorem map_put {kf : α → Key} {vf : β → V} (inj : ∀ a b, kf a = kf b → a = b) {k : α} {v : β} : ∀ {l : List (α × β)}, (l.map (·.1)).Nodup → look l k ≠ none → (dOf kf vf l).map (fun kv => if kv.1 = kf k then (kv.1, vf v) else kv) = dOf kf vf (put l k v)
  | [], _, h => absurd rfl h
  | p :: r, nd, h => by
    have nd2 : p.1 ∉ r.map (·.1) ∧ (r.map (·.1)).Nodup := List.nodup_cons.mp nd
    show (if kf p.1 = kf k then (kf p.1, vf v) else (kf p.1, vf p.2)) :: (dOf kf vf r).map _ = _
    by_cases c : p.1 = k
    · rw [if_pos (by rw [c]), map_keep inj (c ▸ nd2.1)]
      simp [put, c, dOf]
    · rw [if_neg fun z => c (inj _ _ z), map_put inj nd2.2 (by simpa [look, c] using h)]
      simp [put, c, dOf]
theorem putK_dOf {kf : α → Key} {vf : β → V} (inj : ∀ a b, kf a = kf b → a = b) {k : α} {v : β} : ∀ {l : List (α × β)}, (l.map (·.1)).Nodup → putK (dOf kf vf l) (kf k) (vf v) = dOf kf vf (put l k v) := by
  intro l nd
  unfold putK
  rw [any_dOf inj]
  cases e : look l k with
  | none =>
    rw [if_neg (by simp)]
    have : ∀ l : List (α × β), look l k = none → put l k v = l ++ [(k, v)] := fun l => by
      induction l with
      | nil => intro _; rfl
      | cons p r ih =>
        intro h
        by_cases c : p.1 = k
        · simp [look, c] at h
        · simp only [look, c, if_false] at h
          simp only [put, c, if_false, List.cons_append]
          rw [ih h]
    rw [this l e]
    unfold dOf
    rw [List.map_append]
    rfl
  | some w =>
    rw [if_pos (by simp)]
    exact map_put inj nd (by rw [e]; exact fun z => nomatch z)
theorem dOf_len {kf : α → Key} {vf : β → V} (l : List (α × β)) : (dOf kf vf l).length = l.length := by
  unfold dOf
  rw [List.length_map]
end
/-! ### places to minutes; numbers to numbers -/
theorem inr_inj : ∀ a b : Str, (Sum.inr a : Key) = Sum.inr b → a = b := fun _ _ h => Sum.inr.inj h
theorem inl_inj : ∀ a b : Nat, (Sum.inl (a : Int) : Key) = Sum.inl (b : Int) → a = b := fun _ _ h => Int.ofNat.inj (Sum.inl.inj h)
abbrev dS (l : List (Str × Int)) : List (Key × V) := dOf Sum.inr V.int l
abbrev dN (l : List (Nat × Nat)) : List (Key × V) := dOf (fun n : Nat => (Sum.inl (n : Int) : Key)) (fun n : Nat => V.int (n : Int)) l
theorem get_d {H : Hp} {p : Addr} {l : List (Str × Int)} (h : H p = some (.dK (dS l))) (k : Str) : DGet H p (.str k) ((look l k).map V.int) := .inl ⟨dS l, .inr k, .inl h, rfl, (valV_dOf inr_inj k l).symm⟩
/-- the table of the least minutes from x -/
structure Tab (R : List Ride) (x : Str) (l : List (Str × Int)) : Prop where
  told : Told R x l
  all : ∀ y, look l y = dist R x y
end Fb
/-! spread: the least minutes from a place. -/
namespace Fb
open PySem PySem.Spec PyProof.Rows L2
def spNeedP : Sp := fun vs H Q _ => ∃ z, vs = [.str z] ∧ okPlace z ∧ Q .non H
def spSpread (K : PySem.W.Frag) : Sp := fun vs H Q _ => ∃ (a b : Addr) (rides : List Ride) (trips : List Trip) (z : Str), vs = [.ref a, .ref b, .str z] ∧ Told2 K H a b rides trips ∧ okPlace z ∧
  ∀ H' p l, Same H H' → H p = none → H' p = some (.dK (dS l)) → Tab (roadsM rides trips) z l → Q (.ref p) H'
theorem pass_more {R : List Ride} {l : List (Str × Int)} {i : Nat} {r : Ride} (h : R[i]? = some r) : pass (R.take (i + 1)) l = relax (pass (R.take i) l) r := by
  unfold pass
  rw [List.take_add_one, h, List.foldl_append]
  rfl
theorem put_ne {l : List (Str × Int)} {k : Str} {v : Int} (h : look l k ≠ some v) : put l k v ≠ l := fun e => by
  have := look_put l k k v
  rw [if_pos rfl, e] at this
  exact h this
section
variable {P : Program} {w : World} {K : PySem.W.Frag} {mg : Str → Option Value} {base : Heap}
theorem cal_need_place {f : Addr} {fd : FuncData} (F : Fn K "need_place" s_need_place f fd) (g : mg "need_place" = some (.ref f)) (c_is_place : C8.Cal P w K mg base 1 "is_place" (spPlace K) []) : C8.Cal P w K mg base 2 "need_place" spNeedP [] := by
  refine cal_of F g sc_need_place (bi_need_place F) (fun vs H Q E h => ?_) (fun cdv A outer s H vs Q E hr h => ?_)
  · obtain ⟨z, rfl, _⟩ := h
    rfl
  · obtain ⟨z, rfl, ok, q⟩ := h
    
    refine ⟨_, (pss_one (ps_if (pt_not (pt_val (C8.pe_c c_is_place hr (by decide) (by rfl) (pa_cons (pv 0) pa_nil)))) (pss_one ps_never) pss_nil)), ?_⟩
    refine ⟨_, rfl, _, _, rfl, plain_of ok, ?_⟩
    rw [isPlace_ok ok]
    exact ⟨_, rfl, if_f rfl q⟩
theorem cal_spread {f : Addr} {fd : FuncData} (F : Fn K "spread" s_spread f fd) (g : mg "spread" = some (.ref f)) (c_roads : C8.Cal P w K mg base 4 "roads" (spRoads K) []) (c_need_place : C8.Cal P w K mg base 2 "need_place" spNeedP []) : C8.Cal P w K mg base 5 "spread" (spSpread K) [] := by
  refine cal_of F g sc_spread (bi_spread F) (fun vs H Q E h => ?_) (fun cdv A outer s H vs Q E hr h => ?_)
  · obtain ⟨a, b, rides, trips, z, rfl, _⟩ := h
    rfl
  · obtain ⟨a, b, rides, trips, z, rfl, T, okz, q⟩ := h
    have hu := hu_of hr
    
    refine ⟨_, (pss_cons (ps_set (i := 3) sc_spread.nd rfl (Or.inl rfl) (C8.pe_c c_roads hr (by decide) (by rfl) (pa_cons (pv 0) (pa_cons (pv 1) pa_nil)))) (pss_cons (ps_expr (C8.pe_c c_need_place hr (by decide) (by rfl) (pa_cons (pv 2) pa_nil))) (pss_cons (ps_set (i := 4) sc_spread.nd rfl (Or.inl rfl) (pe_disp (pps_cons (pv 2) pe_int pps_nil) (by rfl) (by rfl) (fun z => by cases z) (by decide))) (pss_cons (ps_set (i := 5) sc_spread.nd rfl (Or.inl rfl) pe_bl) (pss_cons (ps_while PassesOwn.never (pt_val (pv 5)) (pss_cons (ps_set (i := 5) sc_spread.nd rfl (Or.inl rfl) pe_bl) (pss_one (ps_for PassesOwn.never rfl (pi_list (pv 3)) (pg_name (i := 6) sc_spread.nd rfl (Or.inl rfl)) (pss_one (ps_if (pt_cmp (pc_din hu (pe_ix (r := rIxT K) ix_tup (pv 6) pe_int (fun _ _ => rfl)) (pv 4))) (pss_cons (ps_set (i := 7) sc_spread.nd rfl (Or.inl rfl) (pe_op op_add (pe_dget hu (pv 4) (pe_ix (r := rIxT K) ix_tup (pv 6) pe_int (fun _ _ => rfl)) (fun _ _ => rfl)) (pe_ix (r := rIxT K) ix_tup (pv 6) pe_int (fun _ _ => rfl)))) (pss_one (ps_if (PW.pt (pw_or (pt_cmp (pc_dnotin hu (pe_ix (r := rIxT K) ix_tup (pv 6) pe_int (fun _ _ => rfl)) (pv 4))) (pw_or1 (pt_cmpR op_lt (pv 7) (pe_dget hu (pv 4) (pe_ix (r := rIxT K) ix_tup (pv 6) pe_int (fun _ _ => rfl)) (fun _ _ => rfl)) (nomark _))))) (pss_cons (ps_dput hu (pv 4) (pe_ix (r := rIxT K) ix_tup (pv 6) pe_int (fun _ _ => rfl)) (pv 7) rfl) (pss_one (ps_set (i := 5) sc_spread.nd rfl (Or.inl rfl) pe_bl))) pss_nil))) pss_nil)))))) (pss_one (ps_ret (pv 4)))))))), ?_⟩
    have hp := posR T.okR T.okT
    have lM := roadsM_len rides trips
    have h100 := T.lenR
    have h101 := T.lenT
    refine ⟨_, rfl, _, rfl, a, b, rides, trips, rfl, T, fun H1 ro qs s1 nro ero tro => ?_⟩
    refine ⟨_, rfl, z, rfl, okz, ?_⟩
    intro p np
    refine ⟨_, rfl, upd_same, [(.inr z, .int 0)], rfl, (by show 1 ≤ 15; decide), ?_⟩
    obtain ⟨R, hR⟩ : ∃ R, R = roadsM rides trips := ⟨_, rfl⟩
    rw [← hR] at tro hp lM q
    have np0 : H p = none := s1.free np
    refine ⟨fun m σ H' => ∃ (k : Nat) (c : Bool) (y6 y7 : Option V), σ = [some (.ref a), some (.ref b), some (.str z), some (.ref ro), some (.ref p), some (.bl c), y6, y7] ∧ Same H1 H' ∧ H' p = some (.dK (dS (times R z k))) ∧
      (c = true → m + k = R.length + 1 ∧ k ≤ R.length) ∧ (c = false → m = 0 ∧ ∀ y, look (times R z k) y = dist R z y), ⟨R.length + 1, 0, true, none, none, rfl, ?_, ?_, fun _ => ⟨rfl, Nat.zero_le _⟩, fun h => nomatch h⟩, ?_⟩
    · exact same_put (same_upd np) np
    · rw [upd_same]
      rfl
    rintro m σ H2 ⟨k, c, y6, y7, rfl, s2, e2, hc, hc'⟩
    refine ⟨_, rfl, c, rfl, ?_⟩
    cases c with
    | false => exact if_f rfl ⟨_, rfl, q H2 p _ (s1.trans s2) np0 e2 ⟨times_told hp z k, (hc' rfl).2⟩⟩
    | true =>
      obtain ⟨hm, hk⟩ := hc rfl
      refine if_t rfl ⟨fun σ' H' => ∃ (c : Bool) (y6 y7 : Option V), σ' = [some (.ref a), some (.ref b), some (.str z), some (.ref ro), some (.ref p), some (.bl c), y6, y7] ∧ Same H1 H' ∧ H' p = some (.dK (dS (times R z (k + 1)))) ∧
        (c = false → ∀ y, look (times R z (k + 1)) y = dist R z y) ∧ (c = true → k < R.length), ?_, ?_⟩
      · rintro σ' H' ⟨c, y6, y7, rfl, s3, e3, g1, g2⟩
        cases c with
        | false => exact ⟨0, by omega, k + 1, false, y6, y7, rfl, s3, e3, (fun h => nomatch h), fun _ => ⟨rfl, g1 rfl⟩⟩
        | true =>
          have := g2 rfl
          exact ⟨m - 1, by omega, k + 1, true, y6, y7, rfl, s3, e3, fun _ => ⟨by omega, by omega⟩, fun h => nomatch h⟩
      · -- all roads, once
        have t0 := times_told hp z k
        refine ⟨_, rfl, ro, rfl, ⟨_, sqL_of (s2 _ _ ero)⟩, for_list (K := K) (a := ro) (xs := qs.map V.ref) (fun i σ H' => Same H1 H' ∧ H' p = some (.dK (dS (pass (R.take i) (times R z k)))) ∧
          ∃ (c : Bool) (y6 y7 : Option V), σ = [some (.ref a), some (.ref b), some (.str z), some (.ref ro), some (.ref p), some (.bl c), y6, y7] ∧
          (c = false → pass (R.take i) (times R z k) = times R z k ∧ ∀ r ∈ R.take i, relax (times R z k) r = times R z k) ∧ (c = true → ∃ r ∈ R, relax (times R z k) r ≠ times R z k))
          ⟨s2, e2, false, y6, y7, rfl, fun _ => ⟨rfl, fun _ h => nomatch h⟩, fun h => nomatch h⟩ (fun i σ H' _ ⟨s, _⟩ => sqL_of (s _ _ ero)) ?_ ?_⟩
        · rintro i x σ H3 hi ⟨s3, e3, c, y6, y7, rfl, g1, g2⟩
          obtain ⟨p1, r, rfl, hr1, hs⟩ := (tro.same s3).at hi
          have hrR : r ∈ R := List.mem_of_getElem? hr1
          have em := pass_more (l := times R z k) hr1
          have ti := (pass_told hp (R.take i) (fun _ h => List.mem_of_mem_take h) t0).1
          have tl := ti.len
          generalize hl : pass (R.take i) (times R z k) = l at *
          have take1 : R.take (i + 1) = R.take i ++ [r] := by
            rw [List.take_add_one, hr1]
            rfl
          -- nothing new: the same state
          have keep : relax l r = l → ∀ y : Option V, (Same H1 H3 ∧ H3 p = some (.dK (dS (pass (R.take (i + 1)) (times R z k)))) ∧
              ∃ (c' : Bool) (y6 y7 : Option V), [some (.ref a), some (.ref b), some (.str z), some (.ref ro), some (.ref p), some (.bl c), some (.ref p1), y] = [some (.ref a), some (.ref b), some (.str z), some (.ref ro), some (.ref p), some (.bl c'), y6, y7] ∧
              (c' = false → pass (R.take (i + 1)) (times R z k) = times R z k ∧ ∀ r ∈ R.take (i + 1), relax (times R z k) r = times R z k) ∧ (c' = true → ∃ r ∈ R, relax (times R z k) r ≠ times R z k)) := fun hk y => by
            refine ⟨s3, by rw [em, hk]; exact e3, c, _, _, rfl, fun hc => ?_, g2⟩
            obtain ⟨h1, h2⟩ := g1 hc
            refine ⟨by rw [em, hk]; exact h1, fun r' hr' => ?_⟩
            rw [take1] at hr'
            rcases List.mem_append.mp hr' with h | h
            · exact h2 r' h
            · rw [List.mem_singleton.mp h, ← h1]
              exact hk
          have get : ∀ k' : Str, DGet H3 p (.str k') ((look l k').map V.int) := fun k' => by
            have := DGet.k (k := (.inr k' : Key)) e3
            rw [valV_dOf inr_inj] at this
            exact this
          refine ⟨_, rfl, p1, _, 0, _, rfl, rfl, hs, atI_nat (j := 0) rfl, _, rfl, p, _, rfl, get r.1, _, rfl, ?_⟩
          cases h1 : look l r.1 with
          | none => exact if_f rfl (keep (relax_none h1) _)
          | some m1 =>
            refine if_t rfl ⟨_, rfl, _, rfl, p1, _, 0, _, rfl, rfl, hs, atI_nat (j := 0) rfl, p, .int m1, rfl, (by have := get r.1; rw [h1] at this; exact this), _, rfl, p1, _, 2, _, rfl, rfl, hs, atI_nat (j := 2) rfl, _, _, rfl, rfl, ?_⟩
            refine ⟨_, rfl, p1, _, 1, _, rfl, rfl, hs, atI_nat (j := 1) rfl, _, rfl, p, _, rfl, get r.2.1, _, rfl, ?_⟩
            -- a place told with less than it was
            have newer : relax l r = put l r.2.1 (m1 + r.2.2) → look l r.2.1 ≠ some (m1 + r.2.2) → (Same H1 (upd H3 p (.dK (putK (dS l) (.inr r.2.1) (.int (m1 + r.2.2))))) ∧ (upd H3 p (.dK (putK (dS l) (.inr r.2.1) (.int (m1 + r.2.2))))) p = some (.dK (dS (pass (R.take (i + 1)) (times R z k)))) ∧
                ∃ (c' : Bool) (y6 y7 : Option V), [some (.ref a), some (.ref b), some (.str z), some (.ref ro), some (.ref p), some (.bl true), some (.ref p1), some (.int (m1 + r.2.2))] = [some (.ref a), some (.ref b), some (.str z), some (.ref ro), some (.ref p), some (.bl c'), y6, y7] ∧
                (c' = false → pass (R.take (i + 1)) (times R z k) = times R z k ∧ ∀ r ∈ R.take (i + 1), relax (times R z k) r = times R z k) ∧ (c' = true → ∃ r ∈ R, relax (times R z k) r ≠ times R z k)) := fun hx hy => by
              refine ⟨same_put s3 np, ?_, true, _, _, rfl, (fun h => nomatch h), fun _ => ?_⟩
              · rw [upd_same, em, hx]
                exact congrArg (fun x => some (HO.dK x)) (putK_dOf inr_inj ti.nd)
              · cases c with
                | true => exact g2 rfl
                | false =>
                  refine ⟨r, hrR, ?_⟩
                  rw [← (g1 rfl).1, hx]
                  exact put_ne hy
            have hput : ∀ v : Int, DPut H3 p (.str r.2.1) (.int v) (upd H3 p (.dK (putK (dS l) (.inr r.2.1) (.int v)))) := fun v => DPut.k (k := (.inr r.2.1 : Key)) e3 (by
              rw [dOf_len]
              have : sizeLine = 16777216 := sizeLine_eq
              omega)
            cases h2 : look l r.2.1 with
            | none =>
              refine if_t rfl (if_t rfl ⟨_, rfl, _, rfl, _, rfl, p1, _, 1, _, rfl, rfl, hs, atI_nat (j := 1) rfl, p, _, rfl, hput _, ?_⟩)
              exact newer (relax_new h1 h2) (by rw [h2]; exact fun z => nomatch z)
            | some v =>
              refine if_f rfl ⟨_, rfl, _, rfl, _, rfl, p1, _, 1, _, rfl, rfl, hs, atI_nat (j := 1) rfl, p, .int v, rfl, (by have := get r.2.1; rw [h2] at this; exact this), _, _, rfl, rfl, _, rfl, ite2 (fun cc => ?_) (fun cc => ?_)⟩
              · have cc := of_decide_eq_true cc
                refine ⟨_, rfl, _, rfl, _, rfl, p1, _, 1, _, rfl, rfl, hs, atI_nat (j := 1) rfl, p, _, rfl, hput _, ?_⟩
                exact newer (relax_less h1 h2 cc) (by rw [h2]; exact fun z => by have := Option.some.inj z; omega)
              · exact keep (relax_keep h1 h2 (of_decide_eq_false (Bool.eq_false_iff.mpr cc))) _
        · rintro σ H3 ⟨s3, e3, c, y6, y7, rfl, g1, g2⟩
          have eR : R.take (qs.map V.ref).length = R := List.take_of_length_le (by rw [List.length_map, tro.1]; exact Nat.le_refl _)
          rw [eR] at e3 g1
          refine ⟨c, y6, y7, rfl, s3, e3, fun hc => ?_, fun hc => ?_⟩
          · have := g1 hc
            show ∀ y, look (pass R (times R z k)) y = dist R z y
            rw [this.1]
            exact t0.still hp this.2
          · obtain ⟨r, hr1, hne⟩ := g2 hc
            refine Nat.lt_of_le_of_ne hk fun e => hne ?_
            exact Told.keeps hp (times_all hp z (by omega)) hr1
end
end Fb
/-! Whether a bus can do a trip behind another one: the law of it, plain. -/
namespace Fb
open PySem PySem.Spec PyProof.Rows L2
def comesB (o : Option Int) (t1 t2 : Trip) : Bool := match o with
  | none => false
  | some m => decide (t1.2.2.2 + m ≤ t2.2.1)
noncomputable def canM (R : List Ride) (t1 t2 : Trip) : Bool := comesB (dist R t1.2.2.1 t2.1) t1 t2
theorem canM_iff {R : List Ride} {t1 t2 : Trip} : canM R t1 t2 = true ↔ ∃ m, dist R t1.2.2.1 t2.1 = some m ∧ t1.2.2.2 + m ≤ t2.2.1 := by
  unfold canM comesB
  cases dist R t1.2.2.1 t2.1 with
  | none => simp
  | some m => simp
theorem canM_begin {R : List Ride} {t1 t2 : Trip} (hp : PosR R) (h1 : okTrip t1) (h : canM R t1 t2 = true) : t1.2.1 < t2.2.1 := by
  obtain ⟨m, hm, hle⟩ := canM_iff.mp h
  have h0 := dist_nonneg hp hm
  have := h1.2.2.2.1
  omega
theorem canM_not {R : List Ride} {t1 t2 : Trip} (hp : PosR R) (h1 : okTrip t1) (h2 : okTrip t2) (h : canM R t1 t2 = true) : canM R t2 t1 = false := by
  cases e : canM R t2 t1 with
  | false => rfl
  | true =>
    have a := canM_begin hp h1 h
    have b := canM_begin hp h2 e
    omega
theorem canM_irr {R : List Ride} {t : Trip} (hp : PosR R) (h1 : okTrip t) : canM R t t = false := by
  cases e : canM R t t with
  | false => rfl
  | true =>
    have a := canM_begin hp h1 e
    omega
/-- the way of a trip itself -/
theorem trip_path {rides : List Ride} {trips : List Trip} {t : Trip} (h : t ∈ trips) (ok : okTrip t) : ∃ m, Path (roadsM rides trips) t.1 t.2.2.1 m ∧ m ≤ t.2.2.2 - t.2.1 := by
  by_cases c : t.1 = t.2.2.1
  · refine ⟨0, ?_, ?_⟩
    · rw [← c]
      exact .nil
    · have := ok.2.2.2.1
      omega
  · refine ⟨0 + (t.2.2.2 - t.2.1), Path.snoc .nil ?_, by omega⟩
    refine List.mem_append_right _ (List.mem_flatMap.mpr ⟨t, h, ?_⟩)
    unfold roadOf
    rw [if_neg c]
    exact List.mem_singleton.mpr rfl
theorem canM_trans {rides : List Ride} {trips : List Trip} {t1 t2 t3 : Trip} (hp : PosR (roadsM rides trips)) (hm : t2 ∈ trips) (ok : okTrip t2) (h : canM (roadsM rides trips) t1 t2 = true) (h' : canM (roadsM rides trips) t2 t3 = true) : canM (roadsM rides trips) t1 t3 = true := by
  obtain ⟨a, ha, la⟩ := canM_iff.mp h
  obtain ⟨b, hb, lb⟩ := canM_iff.mp h'
  obtain ⟨c, pc, lc⟩ := trip_path (rides := rides) hm ok
  obtain ⟨d, hd, ld⟩ := dist_path hp (((dist_eq.mp ha).1.trans pc).trans (dist_eq.mp hb).1)
  exact canM_iff.mpr ⟨d, hd, by omega⟩
end Fb
/-! Data as a whole: rides and trips in lists, compared. -/
namespace Fb
open PySem PySem.Spec PyProof.Rows L2
/-- data of no more than n levels, as it can be compared -/
def Sh (n : Nat) (d : PyData) : Prop := d.canLay0 = true ∧ d.depth ≤ n
theorem Sh.up {n m : Nat} {d : PyData} (h : Sh n d) (l : n ≤ m) : Sh m d := ⟨h.1, Nat.le_trans h.2 l⟩
theorem Sh.ok {n : Nat} {d : PyData} (h : Sh n d) (l : n ≤ 64) : SeqAt.shaped d = true := by
  show (d.canLay0 && decide (d.depth ≤ 64)) = true
  rw [h.1, decide_eq_true (Nat.le_trans h.2 l)]
  rfl
theorem sh_int (i : Int) : Sh 0 (.int i) := ⟨by simp [PyData.canLay0], by simp [PyData.depth]⟩
theorem sh_bool (b : Bool) : Sh 0 (.bool b) := ⟨by simp [PyData.canLay0], by simp [PyData.depth]⟩
theorem sh_none : Sh 0 .none := ⟨by simp [PyData.canLay0], by simp [PyData.depth]⟩
theorem sh_all {n : Nat} : ∀ {ds : List PyData}, (∀ d ∈ ds, Sh n d) → PyData.canLayAll0 ds = true ∧ PyData.depthAll ds ≤ n
  | [], _ => ⟨by simp [PyData.canLayAll0], by simp [PyData.depthAll]⟩
  | d :: ds, h => by
    have h1 := h d List.mem_cons_self
    have h2 := sh_all (ds := ds) fun e he => h e (List.mem_cons_of_mem _ he)
    refine ⟨?_, ?_⟩
    · simp only [PyData.canLayAll0, h1.1, h2.1, Bool.and_self]
    · simp only [PyData.depthAll]
      exact Nat.max_le.mpr ⟨h1.2, h2.2⟩
theorem sh_list {n : Nat} {ds : List PyData} (h : ∀ d ∈ ds, Sh n d) : Sh (n + 1) (.list ds) := by
  have h1 := sh_all h
  exact ⟨by simp only [PyData.canLay0, h1.1], by simp only [PyData.depth]; omega⟩
theorem sh_tuple {n : Nat} {ds : List PyData} (h : ∀ d ∈ ds, Sh n d) : Sh (n + 1) (.tuple ds) := by
  have h1 := sh_all h
  exact ⟨by simp only [PyData.canLay0, h1.1], by simp only [PyData.depth]; omega⟩
theorem sh_str {z : Str} (h : okPlace z) : Sh 0 (.str z) := by
  refine ⟨?_, by simp [PyData.depth]⟩
  have h1 : PyData.strOk z = true := by
    show z.cps.all (· < 0x110000) = true
    rw [← Array.all_toList]
    refine List.all_eq_true.mpr fun c hc => decide_eq_true ?_
    have : ∀ c ∈ letters.cps.toList, c < 0x110000 := by decide +kernel
    exact this c (h.2.2 c hc)
  simp only [PyData.canLay0, h1]
theorem eqv_same {n : Nat} {d : PyData} (h : Sh n d) : PyData.eqv d d = true := PySem.SeqAt.eqv_refl_plain d (PySem.PyData.plain_of_canLay0 d h.1)
/-! ### rides and trips -/
def rideD (r : Ride) : PyData := .tuple [.str r.1, .str r.2.1, .int r.2.2]
def tripD (t : Trip) : PyData := .tuple [.str t.1, .int t.2.1, .str t.2.2.1, .int t.2.2.2]
theorem sh_ride {r : Ride} (h1 : okPlace r.1) (h2 : okPlace r.2.1) : Sh 1 (rideD r) := sh_tuple fun d hd => by
  rcases List.mem_cons.mp hd with rfl | hd
  · exact sh_str h1
  rcases List.mem_cons.mp hd with rfl | hd
  · exact sh_str h2
  rw [List.mem_singleton.mp hd]
  exact sh_int _
theorem sh_trip {t : Trip} (h : okTrip t) : Sh 1 (tripD t) := sh_tuple fun d hd => by
  rcases List.mem_cons.mp hd with rfl | hd
  · exact sh_str h.1
  rcases List.mem_cons.mp hd with rfl | hd
  · exact sh_int _
  rcases List.mem_cons.mp hd with rfl | hd
  · exact sh_str h.2.1
  rw [List.mem_singleton.mp hd]
  exact sh_int _
theorem dp_ride {K : PySem.W.Frag} {H : Hp} {q : Addr} {r : Ride} (h : SqT K H q (rideV r)) : Dp K H (.ref q) (rideD r) := .tup h (.cons (.str _) (.cons (.str _) (.cons (.int _) .nil)))
theorem dp_trip {K : PySem.W.Frag} {H : Hp} {q : Addr} {t : Trip} (h : SqT K H q (tripV t)) : Dp K H (.ref q) (tripD t) := .tup h (.cons (.str _) (.cons (.int _) (.cons (.str _) (.cons (.int _) .nil))))
theorem dp_tups {β : Type} {K : PySem.W.Frag} {H : Hp} {f : β → List V} {d : β → PyData} (hd : ∀ q x, SqT K H q (f x) → Dp K H (.ref q) (d x)) : ∀ {qs : List Addr} {xs : List β}, Tups K H f qs xs → DpAll K H (qs.map V.ref) (xs.map d)
  | [], [], _ => .nil
  | [], _ :: _, t => by have := t.1; simp at this
  | _ :: _, [], t => by have := t.1; simp at this
  | q :: qs, x :: xs, t => .cons (hd q x (t.2 0 q x rfl rfl)) (dp_tups hd (qs := qs) (xs := xs) ⟨by have := t.1; simpa using this, fun i q' x' h1 h2 => t.2 (i + 1) q' x' (by simpa using h1) (by simpa using h2)⟩)
theorem dp_rows {β : Type} {K : PySem.W.Frag} {H : Hp} {f : β → List V} {d : β → PyData} {a : Addr} {xs : List β} (hd : ∀ q x, SqT K H q (f x) → Dp K H (.ref q) (d x)) (r : Rows K H f a xs) : Dp K H (.ref a) (.list (xs.map d)) := by
  obtain ⟨qs, h, t⟩ := r
  exact .lst h (dp_tups hd t)
theorem dp_rides {K : PySem.W.Frag} {H : Hp} {a : Addr} {rides : List Ride} (r : Rows K H rideV a rides) : Dp K H (.ref a) (.list (rides.map rideD)) := dp_rows (fun _ _ => dp_ride) r
theorem dp_trips {K : PySem.W.Frag} {H : Hp} {a : Addr} {trips : List Trip} (r : Rows K H tripV a trips) : Dp K H (.ref a) (.list (trips.map tripD)) := dp_rows (fun _ _ => dp_trip) r
theorem sh_rides {rides : List Ride} (h : ∀ r ∈ rides, okPlace r.1 ∧ okPlace r.2.1) : Sh 2 (.list (rides.map rideD)) := sh_list fun d hd => by
  obtain ⟨r, hr, rfl⟩ := List.mem_map.mp hd
  exact sh_ride (h r hr).1 (h r hr).2
theorem sh_trips {trips : List Trip} (h : ∀ t ∈ trips, okTrip t) : Sh 2 (.list (trips.map tripD)) := sh_list fun d hd => by
  obtain ⟨t, ht, rfl⟩ := List.mem_map.mp hd
  exact sh_trip (h t ht)
theorem roadsM_places {rides : List Ride} {trips : List Trip} (h1 : ∀ r ∈ rides, okRide r) (h2 : ∀ t ∈ trips, okTrip t) : ∀ r ∈ roadsM rides trips, okPlace r.1 ∧ okPlace r.2.1 := fun r hr => by
  rcases List.mem_append.mp hr with h | h
  · exact ⟨(h1 r h).1, (h1 r h).2.1⟩
  · obtain ⟨t, ht, hm⟩ := List.mem_flatMap.mp h
    unfold roadOf at hm
    by_cases c : t.1 = t.2.2.1
    · rw [if_pos c] at hm
      cases hm
    · rw [if_neg c] at hm
      rw [List.mem_singleton.mp hm]
      exact ⟨(h2 t ht).1, (h2 t ht).2.1⟩
/-- two lists of lists of rides and of trips: handed == [rides, trips] -/
theorem dp_two {K : PySem.W.Frag} {H : Hp} {x a b : Addr} {rides : List Ride} {trips : List Trip} (hx : SqL K H x [.ref a, .ref b]) (h1 : Rows K H rideV a rides) (h2 : Rows K H tripV b trips) :
    Dp K H (.ref x) (.list [.list (rides.map rideD), .list (trips.map tripD)]) := .lst hx (.cons (dp_rides h1) (.cons (dp_trips h2) .nil))
theorem sh_two {rides : List Ride} {trips : List Trip} (h1 : ∀ r ∈ rides, okRide r) (h2 : ∀ t ∈ trips, okTrip t) : Sh 3 (.list [.list (rides.map rideD), .list (trips.map tripD)]) := sh_list fun d hd => by
  rcases List.mem_cons.mp hd with rfl | hd
  · exact sh_rides fun r hr => ⟨(h1 r hr).1, (h1 r hr).2.1⟩
  rw [List.mem_singleton.mp hd]
  exact sh_trips h2
end Fb
/-! Which trip can be done behind which, by their numbers. -/
namespace Fb
open PySem PySem.Spec PyProof.Rows L2
noncomputable def Cm (R : List Ride) (trips : List Trip) (i j : Nat) : Bool := match trips[i]?, trips[j]? with
  | some x, some y => canM R x y
  | _, _ => false
theorem Cm_eq {R : List Ride} {trips : List Trip} {i j : Nat} {x y : Trip} (hx : trips[i]? = some x) (hy : trips[j]? = some y) : Cm R trips i j = canM R x y := by
  unfold Cm
  rw [hx, hy]
theorem Cm_get {R : List Ride} {trips : List Trip} {i j : Nat} (h : Cm R trips i j = true) : ∃ x y, trips[i]? = some x ∧ trips[j]? = some y ∧ canM R x y = true := by
  unfold Cm at h
  cases hx : trips[i]? with
  | none =>
    rw [hx] at h
    cases h
  | some x =>
    cases hy : trips[j]? with
    | none =>
      rw [hx, hy] at h
      cases h
    | some y =>
      rw [hx, hy] at h
      exact ⟨x, y, rfl, rfl, h⟩
theorem Cm_lt {R : List Ride} {trips : List Trip} {i j : Nat} (h : Cm R trips i j = true) : i < trips.length ∧ j < trips.length := by
  obtain ⟨x, y, hx, hy, _⟩ := Cm_get h
  exact ⟨(List.getElem?_eq_some_iff.mp hx).1, (List.getElem?_eq_some_iff.mp hy).1⟩
theorem Cm_not {R : List Ride} {trips : List Trip} {i j : Nat} (hp : PosR R) (ok : ∀ t ∈ trips, okTrip t) (h : Cm R trips i j = true) : Cm R trips j i = false := by
  obtain ⟨x, y, hx, hy, hc⟩ := Cm_get h
  rw [Cm_eq hy hx]
  exact canM_not hp (ok x (List.mem_of_getElem? hx)) (ok y (List.mem_of_getElem? hy)) hc
theorem Cm_irr {R : List Ride} {trips : List Trip} {i : Nat} (hp : PosR R) (ok : ∀ t ∈ trips, okTrip t) : Cm R trips i i = false := by
  cases e : Cm R trips i i with
  | false => rfl
  | true =>
    have := Cm_not hp ok e
    rw [e] at this
    cases this
theorem Cm_trans {rides : List Ride} {trips : List Trip} {i j k : Nat} (hp : PosR (roadsM rides trips)) (ok : ∀ t ∈ trips, okTrip t) (h : Cm (roadsM rides trips) trips i j = true) (h' : Cm (roadsM rides trips) trips j k = true) : Cm (roadsM rides trips) trips i k = true := by
  obtain ⟨x, y, hx, hy, hc⟩ := Cm_get h
  obtain ⟨y', z, hy', hz, hc'⟩ := Cm_get h'
  rw [hy] at hy'
  cases hy'
  rw [Cm_eq hx hz]
  exact canM_trans hp (List.mem_of_getElem? hy) (ok y (List.mem_of_getElem? hy)) hc hc'
theorem Cm_begin {R : List Ride} {trips : List Trip} {i j : Nat} {x y : Trip} (hp : PosR R) (ok : ∀ t ∈ trips, okTrip t) (hx : trips[i]? = some x) (hy : trips[j]? = some y) (h : Cm R trips i j = true) : x.2.1 < y.2.1 := by
  rw [Cm_eq hx hy] at h
  exact canM_begin hp (ok x (List.mem_of_getElem? hx)) h
theorem Tups.set {β : Type} {K : PySem.W.Frag} {H : Hp} {f : β → List V} {qs : List Addr} {xs : List β} (t : Tups K H f qs xs) {q : Addr} {x : β} (k : Nat) (h : SqT K H q (f x)) : Tups K H f (qs.set k q) (xs.set k x) := by
  refine ⟨by rw [List.length_set, List.length_set, t.1], fun i q' x' h1 h2 => ?_⟩
  by_cases e : k = i
  · subst e
    rw [List.getElem?_set] at h1 h2
    rw [if_pos rfl] at h1 h2
    by_cases hk : k < qs.length
    · rw [if_pos hk] at h1
      rw [if_pos (t.1 ▸ hk)] at h2
      cases h1
      cases h2
      exact h
    · rw [if_neg hk] at h1
      cases h1
  · rw [List.getElem?_set_ne e] at h1 h2
    exact t.2 i q' x' h1 h2
/-- lists of truths at these addresses, one a row, apart from the list at af -/
structure BRows (H : Hp) (af : Addr) (n : Nat) (C : Nat → Nat → Bool) (rows : List Addr) : Prop where
  at_ : H af = some (.lst (rows.map V.ref))
  row : ∀ (j : Nat) (q : Addr), rows[j]? = some q → q ≠ af ∧ H q = some (.lst ((List.range n).map fun k => V.bl (C j k)))
theorem BRows.same {H H' : Hp} {af : Addr} {n : Nat} {C : Nat → Nat → Bool} {rows : List Addr} (b : BRows H af n C rows) (s : Same H H') : BRows H' af n C rows := ⟨s _ _ b.at_, fun j q h => ⟨(b.row j q h).1, s _ _ (b.row j q h).2⟩⟩
theorem BRows.other {H : Hp} {af p : Addr} {o : HO} {n : Nat} {C : Nat → Nat → Bool} {rows : List Addr} (b : BRows H af n C rows) (h1 : p ≠ af) (h2 : p ∉ rows) : BRows (upd H p o) af n C rows :=
  ⟨by rw [upd_ne h1.symm]; exact b.at_, fun j q h => ⟨(b.row j q h).1, by rw [upd_ne (fun e : q = p => h2 (e ▸ List.mem_of_getElem? h))]; exact (b.row j q h).2⟩⟩
theorem BRows.free {H : Hp} {af p : Addr} {n : Nat} {C : Nat → Nat → Bool} {rows : List Addr} (b : BRows H af n C rows) (h : H p = none) : p ≠ af ∧ p ∉ rows := by
  refine ⟨fun e => ?_, fun hm => ?_⟩
  · rw [e, b.at_] at h
    cases h
  · obtain ⟨j, hj, e⟩ := List.mem_iff_getElem.mp hm
    have := (b.row j p (by rw [List.getElem?_eq_getElem hj, e])).2
    rw [h] at this
    cases this
theorem BRows.add {H : Hp} {af p : Addr} {n : Nat} {C : Nat → Nat → Bool} {rows : List Addr} (b : BRows H af n C rows) (h1 : p ≠ af) (h2 : H p = some (.lst ((List.range n).map fun k => V.bl (C rows.length k)))) : BRows (upd H af (.lst (rows.map V.ref ++ [.ref p]))) af n C (rows ++ [p]) := by
  refine ⟨by rw [upd_same, List.map_append]; rfl, fun j q h => ?_⟩
  by_cases hj : j < rows.length
  · rw [List.getElem?_append_left hj] at h
    have := b.row j q h
    exact ⟨this.1, by rw [upd_ne this.1]; exact this.2⟩
  · rw [List.getElem?_append_right (Nat.le_of_not_lt hj)] at h
    have hj0 : j - rows.length = 0 := by
      cases e : j - rows.length with
      | zero => rfl
      | succ m =>
        rw [e] at h
        simp at h
    rw [hj0] at h
    have e : p = q := Option.some.inj h
    subst e
    have ej : j = rows.length := by omega
    subst ej
    exact ⟨h1, by rw [upd_ne h1]; exact h2⟩
theorem brow_at {C : Nat → Bool} {n k : Nat} (h : k < n) : atI ((List.range n).map fun k => V.bl (C k)) (k : Int) = some (.bl (C k)) := atI_nat (by rw [List.getElem?_map, List.getElem?_range h]; rfl)
end Fb
/-! comes: whether a bus comes in time to a trip. -/
namespace Fb
open PySem PySem.Spec PyProof.Rows L2
def spComes (K : PySem.W.Frag) : Sp := fun vs H Q _ => ∃ (p q1 q2 : Addr) (l : List (Str × Int)) (t1 t2 : Trip), vs = [.ref p, .ref q1, .ref q2] ∧ H p = some (.dK (dS l)) ∧ SqT K H q1 (tripV t1) ∧ SqT K H q2 (tripV t2) ∧ Q (.bl (comesB (look l t2.1) t1 t2)) H
section
variable {P : Program} {w : World} {K : PySem.W.Frag} {mg : Str → Option Value} {base : Heap}
theorem cal_comes {f : Addr} {fd : FuncData} (F : Fn K "comes" s_comes f fd) (g : mg "comes" = some (.ref f)) : C8.Cal P w K mg base 1 "comes" (spComes K) [] := by
  refine cal_of F g sc_comes (bi_comes F) (fun vs H Q E h => ?_) (fun cdv A outer s H vs Q E hr h => ?_)
  · obtain ⟨p, q1, q2, l, t1, t2, rfl, _⟩ := h
    rfl
  · obtain ⟨p, q1, q2, l, t1, t2, rfl, ep, h1, h2, q⟩ := h
    have hu := hu_of hr
    
    refine ⟨_, (pss_one (ps_ret (pe_and (pe_cmp (pc_din hu (pe_ix (r := rIxT K) ix_tup (pv 2) pe_int (fun _ _ => rfl)) (pv 0)) (by rfl)) (pe_one (pe_cmpR op_le (pe_op op_add (pe_ix (r := rIxT K) ix_tup (pv 1) pe_int (fun _ _ => rfl)) (pe_dget hu (pv 0) (pe_ix (r := rIxT K) ix_tup (pv 2) pe_int (fun _ _ => rfl)) (fun _ _ => rfl))) (pe_ix (r := rIxT K) ix_tup (pv 2) pe_int (fun _ _ => rfl)) (nomark _)))))), ?_⟩
    refine ⟨_, rfl, q2, _, 0, _, rfl, rfl, h2, atI_nat (j := 0) rfl, _, rfl, p, _, rfl, get_d ep t2.1, _, rfl, ?_⟩
    cases e : look l t2.1 with
    | none =>
      rw [e] at q
      exact if_f rfl q
    | some m =>
      rw [e] at q
      refine if_t rfl ⟨_, rfl, q1, _, 3, _, rfl, rfl, h1, atI_nat (j := 3) rfl, _, rfl, _, rfl, q2, _, 0, _, rfl, rfl, h2, atI_nat (j := 0) rfl, p, .int m, rfl, ?_, _, _, rfl, rfl, _, rfl, q2, _, 1, _, rfl, rfl, h2, atI_nat (j := 1) rfl, _, _, rfl, rfl, q⟩
      have := get_d ep t2.1
      rw [e] at this
      exact this
end
end Fb
/-! can: whether a bus can do a trip behind another one. -/
namespace Fb
open PySem PySem.Spec PyProof.Rows L2
def spNeedN (K : PySem.W.Frag) : Sp := fun vs H Q _ => ∃ (b : Addr) (xs : List V) (i : Int), vs = [.ref b, .int i] ∧ SqL K H b xs ∧ 0 ≤ i ∧ i < xs.length ∧ Q .non H
def spCan (K : PySem.W.Frag) : Sp := fun vs H Q _ => ∃ (a b : Addr) (rides : List Ride) (trips : List Trip) (i j : Nat) (t1 t2 : Trip), vs = [.ref a, .ref b, .int i, .int j] ∧ Told2 K H a b rides trips ∧ trips[i]? = some t1 ∧ trips[j]? = some t2 ∧
  ∀ H', Same H H' → Q (.bl (canM (roadsM rides trips) t1 t2)) H'
section
variable {P : Program} {w : World} {K : PySem.W.Frag} {mg : Str → Option Value} {base : Heap}
theorem cal_need_number {f : Addr} {fd : FuncData} (F : Fn K "need_number" s_need_number f fd) (g : mg "need_number" = some (.ref f)) (B : Bi mg) (c_is_whole : C8.Cal P w K mg base 1 "is_whole" (spWhole K) []) : C8.Cal P w K mg base 2 "need_number" (spNeedN K) [] := by
  refine cal_of F g sc_need_number (bi_need_number F) (fun vs H Q E h => ?_) (fun cdv A outer s H vs Q E hr h => ?_)
  · obtain ⟨b, xs, i, rfl, _⟩ := h
    rfl
  · obtain ⟨b, xs, i, rfl, hS, h0, h1, q⟩ := h
    
    refine ⟨_, (pss_one (ps_if (pt_not (pt_val (C8.pe_c c_is_whole hr (by decide) (by rfl) (pa_cons (pv 1) (pa_cons pe_int (pa_cons (pe_op op_sub (pe_callB call_len_seq (by rfl) B.len PySem.boot_len (pa_cons (pv 0) pa_nil)) pe_int) pa_nil)))))) (pss_one ps_never) pss_nil)), ?_⟩
    refine ⟨_, rfl, _, rfl, b, _, rfl, .inl hS, _, _, rfl, rfl, .int i, .int, 0, (xs.length : Int) - 1, rfl, .int i, ?_⟩
    rw [show isWhole (.int i) 0 ((xs.length : Int) - 1) = true by
      show (decide (0 ≤ i) && decide (i ≤ (xs.length : Int) - 1)) = true
      rw [decide_eq_true h0, decide_eq_true (by omega)]
      rfl]
    exact ⟨_, rfl, if_f rfl q⟩
theorem cal_can {f : Addr} {fd : FuncData} (F : Fn K "can" s_can f fd) (g : mg "can" = some (.ref f)) (c_looked : C8.Cal P w K mg base 3 "looked" (spLooked K) []) (c_need_number : C8.Cal P w K mg base 2 "need_number" (spNeedN K) [])
    (c_spread : C8.Cal P w K mg base 5 "spread" (spSpread K) []) (c_comes : C8.Cal P w K mg base 1 "comes" (spComes K) []) : C8.Cal P w K mg base 6 "can" (spCan K) [] := by
  refine cal_of F g sc_can (bi_can F) (fun vs H Q E h => ?_) (fun cdv A outer s H vs Q E hr h => ?_)
  · obtain ⟨a, b, rides, trips, i, j, t1, t2, rfl, _⟩ := h
    rfl
  · obtain ⟨a, b, rides, trips, i, j, t1, t2, rfl, T, h1, h2, q⟩ := h
    
    refine ⟨_, (pss_cons (ps_expr (C8.pe_c c_looked hr (by decide) (by rfl) (pa_cons (pv 0) (pa_cons (pv 1) pa_nil)))) (pss_cons (ps_expr (C8.pe_c c_need_number hr (by decide) (by rfl) (pa_cons (pv 1) (pa_cons (pv 2) pa_nil)))) (pss_cons (ps_expr (C8.pe_c c_need_number hr (by decide) (by rfl) (pa_cons (pv 1) (pa_cons (pv 3) pa_nil)))) (pss_one (ps_ret (C8.pe_c c_comes hr (by decide) (by rfl) (pa_cons (C8.pe_c c_spread hr (by decide) (by rfl) (pa_cons (pv 0) (pa_cons (pv 1) (pa_cons (pe_ix (r := rIxT K) ix_tup (pe_ix (r := rIxL K) ix_list (pv 1) (pv 2) (fun _ _ => rfl)) pe_int (fun _ _ => rfl)) pa_nil)))) (pa_cons (pe_ix (r := rIxL K) ix_list (pv 1) (pv 2) (fun _ _ => rfl)) (pa_cons (pe_ix (r := rIxL K) ix_list (pv 1) (pv 3) (fun _ _ => rfl)) pa_nil))))))))), ?_⟩
    obtain ⟨qs, hL, hT⟩ := T.lT
    obtain ⟨p1, hp1, hs1⟩ := hT.addr h1
    obtain ⟨p2, hp2, hs2⟩ := hT.addr h2
    have li : i < trips.length := (List.getElem?_eq_some_iff.mp h1).1
    have lj : j < trips.length := (List.getElem?_eq_some_iff.mp h2).1
    have ll : (qs.map V.ref).length = trips.length := by rw [List.length_map, hT.1]
    have at1 : atI (qs.map V.ref) (i : Int) = some (.ref p1) := atI_nat (by rw [List.getElem?_map, hp1]; rfl)
    have at2 : atI (qs.map V.ref) (j : Int) = some (.ref p2) := atI_nat (by rw [List.getElem?_map, hp2]; rfl)
    refine ⟨_, rfl, _, rfl, a, b, rides, trips, rfl, T, ?_⟩
    refine ⟨_, rfl, _, rfl, b, _, _, rfl, hL, by omega, by omega, ?_⟩
    refine ⟨_, rfl, _, rfl, b, _, _, rfl, hL, by omega, by omega, ?_⟩
    refine ⟨_, rfl, _, rfl, _, rfl, _, rfl, b, _, _, _, rfl, rfl, hL, at1, p1, _, 2, _, rfl, rfl, hs1, atI_nat (j := 2) rfl, a, b, rides, trips, t1.2.2.1, rfl, T, (T.okT t1 (List.mem_of_getElem? h1)).2.1, fun H1 p l s1 np ep tab => ?_⟩
    refine ⟨_, rfl, _, rfl, b, _, _, _, rfl, rfl, s1.seq hL, at1, _, rfl, _, rfl, b, _, _, _, rfl, rfl, s1.seq hL, at2, p, p1, p2, l, t1, t2, rfl, ep, same_seqT s1 hs1, same_seqT s1 hs2, ?_⟩
    rw [tab.all]
    exact q H1 s1
end
end Fb
/-! The errors of what is no place, of what is no trip's number (law_k06). -/
namespace Fb
open PySem PySem.Spec PyProof.Rows L2
theorem Plain.same {K : PySem.W.Frag} {H H' : Hp} {x : V} {k : Kd} (p : Plain K H x k) (s : Same H H') : Plain K H' x k := by
  cases p with
  | int i => exact .int i
  | bool b => exact .bool b
  | str z h => exact .str z h
  | non => exact .non
  | lst h => exact .lst (s.seq h)
  | tup h => exact .tup (same_seqT s h)
def spNeedPC (K : PySem.W.Frag) (C : Addr) : Sp := fun vs H Q E => ∃ (x : V) (k : Kd), vs = [x] ∧ Plain K H x k ∧ (isPlace x = true → Q .non H) ∧ (isPlace x = false → E (.ref C) none H)
def spNeedNC (K : PySem.W.Frag) (C : Addr) : Sp := fun vs H Q E => ∃ (b : Addr) (xs : List V) (x : V) (k : Kd), vs = [.ref b, x] ∧ SqL K H b xs ∧ Plain K H x k ∧ (isWhole x 0 ((xs.length : Int) - 1) = true → Q .non H) ∧ (isWhole x 0 ((xs.length : Int) - 1) = false → E (.ref C) none H)
def spSpreadX (K : PySem.W.Frag) (C : Addr) : Sp := fun vs H _ E => ∃ (a b : Addr) (rides : List Ride) (trips : List Trip) (x : V) (k : Kd), vs = [.ref a, .ref b, x] ∧ Told2 K H a b rides trips ∧ Plain K H x k ∧ isPlace x = false ∧ ∀ H', Same H H' → E (.ref C) none H'
def spWayX (K : PySem.W.Frag) (C : Addr) : Sp := fun vs H _ E => ∃ (a b : Addr) (rides : List Ride) (trips : List Trip) (x y : V) (k l : Kd), vs = [.ref a, .ref b, x, y] ∧ Told2 K H a b rides trips ∧ Plain K H x k ∧ Plain K H y l ∧ (isPlace x = false ∨ isPlace y = false) ∧ ∀ H', Same H H' → E (.ref C) none H'
def spCanX (K : PySem.W.Frag) (C : Addr) : Sp := fun vs H _ E => ∃ (a b : Addr) (rides : List Ride) (trips : List Trip) (x y : V) (k l : Kd), vs = [.ref a, .ref b, x, y] ∧ Told2 K H a b rides trips ∧ Plain K H x k ∧ Plain K H y l ∧ (isWhole x 0 ((trips.length : Int) - 1) = false ∨ isWhole y 0 ((trips.length : Int) - 1) = false) ∧ E (.ref C) none H
def spDayNX (K : PySem.W.Frag) (C : Addr) : Sp := fun vs H _ E => ∃ (a b rw : Addr) (rides : List Ride) (trips : List Trip) (xs : List V), vs = [.ref a, .ref b, .ref rw] ∧ Told2 K H a b rides trips ∧ SqL K H rw xs ∧ (∀ x ∈ xs, ∃ k, Plain K H x k) ∧ (∃ x ∈ xs, isWhole x 0 ((trips.length : Int) - 1) = false) ∧ ∀ H', Same H H' → E (.ref C) none H'
section
variable {P : Program} {w : World} {K : PySem.W.Frag} {mg : Str → Option Value} {base : Heap}
theorem ok_need_place_c {f : Addr} {fd : FuncData} {C : Addr} (F : Fn K "need_place" s_need_place f fd) (c_is_place : C8.Cal P w K mg base 1 "is_place" (spPlace K) []) (n_NoPlace : ExN K mg "NoPlace" C) : FnOk P w K mg base (L2N.CX P w) 2 f fd ["place"] (spNeedPC K C) := by
  refine F.ok sc_need_place (fun vs H Q E h => ?_) (fun cdv A outer s H vs Q E hr h => ?_)
  · obtain ⟨x, k, rfl, _⟩ := h
    rfl
  · obtain ⟨x, k, rfl, p, qt, qf⟩ := h
    refine ⟨_, (pss_one (ps_if (pt_not (pt_val (C8.pe_c c_is_place hr (by decide) (by rfl) (pa_cons (pv 0) pa_nil)))) (pss_one (L2N.ps_raise rfl (L2N.takes_of rfl rfl rfl rfl) (L2N.pmk_own PySem.F.excBase_ValueError n_NoPlace.q n_NoPlace.g n_NoPlace.k (raises_own n_NoPlace.e n_NoPlace.t) rfl))) pss_nil)), ?_⟩
    refine ⟨_, rfl, x, k, rfl, p, ?_⟩
    cases hb : isPlace x with
    | true => exact ⟨_, rfl, if_f rfl (qt hb)⟩
    | false => exact ⟨_, rfl, if_t rfl (qf hb)⟩
theorem ok_need_number_c {f : Addr} {fd : FuncData} {C : Addr} (F : Fn K "need_number" s_need_number f fd) (B : Bi mg) (c_is_whole : C8.Cal P w K mg base 1 "is_whole" (spWhole K) []) (n_NoNumber : ExN K mg "NoNumber" C) : FnOk P w K mg base (L2N.CX P w) 2 f fd ["trips", "number"] (spNeedNC K C) := by
  refine F.ok sc_need_number (fun vs H Q E h => ?_) (fun cdv A outer s H vs Q E hr h => ?_)
  · obtain ⟨b, xs, x, k, rfl, _⟩ := h
    rfl
  · obtain ⟨b, xs, x, k, rfl, hS, p, qt, qf⟩ := h
    refine ⟨_, (pss_one (ps_if (pt_not (pt_val (C8.pe_c c_is_whole hr (by decide) (by rfl) (pa_cons (pv 1) (pa_cons pe_int (pa_cons (pe_op op_sub (pe_callB (r := rLenS K) call_len_seq (by rfl) B.len PySem.boot_len (pa_cons (pv 0) pa_nil)) pe_int) pa_nil)))))) (pss_one (L2N.ps_raise rfl (L2N.takes_of rfl rfl rfl rfl) (L2N.pmk_own PySem.F.excBase_ValueError n_NoNumber.q n_NoNumber.g n_NoNumber.k (raises_own n_NoNumber.e n_NoNumber.t) rfl))) pss_nil)), ?_⟩
    refine ⟨_, rfl, _, rfl, b, _, rfl, .inl hS, _, _, rfl, rfl, x, k, 0, (xs.length : Int) - 1, rfl, p, ?_⟩
    cases hb : isWhole x 0 ((xs.length : Int) - 1) with
    | true => exact ⟨_, rfl, if_f rfl (qt hb)⟩
    | false => exact ⟨_, rfl, if_t rfl (qf hb)⟩
theorem ok_spread_x {f fC : Addr} {fd fdC : FuncData} {C : Addr} (F : Fn K "spread" s_spread f fd) (FC : Fn K "need_place" s_need_place fC fdC) (gC : mg "need_place" = some (.ref fC)) (G : FnOk P w K mg base (L2N.CX P w) 2 fC fdC ["place"] (spNeedPC K C)) (c_roads : C8.Cal P w K mg base 4 "roads" (spRoads K) []) : FnOk P w K mg base (L2N.CX P w) 5 f fd ["rides", "trips", "place"] (spSpreadX K C) := by
  refine F.ok sc_spread (fun vs H Q E h => ?_) (fun cdv A outer s H vs Q E hr h => ?_)
  · obtain ⟨a, b, rides, trips, x, k, rfl, _⟩ := h
    rfl
  · obtain ⟨a, b, rides, trips, x, k, rfl, T, p, hb, q⟩ := h
    have bC := bi_need_place FC
    refine ⟨_, pss_cons (ps_set (i := 3) sc_spread.nd rfl (Or.inl rfl) (C8.pe_c c_roads hr (by decide) (by rfl) (pa_cons (pv 0) (pa_cons (pv 1) pa_nil)))) (pss_cons (ps_expr (by exact (pe_callS G (hr.mono (by decide)) rfl gC FC.kp bC (fun σ => L2N.passAt (L2N.takes_of rfl rfl rfl rfl) σ) (by exact (pa_cons (pv 2) pa_nil))))) pss_never), ?_⟩
    exact ⟨_, rfl, _, rfl, a, b, rides, trips, rfl, T, fun H1 ro qs s1 nro ero tro => ⟨_, rfl, x, k, rfl, p.same s1, fun h => (by rw [hb] at h; cases h), fun _ => q H1 s1⟩⟩
theorem ok_way_x {f fC : Addr} {fd fdC : FuncData} {C : Addr} (F : Fn K "way" s_way f fd) (FC : Fn K "need_place" s_need_place fC fdC) (gC : mg "need_place" = some (.ref fC)) (G : FnOk P w K mg base (L2N.CX P w) 2 fC fdC ["place"] (spNeedPC K C)) (c_roads : C8.Cal P w K mg base 4 "roads" (spRoads K) []) : FnOk P w K mg base (L2N.CX P w) 5 f fd ["rides", "trips", "one", "other"] (spWayX K C) := by
  refine F.ok sc_way (fun vs H Q E h => ?_) (fun cdv A outer s H vs Q E hr h => ?_)
  · obtain ⟨a, b, rides, trips, x, y, k, l, rfl, _⟩ := h
    rfl
  · obtain ⟨a, b, rides, trips, x, y, k, l, rfl, T, p1, p2, hb, q⟩ := h
    have bC := bi_need_place FC
    refine ⟨_, pss_cons (ps_set (i := 4) sc_way.nd rfl (Or.inl rfl) (C8.pe_c c_roads hr (by decide) (by rfl) (pa_cons (pv 0) (pa_cons (pv 1) pa_nil)))) (pss_cons (ps_expr (by exact (pe_callS G (hr.mono (by decide)) rfl gC FC.kp bC (fun σ => L2N.passAt (L2N.takes_of rfl rfl rfl rfl) σ) (by exact (pa_cons (pv 2) pa_nil))))) (pss_cons (ps_expr (by exact (pe_callS G (hr.mono (by decide)) rfl gC FC.kp bC (fun σ => L2N.passAt (L2N.takes_of rfl rfl rfl rfl) σ) (by exact (pa_cons (pv 3) pa_nil))))) pss_never)), ?_⟩
    refine ⟨_, rfl, _, rfl, a, b, rides, trips, rfl, T, fun H1 ro qs s1 nro ero tro => ⟨_, rfl, x, k, rfl, p1.same s1, fun h => ?_, fun _ => q H1 s1⟩⟩
    have hb2 := hb.resolve_left fun z => by rw [z] at h; cases h
    exact ⟨_, rfl, y, l, rfl, p2.same s1, fun h => (by rw [hb2] at h; cases h), fun _ => q H1 s1⟩
theorem ok_can_x {f fC : Addr} {fd fdC : FuncData} {C : Addr} (F : Fn K "can" s_can f fd) (FC : Fn K "need_number" s_need_number fC fdC) (gC : mg "need_number" = some (.ref fC)) (G : FnOk P w K mg base (L2N.CX P w) 2 fC fdC ["trips", "number"] (spNeedNC K C)) (c_looked : C8.Cal P w K mg base 3 "looked" (spLooked K) []) : FnOk P w K mg base (L2N.CX P w) 5 f fd ["rides", "trips", "one", "other"] (spCanX K C) := by
  refine F.ok sc_can (fun vs H Q E h => ?_) (fun cdv A outer s H vs Q E hr h => ?_)
  · obtain ⟨a, b, rides, trips, x, y, k, l, rfl, _⟩ := h
    rfl
  · obtain ⟨a, b, rides, trips, x, y, k, l, rfl, T, p1, p2, hb, q⟩ := h
    have bC := bi_need_number FC
    obtain ⟨qt, hqt, hTt⟩ := T.lT
    have ll : ((qt.map V.ref).length : Int) = trips.length := by rw [List.length_map, hTt.1]
    refine ⟨_, pss_cons (ps_expr (C8.pe_c c_looked hr (by decide) (by rfl) (pa_cons (pv 0) (pa_cons (pv 1) pa_nil)))) (pss_cons (ps_expr (by exact (pe_callS G (hr.mono (by decide)) rfl gC FC.kp bC (fun σ => L2N.passAt (L2N.takes_of rfl rfl rfl rfl) σ) (by exact (pa_cons (pv 1) (pa_cons (pv 2) pa_nil)))))) (pss_cons (ps_expr (by exact (pe_callS G (hr.mono (by decide)) rfl gC FC.kp bC (fun σ => L2N.passAt (L2N.takes_of rfl rfl rfl rfl) σ) (by exact (pa_cons (pv 1) (pa_cons (pv 3) pa_nil)))))) pss_never)), ?_⟩
    refine ⟨_, rfl, _, rfl, a, b, rides, trips, rfl, T, _, rfl, _, rfl, b, _, x, k, rfl, hqt, p1, fun h => ?_, fun _ => q⟩
    rw [ll] at h
    have hb2 := hb.resolve_left fun z => by rw [z] at h; cases h
    exact ⟨_, rfl, _, rfl, b, _, y, l, rfl, hqt, p2, fun h => (by rw [ll, hb2] at h; cases h), fun _ => q⟩
theorem ok_day_nx {f fC : Addr} {fd fdC : FuncData} {C : Addr} (F : Fn K "day" s_day f fd) (FC : Fn K "need_number" s_need_number fC fdC) (gC : mg "need_number" = some (.ref fC)) (G : FnOk P w K mg base (L2N.CX P w) 2 fC fdC ["trips", "number"] (spNeedNC K C)) (c_roads : C8.Cal P w K mg base 4 "roads" (spRoads K) []) : FnOk P w K mg base (L2N.CX P w) 5 f fd ["rides", "trips", "row"] (spDayNX K C) := by
  refine F.ok sc_day (fun vs H Q E h => ?_) (fun cdv A outer s H vs Q E hr h => ?_)
  · obtain ⟨a, b, rw, rides, trips, xs, rfl, _⟩ := h
    rfl
  · obtain ⟨a, b, rw_, rides, trips, xs, rfl, T, hX, pl, ⟨x0, hx0, hb0⟩, q⟩ := h
    have bC := bi_need_number FC
    obtain ⟨qt, hqt, hTt⟩ := T.lT
    have ll : ((qt.map V.ref).length : Int) = trips.length := by rw [List.length_map, hTt.1]
    refine ⟨_, pss_cons (ps_set (i := 3) sc_day.nd rfl (Or.inl rfl) (C8.pe_c c_roads hr (by decide) (by rfl) (pa_cons (pv 0) (pa_cons (pv 1) pa_nil)))) (pss_cons (ps_for (passes_of rfl) rfl (pi_list (pv 2)) (pg_name (i := 4) sc_day.nd rfl (Or.inl rfl)) (pss_one (ps_expr (by exact (pe_callS G (hr.mono (by decide)) rfl gC FC.kp bC (fun σ => L2N.passAt (L2N.takes_of rfl rfl rfl rfl) σ) (by exact (pa_cons (pv 1) (pa_cons (pv 4) pa_nil)))))))) pss_never), ?_⟩
    refine ⟨_, rfl, _, rfl, a, b, rides, trips, rfl, T, fun H1 ro qs s1 nro ero tro => ?_⟩
    refine ⟨_, rfl, rw_, rfl, ⟨_, s1.seq hX⟩, for_list (K := K) (a := rw_) (xs := xs) (fun i σ H' => H' = H1 ∧ (∃ y4, σ = [some (.ref a), some (.ref b), some (.ref rw_), some (.ref ro), y4, none, none, none, none]) ∧ ∀ x ∈ xs.take i, isWhole x 0 ((trips.length : Int) - 1) = true) ⟨rfl, ⟨none, rfl⟩, (fun _ h => nomatch h)⟩ (fun i σ H' _ ⟨e, _⟩ => e ▸ s1.seq hX) ?_ ?_⟩
    · rintro i x σ H2 hi ⟨rfl, ⟨y4, rfl⟩, hall⟩
      obtain ⟨k, p⟩ := pl x (List.mem_of_getElem? hi)
      refine ⟨_, rfl, _, rfl, b, _, x, k, rfl, s1.seq hqt, p.same s1, fun h => ⟨rfl, ⟨_, rfl⟩, fun z hz => ?_⟩, fun _ => q H2 s1⟩
      rw [ll] at h
      rw [List.take_add_one, hi] at hz
      rcases List.mem_append.mp hz with hz | hz
      · exact hall z hz
      · rw [List.mem_singleton.mp hz]
        exact h
    · rintro σ H2 ⟨rfl, _, hall⟩
      rw [List.take_length] at hall
      have := hall x0 hx0
      rw [hb0] at this
      cases this
end
end Fb
/-! A quickest way, as a list of places; plain. -/
namespace Fb
open PySem PySem.Spec PyProof.Rows L2
def StepOk (R : List Ride) (x u v : Str) : Prop := ∃ w a, (u, v, w) ∈ R ∧ dist R x u = some a ∧ dist R x v = some (a + w)
/-- from y back to here -/
structure Back (R : List Ride) (x y : Str) (l : List Str) (here : Str) : Prop where
  form : ∃ fs, l = fs ++ [here]
  first : l[0]? = some y
  step : ∀ i v u, l[i]? = some v → l[i + 1]? = some u → StepOk R x u v
structure Way (R : List Ride) (x y : Str) (ps : List Str) : Prop where
  first : ps[0]? = some x
  last : ∃ fs, ps = fs ++ [y]
  step : ∀ i u v, ps[i]? = some u → ps[i + 1]? = some v → StepOk R x u v
  len : ps.length ≤ R.length + 1
theorem Back.start (R : List Ride) (x y : Str) : Back R x y [y] y := ⟨⟨[], rfl⟩, rfl, fun i v u _ h => by simp at h⟩
theorem Back.add {R : List Ride} {x y here u : Str} {l : List Str} (b : Back R x y l here) (h : StepOk R x u here) : Back R x y (l ++ [u]) u := by
  obtain ⟨fs, e⟩ := b.form
  have hl : 0 < l.length := by rw [e]; simp
  refine ⟨⟨l, rfl⟩, by rw [List.getElem?_append_left hl]; exact b.first, fun i v u' h1 h2 => ?_⟩
  by_cases hi : i + 1 < l.length
  · rw [List.getElem?_append_left (by omega)] at h1
    rw [List.getElem?_append_left hi] at h2
    exact b.step i v u' h1 h2
  · have hlt : i + 1 < (l ++ [u]).length := (List.getElem?_eq_some_iff.mp h2).1
    rw [List.length_append] at hlt
    have hi2 : i + 1 = l.length := by simp at hlt; omega
    have hl2 : l.length = fs.length + 1 := by rw [e]; simp
    rw [List.getElem?_append_right (by omega), hi2, Nat.sub_self] at h2
    have e2 : u = u' := Option.some.inj h2
    rw [List.getElem?_append_left (by omega), e, List.getElem?_append_right (by omega), show i - fs.length = 0 by omega] at h1
    have e1 : here = v := Option.some.inj h1
    rw [← e1, ← e2]
    exact h
theorem Back.way {R : List Ride} {x y : Str} {l : List Str} (b : Back R x y l x) (hn : l.length ≤ R.length + 1) : Way R x y l.reverse := by
  obtain ⟨fs, e⟩ := b.form
  have hl : l.length = fs.length + 1 := by rw [e]; simp
  refine ⟨by rw [e]; simp, ?_, fun i u v h1 h2 => ?_, by rw [List.length_reverse]; exact hn⟩
  · cases l with
    | nil => simp at hl
    | cons a r =>
      have := b.first
      have ea : a = y := Option.some.inj this
      refine ⟨r.reverse, ?_⟩
      rw [List.reverse_cons, ea]
  · have hi2 : i + 1 < l.length := by
      have := (List.getElem?_eq_some_iff.mp h2).1
      rw [List.length_reverse] at this
      exact this
    rw [List.getElem?_reverse (by omega)] at h1
    rw [List.getElem?_reverse hi2] at h2
    refine b.step (l.length - 1 - (i + 1)) v u h2 ?_
    rw [show l.length - 1 - (i + 1) + 1 = l.length - 1 - i by omega]
    exact h1
/-- how far here is from the way's beginning, in turns -/
noncomputable def turnsLeft (R : List Ride) (x v : Str) : Nat := if v = x then 0 else match dist R x v with
  | some d => nearer R x d + 1
  | none => 0
theorem into_target {R : List Ride} (hp : PosR R) {x v : Str} {d : Int} (hd : dist R x v = some d) (hne : v ≠ x) : v ∈ R.map (·.2.1) := by
  obtain ⟨y2, w2, m2, hr2, _, _⟩ := dist_pred hp hd hne
  exact List.mem_map_of_mem (f := fun r : Ride => r.2.1) hr2
theorem turns_le {R : List Ride} (hp : PosR R) (x v : Str) : turnsLeft R x v ≤ R.length := by
  unfold turnsLeft
  by_cases c : v = x
  · rw [if_pos c]
    exact Nat.zero_le _
  · rw [if_neg c]
    cases hd : dist R x v with
    | none => exact Nat.zero_le _
    | some d => exact nearer_le hd (into_target hp hd c)
theorem turns_lt {R : List Ride} (hp : PosR R) {x u v : Str} (h : StepOk R x u v) (hne : v ≠ x) : turnsLeft R x u < turnsLeft R x v := by
  obtain ⟨w, a, hr, hu, hv⟩ := h
  have hw := hp _ hr
  simp only at hw
  unfold turnsLeft
  rw [if_neg hne, hv]
  by_cases c : u = x
  · rw [if_pos c]
    exact Nat.succ_pos _
  · rw [if_neg c, hu]
    exact Nat.succ_lt_succ (nearer_lt hu (into_target hp hu c) (by omega))
/-- the roads between two neighbours of a quickest way: none is quicker -/
theorem step_min {R : List Ride} (hp : PosR R) {x u v : Str} {w a : Int} (hu : dist R x u = some a) (hv : dist R x v = some (a + w)) {w' : Int} (hr : (u, v, w') ∈ R) : w ≤ w' := by
  obtain ⟨m, hm, hle⟩ := dist_road hp hu hr
  rw [hv] at hm
  have := Option.some.inj hm
  omega
theorem Way.one {R : List Ride} (hp : PosR R) {x : Str} {ps : List Str} (h : Way R x x ps) : ps = [x] := by
  obtain ⟨fs, e⟩ := h.last
  rcases List.eq_nil_or_concat fs with hf | ⟨gs, u, hf⟩
  · rw [e, hf]
    rfl
  · have e2 : ps = gs ++ [u, x] := by rw [e, hf]; simp
    obtain ⟨w, a, hr, hu, hx⟩ := h.step gs.length u x (by rw [e2]; simp) (by rw [e2]; simp)
    rw [dist_self hp] at hx
    have := Option.some.inj hx
    have := hp _ hr
    have := dist_nonneg hp hu
    simp only at *
    omega
end Fb
/-! way: a quickest way. -/
namespace Fb
open PySem PySem.Spec PyProof.Rows L2
theorem get_of {H : Hp} {p : Addr} {l : List (Str × Int)} (h : Rd H p (.dK (dS l))) (k : Str) : DGet H p (.str k) ((look l k).map V.int) := .inl ⟨dS l, .inr k, h, rfl, (valV_dOf inr_inj k l).symm⟩
def spWay (K : PySem.W.Frag) : Sp := fun vs H Q _ => ∃ (a b : Addr) (rides : List Ride) (trips : List Trip) (x y : Str), vs = [.ref a, .ref b, .str x, .str y] ∧ Told2 K H a b rides trips ∧ okPlace x ∧ okPlace y ∧
  (dist (roadsM rides trips) x y = none → ∀ H', Same H H' → Q .non H') ∧
  ∀ H' p ps, Same H H' → H p = none → H' p = some (.lst (ps.map V.str)) → (∃ d, dist (roadsM rides trips) x y = some d) → Way (roadsM rides trips) x y ps → Q (.ref p) H'
section
variable {P : Program} {w : World} {K : PySem.W.Frag} {mg : Str → Option Value} {base : Heap}
theorem cal_way {f : Addr} {fd : FuncData} (F : Fn K "way" s_way f fd) (g : mg "way" = some (.ref f)) (c_roads : C8.Cal P w K mg base 4 "roads" (spRoads K) []) (c_need_place : C8.Cal P w K mg base 2 "need_place" spNeedP []) (c_spread : C8.Cal P w K mg base 5 "spread" (spSpread K) []) : C8.Cal P w K mg base 6 "way" (spWay K) [] := by
  refine cal_of F g sc_way (bi_way F) (fun vs H Q E h => ?_) (fun cdv A outer s H vs Q E hr h => ?_)
  · obtain ⟨a, b, rides, trips, x, y, rfl, _⟩ := h
    rfl
  · obtain ⟨a, b, rides, trips, x, y, rfl, T, okx, oky, qn, q⟩ := h
    have hu := hu_of hr
    refine ⟨_, (pss_cons (ps_set (i := 4) sc_way.nd rfl (Or.inl rfl) (C8.pe_c c_roads hr (by decide) (by rfl) (pa_cons (pv 0) (pa_cons (pv 1) pa_nil)))) (pss_cons (ps_expr (C8.pe_c c_need_place hr (by decide) (by rfl) (pa_cons (pv 2) pa_nil))) (pss_cons (ps_expr (C8.pe_c c_need_place hr (by decide) (by rfl) (pa_cons (pv 3) pa_nil))) (pss_cons (ps_set (i := 5) sc_way.nd rfl (Or.inl rfl) (C8.pe_c c_spread hr (by decide) (by rfl) (pa_cons (pv 0) (pa_cons (pv 1) (pa_cons (pv 2) pa_nil))))) (pss_cons (ps_if (pt_cmp (pc_dnotin hu (pv 3) (pv 5))) (pss_one (ps_ret pe_non)) pss_nil) (pss_cons (ps_set (i := 6) sc_way.nd rfl (Or.inl rfl) (pe_lst (pa_cons (pv 3) pa_nil))) (pss_cons (ps_while PassesOwn.never (pt_cmpR op_ne (pe_ix (r := rIxL K) ix_list (pv 6) (pe_un un_neg pe_int) (fun _ _ => rfl)) (pv 2) (nomark _)) (pss_cons (ps_set (i := 7) sc_way.nd rfl (Or.inl rfl) (pe_ix (r := rIxL K) ix_list (pv 6) (pe_un un_neg pe_int) (fun _ _ => rfl))) (pss_cons (ps_set (i := 8) sc_way.nd rfl (Or.inl rfl) pe_str) (pss_cons (ps_for PassesOwn.never rfl (pi_list (pv 4)) (pg_name (i := 9) sc_way.nd rfl (Or.inl rfl)) (pss_one (ps_if (PW.pt (pw_and (pt_cmpR op_eq (pv 8) pe_str (nomark _)) (pw_and (pt_cmpR op_eq (pe_ix (r := rIxT K) ix_tup (pv 9) pe_int (fun _ _ => rfl)) (pv 7) (nomark _)) (pw_and (pt_cmp (pc_din hu (pe_ix (r := rIxT K) ix_tup (pv 9) pe_int (fun _ _ => rfl)) (pv 5))) (pw_and1 (pt_cmpR op_eq (pe_op op_add (pe_dget hu (pv 5) (pe_ix (r := rIxT K) ix_tup (pv 9) pe_int (fun _ _ => rfl)) (fun _ _ => rfl)) (pe_ix (r := rIxT K) ix_tup (pv 9) pe_int (fun _ _ => rfl))) (pe_dget hu (pv 5) (pv 7) (fun _ _ => rfl)) (nomark _))))))) (pss_one (ps_set (i := 8) sc_way.nd rfl (Or.inl rfl) (pe_ix (r := rIxT K) ix_tup (pv 9) pe_int (fun _ _ => rfl)))) pss_nil))) (pss_one (ps_expr (pe_bm PySem.F.plainAttrs_list PySem.F.slot_list_append PySem.F.type_list_append mt_append (pv 6) (pa_cons (pv 8) pa_nil)))))))) (pss_one (ps_ret (pe_revL (pv 6))))))))))), ?_⟩
    have hp := posR T.okR T.okT
    have okP := roadsM_places T.okR T.okT
    have lM := roadsM_len rides trips
    have h100 := T.lenR
    have h101 := T.lenT
    refine ⟨_, rfl, _, rfl, a, b, rides, trips, rfl, T, fun H1 ro qs s1 nro ero tro => ?_⟩
    obtain ⟨R, hR⟩ : ∃ R, R = roadsM rides trips := ⟨_, rfl⟩
    rw [← hR] at tro hp lM qn q okP
    refine ⟨_, rfl, x, rfl, okx, _, rfl, y, rfl, oky, ?_⟩
    refine ⟨_, rfl, _, rfl, _, rfl, a, b, rides, trips, x, rfl, T.same s1, okx, fun H2 mi l s2 nmi emi tab => ?_⟩
    rw [← hR] at tab
    have s12 := s1.trans s2
    refine ⟨_, rfl, _, rfl, mi, _, rfl, get_of (.inl emi) y, _, rfl, ?_⟩
    cases hy : look l y with
    | none => exact if_t rfl (qn ((tab.all y).symm.trans hy) H2 s12)
    | some dy =>
      have hdy := (tab.all y).symm.trans hy
      refine if_f rfl ⟨_, rfl, Nat.succ_le_of_lt (by decide), fun f nf => ?_⟩
      have nf0 : H f = none := s12.free nf
      refine ⟨fun m σ H' => ∃ (ls : List Str) (here : Str) (d : Int) (y7 y8 y9 : Option V), σ = [some (.ref a), some (.ref b), some (.str x), some (.str y), some (.ref ro), some (.ref mi), some (.ref f), y7, y8, y9] ∧ Same H2 H' ∧ H' f = some (.lst (ls.map V.str)) ∧ Back R x y ls here ∧ dist R x here = some d ∧
        m = turnsLeft R x here ∧ ls.length + turnsLeft R x here ≤ R.length + 1, ⟨_, [y], y, dy, none, none, none, rfl, same_upd nf, upd_same, Back.start R x y, hdy, rfl, ?_⟩, ?_⟩
      · have := turns_le hp x y
        show 1 + turnsLeft R x y ≤ R.length + 1
        omega
      rintro m σ H3 ⟨ls, here, d, y7, y8, y9, rfl, s3, e3, bk, hd, rfl, hl⟩
      obtain ⟨fs, efs⟩ := bk.form
      have alast : atI (ls.map V.str) (-1) = some (.str here) := by
        rw [efs, List.map_append]
        exact atI_last _ _
      refine ⟨_, rfl, _, rfl, f, _, _, _, rfl, rfl, sqL_of e3, alast, _, rfl, rfl, _, rfl, ?_⟩
      by_cases c : here = x
      · subst c
        refine if_f (by simp) ⟨_, rfl, f, _, rfl, sqL_of e3, fun p np => ?_⟩
        have s4 := s3.trans (same_upd (o := .lst (ls.map V.str).reverse) np)
        exact q _ p ls.reverse (s12.trans s4) (s12.free (s3.free np)) (by rw [upd_same, List.map_reverse]) ⟨_, hdy⟩ (bk.way (by omega))
      · refine if_t (by rw [decide_eq_false fun z => c (V.str.inj z)]; rfl) ⟨fun σ' H' => ∃ (ls : List Str) (here' : Str) (d : Int) (y7 y8 y9 : Option V), σ' = [some (.ref a), some (.ref b), some (.str x), some (.str y), some (.ref ro), some (.ref mi), some (.ref f), y7, y8, y9] ∧ Same H2 H' ∧ H' f = some (.lst (ls.map V.str)) ∧ Back R x y ls here' ∧ dist R x here' = some d ∧
          turnsLeft R x here' < turnsLeft R x here ∧ ls.length + turnsLeft R x here' ≤ R.length + 1, ?_, ?_⟩
        · rintro σ' H' ⟨ls', here', d', z7, z8, z9, rfl, s4, e4, bk', hd', lt', hl'⟩
          exact ⟨_, lt', ls', here', d', z7, z8, z9, rfl, s4, e4, bk', hd', rfl, hl'⟩
        · refine ⟨_, rfl, _, rfl, f, _, _, _, rfl, rfl, sqL_of e3, alast, ?_⟩
          have gh : ∀ k, DGet H3 mi (.str k) ((look l k).map V.int) := get_of (.inl (s3 _ _ emi))
          have lhere : look l here = some d := (tab.all here).trans hd
          -- a road that leads here with just so much
          refine ⟨_, rfl, ro, rfl, ⟨_, sqL_of ((s2.trans s3) _ _ ero)⟩, for_list (K := K) (a := ro) (xs := qs.map V.ref) (fun i σ H' => H' = H3 ∧ ∃ (ah : Str) (y9 : Option V), σ = [some (.ref a), some (.ref b), some (.str x), some (.str y), some (.ref ro), some (.ref mi), some (.ref f), some (.str here), some (.str ah), y9] ∧
            ((ah = "" ∧ ∀ r ∈ R.take i, ¬ (r.2.1 = here ∧ ∃ e, look l r.1 = some e ∧ e + r.2.2 = d)) ∨ (ah ≠ "" ∧ ∃ r ∈ R, r.1 = ah ∧ r.2.1 = here ∧ ∃ e, look l r.1 = some e ∧ e + r.2.2 = d)))
            ⟨rfl, "", y9, rfl, .inl ⟨rfl, fun _ h => nomatch h⟩⟩ (fun i σ H' _ ⟨e, _⟩ => e ▸ sqL_of ((s2.trans s3) _ _ ero)) ?_ ?_⟩
          · rintro i v σ H4 hi ⟨rfl, ah, z9, rfl, hah⟩
            obtain ⟨p1, r, rfl, hr1, hs⟩ := (tro.same (s2.trans s3)).at hi
            have hrR := List.mem_of_getElem? hr1
            have take1 : R.take (i + 1) = R.take i ++ [r] := by
              rw [List.take_add_one, hr1]
              rfl
            refine ⟨_, rfl, rfl, _, rfl, ?_⟩
            rcases hah with ⟨rfl, hno⟩ | ⟨hne, hex⟩
            · have keep : ¬ (r.2.1 = here ∧ ∃ e, look l r.1 = some e ∧ e + r.2.2 = d) → ∀ r' ∈ R.take (i + 1), ¬ (r'.2.1 = here ∧ ∃ e, look l r'.1 = some e ∧ e + r'.2.2 = d) := fun hn r' hr' => by
                rw [take1] at hr'
                rcases List.mem_append.mp hr' with h | h
                · exact hno r' h
                · rw [List.mem_singleton.mp h]
                  exact hn
              refine if_t rfl ⟨_, rfl, p1, _, 1, _, rfl, rfl, hs, atI_nat (j := 1) rfl, _, rfl, rfl, _, rfl, ite2 (fun c1 => ?_) (fun c1 => ?_)⟩
              · have c1 : r.2.1 = here := V.str.inj (of_decide_eq_true c1)
                refine ⟨_, rfl, p1, _, 0, _, rfl, rfl, hs, atI_nat (j := 0) rfl, _, rfl, mi, _, rfl, gh r.1, _, rfl, ?_⟩
                cases he : look l r.1 with
                | none => exact if_f rfl (if_f rfl ⟨rfl, _, _, rfl, .inl ⟨rfl, keep fun ⟨_, e, h, _⟩ => by rw [he] at h; cases h⟩⟩)
                | some e =>
                  have ge : DGet H4 mi (.str r.1) (some (.int e)) := by
                    have := gh r.1
                    rw [he] at this
                    exact this
                  have gd : DGet H4 mi (.str here) (some (.int d)) := by
                    have := gh here
                    rw [lhere] at this
                    exact this
                  refine if_t rfl ⟨_, rfl, _, rfl, p1, _, 0, _, rfl, rfl, hs, atI_nat (j := 0) rfl, mi, _, rfl, ge, _, rfl, p1, _, 2, _, rfl, rfl, hs, atI_nat (j := 2) rfl, _, _, rfl, rfl, _, rfl, _, rfl, mi, _, rfl, gd, rfl, _, rfl, ite2 (fun c2 => ?_) (fun c2 => ?_)⟩
                  · have c2 : e + r.2.2 = d := V.int.inj (of_decide_eq_true c2)
                    refine ⟨_, rfl, p1, _, 0, _, rfl, rfl, hs, atI_nat (j := 0) rfl, rfl, _, _, rfl, .inr ⟨fun z => ?_, r, hrR, rfl, c1, e, he, c2⟩⟩
                    have h1 := (okP r hrR).1.1
                    rw [z] at h1
                    exact absurd h1 (by decide)
                  · exact ⟨rfl, _, _, rfl, .inl ⟨rfl, keep fun ⟨_, e', h, h'⟩ => by
                      rw [he] at h
                      have e1 : e = e' := Option.some.inj h
                      subst e1
                      exact absurd (decide_eq_true (show V.int (e + r.2.2) = V.int d by rw [h'])) c2⟩⟩
              · exact if_f rfl ⟨rfl, _, _, rfl, .inl ⟨rfl, keep fun ⟨h, _⟩ => absurd (decide_eq_true (show V.str r.2.1 = V.str here by rw [h])) c1⟩⟩
            · exact if_f (decide_eq_false fun z => hne (V.str.inj z)) (if_f rfl ⟨rfl, _, _, rfl, .inr ⟨hne, hex⟩⟩)
          · rintro σ H4 ⟨rfl, ah, z9, rfl, hah⟩
            obtain ⟨u, w', m', hr', hu', hsum⟩ := dist_pred hp hd c
            have hfull : (qs.map V.ref).length = R.length := by rw [List.length_map, tro.1]
            rw [hfull, List.take_length] at hah
            rcases hah with ⟨rfl, hno⟩ | ⟨hne, r, hrR, h1, h2, e, he, hsum2⟩
            · exact absurd ⟨rfl, m', (tab.all u).trans hu', hsum⟩ (hno _ hr')
            · have hde := (tab.all r.1).symm.trans he
              have hst : StepOk R x ah here := ⟨r.2.2, e, by rw [← h1, ← h2]; exact hrR, by rw [← h1]; exact hde, by rw [hsum2]; exact hd⟩
              have hlt := turns_lt hp hst c
              refine ⟨_, rfl, .inl ⟨rfl, _, sqL_of e3⟩, _, rfl, f, _, _, rfl, rfl, e3, ?_, ls ++ [ah], ah, e, _, _, _, rfl, same_put s3 nf, ?_, bk.add hst, by rw [← h1]; exact hde, hlt, ?_⟩
              · rw [List.length_map]
                exact small1000 (by omega)
              · rw [upd_same, List.map_append]
                rfl
              · rw [List.length_append]
                show ls.length + 1 + turnsLeft R x ah ≤ R.length + 1
                omega
end
end Fb
/-! Lists of numbers, lists of these, dicts of numbers. -/
namespace Fb
open PySem PySem.Spec PyProof.Rows L2
abbrev nV (l : List Nat) : List V := l.map fun k : Nat => V.int (k : Int)
theorem nV_add (l : List Nat) (j : Nat) : nV (l ++ [j]) = nV l ++ [V.int (j : Int)] := by
  unfold nV
  rw [List.map_append]
  rfl
theorem nV_at {l : List Nat} {i x : Nat} (h : l[i]? = some x) : atI (nV l) (i : Int) = some (.int x) := atI_nat (by rw [List.getElem?_map, h]; rfl)
theorem nV_get {l : List Nat} {i : Nat} {v : V} (h : (nV l)[i]? = some v) : ∃ x : Nat, v = .int x ∧ l[i]? = some x := by
  rw [List.getElem?_map] at h
  cases e : l[i]? with
  | none =>
    rw [e] at h
    cases h
  | some x =>
    rw [e] at h
    exact ⟨x, (Option.some.inj h).symm, rfl⟩
theorem get_n {H : Hp} {p : Addr} {l : List (Nat × Nat)} (h : H p = some (.dK (dN l))) (k : Nat) : DGet H p (.int k) ((look l k).map fun n : Nat => V.int (n : Int)) := .inl ⟨dN l, .inl k, .inl h, rfl, (valV_dOf inl_inj k l).symm⟩
theorem put_n {H : Hp} {p : Addr} {l : List (Nat × Nat)} (h : H p = some (.dK (dN l))) (nd : (l.map (·.1)).Nodup) (hl : l.length ≤ 1000) (k v : Nat) : DPut H p (.int k) (.int v) (upd H p (.dK (dN (put l k v)))) := by
  have h1 := DPut.k (k := (.inl (k : Int) : Key)) (v := .int v) h (by rw [dOf_len]; exact small1000 hl)
  have h2 : putK (dN l) (.inl (k : Int)) (.int v) = dN (put l k v) := putK_dOf (kf := fun n : Nat => (Sum.inl (n : Int) : Key)) (vf := fun n : Nat => V.int (n : Int)) inl_inj nd
  rw [h2] at h1
  exact h1
theorem put_len {l : List (Nat × Nat)} {k v : Nat} : (put l k v).length ≤ l.length + 1 := by
  have h1 := congrArg List.length (put_keys l k v)
  rw [List.length_map] at h1
  rw [h1]
  split <;> simp
/-- lists of numbers at these addresses, apart from the list that holds them -/
structure LL (H : Hp) (af : Addr) (qs : List Addr) (L : List (List Nat)) : Prop where
  at_ : H af = some (.lst (qs.map V.ref))
  len : qs.length = L.length
  row : ∀ (j : Nat) (q : Addr) (l : List Nat), qs[j]? = some q → L[j]? = some l → q ≠ af ∧ H q = some (.lst (nV l))
theorem LL.same {H H' : Hp} {af : Addr} {qs : List Addr} {L : List (List Nat)} (b : LL H af qs L) (s : Same H H') : LL H' af qs L := ⟨s _ _ b.at_, b.len, fun j q l h h' => ⟨(b.row j q l h h').1, s _ _ (b.row j q l h h').2⟩⟩
theorem LL.nil {H : Hp} {af : Addr} (h : H af = some (.lst [])) : LL H af [] [] := ⟨h, rfl, fun j q l h => by simp at h⟩
theorem LL.free {H : Hp} {af p : Addr} {qs : List Addr} {L : List (List Nat)} (b : LL H af qs L) (h : H p = none) : p ≠ af ∧ p ∉ qs := by
  refine ⟨fun e => ?_, fun hm => ?_⟩
  · rw [e, b.at_] at h
    cases h
  · obtain ⟨j, hj, e⟩ := List.mem_iff_getElem.mp hm
    have := (b.row j p _ (by rw [List.getElem?_eq_getElem hj, e]) (List.getElem?_eq_getElem (b.len ▸ hj))).2
    rw [h] at this
    cases this
theorem LL.other {H : Hp} {af p : Addr} {o : HO} {qs : List Addr} {L : List (List Nat)} (b : LL H af qs L) (h1 : p ≠ af) (h2 : p ∉ qs) : LL (upd H p o) af qs L :=
  ⟨by rw [upd_ne h1.symm]; exact b.at_, b.len, fun j q l h h' => ⟨(b.row j q l h h').1, by rw [upd_ne (fun e : q = p => h2 (e ▸ List.mem_of_getElem? h))]; exact (b.row j q l h h').2⟩⟩
theorem LL.add {H : Hp} {af p : Addr} {qs : List Addr} {L : List (List Nat)} {l : List Nat} (b : LL H af qs L) (h1 : p ≠ af) (h2 : H p = some (.lst (nV l))) : LL (upd H af (.lst (qs.map V.ref ++ [.ref p]))) af (qs ++ [p]) (L ++ [l]) := by
  refine ⟨by rw [upd_same, List.map_append]; rfl, by rw [List.length_append, List.length_append, b.len]; rfl, fun j q l' h h' => ?_⟩
  by_cases hj : j < qs.length
  · rw [List.getElem?_append_left hj] at h
    rw [List.getElem?_append_left (b.len ▸ hj)] at h'
    have := b.row j q l' h h'
    exact ⟨this.1, by rw [upd_ne this.1]; exact this.2⟩
  · rw [List.getElem?_append_right (Nat.le_of_not_lt hj)] at h
    rw [List.getElem?_append_right (b.len ▸ Nat.le_of_not_lt hj), ← b.len] at h'
    cases e : j - qs.length with
    | zero =>
      rw [e] at h h'
      cases h
      cases h'
      exact ⟨h1, by rw [upd_ne h1]; exact h2⟩
    | succ m =>
      rw [e] at h
      simp at h
/-- the i-th of them -/
theorem LL.get {H : Hp} {af : Addr} {qs : List Addr} {L : List (List Nat)} (b : LL H af qs L) {i : Nat} (hi : i < L.length) : ∃ q l, atI (qs.map V.ref) (i : Int) = some (.ref q) ∧ L[i]? = some l ∧ H q = some (.lst (nV l)) ∧ q ≠ af := by
  have hi' : i < qs.length := by rw [b.len]; exact hi
  have hq : qs[i]? = some qs[i] := List.getElem?_eq_getElem hi'
  have hl : L[i]? = some L[i] := List.getElem?_eq_getElem hi
  exact ⟨_, _, atI_nat (by rw [List.getElem?_map, hq]; rfl), hl, (b.row i _ _ hq hl).2, (b.row i _ _ hq hl).1⟩
def Adj (L : List (List Nat)) (i j : Nat) : Prop := ∃ l, L[i]? = some l ∧ j ∈ l
theorem Adj.of {L : List (List Nat)} {i j : Nat} {l : List Nat} (h : L[i]? = some l) : Adj L i j ↔ j ∈ l := by
  constructor
  · rintro ⟨l', h', hj⟩
    rw [h] at h'
    cases h'
    exact hj
  · exact fun hj => ⟨l, h, hj⟩
theorem Adj.lt {L : List (List Nat)} {i j : Nat} (h : Adj L i j) : i < L.length := by
  obtain ⟨l, h, _⟩ := h
  exact (List.getElem?_eq_some_iff.mp h).1
/-- which can be done behind which: a row for each -/
noncomputable def afterM (R : List Ride) (trips : List Trip) : List (List Nat) := (List.range trips.length).map fun i => (List.range trips.length).filter fun j => Cm R trips i j
theorem afterM_len (R : List Ride) (trips : List Trip) : (afterM R trips).length = trips.length := by
  unfold afterM
  rw [List.length_map, List.length_range]
theorem afterM_get {R : List Ride} {trips : List Trip} {i : Nat} (h : i < trips.length) : (afterM R trips)[i]? = some ((List.range trips.length).filter fun j => Cm R trips i j) := by
  unfold afterM
  rw [List.getElem?_map, List.getElem?_range h]
  rfl
theorem adj_after {R : List Ride} {trips : List Trip} {i j : Nat} : Adj (afterM R trips) i j ↔ Cm R trips i j = true := by
  constructor
  · intro h
    have hi := h.lt
    rw [afterM_len] at hi
    have := (Adj.of (afterM_get hi)).mp h
    exact (List.mem_filter.mp this).2
  · intro h
    have hl := Cm_lt h
    exact (Adj.of (afterM_get hl.1)).mpr (List.mem_filter.mpr ⟨List.mem_range.mpr hl.2, h⟩)
theorem dp_nats {K : PySem.W.Frag} {H : Hp} : ∀ l : List Nat, DpAll K H (nV l) (l.map fun k : Nat => PyData.int (k : Int))
  | [] => .nil
  | k :: l => .cons (.int k) (dp_nats l)
theorem sh_nats (l : List Nat) : Sh 1 (.list (l.map fun k : Nat => PyData.int (k : Int))) := sh_list fun d hd => by
  obtain ⟨k, _, rfl⟩ := List.mem_map.mp hd
  exact sh_int k
theorem sh_nil0 : Sh 1 (.list []) := sh_list fun _ h => nomatch h
/-- l != [] of numbers -/
theorem ne_nil_of {K : PySem.W.Frag} {H : Hp} {a b : Addr} {l : List Nat} (h1 : H a = some (.lst (nV l))) (h2 : H b = some (.lst [])) : ∃ d e, Dp K H (.ref a) d ∧ Dp K H (.ref b) e ∧ SeqAt.shaped d = true ∧ SeqAt.shaped e = true ∧ PyData.eqv d e = l.isEmpty := by
  refine ⟨_, _, .lst (sqL_of h1) (dp_nats l), .lst (sqL_of h2) .nil, (sh_nats l).ok (by decide), sh_nil0.ok (by decide), ?_⟩
  cases l with
  | nil => simp [PyData.eqv, PyData.eqvAll]
  | cons k l => simp [PyData.eqv, PyData.eqvAll]
end Fb
/-! The stops of a bus's day; plain. -/
namespace Fb
open PySem PySem.Spec PyProof.Rows L2
abbrev Stop : Type := Str × Int
def stopV (s : Stop) : List V := [.str s.1, .int s.2]
noncomputable def toD (R : List Ride) (x : Str) (m : Int) (z : Str) : Stop := (z, m + (dist R x z).getD 0)
noncomputable def legOf (R : List Ride) (x : Str) (m : Int) (ps : List Str) : List Stop := (ps.drop 1).map (toD R x m)
def two (t : Trip) : List Stop := [(t.1, t.2.1), (t.2.2.1, t.2.2.2)]
/-- the leg between two trips -/
def Leg (R : List Ride) (t u : Trip) (seg : List Stop) : Prop := ∃ ps, Way R t.2.2.1 u.1 ps ∧ (∃ d, dist R t.2.2.1 u.1 = some d) ∧ seg = legOf R t.2.2.1 t.2.2.2 ps
structure DayOk (R : List Ride) (ts : List Trip) (parts : List (List Stop)) : Prop where
  len : parts.length = ts.length
  part : ∀ k t, ts[k]? = some t → ∃ seg, parts[k]? = some (seg ++ two t) ∧ (k = 0 → seg = []) ∧ ∀ t', k ≠ 0 → ts[k - 1]? = some t' → Leg R t' t seg
theorem DayOk.nil (R : List Ride) : DayOk R [] [] := ⟨rfl, fun k t h => by simp at h⟩
theorem DayOk.add {R : List Ride} {ts : List Trip} {parts : List (List Stop)} (d : DayOk R ts parts) {t : Trip} {seg : List Stop} (h0 : ts = [] → seg = []) (h1 : ∀ t', ts[ts.length - 1]? = some t' → ts ≠ [] → Leg R t' t seg) : DayOk R (ts ++ [t]) (parts ++ [seg ++ two t]) := by
  refine ⟨by rw [List.length_append, List.length_append, d.len]; rfl, fun k u hu => ?_⟩
  by_cases hk : k < ts.length
  · rw [List.getElem?_append_left hk] at hu
    obtain ⟨sg, e1, e2, e3⟩ := d.part k u hu
    refine ⟨sg, by rw [List.getElem?_append_left (d.len ▸ hk)]; exact e1, e2, fun t' hk0 h => e3 t' hk0 ?_⟩
    rw [List.getElem?_append_left (by omega)] at h
    exact h
  · have hk2 := (List.getElem?_eq_some_iff.mp hu).1
    rw [List.length_append] at hk2
    have hk3 : k = ts.length := by
      have : k < ts.length + 1 := hk2
      omega
    subst hk3
    rw [List.getElem?_append_right (Nat.le_refl _), Nat.sub_self] at hu
    have e : t = u := Option.some.inj hu
    subst e
    refine ⟨seg, by rw [← d.len, List.getElem?_append_right (Nat.le_refl _), Nat.sub_self]; rfl, fun h => h0 (List.length_eq_zero_iff.mp h), fun t' hk0 h => ?_⟩
    rw [List.getElem?_append_left (by omega)] at h
    exact h1 t' h fun e => hk0 (by rw [e]; rfl)
theorem way_last {R : List Ride} {x y : Str} {ps : List Str} (h : Way R x y ps) : ps[ps.length - 1]? = some y ∧ 1 ≤ ps.length := by
  obtain ⟨fs, e⟩ := h.last
  rw [e]
  refine ⟨by simp, by simp⟩
/-- all places of a way are reached; none but the last is its last one -/
theorem way_dist {R : List Ride} {x y : Str} {ps : List Str} (hp : PosR R) (h : Way R x y ps) : ∀ (i : Nat) (u : Str), ps[i]? = some u → ∃ a, dist R x u = some a
  | 0, u, hu => by
    rw [h.first] at hu
    cases hu
    exact ⟨0, dist_self hp x⟩
  | i + 1, u, hu => by
    have hi := (List.getElem?_eq_some_iff.mp hu).1
    obtain ⟨w, a, _, _, e⟩ := h.step i ps[i] u (List.getElem?_eq_getElem (by omega)) hu
    exact ⟨_, e⟩
theorem way_up {R : List Ride} {x y : Str} {ps : List Str} (hp : PosR R) (h : Way R x y ps) : ∀ (k i : Nat) (u v : Str) (a b : Int), ps[i]? = some u → ps[i + k + 1]? = some v → dist R x u = some a → dist R x v = some b → a < b
  | 0, i, u, v, a, b, hu, hv, ha, hb => by
    obtain ⟨w, a', hr, h1, h2⟩ := h.step i u v hu hv
    rw [ha] at h1
    rw [hb] at h2
    have := hp _ hr
    have := Option.some.inj h1
    have := Option.some.inj h2
    simp only at *
    omega
  | k + 1, i, u, v, a, b, hu, hv, ha, hb => by
    have hi := (List.getElem?_eq_some_iff.mp hv).1
    have hm : ps[i + k + 1]? = some ps[i + k + 1] := List.getElem?_eq_getElem (by omega)
    obtain ⟨c, hc⟩ := way_dist hp h _ _ hm
    have h1 := way_up hp h k i u _ a c hu hm ha hc
    obtain ⟨w, a', hr, h3, h2⟩ := h.step (i + k + 1) _ v hm hv
    rw [hc] at h3
    rw [hb] at h2
    have := hp _ hr
    have := Option.some.inj h3
    have := Option.some.inj h2
    simp only at *
    omega
theorem way_ne {R : List Ride} {x y : Str} {ps : List Str} (hp : PosR R) (h : Way R x y ps) {i : Nat} {u : Str} (hu : ps[i]? = some u) (hi : i + 1 < ps.length) : u ≠ y := fun e => by
  have hl := (way_last h).1
  obtain ⟨a, ha⟩ := way_dist hp h i u hu
  rw [← e] at hl
  have := way_up hp h (ps.length - 1 - i - 1) i u u a a hu (by rw [show i + (ps.length - 1 - i - 1) + 1 = ps.length - 1 by omega]; exact hl) ha ha
  omega
end Fb
/-! behind: which trips can be done behind which. -/
namespace Fb
open PySem PySem.Spec PyProof.Rows L2
def spBehind (K : PySem.W.Frag) : Sp := fun vs H Q _ => ∃ (a b : Addr) (rides : List Ride) (trips : List Trip), vs = [.ref a, .ref b] ∧ Told2 K H a b rides trips ∧
  ∀ H' p qs, Same H H' → H p = none → LL H' p qs (afterM (roadsM rides trips) trips) → Q (.ref p) H'
section
variable {P : Program} {w : World} {K : PySem.W.Frag} {mg : Str → Option Value} {base : Heap}
theorem cal_behind {f : Addr} {fd : FuncData} (F : Fn K "behind" s_behind f fd) (g : mg "behind" = some (.ref f)) (B : Bi mg) (c_looked : C8.Cal P w K mg base 3 "looked" (spLooked K) []) (c_spread : C8.Cal P w K mg base 5 "spread" (spSpread K) []) (c_comes : C8.Cal P w K mg base 1 "comes" (spComes K) []) : C8.Cal P w K mg base 6 "behind" (spBehind K) [] := by
  refine cal_of F g sc_behind (bi_behind F) (fun vs H Q E h => ?_) (fun cdv A outer s H vs Q E hr h => ?_)
  · obtain ⟨a, b, rides, trips, rfl, _⟩ := h
    rfl
  · obtain ⟨a, b, rides, trips, rfl, T, q⟩ := h
    refine ⟨_, (pss_cons (ps_expr (C8.pe_c c_looked hr (by decide) (by rfl) (pa_cons (pv 0) (pa_cons (pv 1) pa_nil)))) (pss_cons (ps_set (i := 2) sc_behind.nd rfl (Or.inl rfl) (pe_lst pa_nil)) (pss_cons (ps_for PassesOwn.never rfl (pi_list (pv 1)) (pg_name (i := 3) sc_behind.nd rfl (Or.inr rfl)) (pss_cons (ps_set (i := 4) sc_behind.nd rfl (Or.inr rfl) (C8.pe_c c_spread hr (by decide) (by rfl) (pa_cons (pv 0) (pa_cons (pv 1) (pa_cons (pe_ix (r := rIxT K) ix_tup (pv 3) pe_int (fun _ _ => rfl)) pa_nil))))) (pss_one (ps_expr (pe_bm PySem.F.plainAttrs_list PySem.F.slot_list_append PySem.F.type_list_append mt_append (pv 2) (pa_cons (pe_lc (own := [("k", 5)]) (g := gName 5)  rfl sc_behind.nd (pi_range1 (by rfl) B.range (pa_cons (pe_callB (r := rLenS K) call_len_seq (by rfl) B.len PySem.boot_len (pa_cons (pv 1) pa_nil)) pa_nil)) (blkOk_by (N := ["rides", "trips", "found", "ahead", "minutes", "k"]) (sc := defScope s_behind) (by decide +kernel)) (fun _ _ _ _ _ => pg_name (i := 5) sc_behind.nd rfl (Or.inl rfl)) (fun _ _ _ _ _ => (pts_one (pt_val (C8.pe_c c_comes hr (by decide) (by rfl) (pa_cons (pv 4) (pa_cons (pv 3) (pa_cons (pe_ix (r := rIxL K) ix_list (pv 1) (pv 5) (fun _ _ => rfl)) pa_nil))))))) (fun _ _ _ _ _ => (pv 5))) pa_nil)))))) (pss_one (ps_ret (pv 2)))))), ?_⟩
    obtain ⟨qs, hL, hT⟩ := T.lT
    have ll : (qs.map V.ref).length = trips.length := by rw [List.length_map, hT.1]
    have h101 := T.lenT
    refine ⟨_, rfl, _, rfl, a, b, rides, trips, rfl, T, ?_⟩
    refine ⟨Nat.zero_le _, fun af naf => ?_⟩
    have s1 : Same H (upd H af (.lst [])) := same_upd naf
    refine ⟨_, rfl, b, rfl, ⟨_, s1.seq hL⟩, for_list (K := K) (a := b) (xs := qs.map V.ref) (fun i σ H' => Same H H' ∧ (∃ y3 y4, σ = [some (.ref a), some (.ref b), some (.ref af), y3, y4, none]) ∧ ∃ rs, LL H' af rs ((afterM (roadsM rides trips) trips).take i))
      ⟨s1, ⟨none, none, rfl⟩, [], LL.nil upd_same⟩ (fun i σ H' _ ⟨s, _⟩ => s.seq hL) ?_ ?_⟩
    · rintro i v σ H2 hi ⟨s2, ⟨y3, y4, rfl⟩, rs, hLL⟩
      obtain ⟨p1, t, rfl, ht, hs⟩ := (hT.same s2).at hi
      have hlt : i < trips.length := (List.getElem?_eq_some_iff.mp ht).1
      refine ⟨_, rfl, _, rfl, _, rfl, p1, _, 2, _, rfl, rfl, hs, atI_nat (j := 2) rfl, a, b, rides, trips, t.2.2.1, rfl, T.same s2, (T.okT t (List.mem_of_getElem? ht)).2.1, fun H3 mi l s3 nmi emi tab => ?_⟩
      have s23 := s2.trans s3
      have hLL3 := hLL.same s3
      refine ⟨_, rfl, .inl ⟨rfl, _, sqL_of hLL3.at_⟩, ?_⟩
      refine ⟨_, rfl, b, _, rfl, .inl (s23.seq hL), ((qs.map V.ref).length : Nat), rfl, by omega, by omega, fun D nD => ?_⟩
      have hfree := hLL3.free nD
      refine lc_range (lo := 0) (n := (qs.map V.ref).length) (fun j H' => Same H3 H' ∧ H' D = some (.lst (nV ((List.range j).filter fun k => Cm (roadsM rides trips) trips i k)))) ⟨same_upd nD, upd_same⟩ ?_ ?_
      · rintro j H4 hj ⟨s4, e4⟩
        rw [ll] at hj
        obtain ⟨t2, ht2⟩ : ∃ t2, trips[j]? = some t2 := ⟨_, List.getElem?_eq_getElem hj⟩
        have s24 := s23.trans s4
        obtain ⟨p2, hp2, hs2⟩ := (hT.same s24).addr ht2
        have at2 : atI (qs.map V.ref) (0 + (j : Int)) = some (.ref p2) := by
          rw [Int.zero_add]
          exact atI_nat (by rw [List.getElem?_map, hp2]; rfl)
        refine ⟨rfl, ?_⟩
        refine ⟨_, rfl, _, rfl, _, rfl, _, rfl, b, _, _, _, rfl, rfl, s24.seq hL, at2, mi, p1, p2, l, t, t2, rfl, s4 _ _ emi, same_seqT (s3.trans s4) hs, hs2, ?_⟩
        rw [tab.all]
        have ec : comesB (dist (roadsM rides trips) t.2.2.1 t2.1) t t2 = Cm (roadsM rides trips) trips i j := (Cm_eq ht ht2).symm
        rw [ec]
        refine ⟨_, rfl, ?_⟩
        cases c : Cm (roadsM rides trips) trips i j with
        | false =>
          refine if_f rfl ⟨s4, ?_⟩
          rw [List.range_succ, List.filter_append, List.filter_cons_of_neg (by rw [c]; exact Bool.false_ne_true), List.filter_nil, List.append_nil]
          exact e4
        | true =>
          refine if_t rfl ⟨_, rfl, _, e4, ?_, same_put s4 nD, ?_⟩
          · rw [List.length_map]
            have := List.length_filter_le (fun k => Cm (roadsM rides trips) trips i k) (List.range j)
            rw [List.length_range] at this
            exact small1000 (by omega)
          · rw [upd_same, List.range_succ, List.filter_append, List.filter_cons_of_pos (by exact c), List.filter_nil, Int.zero_add]
            exact congrArg (fun x => some (HO.lst x)) (nV_add _ j).symm
      · rintro H4 ⟨s4, e4⟩
        rw [ll] at e4
        have hLL4 := hLL3.same s4
        refine ⟨af, _, _, rfl, rfl, hLL4.at_, ?_, same_put (s23.trans s4) naf, ⟨_, _, rfl⟩, rs ++ [D], ?_⟩
        · rw [List.length_map, hLL4.len, List.length_take]
          exact small1000 (by omega)
        · have e5 : (afterM (roadsM rides trips) trips).take (i + 1) = (afterM (roadsM rides trips) trips).take i ++ [(List.range trips.length).filter fun k => Cm (roadsM rides trips) trips i k] := by
            rw [List.take_add_one, afterM_get hlt]
            rfl
          rw [e5]
          exact hLL4.add hfree.1 e4
    · rintro σ H2 ⟨s2, ⟨y3, y4, rfl⟩, rs, hLL⟩
      rw [ll, List.take_of_length_le (by rw [afterM_len]; exact Nat.le_refl _)] at hLL
      exact ⟨_, rfl, q H2 af rs s2 naf hLL⟩
end
end Fb
/-! free_one: a search for one that has none ahead. -/
namespace Fb
open PySem PySem.Spec PyProof.Rows L2
def spFree (K : PySem.W.Frag) : Sp := fun vs H Q _ => ∃ (a h : Addr) (first : Nat) (qs : List Addr) (L : List (List Nat)) (la : List (Nat × Nat)), vs = [.ref a, .ref h, .int first] ∧ LL H a qs L ∧ H h = some (.dK (dN la)) ∧ first < L.length ∧ L.length ≤ 200 ∧
  (∀ i j, Adj L i j → j < L.length) ∧ (∀ k i, look la k = some i → i < L.length) ∧
  (∀ H', Same H H' → (∃ DL DR, Closed (Adj L) (look la) DL DR ∧ DL first) → Q .non H') ∧
  ∀ H' p c lc other, Same H H' → SqT K H' p [.int ((other : Nat) : Int), .ref c] → H c = none → H' c = some (.dK (dN lc)) → Came (Adj L) (look la) first lc → (∃ i, look lc other = some i) → look la other = none → Q (.ref p) H'
section
variable {P : Program} {w : World} {K : PySem.W.Frag} {mg : Str → Option Value} {base : Heap}
theorem cal_free_one {f : Addr} {fd : FuncData} (F : Fn K "free_one" s_free_one f fd) (g : mg "free_one" = some (.ref f)) (B : Bi mg) : C8.Cal P w K mg base 1 "free_one" (spFree K) [] := by
  refine cal_of F g sc_free_one (bi_free_one F) (fun vs H Q E h => ?_) (fun cdv A outer s H vs Q E hr h => ?_)
  · obtain ⟨a, h, first, qs, L, la, rfl, _⟩ := h
    rfl
  · obtain ⟨a, h, first, qs, L, la, rfl, hLL, eh, hf, hn, hA, hv, qn, qy⟩ := h
    have hu := hu_of hr
    refine ⟨_, (pss_cons (ps_set (i := 3) sc_free_one.nd rfl (Or.inl rfl) pe_dnewK) (pss_cons (ps_set (i := 4) sc_free_one.nd rfl (Or.inl rfl) (pe_lst (pa_cons (pv 2) pa_nil))) (pss_cons (ps_while PassesOwn.never (pt_cmpR (op_neD hr.units) (pv 4) (pe_lst pa_nil) (nomark _)) (pss_cons (ps_set (i := 5) sc_free_one.nd rfl (Or.inl rfl) (pe_bm0 PySem.F.plainAttrs_list PySem.F.slot_list_pop PySem.F.type_list_pop mt_pop (pv 4))) (pss_one (ps_for PassesOwn.never rfl (pi_list (pe_ix (r := rIxL K) ix_list (pv 0) (pv 5) (fun _ _ => rfl))) (pg_name (i := 6) sc_free_one.nd rfl (Or.inl rfl)) (pss_one (ps_if (pt_cmp (pc_dnotin hu (pv 6) (pv 3))) (pss_cons (ps_dput hu (pv 3) (pv 6) (pv 5) rfl) (pss_cons (ps_if (pt_cmp (pc_dnotin hu (pv 6) (pv 1))) (pss_one (ps_ret (pe_tup (pa_cons (pv 6) (pa_cons (pv 3) pa_nil))))) pss_nil) (pss_one (ps_expr (pe_bm PySem.F.plainAttrs_list PySem.F.slot_list_append PySem.F.type_list_append mt_append (pv 4) (pa_cons (pe_dget hu (pv 1) (pv 6) (fun _ _ => rfl)) pa_nil)))))) pss_nil)))))) (pss_one (ps_ret pe_non))))), ?_⟩
    intro c nc
    refine ⟨_, rfl, Nat.succ_le_of_lt (by decide), fun wt nw1 => ?_⟩
    have nw : H wt = none := (same_upd nc).free nw1
    have ncw : c ≠ wt := fun e => by
      rw [← e, upd_same] at nw1
      cases nw1
    refine ⟨fun m σ H' => ∃ (l : List (Nat × Nat)) (ws : List Nat) (y5 y6 : Option V), σ = [some (.ref a), some (.ref h), some (.int first), some (.ref c), some (.ref wt), y5, y6] ∧ Same H H' ∧ H' c = some (.dK (dN l)) ∧ H' wt = some (.lst (nV ws)) ∧ Seek (Adj L) (look la) first l ws ∧
      m = ws.length + (L.length - l.length) ∧ m ≤ L.length + 1, ⟨_, [], [first], none, none, rfl, (same_upd nc).trans (same_upd nw1), ?_, upd_same, Seek.first _ _ _, rfl, ?_⟩, ?_⟩
    · rw [upd_ne ncw, upd_same]
      rfl
    · show 1 + (L.length - 0) ≤ L.length + 1
      omega
    rintro m σ H1 ⟨l, ws, y5, y6, rfl, s1, ec, ew, sk, rfl, hm⟩
    refine ⟨_, rfl, Nat.zero_le _, fun x nx => ?_⟩
    have sx : Same H1 (upd H1 x (.lst [])) := same_upd nx
    obtain ⟨d, e, D1, D2, S1, S2, E1⟩ := ne_nil_of (K := K) (sx _ _ ew) (upd_same (a := x))
    refine ⟨d, e, D1, D2, S1, S2, ?_⟩
    rw [E1]
    obtain ⟨H2, hH2⟩ : ∃ H2, H2 = upd H1 x (.lst []) := ⟨_, rfl⟩
    rw [← hH2] at sx ⊢
    have s2 := s1.trans sx
    have ec2 := sx _ _ ec
    have ew2 := sx _ _ ew
    clear D1 D2 hH2 nx
    rcases List.eq_nil_or_concat ws with rfl | ⟨ws', one, rfl⟩
    · exact ⟨_, rfl, if_f rfl (qn H2 s2 sk.end)⟩
    · rw [List.concat_eq_append] at *
      have hb : (!(ws' ++ [one]).isEmpty) = true := by cases ws' <;> rfl
      have tn := sk.turn
      have hone : one < L.length := by
        rcases tn.mine with e | ⟨k, _, e⟩
        · rw [e]; exact hf
        · exact hv _ _ e
      obtain ⟨q, r, atq, hr1, er, nq⟩ := hLL.get hone
      rw [nV_add] at ew2
      refine ⟨_, rfl, if_t hb ⟨fun σ' H' => ∃ (l' : List (Nat × Nat)) (ws'' : List Nat) (y5 y6 : Option V), σ' = [some (.ref a), some (.ref h), some (.int first), some (.ref c), some (.ref wt), y5, y6] ∧ Same H H' ∧ H' c = some (.dK (dN l')) ∧ H' wt = some (.lst (nV ws'')) ∧ Seek (Adj L) (look la) first l' ws'' ∧
        ws''.length + (L.length - l'.length) < (ws' ++ [one]).length + (L.length - l.length), ?_, ?_⟩⟩
      · rintro σ' H' ⟨l', ws'', z5, z6, rfl, s3, e3, e4, sk', lt'⟩
        exact ⟨_, lt', l', ws'', z5, z6, rfl, s3, e3, e4, sk', rfl, by omega⟩
      · refine ⟨_, rfl, .inl ⟨rfl, _, sqL_of ew2⟩, wt, _, .int one, rfl, rfl, ew2, ?_, ?_⟩
        · rw [List.length_append, List.getElem?_append_right (by show _ ≤ _ + 1 - 1; omega)]
          simp
        rw [List.dropLast_concat]
        have s3 : Same H (upd H2 wt (.lst (nV ws'))) := same_put s2 nw
        refine ⟨_, rfl, _, rfl, a, _, _, _, rfl, rfl, sqL_of (s3 _ _ hLL.at_), atq, ?_⟩
        refine ⟨q, rfl, ⟨_, sqL_of (s3 _ _ er)⟩, for_list (K := K) (a := q) (xs := nV r) (fun i σ H' => Same H H' ∧ ∃ (l' : List (Nat × Nat)) (ws'' : List Nat) (y6 : Option V), σ = [some (.ref a), some (.ref h), some (.int first), some (.ref c), some (.ref wt), some (.int one), y6] ∧ H' c = some (.dK (dN l')) ∧ H' wt = some (.lst (nV ws'')) ∧
          Turn (Adj L) (look la) first one l' ws'' (r.take i) ∧ ws''.length + (L.length - l'.length) < (ws' ++ [one]).length + (L.length - l.length))
          ⟨s3, l, ws', y6, rfl, by rw [upd_ne ncw]; exact ec2, upd_same, tn, ?_⟩ (fun i σ H' _ ⟨s, _⟩ => sqL_of (s _ _ er)) ?_ ?_⟩
        · rw [List.length_append]
          show _ < _ + 1 + _
          omega
        · rintro i v σ H4 hi ⟨s4, l', ws'', z6, rfl, e4, f4, tn', lt'⟩
          obtain ⟨other, rfl, ho⟩ := nV_get hi
          have hadj : Adj L one other := ⟨r, hr1, List.mem_of_getElem? ho⟩
          have etk : r.take (i + 1) = r.take i ++ [other] := by
            rw [List.take_add_one, ho]
            rfl
          refine ⟨_, rfl, _, rfl, c, _, rfl, get_n e4 other, ?_⟩
          cases hl : look l' other with
          | some i0 =>
            refine ⟨_, rfl, if_f rfl ⟨s4, l', ws'', _, rfl, e4, f4, ?_, lt'⟩⟩
            rw [etk]
            exact tn'.old (by
              cases Classical.em (other ∈ l'.map (·.1)) with
              | inl z => exact z
              | inr z =>
                rw [look_none.mpr z] at hl
                cases hl)
          | none =>
            have hcm := tn'.met hadj hl
            have hlen : (put l' other one).length ≤ L.length := hcm.lt hA
            have hlen1 : (put l' other one).length = l'.length + 1 := by
              rw [put_new hl, List.length_append]
              rfl
            refine ⟨_, rfl, if_t rfl ⟨_, rfl, _, rfl, _, rfl, c, _, rfl, put_n e4 tn'.came.nd (by omega) other one, ?_⟩⟩
            have s5 : Same H (upd H4 c (.dK (dN (put l' other one)))) := same_put s4 nc
            refine ⟨_, rfl, _, rfl, h, _, rfl, get_n (s5 _ _ eh) other, ?_⟩
            cases hla : look la other with
            | none =>
              refine ⟨_, rfl, if_t rfl ⟨_, rfl, _, rfl, (by show 2 ≤ sizeLine; decide), fun p np => ?_⟩⟩
              exact qy _ p c (put l' other one) other (s5.trans (same_upd np)) (sqT_of upd_same) nc (by
                rw [upd_ne (fun e : c = p => by
                  rw [← e, upd_same] at np
                  cases np), upd_same]) hcm ⟨one, by rw [look_put, if_pos rfl]⟩ hla
            | some i1 =>
              have g1 : DGet (upd H4 c (.dK (dN (put l' other one)))) h (.int other) (some (.int i1)) := by
                have := get_n (s5 _ _ eh) other
                rw [hla] at this
                exact this
              have f5 : (upd H4 c (.dK (dN (put l' other one)))) wt = some (.lst (nV ws'')) := by
                rw [upd_ne ncw.symm]
                exact f4
              refine ⟨_, rfl, if_f rfl ⟨_, rfl, .inl ⟨rfl, _, sqL_of f5⟩, _, rfl, _, rfl, h, _, rfl, g1, wt, _, _, rfl, rfl, f5, ?_, same_put s5 nw, put l' other one, ws'' ++ [i1], _, rfl, ?_, ?_, ?_, ?_⟩⟩
              · rw [List.length_map]
                exact small1000 (by omega)
              · rw [upd_ne ncw, upd_same]
              · rw [upd_same, nV_add]
              · rw [etk]
                exact tn'.new hadj hl hla
              · rw [List.length_append, hlen1]
                show _ + 1 + _ < _
                omega
        · rintro σ H4 ⟨s4, l', ws'', z6, rfl, e4, f4, tn', lt'⟩
          rw [List.length_map, List.take_length] at tn'
          exact ⟨l', ws'', _, _, rfl, s4, e4, f4, tn'.end fun j hj => (Adj.of hr1).mp hj, lt'⟩
end
end Fb
/-! paired: as many pairs as can be. -/
namespace Fb
open PySem PySem.Spec PyProof.Rows L2
structure KL (n : Nat) (l : List (Nat × Nat)) : Prop where
  nd : (l.map (·.1)).Nodup
  lt : ∀ k, look l k ≠ none → k < n
theorem KL.nil (n : Nat) : KL n [] := ⟨List.nodup_nil, fun _ h => absurd rfl h⟩
theorem KL.put {n : Nat} {l : List (Nat × Nat)} (h : KL n l) {k : Nat} (v : Nat) (hk : k < n) : KL n (put l k v) := ⟨put_nodup h.nd k v, fun j hj => by
  rw [look_put] at hj
  by_cases e : j = k
  · rw [e]
    exact hk
  · rw [if_neg e] at hj
    exact h.lt j hj⟩
theorem KL.len {n : Nat} {l : List (Nat × Nat)} (h : KL n l) : l.length ≤ n := by
  have := nodup_len (m := List.range n) h.nd fun k hk => List.mem_range.mpr (h.lt k fun e => look_none.mp e hk)
  simpa using this
structure PairOk (L : List (List Nat)) (ln la : List (Nat × Nat)) : Prop where
  kn : KL L.length ln
  ka : KL L.length la
  mat : Mat (Adj L) (look ln) (look la)
theorem PairOk.val {L : List (List Nat)} {ln la : List (Nat × Nat)} (p : PairOk L ln la) {k i : Nat} (h : look la k = some i) : i < L.length := (p.mat.ok i k ((p.mat.inv i k).mpr h)).lt
def spPaired (K : PySem.W.Frag) : Sp := fun vs H Q _ => ∃ (a : Addr) (qs : List Addr) (L : List (List Nat)), vs = [.ref a] ∧ LL H a qs L ∧ L.length ≤ 200 ∧ (∀ i j, Adj L i j → j < L.length) ∧
  ∀ H' p n h ln la, Same H H' → SqT K H' p [.ref n, .ref h] → H n = none → H h = none → H' n = some (.dK (dN ln)) → H' h = some (.dK (dN la)) → PairOk L ln la → (∃ DL DR, Closed (Adj L) (look la) DL DR ∧ ∀ i, i < L.length → look ln i = none → DL i) → Q (.ref p) H'
section
variable {P : Program} {w : World} {K : PySem.W.Frag} {mg : Str → Option Value} {base : Heap}
theorem cal_paired {f : Addr} {fd : FuncData} (F : Fn K "paired" s_paired f fd) (g : mg "paired" = some (.ref f)) (B : Bi mg) (c_free_one : C8.Cal P w K mg base 1 "free_one" (spFree K) []) : C8.Cal P w K mg base 2 "paired" (spPaired K) [] := by
  refine cal_of F g sc_paired (bi_paired F) (fun vs H Q E h => ?_) (fun cdv A outer s H vs Q E hr h => ?_)
  · obtain ⟨a, qs, L, rfl, _⟩ := h
    rfl
  · obtain ⟨a, qs, L, rfl, hLL, hn, hA, q⟩ := h
    have hu := hu_of hr
    refine ⟨_, (pss_cons (ps_set (i := 1) sc_paired.nd rfl (Or.inl rfl) pe_dnewK) (pss_cons (ps_set (i := 2) sc_paired.nd rfl (Or.inl rfl) pe_dnewK) (pss_cons (ps_for PassesOwn.never rfl (pi_range1 (by rfl) B.range (pa_cons (pe_callB (r := rLenS K) call_len_seq (by rfl) B.len PySem.boot_len (pa_cons (pv 0) pa_nil)) pa_nil)) (pg_name (i := 3) sc_paired.nd rfl (Or.inl rfl)) (pss_cons (ps_set (i := 4) sc_paired.nd rfl (Or.inl rfl) (C8.pe_c c_free_one hr (by decide) (by rfl) (pa_cons (pv 0) (pa_cons (pv 2) (pa_cons (pv 3) pa_nil))))) (pss_one (ps_if (pt_cmpR op_notN (pv 4) pe_non (nomark _)) (pss_cons (ps_set (i := 5) sc_paired.nd rfl (Or.inl rfl) (pe_ix (r := rIxT K) ix_tup (pv 4) pe_int (fun _ _ => rfl))) (pss_cons (ps_set (i := 6) sc_paired.nd rfl (Or.inl rfl) pe_bl) (pss_one (ps_while PassesOwn.never (pt_val (pv 6)) (pss_cons (ps_set (i := 7) sc_paired.nd rfl (Or.inl rfl) (pe_dget hu (pe_ix (r := rIxT K) ix_tup (pv 4) pe_int (fun _ _ => rfl)) (pv 5) (fun _ _ => rfl))) (pss_cons (ps_set (i := 8) sc_paired.nd rfl (Or.inl rfl) (pe_dget1 hu (pv 1) (pv 7) ⟨by rfl, by rfl, by rfl, by rfl⟩)) (pss_cons (ps_dput hu (pv 1) (pv 7) (pv 5) rfl) (pss_cons (ps_dput hu (pv 2) (pv 5) (pv 7) rfl) (pss_cons (ps_set (i := 6) sc_paired.nd rfl (Or.inl rfl) (pe_cmpR op_notN (pv 8) pe_non (nomark _))) (pss_one (ps_if (pt_val (pv 6)) (pss_one (ps_set (i := 5) sc_paired.nd rfl (Or.inl rfl) (pv 8))) pss_nil))))))))))) pss_nil)))) (pss_one (ps_ret (pe_tup (pa_cons (pv 1) (pa_cons (pv 2) pa_nil)))))))), ?_⟩
    intro n nn h nh1
    have nh : H h = none := (same_upd nn).free nh1
    have nnh : n ≠ h := fun e => by
      rw [← e, upd_same] at nh1
      cases nh1
    have ll : qs.length = L.length := hLL.len
    refine ⟨_, rfl, a, _, rfl, .inl (sqL_of (((same_upd nn).trans (same_upd nh1)) _ _ hLL.at_)), ((qs.map V.ref).length : Nat), rfl, by omega, by rw [List.length_map]; omega, for_range (lo := 0) (n := (qs.map V.ref).length)
      (fun i σ H' => Same H H' ∧ (∃ y3 y4 y5 y6 y7 y8, σ = [some (.ref a), some (.ref n), some (.ref h), y3, y4, y5, y6, y7, y8]) ∧ ∃ ln la, H' n = some (.dK (dN ln)) ∧ H' h = some (.dK (dN la)) ∧ PairOk L ln la ∧ ∃ DL DR, Closed (Adj L) (look la) DL DR ∧ (∀ k, k < i → look ln k = none → DL k) ∧ ∀ k, look ln k ≠ none → k < i)
      ⟨(same_upd nn).trans (same_upd nh1), ⟨none, none, none, none, none, none, rfl⟩, [], [], ?_, upd_same, ⟨KL.nil _, KL.nil _, ⟨fun i j => ⟨(fun e => nomatch e), (fun e => nomatch e)⟩, (fun i j e => nomatch e)⟩⟩, _, _, Closed.none _ _, fun k hk => absurd hk (Nat.not_lt_zero k), fun k hk => absurd rfl hk⟩ ?_ ?_⟩
    · rw [upd_ne nnh, upd_same]
      rfl
    · rintro i σ H1 hi ⟨s1, ⟨y3, y4, y5, y6, y7, y8, rfl⟩, ln, la, en, eh, pk, DL, DR, cl, hD, hK⟩
      rw [List.length_map, ll] at hi
      have nn1 : n ≠ h := nnh
      refine ⟨_, rfl, _, rfl, _, rfl, a, h, i, qs, L, la, ?_, hLL.same s1, eh, hi, hn, hA, fun k j e => pk.val e, ?_, ?_⟩
      · show [V.ref a, V.ref h, V.int (0 + (i : Int))] = _
        rw [Int.zero_add]
      · rintro H2 s2 ⟨EL, ER, cl2, hf⟩
        refine ⟨_, rfl, rfl, _, rfl, if_f rfl ⟨s1.trans s2, ⟨_, _, _, _, _, _, rfl⟩, ln, la, s2 _ _ en, s2 _ _ eh, pk, _, _, cl.or cl2, fun k hk hk2 => ?_, fun k hk => ?_⟩⟩
        · by_cases e : k = i
          · rw [e]
            exact .inr hf
          · exact .inl (hD k (by omega) hk2)
        · have := hK k hk
          omega
      · intro H2 p c lc other s2 ep nc ec cm hth ho
        have ncn : n ≠ c := ne_of_none en nc
        have nch : h ≠ c := ne_of_none eh nc
        have hi0 : look ln i = none := by
          cases e : look ln i with
          | none => rfl
          | some j =>
            have := hK i (by rw [e]; exact fun z => nomatch z)
            omega
        refine ⟨_, rfl, rfl, _, rfl, if_t rfl ⟨_, rfl, p, _, 0, _, rfl, rfl, ep, atI_nat (j := 0) rfl, ?_⟩⟩
        refine ⟨fun m σ H' => ∃ (x : Nat) (b : Bool) (y7 y8 : Option V) (ln' la' : List (Nat × Nat)), σ = [some (.ref a), some (.ref n), some (.ref h), some (.int (0 + (i : Int))), some (.ref p), some (.int (x : Int)), some (.bl b), y7, y8] ∧ Same H H' ∧ H' n = some (.dK (dN ln')) ∧ H' h = some (.dK (dN la')) ∧ H' c = some (.dK (dN lc)) ∧ SqT K H' p [.int ((other : Nat) : Int), .ref c] ∧
          KL L.length ln' ∧ KL L.length la' ∧ (b = true → m = rank lc x + 1 ∧ Flip (Adj L) (look ln) (look la) (look ln') (look la') DR i lc x) ∧
          (b = false → Mat (Adj L) (look ln') (look la') ∧ Closed (Adj L) (look la') DL DR ∧ look ln' i ≠ none ∧ (∀ k, look ln' k = none → look ln k = none) ∧ ∀ k, k ≠ i → look ln k = none → look ln' k = none),
          ⟨_, other, true, _, _, ln, la, rfl, s1.trans s2, s2 _ _ en, s2 _ _ eh, ec, ep, pk.kn, pk.ka, fun _ => ⟨rfl, Flip.start pk.mat cl hi0 ho hth⟩, fun e => nomatch e⟩, ?_⟩
        rintro m σ H3 ⟨x, b, y7, y8, ln', la', rfl, s3, en3, eh3, ec3, ep3, kn, ka, ht, hf⟩
        refine ⟨_, rfl, b, rfl, ?_⟩
        cases b with
        | false =>
          obtain ⟨f1, f2, f3, f4, f5⟩ := hf rfl
          refine if_f rfl ⟨s3, ⟨_, _, _, _, _, _, rfl⟩, ln', la', en3, eh3, ⟨kn, ka, f1⟩, DL, DR, f2, fun k hk hk2 => ?_, fun k hk => ?_⟩
          · by_cases e : k = i
            · rw [e] at hk2
              exact absurd hk2 f3
            · exact hD k (by omega) (f4 k hk2)
          · by_cases e : k = i
            · omega
            · cases e2 : look ln k with
              | none => exact absurd (f5 k e e2) hk
              | some j =>
                have := hK k (by rw [e2]; exact fun z => nomatch z)
                omega
        | true =>
          obtain ⟨rfl, fl⟩ := ht rfl
          obtain ⟨one, hone⟩ := fl.there
          have hadj := (cm.come hone).1
          have hx := hA _ _ hadj
          have h1 := hadj.lt
          have gc : DGet H3 c (.int x) (some (.int one)) := by
            have := get_n ec3 x
            rw [hone] at this
            exact this
          have pn := put_n en3 kn.nd (by have := kn.len; omega) one x
          have kn2 := kn.put x h1
          have eh4 : (upd H3 n (.dK (dN (put ln' one x)))) h = some (.dK (dN la')) := by
            rw [upd_ne nnh.symm]
            exact eh3
          have ph := put_n eh4 ka.nd (by have := ka.len; omega) x one
          have ka2 := ka.put one hx
          have s5 : Same H (upd (upd H3 n (.dK (dN (put ln' one x)))) h (.dK (dN (put la' x one)))) := same_put (same_put s3 nn) nh
          have ec5 : (upd (upd H3 n (.dK (dN (put ln' one x)))) h (.dK (dN (put la' x one)))) c = some (.dK (dN lc)) := by
            rw [upd_ne nch.symm, upd_ne ncn.symm]
            exact ec3
          have ep5 : SqT K (upd (upd H3 n (.dK (dN (put ln' one x)))) h (.dK (dN (put la' x one)))) p [.int ((other : Nat) : Int), .ref c] := seqT_putD eh4 (seqT_putD en3 ep3)
          have en5 : (upd (upd H3 n (.dK (dN (put ln' one x)))) h (.dK (dN (put la' x one)))) n = some (.dK (dN (put ln' one x))) := by
            rw [upd_ne nnh, upd_same]
          have eh5 : (upd (upd H3 n (.dK (dN (put ln' one x)))) h (.dK (dN (put la' x one)))) h = some (.dK (dN (put la' x one))) := upd_same
          refine if_t rfl ⟨fun σ' H' => ∃ (x' : Nat) (b : Bool) (y7 y8 : Option V) (ln2 la2 : List (Nat × Nat)), σ' = [some (.ref a), some (.ref n), some (.ref h), some (.int (0 + (i : Int))), some (.ref p), some (.int (x' : Int)), some (.bl b), y7, y8] ∧ Same H H' ∧ H' n = some (.dK (dN ln2)) ∧ H' h = some (.dK (dN la2)) ∧ H' c = some (.dK (dN lc)) ∧ SqT K H' p [.int ((other : Nat) : Int), .ref c] ∧
            KL L.length ln2 ∧ KL L.length la2 ∧ (b = true → rank lc x' < rank lc x ∧ Flip (Adj L) (look ln) (look la) (look ln2) (look la2) DR i lc x') ∧
            (b = false → Mat (Adj L) (look ln2) (look la2) ∧ Closed (Adj L) (look la2) DL DR ∧ look ln2 i ≠ none ∧ (∀ k, look ln2 k = none → look ln k = none) ∧ ∀ k, k ≠ i → look ln k = none → look ln2 k = none), ?_, ?_⟩
          · rintro σ' H' ⟨x', b, z7, z8, ln2, la2, rfl, w1, w2, w3, w4, w5, w6, w7, w8, w9⟩
            cases b with
            | false => exact ⟨0, by omega, x', false, z7, z8, ln2, la2, rfl, w1, w2, w3, w4, w5, w6, w7, (fun e => nomatch e), w9⟩
            | true => exact ⟨rank lc x' + 1, by have := (w8 rfl).1; omega, x', true, z7, z8, ln2, la2, rfl, w1, w2, w3, w4, w5, w6, w7, (fun _ => ⟨rfl, (w8 rfl).2⟩), fun e => nomatch e⟩
          · refine ⟨_, rfl, p, _, 1, _, rfl, rfl, ep3, atI_nat (j := 1) rfl, _, rfl, c, _, rfl, gc, ?_⟩
            have gn := get_n en3 one
            cases hno : look ln' one with
            | none =>
              rw [hno] at gn
              refine ⟨_, rfl, n, rfl, .inl ⟨_, .inl en3⟩, _, rfl, _, gn, ?_⟩
              refine ⟨_, rfl, _, rfl, _, rfl, n, _, rfl, pn, _, rfl, _, rfl, _, rfl, h, _, rfl, ph, _, rfl, rfl, _, rfl, false, rfl, if_f rfl ?_⟩
              have fe := fl.end cl cm hone hno
              rw [← look_at, ← look_at] at fe
              exact ⟨x, false, _, _, _, _, rfl, s5, en5, eh5, ec5, ep5, kn2, ka2, (fun e => nomatch e), fun _ => fe⟩
            | some left =>
              rw [hno] at gn
              refine ⟨_, rfl, n, rfl, .inl ⟨_, .inl en3⟩, _, rfl, _, gn, ?_⟩
              refine ⟨_, rfl, _, rfl, _, rfl, n, _, rfl, pn, _, rfl, _, rfl, _, rfl, h, _, rfl, ph, _, rfl, rfl, _, rfl, true, rfl, if_t rfl ⟨_, rfl, ?_⟩⟩
              have fe := fl.next cl cm hone hno
              rw [← look_at, ← look_at] at fe
              exact ⟨left, true, _, _, _, _, rfl, s5, en5, eh5, ec5, ep5, kn2, ka2, (fun _ => ⟨fe.2, fe.1⟩), fun e => nomatch e⟩
    · rintro σ H1 ⟨s1, ⟨y3, y4, y5, y6, y7, y8, rfl⟩, ln, la, en, eh, pk, DL, DR, cl, hD, hK⟩
      rw [List.length_map, ll] at hD
      refine ⟨_, rfl, _, rfl, (by show 2 ≤ sizeLine; decide), fun p np => q _ p n h ln la (s1.trans (same_upd np)) (sqT_of upd_same) nn nh ?_ ?_ pk ⟨DL, DR, cl, hD⟩⟩
      · rw [upd_ne (ne_of_none en np)]
        exact en
      · rw [upd_ne (ne_of_none eh np)]
        exact eh
end
end Fb
/-! apart_of: trips of which none can be done behind another. -/
namespace Fb
open PySem PySem.Spec PyProof.Rows L2
abbrev dB (l : List (Nat × Nat)) : List (Key × V) := dOf (fun n : Nat => (Sum.inl (n : Int) : Key)) (fun _ : Nat => V.bl true) l
theorem get_b {H : Hp} {p : Addr} {l : List (Nat × Nat)} (h : H p = some (.dK (dB l))) (k : Nat) : DGet H p (.int k) ((look l k).map fun _ => V.bl true) := .inl ⟨dB l, .inl k, .inl h, rfl, (valV_dOf inl_inj k l).symm⟩
theorem put_b {H : Hp} {p : Addr} {l : List (Nat × Nat)} (h : H p = some (.dK (dB l))) (nd : (l.map (·.1)).Nodup) (hl : l.length ≤ 1000) (k v : Nat) : DPut H p (.int k) (.bl true) (upd H p (.dK (dB (put l k v)))) := by
  have h1 := DPut.k (k := (.inl (k : Int) : Key)) (v := .bl true) h (by rw [dOf_len]; exact small1000 hl)
  have h2 : putK (dB l) (.inl (k : Int)) (.bl true) = dB (put l k v) := putK_dOf (kf := fun n : Nat => (Sum.inl (n : Int) : Key)) (vf := fun _ : Nat => V.bl true) inl_inj nd
  rw [h2] at h1
  exact h1
theorem put_old {l : List (Nat × Nat)} {k v j : Nat} (h : look l j ≠ none) : look (put l k v) j ≠ none := by
  rw [look_put]
  split
  · exact fun z => nomatch z
  · exact h
theorem put_this {l : List (Nat × Nat)} {k v : Nat} : look (put l k v) k ≠ none := by
  rw [look_put, if_pos rfl]
  exact fun z => nomatch z
/-- what waits, what is left, what is right -/
structure Wave (L : List (List Nat)) (ln la ll lr : List (Nat × Nat)) (DL : Nat → Prop) (ws : List Nat) : Prop where
  kl : KL L.length ll
  kr : KL L.length lr
  base : ∀ i, i < L.length → look ln i = none → i ∈ ws ∨ look ll i ≠ none
  back : ∀ j, look lr j ≠ none → ∃ i, look la j = some i ∧ (i ∈ ws ∨ look ll i ≠ none)
  dl : ∀ i ∈ ws, DL i ∧ i < L.length
def spApart (K : PySem.W.Frag) : Sp := fun vs H Q _ => ∃ (a n h : Addr) (qs : List Addr) (L : List (List Nat)) (ln la : List (Nat × Nat)), vs = [.ref a, .ref n, .ref h] ∧ LL H a qs L ∧ H n = some (.dK (dN ln)) ∧ H h = some (.dK (dN la)) ∧ L.length ≤ 200 ∧ (∀ i j, Adj L i j → j < L.length) ∧ PairOk L ln la ∧
  (∃ DL DR, Closed (Adj L) (look la) DL DR ∧ ∀ i, i < L.length → look ln i = none → DL i) ∧
  ∀ H' p pL pR, Same H H' → H p = none → H' p = some (.lst (nV ((List.range L.length).filter fun i => pL i && !pR i))) → Reach (Adj L) (look ln) (look la) L.length pL pR → Q (.ref p) H'
section
variable {P : Program} {w : World} {K : PySem.W.Frag} {mg : Str → Option Value} {base : Heap}
theorem cal_apart_of {f : Addr} {fd : FuncData} (F : Fn K "apart_of" s_apart_of f fd) (g : mg "apart_of" = some (.ref f)) (B : Bi mg) : C8.Cal P w K mg base 1 "apart_of" (spApart K) [] := by
  refine cal_of F g sc_apart_of (bi_apart_of F) (fun vs H Q E h => ?_) (fun cdv A outer s H vs Q E hr h => ?_)
  · obtain ⟨a, n, h, qs, L, ln, la, rfl, _⟩ := h
    rfl
  · obtain ⟨a, n, h, qs, L, ln, la, rfl, hLL, en, eh, hn, hA, pk, ⟨DL, DR, cl, hD⟩, q⟩ := h
    have hu := hu_of hr
    refine ⟨_, (pss_cons (ps_set (i := 3) sc_apart_of.nd rfl (Or.inr rfl) pe_dnewK) (pss_cons (ps_set (i := 4) sc_apart_of.nd rfl (Or.inr rfl) pe_dnewK) (pss_cons (ps_setLc (i := 6) (own := [("one", 5)]) (g := gName 5)  (by rfl) sc_apart_of.nd rfl rfl (sw_true rfl rfl rfl (by decide +kernel)) (pi_range1 (by rfl) B.range (pa_cons (pe_callB (r := rLenS K) call_len_seq (by rfl) B.len PySem.boot_len (pa_cons (pv 0) pa_nil)) pa_nil)) (blkOk_by (N := ["after", "next_of", "ahead_of", "left", "right", "one", "waiting", "other"]) (sc := defScope s_apart_of) (by decide +kernel)) (fun _ _ _ _ _ => pg_name (i := 5) sc_apart_of.nd rfl (Or.inl rfl)) (fun _ _ _ _ _ => (pts_one (pt_cmp (pc_dnotin hu (pv 5) (pv 1))))) (fun _ _ _ _ _ => (pv 5))) (pss_cons (ps_while PassesOwn.never (pt_cmpR (op_neD hr.units) (pv 6) (pe_lst pa_nil) (nomark _)) (pss_cons (ps_set (i := 5) sc_apart_of.nd rfl (Or.inl rfl) (pe_bm0 PySem.F.plainAttrs_list PySem.F.slot_list_pop PySem.F.type_list_pop mt_pop (pv 6))) (pss_cons (ps_dput hu (pv 3) (pv 5) pe_bl rfl) (pss_one (ps_for PassesOwn.never rfl (pi_list (pe_ix (r := rIxL K) ix_list (pv 0) (pv 5) (fun _ _ => rfl))) (pg_name (i := 7) sc_apart_of.nd rfl (Or.inl rfl)) (pss_one (ps_if (pt_cmp (pc_dnotin hu (pv 7) (pv 4))) (pss_cons (ps_dput hu (pv 4) (pv 7) pe_bl rfl) (pss_one (ps_expr (pe_bm PySem.F.plainAttrs_list PySem.F.slot_list_append PySem.F.type_list_append mt_append (pv 6) (pa_cons (pe_dget hu (pv 2) (pv 7) (fun _ _ => rfl)) pa_nil))))) pss_nil))))))) (pss_one (ps_ret (pe_lc (own := [("one", 5)]) (g := gName 5)  rfl sc_apart_of.nd (pi_range1 (by rfl) B.range (pa_cons (pe_callB (r := rLenS K) call_len_seq (by rfl) B.len PySem.boot_len (pa_cons (pv 0) pa_nil)) pa_nil)) (blkOk_by (N := ["after", "next_of", "ahead_of", "left", "right", "one", "waiting", "other"]) (sc := defScope s_apart_of) (by decide +kernel)) (fun _ _ _ _ _ => pg_name (i := 5) sc_apart_of.nd rfl (Or.inl rfl)) (fun _ _ _ _ _ => (pts_one (PW.pt (pw_and (pt_cmp (pc_din hu (pv 5) (pv 3))) (pw_and1 (pt_cmp (pc_dnotin hu (pv 5) (pv 4)))))))) (fun _ _ _ _ _ => (pv 5))))))))), ?_⟩
    intro lf nlf rt nr1
    have nrt : H rt = none := (same_upd nlf).free nr1
    have nlr : lf ≠ rt := fun e => by
      rw [← e, upd_same] at nr1
      cases nr1
    have ll : qs.length = L.length := hLL.len
    obtain ⟨H1, hH1⟩ : ∃ H1, H1 = upd (upd H lf (.dK [])) rt (.dK []) := ⟨_, rfl⟩
    have s1 : Same H H1 := hH1 ▸ (same_upd nlf).trans (same_upd nr1)
    have elf1 : H1 lf = some (.dK (dB [])) := by
      rw [hH1, upd_ne nlr, upd_same]
      rfl
    have ert1 : H1 rt = some (.dK (dB [])) := by
      rw [hH1, upd_same]
      rfl
    have hlen : (qs.map V.ref).length = L.length := by rw [List.length_map, ll]
    rw [← hH1]
    refine ⟨_, rfl, a, _, rfl, .inl (sqL_of (s1 _ _ hLL.at_)), ((qs.map V.ref).length : Nat), rfl, by omega, by omega, fun wt nw1 => ?_⟩
    have nwt : H wt = none := s1.free nw1
    have nlw : lf ≠ wt := ne_of_none elf1 nw1
    have nrw : rt ≠ wt := ne_of_none ert1 nw1
    refine lc_range (lo := 0) (n := (qs.map V.ref).length) (fun j H' => Same H1 H' ∧ H' wt = some (.lst (nV ((List.range j).filter fun k => (look ln k).isNone)))) ⟨same_upd nw1, upd_same⟩ ?_ ?_
    · rintro j H4 hj ⟨s4, e4⟩
      rw [hlen] at hj
      have gj : DGet H4 n (.int (0 + (j : Int))) ((look ln j).map fun n : Nat => V.int (n : Int)) := by
        rw [Int.zero_add]
        exact get_n (s4 _ _ (s1 _ _ en)) j
      refine ⟨rfl, _, rfl, _, rfl, n, _, rfl, gj, _, rfl, ?_⟩
      cases c : look ln j with
      | some i =>
        refine if_f rfl ⟨s4, ?_⟩
        rw [List.range_succ, List.filter_append, List.filter_cons_of_neg (by rw [c]; exact Bool.false_ne_true), List.filter_nil, List.append_nil]
        exact e4
      | none =>
        refine if_t rfl ⟨_, rfl, _, e4, ?_, same_put s4 nw1, ?_⟩
        · rw [List.length_map]
          have := List.length_filter_le (fun k => (look ln k).isNone) (List.range j)
          rw [List.length_range] at this
          exact small1000 (by omega)
        · rw [upd_same, List.range_succ, List.filter_append, List.filter_cons_of_pos (by rw [c]; rfl), List.filter_nil, Int.zero_add]
          exact congrArg (fun x => some (HO.lst x)) (nV_add _ j).symm
    · rintro H2 ⟨s2, e2⟩
      rw [hlen] at e2
      have hl0 : ((List.range L.length).filter fun k => (look ln k).isNone).length ≤ L.length := by
        have := List.length_filter_le (fun k => (look ln k).isNone) (List.range L.length)
        rw [List.length_range] at this
        exact this
      refine ⟨fun m σ H' => ∃ (ll lr : List (Nat × Nat)) (ws : List Nat) (y5 y7 : Option V), σ = [some (.ref a), some (.ref n), some (.ref h), some (.ref lf), some (.ref rt), y5, some (.ref wt), y7] ∧ Same H H' ∧ H' lf = some (.dK (dB ll)) ∧ H' rt = some (.dK (dB lr)) ∧ H' wt = some (.lst (nV ws)) ∧ Wave L ln la ll lr DL ws ∧
        (∀ i, look ll i ≠ none → ∀ j, Adj L i j → look lr j ≠ none) ∧ m = ws.length + (L.length - lr.length) ∧ m ≤ L.length + L.length,
        ⟨_, [], [], _, none, none, rfl, s1.trans s2, s2 _ _ elf1, s2 _ _ ert1, e2, ⟨KL.nil _, KL.nil _, fun i hi hl => .inl ?_, fun j hj => absurd rfl hj, fun i hi => ?_⟩, fun i hi => absurd rfl hi, rfl, ?_⟩, ?_⟩
      · exact List.mem_filter.mpr ⟨List.mem_range.mpr hi, by rw [hl]; rfl⟩
      · have hm := List.mem_filter.mp hi
        have hlt := List.mem_range.mp hm.1
        refine ⟨hD i hlt ?_, hlt⟩
        cases c : look ln i with
        | none => rfl
        | some j =>
          rw [c] at hm
          cases hm.2
      · show _ + (L.length - 0) ≤ _
        omega
      rintro m σ H3 ⟨ld, lr, ws, y5, y7, rfl, s3, elf, ert, ew, wv, out, rfl, hm⟩
      refine ⟨_, rfl, Nat.zero_le _, fun x nx => ?_⟩
      have sx : Same H3 (upd H3 x (.lst [])) := same_upd nx
      obtain ⟨d, e, D1, D2, S1, S2, E1⟩ := ne_nil_of (K := K) (sx _ _ ew) (upd_same (a := x))
      refine ⟨d, e, D1, D2, S1, S2, ?_⟩
      rw [E1]
      obtain ⟨H4, hH4⟩ : ∃ H4, H4 = upd H3 x (.lst []) := ⟨_, rfl⟩
      rw [← hH4] at sx ⊢
      have s4 := s3.trans sx
      have elf4 := sx _ _ elf
      have ert4 := sx _ _ ert
      have ew4 := sx _ _ ew
      clear D1 D2 hH4 nx
      rcases List.eq_nil_or_concat ws with rfl | ⟨ws', one, rfl⟩
      · refine ⟨_, rfl, if_f rfl ?_⟩
        -- what is told
        refine ⟨_, rfl, a, _, rfl, .inl (sqL_of (s4 _ _ hLL.at_)), ((qs.map V.ref).length : Nat), rfl, by omega, by omega, fun D nD => ?_⟩
        have nD0 := s4.free nD
        refine lc_range (lo := 0) (n := (qs.map V.ref).length) (fun j H' => Same H4 H' ∧ H' D = some (.lst (nV ((List.range j).filter fun k => (look ld k).isSome && !(look lr k).isSome)))) ⟨same_upd nD, upd_same⟩ ?_ ?_
        · rintro j H5 hj ⟨s5, e5⟩
          rw [hlen] at hj
          have gl : DGet H5 lf (.int (0 + (j : Int))) ((look ld j).map fun _ => V.bl true) := by
            rw [Int.zero_add]
            exact get_b (s5 _ _ elf4) j
          have gr : DGet H5 rt (.int (0 + (j : Int))) ((look lr j).map fun _ => V.bl true) := by
            rw [Int.zero_add]
            exact get_b (s5 _ _ ert4) j
          have no : ((look ld j).isSome && !(look lr j).isSome) = false → H5 D = some (.lst (nV ((List.range (j + 1)).filter fun k => (look ld k).isSome && !(look lr k).isSome))) := fun c => by
            rw [List.range_succ, List.filter_append, List.filter_cons_of_neg (by rw [c]; exact Bool.false_ne_true), List.filter_nil, List.append_nil]
            exact e5
          refine ⟨rfl, _, rfl, _, rfl, lf, _, rfl, gl, _, rfl, ?_⟩
          cases c : look ld j with
          | none => exact if_f rfl (if_f rfl ⟨s5, no (by rw [c]; rfl)⟩)
          | some i =>
            refine if_t rfl ⟨_, rfl, _, rfl, rt, _, rfl, gr, _, rfl, ?_⟩
            cases c2 : look lr j with
            | some i2 => exact if_f rfl ⟨s5, no (by rw [c, c2]; rfl)⟩
            | none =>
              refine if_t rfl ⟨_, rfl, _, e5, ?_, same_put s5 nD, ?_⟩
              · rw [List.length_map]
                have := List.length_filter_le (fun k => (look ld k).isSome && !(look lr k).isSome) (List.range j)
                rw [List.length_range] at this
                exact small1000 (by omega)
              · rw [upd_same, List.range_succ, List.filter_append, List.filter_cons_of_pos (by rw [c, c2]; rfl), List.filter_nil, Int.zero_add]
                exact congrArg (fun x => some (HO.lst x)) (nV_add _ j).symm
        · rintro H5 ⟨s5, e5⟩
          rw [hlen] at e5
          have some_of : ∀ {l : List (Nat × Nat)} {k : Nat}, (look l k).isSome = true → look l k ≠ none := fun h z => by
            rw [z] at h
            cases h
          have of_some : ∀ {l : List (Nat × Nat)} {k : Nat}, look l k ≠ none → (look l k).isSome = true := fun {l k} h => by
            cases c : look l k with
            | none => exact absurd c h
            | some v => rfl
          refine q H5 D (fun k => (look ld k).isSome) (fun k => (look lr k).isSome) (s4.trans s5) nD0 e5 ⟨fun i hi hl => ?_, fun i j hi ha => of_some (out i (some_of hi) j ha), fun j hj => ?_⟩
          · exact of_some ((wv.base i hi hl).resolve_left fun z => nomatch z)
          · obtain ⟨i, h1, h2⟩ := wv.back j (some_of hj)
            exact ⟨i, h1, of_some (h2.resolve_left fun z => nomatch z)⟩
      · rw [List.concat_eq_append] at *
        have hb : (!(ws' ++ [one]).isEmpty) = true := by cases ws' <;> rfl
        obtain ⟨hDone, hone⟩ := wv.dl one (List.mem_append_right _ List.mem_cons_self)
        obtain ⟨q1, r, atq, hr1, er, nq⟩ := hLL.get hone
        rw [nV_add] at ew4
        refine ⟨_, rfl, if_t hb ⟨fun σ' H' => ∃ (ld' lr' : List (Nat × Nat)) (ws2 : List Nat) (y5 y7 : Option V), σ' = [some (.ref a), some (.ref n), some (.ref h), some (.ref lf), some (.ref rt), y5, some (.ref wt), y7] ∧ Same H H' ∧ H' lf = some (.dK (dB ld')) ∧ H' rt = some (.dK (dB lr')) ∧ H' wt = some (.lst (nV ws2)) ∧ Wave L ln la ld' lr' DL ws2 ∧
          (∀ i, look ld' i ≠ none → ∀ j, Adj L i j → look lr' j ≠ none) ∧ ws2.length + (L.length - lr'.length) < (ws' ++ [one]).length + (L.length - lr.length), ?_, ?_⟩⟩
        · rintro σ' H' ⟨ld', lr', ws2, z5, z7, rfl, w1, w2, w3, w4, w5, w6, lt'⟩
          exact ⟨_, lt', ld', lr', ws2, z5, z7, rfl, w1, w2, w3, w4, w5, w6, rfl, by omega⟩
        · refine ⟨_, rfl, .inl ⟨rfl, _, sqL_of ew4⟩, wt, _, .int one, rfl, rfl, ew4, ?_, ?_⟩
          · rw [List.length_append, List.getElem?_append_right (by show _ ≤ _ + 1 - 1; omega)]
            simp
          rw [List.dropLast_concat]
          have s5 : Same H (upd H4 wt (.lst (nV ws'))) := same_put s4 nwt
          have elf5 : (upd H4 wt (.lst (nV ws'))) lf = some (.dK (dB ld)) := by
            rw [upd_ne nlw]
            exact elf4
          have pl := put_b elf5 wv.kl.nd (by have := wv.kl.len; omega) one 0
          have s6 : Same H (upd (upd H4 wt (.lst (nV ws'))) lf (.dK (dB (put ld one 0)))) := same_put s5 nlf
          refine ⟨_, rfl, _, rfl, lf, _, rfl, pl, ?_⟩
          refine ⟨_, rfl, _, rfl, a, _, _, _, rfl, rfl, sqL_of (s6 _ _ hLL.at_), atq, ?_⟩
          refine ⟨q1, rfl, ⟨_, sqL_of (s6 _ _ er)⟩, for_list (K := K) (a := q1) (xs := nV r) (fun i σ H' => Same H H' ∧ ∃ (lr' : List (Nat × Nat)) (ws2 : List Nat) (y7 : Option V), σ = [some (.ref a), some (.ref n), some (.ref h), some (.ref lf), some (.ref rt), some (.int one), some (.ref wt), y7] ∧
            H' lf = some (.dK (dB (put ld one 0))) ∧ H' rt = some (.dK (dB lr')) ∧ H' wt = some (.lst (nV ws2)) ∧ Wave L ln la (put ld one 0) lr' DL ws2 ∧ (∀ i, look (put ld one 0) i ≠ none → i ≠ one → ∀ j, Adj L i j → look lr' j ≠ none) ∧ (∀ j ∈ r.take i, look lr' j ≠ none) ∧
            ws2.length + (L.length - lr'.length) < (ws' ++ [one]).length + (L.length - lr.length))
            ⟨s6, lr, ws', y7, rfl, upd_same, ?_, ?_, ⟨wv.kl.put 0 hone, wv.kr, fun i hi hl => ?_, fun j hj => ?_, fun i hi => wv.dl i (List.mem_append_left _ hi)⟩, fun i hi hne j ha => ?_, (fun j hj => nomatch hj), ?_⟩ (fun i σ H' _ ⟨s, _⟩ => sqL_of (s _ _ er)) ?_ ?_⟩
          · rw [upd_ne nlr.symm, upd_ne nrw]
            exact ert4
          · rw [upd_ne nlw.symm, upd_same]
          · rcases wv.base i hi hl with z | z
            · rcases List.mem_append.mp z with z | z
              · exact .inl z
              · rw [List.mem_singleton.mp z]
                exact .inr put_this
            · exact .inr (put_old z)
          · obtain ⟨i, h1, h2⟩ := wv.back j hj
            refine ⟨i, h1, ?_⟩
            rcases h2 with z | z
            · rcases List.mem_append.mp z with z | z
              · exact .inl z
              · rw [List.mem_singleton.mp z]
                exact .inr put_this
            · exact .inr (put_old z)
          · rw [look_put, if_neg hne] at hi
            exact out i hi j ha
          · rw [List.length_append]
            show _ < _ + 1 + _
            omega
          · rintro i v σ H7 hi ⟨s7, lr', ws2, z7, rfl, e71, e72, e73, wv', out', seen, lt'⟩
            obtain ⟨other, rfl, ho⟩ := nV_get hi
            have hadj : Adj L one other := ⟨r, hr1, List.mem_of_getElem? ho⟩
            have etk : r.take (i + 1) = r.take i ++ [other] := by
              rw [List.take_add_one, ho]
              rfl
            obtain ⟨i1, hla, hDi⟩ := cl.back other (cl.out one other hDone hadj)
            have hi1 := pk.val hla
            have gr := get_b e72 other
            refine ⟨_, rfl, _, rfl, rt, _, rfl, gr, _, rfl, ?_⟩
            cases c : look lr' other with
            | some v =>
              refine if_f rfl ⟨s7, lr', ws2, _, rfl, e71, e72, e73, wv', out', fun j hj => ?_, lt'⟩
              rw [etk] at hj
              rcases List.mem_append.mp hj with z | z
              · exact seen j z
              · rw [List.mem_singleton.mp z, c]
                exact fun z => nomatch z
            | none =>
              have kr2 := wv'.kr.put 0 (hA _ _ hadj)
              have hlen2 := kr2.len
              have hlen3 : (put lr' other 0).length = lr'.length + 1 := by
                rw [put_new c, List.length_append]
                rfl
              have pr := put_b e72 wv'.kr.nd (by omega) other 0
              have s8 : Same H (upd H7 rt (.dK (dB (put lr' other 0)))) := same_put s7 nrt
              have g1 : DGet (upd H7 rt (.dK (dB (put lr' other 0)))) h (.int other) (some (.int i1)) := by
                have := get_n (s8 _ _ eh) other
                rw [hla] at this
                exact this
              have e83 : (upd H7 rt (.dK (dB (put lr' other 0)))) wt = some (.lst (nV ws2)) := by
                rw [upd_ne nrw.symm]
                exact e73
              refine if_t rfl ⟨_, rfl, _, rfl, rt, _, rfl, pr, _, rfl, .inl ⟨rfl, _, sqL_of e83⟩, _, rfl, _, rfl, h, _, rfl, g1, wt, _, _, rfl, rfl, e83, ?_, same_put s8 nwt, put lr' other 0, ws2 ++ [i1], _, rfl, ?_, ?_, ?_, ⟨wv'.kl, kr2, fun k hk hl => ?_, fun j hj => ?_, fun k hk => ?_⟩, fun k hk hne j ha => put_old (out' k hk hne j ha), fun j hj => ?_, ?_⟩
              · rw [List.length_map]
                exact small1000 (by omega)
              · rw [upd_ne nlw, upd_ne nlr]
                exact e71
              · rw [upd_ne nrw, upd_same]
              · rw [upd_same, nV_add]
              · exact (wv'.base k hk hl).imp (fun z => List.mem_append_left _ z) id
              · by_cases c2 : j = other
                · rw [c2]
                  exact ⟨i1, hla, .inl (List.mem_append_right _ List.mem_cons_self)⟩
                · rw [look_put, if_neg c2] at hj
                  obtain ⟨k, h1, h2⟩ := wv'.back j hj
                  exact ⟨k, h1, h2.imp (fun z => List.mem_append_left _ z) id⟩
              · rcases List.mem_append.mp hk with z | z
                · exact wv'.dl k z
                · rw [List.mem_singleton.mp z]
                  exact ⟨hDi, hi1⟩
              · rw [etk] at hj
                rcases List.mem_append.mp hj with z | z
                · exact put_old (seen j z)
                · rw [List.mem_singleton.mp z]
                  exact put_this
              · rw [List.length_append, hlen3]
                show _ + 1 + _ < _
                omega
          · rintro σ H7 ⟨s7, lr', ws2, z7, rfl, e71, e72, e73, wv', out', seen, lt'⟩
            rw [List.length_map, List.take_length] at seen
            refine ⟨put ld one 0, lr', ws2, _, _, rfl, s7, e71, e72, e73, wv', fun k hk j ha => ?_, lt'⟩
            by_cases c : k = one
            · rw [c] at ha
              exact seen j ((Adj.of hr1).mp ha)
            · exact out' k hk c j ha
end
end Fb
/-! plan: the rows, and the trips apart. -/
namespace Fb
open PySem PySem.Spec PyProof.Rows L2
abbrev CA (rides : List Ride) (trips : List Trip) (i j : Nat) : Prop := Cm (roadsM rides trips) trips i j = true
theorem adj_eq (rides : List Ride) (trips : List Trip) : Adj (afterM (roadsM rides trips) trips) = CA rides trips := funext fun _ => funext fun _ => propext adj_after
def keyOf (trips : List Trip) (i : Nat) : Nat := match trips[i]? with
  | some t => t.2.1.toNat
  | none => 0
theorem key_lt {rides : List Ride} {trips : List Trip} (okR : ∀ r ∈ rides, okRide r) (okT : ∀ t ∈ trips, okTrip t) (i j : Nat) (h : CA rides trips i j) : keyOf trips i < keyOf trips j := by
  obtain ⟨x, y, hx, hy, _⟩ := Cm_get h
  have := Cm_begin (posR okR okT) okT hx hy h
  have o := (okT x (List.mem_of_getElem? hx)).2.2.1
  unfold keyOf
  rw [hx, hy]
  show x.2.1.toNat < y.2.1.toNat
  omega
structure PlanAt (K : PySem.W.Frag) (H H' : Hp) (p r t : Addr) (qs : List Addr) (rows : List (List Nat)) (apart : List Nat) : Prop where
  same : Same H H'
  ep : SqT K H' p [.ref r, .ref t]
  nr : H r = none
  nt : H t = none
  nq : ∀ q ∈ qs, H q = none
  er : LL H' r qs rows
  et : H' t = some (.lst (nV apart))
  rt : r ≠ t
  tq : t ∉ qs
def spPlan (K : PySem.W.Frag) : Sp := fun vs H Q _ => ∃ (a b : Addr) (rides : List Ride) (trips : List Trip), vs = [.ref a, .ref b] ∧ Told2 K H a b rides trips ∧
  ∀ H' p r t qs rows apart, PlanAt K H H' p r t qs rows apart → PlanOk (CA rides trips) trips.length rows apart → Q (.ref p) H'
section
variable {P : Program} {w : World} {K : PySem.W.Frag} {mg : Str → Option Value} {base : Heap}
theorem cal_plan {f : Addr} {fd : FuncData} (F : Fn K "plan" s_plan f fd) (g : mg "plan" = some (.ref f)) (B : Bi mg) (c_behind : C8.Cal P w K mg base 6 "behind" (spBehind K) []) (c_paired : C8.Cal P w K mg base 2 "paired" (spPaired K) []) (c_apart_of : C8.Cal P w K mg base 1 "apart_of" (spApart K) []) : C8.Cal P w K mg base 7 "plan" (spPlan K) [] := by
  refine cal_of F g sc_plan (bi_plan F) (fun vs H Q E h => ?_) (fun cdv A outer s H vs Q E hr h => ?_)
  · obtain ⟨a, b, rides, trips, rfl, _⟩ := h
    rfl
  · obtain ⟨a, b, rides, trips, rfl, T, q⟩ := h
    have hu := hu_of hr
    refine ⟨_, (pss_cons (ps_set (i := 2) sc_plan.nd rfl (Or.inl rfl) (C8.pe_c c_behind hr (by decide) (by rfl) (pa_cons (pv 0) (pa_cons (pv 1) pa_nil)))) (pss_cons (ps_asg (C8.pe_c c_paired hr (by decide) (by rfl) (pa_cons (pv 2) pa_nil)) (pg_tup (by rfl) (pgs_cons (pg_name (i := 3) sc_plan.nd rfl (Or.inl rfl)) (pgs_cons (pg_name (i := 4) sc_plan.nd rfl (Or.inl rfl)) pgs_nil)))) (pss_cons (ps_set (i := 5) sc_plan.nd rfl (Or.inl rfl) (pe_lst pa_nil)) (pss_cons (ps_for PassesOwn.never rfl (pi_range1 (by rfl) B.range (pa_cons (pe_callB (r := rLenS K) call_len_seq (by rfl) B.len PySem.boot_len (pa_cons (pv 1) pa_nil)) pa_nil)) (pg_name (i := 6) sc_plan.nd rfl (Or.inl rfl)) (pss_one (ps_if (pt_cmp (pc_dnotin hu (pv 6) (pv 4))) (pss_cons (ps_set (i := 7) sc_plan.nd rfl (Or.inl rfl) (pe_lst (pa_cons (pv 6) pa_nil))) (pss_cons (ps_while PassesOwn.never (pt_cmp (pc_din hu (pe_ix (r := rIxL K) ix_list (pv 7) (pe_un un_neg pe_int) (fun _ _ => rfl)) (pv 3))) (pss_one (ps_expr (pe_bm PySem.F.plainAttrs_list PySem.F.slot_list_append PySem.F.type_list_append mt_append (pv 7) (pa_cons (pe_dget hu (pv 3) (pe_ix (r := rIxL K) ix_list (pv 7) (pe_un un_neg pe_int) (fun _ _ => rfl)) (fun _ _ => rfl)) pa_nil))))) (pss_one (ps_expr (pe_bm PySem.F.plainAttrs_list PySem.F.slot_list_append PySem.F.type_list_append mt_append (pv 5) (pa_cons (pv 7) pa_nil)))))) pss_nil))) (pss_one (ps_ret (pe_tup (pa_cons (pv 5) (pa_cons (C8.pe_c c_apart_of hr (by decide) (by rfl) (pa_cons (pv 2) (pa_cons (pv 3) (pa_cons (pv 4) pa_nil)))) pa_nil))))))))), ?_⟩
    have hp := posR T.okR T.okT
    have okT := T.okT
    have hlt := T.lenT
    obtain ⟨qt, hqt, hT⟩ := T.lT
    have ll : (qt.map V.ref).length = trips.length := by rw [List.length_map, hT.1]
    refine ⟨_, rfl, _, rfl, a, b, rides, trips, rfl, T, fun H1 af qs s1 naf hLL => ?_⟩
    have hlen := afterM_len (roadsM rides trips) trips
    have hA : ∀ i j, Adj (afterM (roadsM rides trips) trips) i j → j < (afterM (roadsM rides trips) trips).length := fun i j h => by
      rw [hlen]
      exact (Cm_lt (adj_after.mp h)).2
    refine ⟨_, rfl, af, qs, _, rfl, hLL, by omega, hA, fun H2 pp n h ln la s2 epp nn nh en eh pk hcl => ?_⟩
    have s12 := s1.trans s2
    refine ⟨pp, _, rfl, epp, rfl, _, _, rfl, _, _, rfl, rfl, ?_⟩
    refine ⟨Nat.zero_le _, fun rw nrw => ?_⟩
    have nrw0 : H rw = none := s12.free nrw
    have s3 : Same H2 (upd H2 rw (.lst [])) := same_upd nrw
    have mat : Mat (CA rides trips) (look ln) (look la) := by
      rw [← adj_eq]
      exact pk.mat
    have irr : ∀ i, ¬ CA rides trips i i := fun i h => by
      have h' : Cm (roadsM rides trips) trips i i = true := h
      rw [Cm_irr hp okT] at h'
      cases h'
    have tr : ∀ i j k, CA rides trips i j → CA rides trips j k → CA rides trips i k := fun i j k h1 h2 => Cm_trans hp okT h1 h2
    refine ⟨_, rfl, b, _, rfl, .inl (((s12.trans s3)).seq hqt), ((qt.map V.ref).length : Nat), rfl, by omega, by omega, for_range (lo := 0) (n := (qt.map V.ref).length)
      (fun i σ H' => Same H2 H' ∧ (∃ y6 y7, σ = [some (.ref a), some (.ref b), some (.ref af), some (.ref n), some (.ref h), some (.ref rw), y6, y7]) ∧ ∃ rs rows, LL H' rw rs rows ∧ Rows1 (CA rides trips) (look ln) (look la) i rows ∧ rows.length ≤ i ∧ ∀ q ∈ rs, H q = none)
      ⟨s3, ⟨none, none, rfl⟩, [], [], LL.nil upd_same, Rows1.nil, Nat.le_refl _, (fun _ h => nomatch h)⟩ ?_ ?_⟩
    · rintro i σ H3 hi ⟨s4, ⟨y6, y7, rfl⟩, rs, rows, hR, r1, hrl, nrs⟩
      rw [ll] at hi
      have gi : DGet H3 h (.int (0 + (i : Int))) ((look la i).map fun n : Nat => V.int (n : Int)) := by
        rw [Int.zero_add]
        exact get_n (s4 _ _ eh) i
      refine ⟨_, rfl, _, rfl, h, _, rfl, gi, _, rfl, ?_⟩
      cases c : look la i with
      | some j => exact if_f rfl ⟨s4, ⟨_, _, rfl⟩, rs, rows, hR, r1.skip c, by omega, nrs⟩
      | none =>
        refine if_t rfl ⟨_, rfl, Nat.succ_le_of_lt (by decide), fun ro nro => ?_⟩
        have nro0 : H ro = none := (s12.trans s4).free nro
        have nro2 : H2 ro = none := s4.free nro
        have fr := hR.free nro
        refine ⟨fun m σ H' => ∃ (row : List Nat) (last : Nat), σ = [some (.ref a), some (.ref b), some (.ref af), some (.ref n), some (.ref h), some (.ref rw), some (.int (0 + (i : Int))), some (.ref ro)] ∧ Same H2 H' ∧ LL H' rw rs rows ∧ H' ro = some (.lst (nV (row ++ [last]))) ∧
          Row (look ln) i (row ++ [last]) ∧ (row ++ [last]).Pairwise (CA rides trips) ∧ (∀ x ∈ row ++ [last], x < trips.length) ∧ m = trips.length - row.length,
          ⟨_, [], i, rfl, s4.trans (same_upd nro), hR.other fr.1 fr.2, ?_, Row.start _ _, List.pairwise_singleton _ _, fun x hx => ?_, rfl⟩, ?_⟩
        · rw [upd_same]
          show some (HO.lst [V.int (0 + (i : Int))]) = some (HO.lst [V.int (i : Int)])
          rw [Int.zero_add]
        · rw [List.mem_singleton.mp hx]
          exact hi
        rintro m σ H4 ⟨row, last, rfl, s5, hR5, e5, rok, pw, lt5, rfl⟩
        have hnd := pair_nodup irr pw
        have hle : row.length + 1 ≤ trips.length := by
          have := nodup_len (m := List.range trips.length) hnd fun x hx => List.mem_range.mpr (lt5 x hx)
          rw [List.length_append, List.length_range] at this
          exact this
        have al : atI (nV (row ++ [last])) (-1) = some (.int last) := by
          rw [nV_add]
          exact atI_last _ _
        have gl := get_n (s5 _ _ en) last
        refine ⟨_, rfl, _, rfl, ro, _, _, _, rfl, rfl, sqL_of e5, al, _, rfl, n, _, rfl, gl, _, rfl, ?_⟩
        cases c2 : look ln last with
        | none =>
          refine if_f rfl ⟨_, rfl, .inl ⟨rfl, _, sqL_of hR5.at_⟩, _, rfl, rw, _, _, rfl, rfl, hR5.at_, ?_, same_put s5 nrw, ⟨_, _, rfl⟩, rs ++ [ro], rows ++ [row ++ [last]], hR5.add fr.1 e5, r1.add c rok (Row.full (first := i) c2) pw, ?_, fun x hx => ?_⟩
          · rw [List.length_map, hR5.len]
            exact small1000 (by omega)
          · rw [List.length_append]
            show _ + 1 ≤ _
            omega
          · rcases List.mem_append.mp hx with z | z
            · exact nrs x z
            · rw [List.mem_singleton.mp z]
              exact nro0
        | some v =>
          rw [c2] at gl
          have hv := mat.ok _ _ c2
          refine if_t rfl ⟨fun σ' H' => ∃ (row' : List Nat) (last' : Nat), σ' = [some (.ref a), some (.ref b), some (.ref af), some (.ref n), some (.ref h), some (.ref rw), some (.int (0 + (i : Int))), some (.ref ro)] ∧ Same H2 H' ∧ LL H' rw rs rows ∧ H' ro = some (.lst (nV (row' ++ [last']))) ∧
            Row (look ln) i (row' ++ [last']) ∧ (row' ++ [last']).Pairwise (CA rides trips) ∧ (∀ x ∈ row' ++ [last'], x < trips.length) ∧ trips.length - row'.length < trips.length - row.length, ?_, ?_⟩
          · rintro σ' H' ⟨row', last', rfl, w1, w2, w3, w4, w5, w6, w7⟩
            exact ⟨_, w7, row', last', rfl, w1, w2, w3, w4, w5, w6, rfl⟩
          · refine ⟨_, rfl, .inl ⟨rfl, _, sqL_of e5⟩, _, rfl, _, rfl, _, rfl, ro, _, _, _, rfl, rfl, sqL_of e5, al, n, _, rfl, gl, ro, _, _, rfl, rfl, e5, ?_, row ++ [last], v, rfl, same_put s5 nro2, hR5.other fr.1 fr.2, ?_, rok.add c2, pair_add tr pw hv, fun x hx => ?_, ?_⟩
            · rw [List.length_map, List.length_append]
              exact small1000 (by show row.length + 1 ≤ 1000; omega)
            · rw [upd_same, ← nV_add]
            · rcases List.mem_append.mp hx with z | z
              · exact lt5 x z
              · rw [List.mem_singleton.mp z]
                exact (Cm_lt hv).2
            · rw [List.length_append]
              show _ - (row.length + 1) < _
              omega
    · rintro σ H3 ⟨s4, ⟨y6, y7, rfl⟩, rs, rows, hR, r1, hrl, nrs⟩
      rw [ll] at r1
      refine ⟨_, rfl, _, rfl, _, rfl, _, rfl, af, n, h, qs, _, ln, la, rfl, (hLL.same s2).same s4, s4 _ _ en, s4 _ _ eh, by omega, hA, pk, hcl, fun H4 t pL pR s5 nt et rch => ⟨(by show 2 ≤ sizeLine; decide), fun p np => ?_⟩⟩
      have hft := hR.free nt
      have s6 : Same H4 (upd H4 p (.tup [.ref rw, .ref t])) := same_upd np
      rw [adj_eq, hlen] at rch
      rw [hlen] at et
      have ok := plan_ok r1 mat rch irr (fun i j h => Cm_lt h) (key_lt T.okR okT)
      exact q _ p rw t rs rows _ ⟨((s12.trans s4).trans s5).trans s6, sqT_of upd_same, nrw0, (s12.trans s4).free nt, nrs, (hR.same s5).same s6, s6 _ _ et, hft.1.symm, hft.2⟩ ok
end
end Fb
/-! ridden: the stops along a way. -/
namespace Fb
open PySem PySem.Spec PyProof.Rows L2
theorem sz_ok {n : Nat} (h : n ≤ 16000000) : n < sizeLine := by
  have : sizeLine = 16777216 := sizeLine_eq
  omega
def spRidden (K : PySem.W.Frag) : Sp := fun vs H Q _ => ∃ (t p : Addr) (m : Int) (R : List Ride) (x y : Str) (ps : List Str), vs = [.ref t, .ref p, .int m] ∧ Rows K H rideV t R ∧ R.length ≤ 200 ∧ PosR R ∧ H p = some (.lst (ps.map V.str)) ∧ Way R x y ps ∧
  ∀ H' q qs, Same H H' → H q = none → H' q = some (.lst (qs.map V.ref)) → Tups K H' stopV qs (legOf R x m ps) → Q (.ref q) H'
section
variable {P : Program} {w : World} {K : PySem.W.Frag} {mg : Str → Option Value} {base : Heap}
theorem cal_ridden {f : Addr} {fd : FuncData} (F : Fn K "ridden" s_ridden f fd) (g : mg "ridden" = some (.ref f)) (B : Bi mg) : C8.Cal P w K mg base 1 "ridden" (spRidden K) [] := by
  refine cal_of F g sc_ridden (bi_ridden F) (fun vs H Q E h => ?_) (fun cdv A outer s H vs Q E hr h => ?_)
  · obtain ⟨t, p, m, R, x, y, ps, rfl, _⟩ := h
    rfl
  · obtain ⟨t, p, m, R, x, y, ps, rfl, ⟨qs, hR, hT⟩, hlen, hp, hLl, way, q⟩ := h
    refine ⟨_, (pss_cons (ps_set (i := 3) sc_ridden.nd rfl (Or.inl rfl) (pe_lst pa_nil)) (pss_cons (ps_for PassesOwn.never rfl (pi_range2 (by rfl) B.range (pa_cons pe_int (pa_cons (pe_callB (r := rLenS K) call_len_seq (by rfl) B.len PySem.boot_len (pa_cons (pv 1) pa_nil)) pa_nil))) (pg_name (i := 4) sc_ridden.nd rfl (Or.inr rfl)) (pss_cons (ps_setLc (i := 5) (own := [("row", 6)]) (g := gName 6)  (by rfl) sc_ridden.nd rfl rfl (sw_true rfl rfl rfl (by decide +kernel)) (pi_list (pv 0)) (blkOk_by (N := ["rows", "places", "minute", "found", "k", "least", "row"]) (sc := defScope s_ridden) (by decide +kernel)) (fun _ _ _ _ _ => pg_name (i := 6) sc_ridden.nd rfl (Or.inl rfl)) (fun _ _ _ _ _ => (pts_one (PW.pt (pw_and (pt_cmpR op_eq (pe_ix (r := rIxT K) ix_tup (pv 6) pe_int (fun _ _ => rfl)) (pe_ix (r := rIxL K) ix_list (pv 1) (pe_op op_sub (pv 4) pe_int) (fun _ _ => rfl)) (nomark _)) (pw_and1 (pt_cmpR op_eq (pe_ix (r := rIxT K) ix_tup (pv 6) pe_int (fun _ _ => rfl)) (pe_ix (r := rIxL K) ix_list (pv 1) (pv 4) (fun _ _ => rfl)) (nomark _))))))) (fun _ _ _ _ _ => (pe_ix (r := rIxT K) ix_tup (pv 6) pe_int (fun _ _ => rfl)))) (pss_cons (ps_set (i := 2) sc_ridden.nd rfl (Or.inl rfl) (pe_op op_add (pv 2) (pe_callB (r := rMin K) (cr_min rfl) (by rfl) B.min (by decide +kernel) (pa_cons (pv 5) pa_nil)))) (pss_one (ps_expr (pe_bm PySem.F.plainAttrs_list PySem.F.slot_list_append PySem.F.type_list_append mt_append (pv 3) (pa_cons (pe_tup (pa_cons (pe_ix (r := rIxL K) ix_list (pv 1) (pv 4) (fun _ _ => rfl)) (pa_cons (pv 2) pa_nil))) pa_nil))))))) (pss_one (ps_ret (pv 3))))), ?_⟩
    have hL := sqL_of (K := K) hLl
    have hl1 := (way_last way).2
    have hl2 := way.len
    have lps : (ps.map V.str).length = ps.length := by rw [List.length_map]
    have at_ : ∀ {i : Nat} {u : Str}, ps[i]? = some u → atI (ps.map V.str) (i : Int) = some (.str u) := fun h => atI_nat (by rw [List.getElem?_map, h]; rfl)
    refine ⟨Nat.zero_le _, fun fo nfo => ?_⟩
    have s1 : Same H (upd H fo (.lst [])) := same_upd nfo
    refine ⟨_, rfl, p, _, rfl, .inl (s1.seq hL), 1, ((ps.map V.str).length : Nat), rfl, ⟨by decide, by decide, by omega, by omega⟩, for_range (lo := 1) (n := (((ps.map V.str).length : Int) - 1).toNat)
      (fun i σ H' => Same H H' ∧ ∃ (mi : Int) (u : Str) (y4 y5 : Option V), σ = [some (.ref t), some (.ref p), some (.int (m + mi)), some (.ref fo), y4, y5, none] ∧ ps[i]? = some u ∧ dist R x u = some mi ∧ ∃ qf, H' fo = some (.lst (qf.map V.ref)) ∧ Tups K H' stopV qf (((ps.drop 1).take i).map (toD R x m)))
      ⟨s1, 0, x, none, none, by rw [Int.add_zero]; rfl, way.first, dist_self hp x, [], upd_same, Tups.nil⟩ ?_ ?_⟩
    · rintro i σ H2 hi ⟨s2, mi, u, y4, y5, rfl, hu, hmi, qf, ef, tf⟩
      have hi1 : i + 1 < ps.length := by omega
      obtain ⟨v, hv⟩ : ∃ v, ps[i + 1]? = some v := ⟨_, List.getElem?_eq_getElem hi1⟩
      obtain ⟨w', a', hr', hdu, hdv⟩ := way.step i u v hu hv
      rw [hmi] at hdu
      cases hdu
      have ek1 : (1 + (i : Int)) - 1 = (i : Nat) := by omega
      have ek2 : (1 + (i : Int)) = ((i + 1 : Nat) : Int) := by omega
      have au : atI (ps.map V.str) (1 + (i : Int) - 1) = some (.str u) := by rw [ek1]; exact at_ hu
      have av : atI (ps.map V.str) (1 + (i : Int)) = some (.str v) := by rw [ek2]; exact at_ hv
      refine ⟨_, rfl, t, rfl, ⟨_, s2.seq hR⟩, fun D nD => ?_⟩
      refine lc_list (K := K) (a := t) (xs := qs.map V.ref) (fun j H' => Same H2 H' ∧ ∃ ms : List Int, H' D = some (.lst (ms.map V.int)) ∧ (∀ m ∈ ms, (u, v, m) ∈ R) ∧ (∀ r ∈ R.take j, r.1 = u → r.2.1 = v → r.2.2 ∈ ms) ∧ ms.length ≤ j)
        ⟨same_upd nD, [], upd_same, (fun _ h => nomatch h), (fun _ h => nomatch h), Nat.le_refl _⟩ (fun j H' _ ⟨s, _⟩ => s.seq (s2.seq hR)) ?_ ?_
      · rintro j q1 H3 hj ⟨s3, ms, e3, i1, i2, i3⟩
        obtain ⟨p1, r, rfl, hr1, hs⟩ := (hT.same (s2.trans s3)).at hj
        have hrR := List.mem_of_getElem? hr1
        have hjl : j < R.length := (List.getElem?_eq_some_iff.mp hr1).1
        have take1 : R.take (j + 1) = R.take j ++ [r] := by
          rw [List.take_add_one, hr1]
          rfl
        have hL3 := (s2.trans s3).seq hL
        have keep : ¬ (r.1 = u ∧ r.2.1 = v) → ∀ r' ∈ R.take (j + 1), r'.1 = u → r'.2.1 = v → r'.2.2 ∈ ms := fun hn r' hr' h1 h2 => by
          rw [take1] at hr'
          rcases List.mem_append.mp hr' with h | h
          · exact i2 r' h h1 h2
          · rw [List.mem_singleton.mp h] at h1 h2
            exact absurd ⟨h1, h2⟩ hn
        refine ⟨rfl, ?_⟩
        refine ⟨_, rfl, p1, _, 0, _, rfl, rfl, hs, atI_nat (j := 0) rfl, _, rfl, _, rfl, _, _, rfl, rfl, p, _, _, _, rfl, rfl, hL3, au, rfl, _, rfl, ite2 (fun c1 => ?_) (fun c1 => ?_)⟩
        · refine ⟨_, rfl, p1, _, 1, _, rfl, rfl, hs, atI_nat (j := 1) rfl, _, rfl, _, rfl, p, _, _, _, rfl, rfl, hL3, av, rfl, _, rfl, ite2 (fun c2 => ?_) (fun c2 => ?_)⟩
          · have c1 : r.1 = u := V.str.inj (of_decide_eq_true c1)
            have c2 : r.2.1 = v := V.str.inj (of_decide_eq_true c2)
            refine ⟨_, rfl, p1, _, 2, _, rfl, rfl, hs, atI_nat (j := 2) rfl, _, e3, ?_, same_put s3 nD, ms ++ [r.2.2], ?_, ?_, ?_, ?_⟩
            · rw [List.length_map]
              exact small1000 (by omega)
            · rw [upd_same, List.map_append]
              rfl
            · intro m hm
              rcases List.mem_append.mp hm with h | h
              · exact i1 m h
              · rw [List.mem_singleton.mp h, ← c1, ← c2]
                exact hrR
            · intro r' hr' h1 h2
              rw [take1] at hr'
              rcases List.mem_append.mp hr' with h | h
              · exact List.mem_append_left _ (i2 r' h h1 h2)
              · rw [List.mem_singleton.mp h]
                exact List.mem_append_right _ List.mem_cons_self
            · rw [List.length_append]
              show ms.length + 1 ≤ j + 1
              omega
          · exact ⟨s3, ms, e3, i1, keep fun ⟨_, h⟩ => absurd (decide_eq_true (show V.str r.2.1 = V.str v by rw [h])) c2, by omega⟩
        · exact if_f rfl ⟨s3, ms, e3, i1, keep fun ⟨h, _⟩ => absurd (decide_eq_true (show V.str r.1 = V.str u by rw [h])) c1, by omega⟩
      · rintro H3 ⟨s3, ms, e3, i1, i2, i3⟩
        have hfull : (qs.map V.ref).length = R.length := by rw [List.length_map, hT.1]
        rw [hfull, List.take_length] at i2
        have hw : w' ∈ ms := i2 _ hr' rfl rfl
        have hpos : 0 < ms.length := List.length_pos_of_mem hw
        have s23 := s2.trans s3
        have ef3 := s3 _ _ ef
        refine ⟨_, rfl, _, rfl, D, ms, rfl, sqL_of e3, hpos, fun mm hm hmin => ?_⟩
        have em : mm = w' := by
          have h1 := hmin w' hw
          have h2 := step_min hp hmi hdv (i1 mm hm)
          omega
        subst em
        refine ⟨_, _, rfl, rfl, ?_⟩
        refine ⟨_, rfl, .inl ⟨rfl, _, sqL_of ef3⟩, _, rfl, _, rfl, p, _, _, _, rfl, rfl, s23.seq hL, av, _, rfl, (by show 2 ≤ sizeLine; decide), fun T hT2 => ?_⟩
        have sT : Same H3 (upd H3 T (.tup [.str v, .int (m + mi + mm)])) := same_upd hT2
        have tl : qf.length ≤ i := by
          rw [tf.1, List.length_map, List.length_take]
          omega
        have edrop : (ps.drop 1).take (i + 1) = (ps.drop 1).take i ++ [v] := by
          rw [List.take_add_one, List.getElem?_drop, Nat.add_comm 1 i, hv]
          rfl
        refine ⟨fo, _, _, rfl, rfl, sT _ _ ef3, ?_, same_put (s23.trans sT) nfo, mi + mm, v, some (.int (1 + (i : Int))), some (.ref D), ?_, hv, hdv, qf ++ [T], ?_, ?_⟩
        · rw [List.length_map]
          exact small1000 (by omega)
        · rw [← Int.add_assoc]
          rfl
        · rw [upd_same, List.map_append]
          rfl
        · rw [edrop, List.map_append]
          refine (((tf.same s3).same sT).putL (sT _ _ ef3)).add ?_
          have e2 : toD R x m v = (v, m + mi + mm) := by
            unfold toD
            rw [hdv, Int.add_assoc]
            rfl
          rw [e2]
          exact seqT_putL (sT _ _ ef3) (sqT_of upd_same)
    · rintro σ H2 ⟨s2, mi, u, y4, y5, rfl, hu, hmi, qf, ef, tf⟩
      rw [List.take_of_length_le (by rw [List.length_drop]; omega)] at tf
      exact ⟨_, rfl, q H2 fo qf s2 nfo ef tf⟩
end
end Fb
/-! day: the stops of a bus's day, in time. -/
namespace Fb
open PySem PySem.Spec PyProof.Rows L2
def stopD (s : Stop) : PyData := .tuple [.str s.1, .int s.2]
theorem sh_stop {s : Stop} (h : okPlace s.1) : Sh 1 (stopD s) := sh_tuple fun d hd => by
  rcases List.mem_cons.mp hd with rfl | hd
  · exact sh_str h
  rw [List.mem_singleton.mp hd]
  exact sh_int _
theorem sh_stops {ss : List Stop} (h : ∀ s ∈ ss, okPlace s.1) : Sh 2 (.list (ss.map stopD)) := sh_list fun d hd => by
  obtain ⟨s, hs, rfl⟩ := List.mem_map.mp hd
  exact sh_stop (h s hs)
theorem dp_stops {K : PySem.W.Frag} {H : Hp} {qs : List Addr} {ss : List Stop} (t : Tups K H stopV qs ss) : DpAll K H (qs.map V.ref) (ss.map stopD) := dp_tups (d := stopD) (fun q x h => .tup h (.cons (.str _) (.cons (.int _) .nil))) t
/-- stops == [] -/
theorem stops_nil {K : PySem.W.Frag} {H : Hp} {a b : Addr} {qs : List Addr} {ss : List Stop} (h1 : H a = some (.lst (qs.map V.ref))) (t : Tups K H stopV qs ss) (ok : ∀ s ∈ ss, okPlace s.1) (h2 : H b = some (.lst [])) : ∃ d e, Dp K H (.ref a) d ∧ Dp K H (.ref b) e ∧ SeqAt.shaped d = true ∧ SeqAt.shaped e = true ∧ PyData.eqv d e = ss.isEmpty := by
  refine ⟨_, _, .lst (sqL_of h1) (dp_stops t), .lst (sqL_of h2) .nil, (sh_stops ok).ok (by decide), sh_nil0.ok (by decide), ?_⟩
  cases ss with
  | nil => simp [PyData.eqv, PyData.eqvAll]
  | cons k l => simp [PyData.eqv, PyData.eqvAll]
theorem leg_ok {R : List Ride} {x y : Str} {ps : List Str} {m : Int} (okP : ∀ r ∈ R, okPlace r.1 ∧ okPlace r.2.1) (h : Way R x y ps) : ∀ s ∈ legOf R x m ps, okPlace s.1 := fun s hs => by
  obtain ⟨z, hz, rfl⟩ := List.mem_map.mp hs
  obtain ⟨i, hi, e⟩ := List.mem_iff_getElem.mp hz
  have hg : ps[i + 1]? = some z := by
    rw [Nat.add_comm, ← List.getElem?_drop, List.getElem?_eq_getElem hi, e]
  have hi2 := (List.getElem?_eq_some_iff.mp hg).1
  obtain ⟨w, a, hr, _, _⟩ := h.step i ps[i] z (List.getElem?_eq_getElem (by omega)) hg
  exact (okP _ hr).2
theorem leg_len {R : List Ride} {x y : Str} {ps : List Str} {m : Int} (h : Way R x y ps) : (legOf R x m ps).length ≤ R.length := by
  unfold legOf
  rw [List.length_map, List.length_drop]
  have := h.len
  omega
theorem day_last {R : List Ride} {ts : List Trip} {parts : List (List Stop)} (d : DayOk R ts parts) {t : Trip} (h : ts[ts.length - 1]? = some t) : ∃ Y, parts.flatten = Y ++ [(t.2.2.1, t.2.2.2)] := by
  have hl := (List.getElem?_eq_some_iff.mp h).1
  obtain ⟨sg, e, _, _⟩ := d.part _ t h
  rcases List.eq_nil_or_concat parts with rfl | ⟨ps, x, rfl⟩
  · have := d.len
    simp at this
    omega
  · rw [List.concat_eq_append] at e d ⊢
    have hn : ts.length - 1 = ps.length := by
      have := d.len
      rw [List.length_append] at this
      have : ps.length + 1 = ts.length := this
      omega
    rw [hn, List.getElem?_append_right (Nat.le_refl _), Nat.sub_self] at e
    have e : x = sg ++ two t := Option.some.inj e
    refine ⟨ps.flatten ++ sg ++ [(t.1, t.2.1)], ?_⟩
    rw [List.flatten_append, e]
    simp [two]
/-- the last of things at these addresses -/
theorem Tups.last {β : Type} {K : PySem.W.Frag} {H : Hp} {f : β → List V} {qs : List Addr} {Y : List β} {z : β} (t : Tups K H f qs (Y ++ [z])) : ∃ q, atI (qs.map V.ref) (-1) = some (.ref q) ∧ SqT K H q (f z) := by
  have hl := t.1
  rw [List.length_append] at hl
  rcases List.eq_nil_or_concat qs with rfl | ⟨qs', q, rfl⟩
  · cases hl
  · rw [List.concat_eq_append] at hl t ⊢
    rw [List.length_append] at hl
    have hl : qs'.length + 1 = Y.length + 1 := hl
    refine ⟨q, ?_, t.2 qs'.length q z (by rw [List.getElem?_append_right (Nat.le_refl _), Nat.sub_self]; rfl) (by rw [show qs'.length = Y.length by omega, List.getElem?_append_right (Nat.le_refl _), Nat.sub_self]; rfl)⟩
    rw [List.map_append]
    exact atI_last _ _
/-- the trips of a row -/
def RowT (trips : List Trip) (row : List Nat) (ts : List Trip) : Prop := ts.length = row.length ∧ ∀ (k n : Nat), row[k]? = some n → ∃ t, trips[n]? = some t ∧ ts[k]? = some t
def spDay (K : PySem.W.Frag) : Sp := fun vs H Q _ => ∃ (a b rw : Addr) (rides : List Ride) (trips : List Trip) (row : List Nat) (ts : List Trip), vs = [.ref a, .ref b, .ref rw] ∧ Told2 K H a b rides trips ∧ SqL K H rw (nV row) ∧ row.length ≤ 100 ∧ RowT trips row ts ∧
  (∀ k t u, ts[k]? = some t → ts[k + 1]? = some u → canM (roadsM rides trips) t u = true) ∧
  ∀ H' q qs parts, Same H H' → H q = none → H' q = some (.lst (qs.map V.ref)) → Tups K H' stopV qs parts.flatten → DayOk (roadsM rides trips) ts parts → (∀ s ∈ parts.flatten, okPlace s.1) → parts.flatten.length ≤ 300 * row.length → Q (.ref q) H'
theorem can_dist {R : List Ride} {t u : Trip} (h : canM R t u = true) : ∃ d, dist R t.2.2.1 u.1 = some d ∧ t.2.2.2 + d ≤ u.2.1 := by
  unfold canM comesB at h
  cases e : dist R t.2.2.1 u.1 with
  | none =>
    rw [e] at h
    cases h
  | some d =>
    rw [e] at h
    exact ⟨d, rfl, of_decide_eq_true h⟩
section
variable {P : Program} {w : World} {K : PySem.W.Frag} {mg : Str → Option Value} {base : Heap}
theorem cal_day {f : Addr} {fd : FuncData} (F : Fn K "day" s_day f fd) (g : mg "day" = some (.ref f)) (B : Bi mg) (c_roads : C8.Cal P w K mg base 4 "roads" (spRoads K) []) (c_need_number : C8.Cal P w K mg base 2 "need_number" (spNeedN K) []) (c_can : C8.Cal P w K mg base 6 "can" (spCan K) []) (c_way : C8.Cal P w K mg base 6 "way" (spWay K) []) (c_ridden : C8.Cal P w K mg base 1 "ridden" (spRidden K) []) : C8.Cal P w K mg base 7 "day" (spDay K) [] := by
  refine cal_of F g sc_day (bi_day F) (fun vs H Q E h => ?_) (fun cdv A outer s H vs Q E hr h => ?_)
  · obtain ⟨a, b, rw, rides, trips, row, ts, rfl, _⟩ := h
    rfl
  · obtain ⟨a, b, rw_, rides, trips, row, ts, rfl, T, hrow, hlen, ⟨htl, hts⟩, hcan, q⟩ := h
    refine ⟨_, (pss_cons (ps_set (i := 3) sc_day.nd rfl (Or.inl rfl) (C8.pe_c c_roads hr (by decide) (by rfl) (pa_cons (pv 0) (pa_cons (pv 1) pa_nil)))) (pss_cons (ps_for PassesOwn.never rfl (pi_list (pv 2)) (pg_name (i := 4) sc_day.nd rfl (Or.inl rfl)) (pss_one (ps_expr (C8.pe_c c_need_number hr (by decide) (by rfl) (pa_cons (pv 1) (pa_cons (pv 4) pa_nil)))))) (pss_cons (ps_for PassesOwn.never rfl (pi_range2 (by rfl) B.range (pa_cons pe_int (pa_cons (pe_callB (r := rLenS K) call_len_seq (by rfl) B.len PySem.boot_len (pa_cons (pv 2) pa_nil)) pa_nil))) (pg_name (i := 5) sc_day.nd rfl (Or.inl rfl)) (pss_one (ps_if (pt_not (pt_val (C8.pe_c c_can hr (by decide) (by rfl) (pa_cons (pv 0) (pa_cons (pv 1) (pa_cons (pe_ix (r := rIxL K) ix_list (pv 2) (pe_op op_sub (pv 5) pe_int) (fun _ _ => rfl)) (pa_cons (pe_ix (r := rIxL K) ix_list (pv 2) (pv 5) (fun _ _ => rfl)) pa_nil))))))) (pss_one ps_never) pss_nil))) (pss_cons (ps_set (i := 6) sc_day.nd rfl (Or.inl rfl) (pe_lst pa_nil)) (pss_cons (ps_for PassesOwn.never rfl (pi_list (pv 2)) (pg_name (i := 4) sc_day.nd rfl (Or.inl rfl)) (pss_cons (ps_set (i := 7) sc_day.nd rfl (Or.inl rfl) (pe_ix (r := rIxL K) ix_list (pv 1) (pv 4) (fun _ _ => rfl))) (C8.pss_cut (ps_if (pt_cmpR (op_neD hr.units) (pv 6) (pe_lst pa_nil) (nomark _)) (pss_cons (ps_set (i := 8) sc_day.nd rfl (Or.inl rfl) (C8.pe_c c_way hr (by decide) (by rfl) (pa_cons (pv 0) (pa_cons (pv 1) (pa_cons (pe_ix (r := rIxT K) ix_tup (pe_ix (r := rIxL K) ix_list (pv 6) (pe_un un_neg pe_int) (fun _ _ => rfl)) pe_int (fun _ _ => rfl)) (pa_cons (pe_ix (r := rIxT K) ix_tup (pv 7) pe_int (fun _ _ => rfl)) pa_nil)))))) (pss_one (ps_expr (pe_bm PySem.F.plainAttrs_list PySem.F.slot_list_extend PySem.F.type_list_extend mt_extend (pv 6) (pa_cons (C8.pe_c c_ridden hr (by decide) (by rfl) (pa_cons (pv 3) (pa_cons (pv 8) (pa_cons (pe_ix (r := rIxT K) ix_tup (pe_ix (r := rIxL K) ix_list (pv 6) (pe_un un_neg pe_int) (fun _ _ => rfl)) pe_int (fun _ _ => rfl)) pa_nil)))) pa_nil))))) pss_nil) (pss_cons (ps_expr (pe_bm PySem.F.plainAttrs_list PySem.F.slot_list_append PySem.F.type_list_append mt_append (pv 6) (pa_cons (pe_tup (pa_cons (pe_ix (r := rIxT K) ix_tup (pv 7) pe_int (fun _ _ => rfl)) (pa_cons (pe_ix (r := rIxT K) ix_tup (pv 7) pe_int (fun _ _ => rfl)) pa_nil))) pa_nil))) (pss_one (ps_expr (pe_bm PySem.F.plainAttrs_list PySem.F.slot_list_append PySem.F.type_list_append mt_append (pv 6) (pa_cons (pe_tup (pa_cons (pe_ix (r := rIxT K) ix_tup (pv 7) pe_int (fun _ _ => rfl)) (pa_cons (pe_ix (r := rIxT K) ix_tup (pv 7) pe_int (fun _ _ => rfl)) pa_nil))) pa_nil)))))))) (pss_one (ps_ret (pv 6)))))))), ?_⟩
    obtain ⟨qt, hqt, hTt⟩ := T.lT
    have hp := posR T.okR T.okT
    have lM := roadsM_len rides trips
    have h100 := T.lenR
    have h101 := T.lenT
    have okT := T.okT
    have okP := roadsM_places T.okR T.okT
    have lrow : (nV row).length = row.length := by rw [List.length_map]
    have ll : (qt.map V.ref).length = trips.length := by rw [List.length_map, hTt.1]
    have tat : ∀ {H' : Hp}, Same H H' → ∀ {i : Nat} {x : Trip}, trips[i]? = some x → ∃ q', atI (qt.map V.ref) (i : Int) = some (.ref q') ∧ SqT K H' q' (tripV x) := fun s i x hx => by
      obtain ⟨q', hq, hs⟩ := (hTt.same s).addr hx
      exact ⟨q', atI_nat (by rw [List.getElem?_map, hq]; rfl), hs⟩
    refine ⟨_, rfl, _, rfl, a, b, rides, trips, rfl, T, fun H1 ro qo s1 nro ero tro => ?_⟩
    obtain ⟨R, hR⟩ : ∃ R, R = roadsM rides trips := ⟨_, rfl⟩
    rw [← hR] at tro hp lM q okP hcan
    -- all are numbers
    refine ⟨_, rfl, rw_, rfl, ⟨_, s1.seq hrow⟩, for_list (K := K) (a := rw_) (xs := nV row) (fun i σ H' => H' = H1 ∧ ∃ y4, σ = [some (.ref a), some (.ref b), some (.ref rw_), some (.ref ro), y4, none, none, none, none]) ⟨rfl, none, rfl⟩ (fun i σ H' _ ⟨e, _⟩ => e ▸ s1.seq hrow) ?_ ?_⟩
    · rintro i v σ H2 hi ⟨rfl, y4, rfl⟩
      obtain ⟨n, rfl, hn⟩ := nV_get hi
      obtain ⟨t, ht, _⟩ := hts i n hn
      have hnl := (List.getElem?_eq_some_iff.mp ht).1
      exact ⟨_, rfl, _, rfl, b, _, n, rfl, s1.seq hqt, by omega, by rw [ll]; omega, rfl, _, rfl⟩
    rintro σ H2 ⟨rfl, y4, rfl⟩
    -- each in time
    refine ⟨_, rfl, rw_, _, rfl, .inl (s1.seq hrow), 1, ((nV row).length : Nat), rfl, ⟨by decide, by decide, by omega, by omega⟩, for_range (lo := 1) (n := (((nV row).length : Int) - 1).toNat) (fun i σ H' => Same H2 H' ∧ ∃ y5, σ = [some (.ref a), some (.ref b), some (.ref rw_), some (.ref ro), y4, y5, none, none, none]) ⟨Same.refl _, none, rfl⟩ ?_ ?_⟩
    · rintro i σ H3 hi ⟨s3, y5, rfl⟩
      have S3 := s1.trans s3
      obtain ⟨u, hu⟩ : ∃ u, row[i]? = some u := ⟨_, List.getElem?_eq_getElem (by omega)⟩
      obtain ⟨v, hv⟩ : ∃ v, row[i + 1]? = some v := ⟨_, List.getElem?_eq_getElem (by omega)⟩
      obtain ⟨tu, htu, htu2⟩ := hts i u hu
      obtain ⟨tv, htv, htv2⟩ := hts (i + 1) v hv
      have ek1 : (1 + (i : Int)) - 1 = (i : Nat) := by omega
      have ek2 : (1 + (i : Int)) = ((i + 1 : Nat) : Int) := by omega
      have au : atI (nV row) (1 + (i : Int) - 1) = some (.int u) := by rw [ek1]; exact nV_at hu
      have av : atI (nV row) (1 + (i : Int)) = some (.int v) := by rw [ek2]; exact nV_at hv
      refine ⟨_, rfl, _, rfl, _, rfl, _, rfl, _, _, rfl, rfl, rw_, _, _, _, rfl, rfl, S3.seq hrow, au, _, rfl, _, rfl, rw_, _, _, _, rfl, rfl, S3.seq hrow, av, a, b, rides, trips, u, v, tu, tv, rfl, T.same S3, htu, htv, fun H4 s4 => ⟨_, rfl, ?_⟩⟩
      rw [← hR, hcan i tu tv htu2 htv2]
      exact if_f rfl ⟨s3.trans s4, _, rfl⟩
    rintro σ H3 ⟨s3, y5, rfl⟩
    have S3 := s1.trans s3
    refine ⟨Nat.zero_le _, fun fo nfo => ?_⟩
    have nfo0 : H fo = none := S3.free nfo
    have sf : Same H3 (upd H3 fo (.lst [])) := same_upd nfo
    refine ⟨_, rfl, rw_, rfl, ⟨_, (S3.trans sf).seq hrow⟩, for_list (K := K) (a := rw_) (xs := nV row) (fun i σ H' => Same H3 H' ∧ ∃ (y4 y7 y8 : Option V) (qs : List Addr) (parts : List (List Stop)), σ = [some (.ref a), some (.ref b), some (.ref rw_), some (.ref ro), y4, y5, some (.ref fo), y7, y8] ∧
      H' fo = some (.lst (qs.map V.ref)) ∧ Tups K H' stopV qs parts.flatten ∧ DayOk R (ts.take i) parts ∧ (∀ s ∈ parts.flatten, okPlace s.1) ∧ parts.flatten.length ≤ 300 * i)
      ⟨sf, y4, none, none, [], [], rfl, upd_same, Tups.nil, DayOk.nil R, (fun _ h => nomatch h), Nat.zero_le _⟩ (fun i σ H' _ ⟨s, _⟩ => (S3.trans s).seq hrow) ?_ ?_⟩
    · rintro i v0 σ H4 hi ⟨s4, z4, y7, y8, qs, parts, rfl, efo, tfo, dk, okS, hpl⟩
      obtain ⟨n, rfl, hn⟩ := nV_get hi
      have hir := (List.getElem?_eq_some_iff.mp hn).1
      obtain ⟨t, ht, ht2⟩ := hts i n hn
      have okt := okT t (List.mem_of_getElem? ht)
      have S4 := S3.trans s4
      obtain ⟨p2, at2, hs2⟩ := tat S4 ht
      have etk : ts.take (i + 1) = ts.take i ++ [t] := by
        rw [List.take_add_one, ht2]
        rfl
      have ltk : (ts.take i).length = i := by rw [List.length_take]; omega
      refine ⟨_, rfl, _, rfl, b, _, _, _, rfl, rfl, S4.seq hqt, at2, ?_⟩
      -- on the way
      refine ⟨fun σ H' => Same H3 H' ∧ ∃ (y8 : Option V) (qs : List Addr) (seg : List Stop), σ = [some (.ref a), some (.ref b), some (.ref rw_), some (.ref ro), some (.int (n : Int)), y5, some (.ref fo), some (.ref p2), y8] ∧
        H' fo = some (.lst (qs.map V.ref)) ∧ Tups K H' stopV qs (parts.flatten ++ seg) ∧ (ts.take i = [] → seg = []) ∧ (∀ t', (ts.take i)[(ts.take i).length - 1]? = some t' → ts.take i ≠ [] → Leg R t' t seg) ∧ (∀ s ∈ seg, okPlace s.1) ∧ seg.length ≤ 200, ?_, ?_⟩
      · refine ⟨_, rfl, Nat.zero_le _, fun e1 n1 => ?_⟩
        have se : Same H4 (upd H4 e1 (.lst [])) := same_upd n1
        obtain ⟨d, e, D1, D2, S1, S2, E1⟩ := stops_nil (K := K) (se _ _ efo) (tfo.same se) okS (upd_same (a := e1))
        refine ⟨d, e, D1, D2, S1, S2, ?_⟩
        rw [E1]
        generalize upd H4 e1 (.lst []) = H5 at *
        have efo5 := se _ _ efo
        have tfo5 := tfo.same se
        have S5 := S4.trans se
        have s35 := s4.trans se
        by_cases h0 : i = 0
        · subst h0
          have hparts : parts = [] := List.length_eq_zero_iff.mp dk.len
          subst hparts
          exact ⟨_, rfl, if_f rfl ⟨s35, _, qs, [], rfl, efo5, tfo5, fun _ => rfl, fun t' _ h => absurd rfl h, (fun _ h => nomatch h), Nat.zero_le _⟩⟩
        · obtain ⟨t', ht'⟩ : ∃ t', ts[i - 1]? = some t' := ⟨_, List.getElem?_eq_getElem (by omega)⟩
          have htk' : (ts.take i)[(ts.take i).length - 1]? = some t' := by
            rw [ltk, List.getElem?_take, if_pos (by omega)]
            exact ht'
          obtain ⟨Y, hY⟩ := day_last dk htk'
          have hc := hcan (i - 1) t' t ht' (by rw [show i - 1 + 1 = i by omega]; exact ht2)
          obtain ⟨dd, hdd, _⟩ := can_dist hc
          obtain ⟨m, hm, hm2⟩ : ∃ m, row[i - 1]? = some m ∧ trips[m]? = some t' := by
            obtain ⟨m, hm⟩ : ∃ m, row[i - 1]? = some m := ⟨_, List.getElem?_eq_getElem (by omega)⟩
            obtain ⟨t2, h1, h2⟩ := hts (i - 1) m hm
            rw [ht'] at h2
            cases h2
            exact ⟨m, hm, h1⟩
          have okt' := okT t' (List.mem_of_getElem? hm2)
          rw [hY] at tfo5
          obtain ⟨q1, al, hq1⟩ := tfo5.last
          have hne : (!parts.flatten.isEmpty) = true := by
            rw [hY]
            cases Y <;> rfl
          refine ⟨_, rfl, if_t hne ?_⟩
          refine ⟨_, rfl, _, rfl, _, rfl, _, rfl, fo, _, _, _, rfl, rfl, sqL_of efo5, al, q1, _, 0, _, rfl, rfl, hq1, atI_nat (j := 0) rfl, _, rfl, p2, _, 0, _, rfl, rfl, same_seqT se hs2, atI_nat (j := 0) rfl, a, b, rides, trips, t'.2.2.1, t.1, rfl, T.same S5, okt'.2.1, okt.1, fun hno => ?_, fun H6 pw ps s6 npw epw hex way => ?_⟩
          · rw [← hR, hdd] at hno
            cases hno
          rw [← hR] at way hex
          have efo6 := s6 _ _ efo5
          have hq6 := same_seqT s6 hq1
          refine ⟨_, rfl, .inl ⟨rfl, _, sqL_of efo6⟩, ?_⟩
          refine ⟨_, rfl, _, rfl, _, rfl, _, rfl, fo, _, _, _, rfl, rfl, sqL_of efo6, al, q1, _, 1, _, rfl, rfl, hq6, atI_nat (j := 1) rfl, ro, pw, t'.2.2.2, R, t'.2.2.1, t.1, ps, rfl, ⟨qo, sqL_of ((s3.trans (s35.trans s6)) _ _ ero), tro.same (s3.trans (s35.trans s6))⟩, by omega, hp, epw, way, fun H7 rd qd s7 nrd erd trd => ?_⟩
          have efo7 := s7 _ _ efo6
          have s67 := s6.trans s7
          have hql : qs.length ≤ 30000 := by
            rw [tfo.1]
            omega
          have hqd : qd.length ≤ 200 := by
            rw [trd.1]
            have := leg_len (m := t'.2.2.2) way
            omega
          refine ⟨fo, rd, _, _, rfl, rfl, efo7, erd, ?_, same_put (s35.trans s67) nfo, _, qs ++ qd, legOf R t'.2.2.1 t'.2.2.2 ps, rfl, ?_, ?_, fun h => ?_, fun t2 h2 _ => ?_, leg_ok okP way, ?_⟩
          · rw [List.length_map, List.length_map]
            exact Nat.le_of_lt (sz_ok (by omega))
          · rw [upd_same, List.map_append]
          · exact (((tfo.same se).same s67).putL efo7).append (trd.putL efo7)
          · have := congrArg List.length h
            rw [ltk] at this
            exact absurd this h0
          · rw [htk'] at h2
            cases h2
            exact ⟨ps, way, hex, rfl⟩
          · have := leg_len (m := t'.2.2.2) way
            omega
      · rintro σ H5 ⟨s5, w8, qs5, seg, rfl, efo5, tfo5, i0, i1, okg, hgl⟩
        have S5 := S3.trans s5
        obtain ⟨p2', at2', hs2'⟩ := tat S5 ht
        rw [at2] at at2'
        cases at2'
        have hq5 : qs5.length ≤ 30200 := by
          rw [tfo5.1, List.length_append]
          omega
        refine ⟨_, rfl, .inl ⟨rfl, _, sqL_of efo5⟩, _, rfl, p2, _, 0, _, rfl, rfl, hs2', atI_nat (j := 0) rfl, _, rfl, p2, _, 1, _, rfl, rfl, hs2', atI_nat (j := 1) rfl, (by show 2 ≤ sizeLine; decide), fun x1 nx1 => ?_⟩
        have sx1 : Same H5 (upd H5 x1 (.tup [.str t.1, .int t.2.1])) := same_upd nx1
        refine ⟨fo, _, _, rfl, rfl, sx1 _ _ efo5, ?_, ?_⟩
        · rw [List.length_map]
          exact sz_ok (by omega)
        obtain ⟨H6, hH6⟩ : ∃ H6, H6 = upd (upd H5 x1 (.tup [.str t.1, .int t.2.1])) fo (.lst (qs5.map V.ref ++ [.ref x1])) := ⟨_, rfl⟩
        have s36 : Same H3 H6 := hH6 ▸ same_put (s5.trans sx1) nfo
        have efo6 : H6 fo = some (.lst ((qs5 ++ [x1]).map V.ref)) := by
          rw [hH6, upd_same, List.map_append]
          rfl
        have tfo6 : Tups K H6 stopV (qs5 ++ [x1]) (parts.flatten ++ seg ++ [(t.1, t.2.1)]) := by
          rw [hH6]
          exact ((tfo5.same sx1).putL (sx1 _ _ efo5)).add (seqT_putL (sx1 _ _ efo5) (sqT_of upd_same))
        rw [← hH6]
        obtain ⟨p3, at3, hs3⟩ := tat (S3.trans s36) ht
        rw [at2] at at3
        cases at3
        refine ⟨_, rfl, .inl ⟨rfl, _, sqL_of efo6⟩, _, rfl, p2, _, 2, _, rfl, rfl, hs3, atI_nat (j := 2) rfl, _, rfl, p2, _, 3, _, rfl, rfl, hs3, atI_nat (j := 3) rfl, (by show 2 ≤ sizeLine; decide), fun x2 nx2 => ?_⟩
        have sx2 : Same H6 (upd H6 x2 (.tup [.str t.2.2.1, .int t.2.2.2])) := same_upd nx2
        have efl : (parts ++ [seg ++ two t]).flatten = parts.flatten ++ seg ++ [(t.1, t.2.1)] ++ [(t.2.2.1, t.2.2.2)] := by
          rw [List.flatten_append]
          simp [two]
        refine ⟨fo, _, _, rfl, rfl, sx2 _ _ efo6, ?_, same_put (s36.trans sx2) nfo, _, _, _, qs5 ++ [x1] ++ [x2], parts ++ [seg ++ two t], rfl, ?_, ?_, ?_, fun s hs => ?_, ?_⟩
        · rw [List.length_map, List.length_append]
          exact sz_ok (by show qs5.length + 1 ≤ _; omega)
        · rw [upd_same]
          exact congrArg (fun x => some (HO.lst x)) (List.map_append (f := V.ref) (l₁ := qs5 ++ [x1]) (l₂ := [x2])).symm
        · rw [efl]
          exact ((tfo6.same sx2).putL (sx2 _ _ efo6)).add (seqT_putL (sx2 _ _ efo6) (sqT_of upd_same))
        · rw [etk]
          exact dk.add i0 i1
        · rw [efl] at hs
          rcases List.mem_append.mp hs with h | h
          · rcases List.mem_append.mp h with h | h
            · rcases List.mem_append.mp h with h | h
              · exact okS s h
              · exact okg s h
            · rw [List.mem_singleton.mp h]
              exact okt.1
          · rw [List.mem_singleton.mp h]
            exact okt.2.1
        · rw [efl]
          simp only [List.length_append, List.length_cons, List.length_nil]
          omega
    · rintro σ H4 ⟨s4, z4, y7, y8, qs, parts, rfl, efo, tfo, dk, okS, hpl⟩
      rw [lrow] at dk hpl
      rw [List.take_of_length_le (by omega)] at dk
      exact ⟨_, rfl, q H4 fo qs parts (S3.trans s4) nfo0 efo tfo dk okS hpl⟩
end
end Fb
/-! Rows and numbers apart as data, and when they hold (laws k06, k09). -/
namespace Fb
open PySem PySem.Spec PyProof.Rows L2
/-- small data: None, truths, whole numbers, texts; lists and tuples of these, n deep -/
inductive Sm : Nat → PyData → Prop
  | non (n : Nat) : Sm n .none
  | bl (n : Nat) (b : Bool) : Sm n (.bool b)
  | int (n : Nat) (i : Int) : Sm n (.int i)
  | str (n : Nat) (z : Str) (h : z.length ≤ 100) (h2 : PyData.strOk z = true) : Sm n (.str z)
  | lst {n : Nat} {ds : List PyData} (h : ds.length ≤ 300) (h2 : ∀ d ∈ ds, Sm n d) : Sm (n + 1) (.list ds)
  | tup {n : Nat} {ds : List PyData} (h : ds.length ≤ 300) (h2 : ∀ d ∈ ds, Sm n d) : Sm (n + 1) (.tuple ds)
theorem Sm.sh {n : Nat} {d : PyData} (h : Sm n d) : Sh n d := by
  induction h with
  | non n => exact sh_none.up (Nat.zero_le _)
  | bl n b => exact (sh_bool b).up (Nat.zero_le _)
  | int n i => exact (sh_int i).up (Nat.zero_le _)
  | str n z _ h2 => exact ⟨by simp only [PyData.canLay0, h2], by simp [PyData.depth]⟩
  | lst _ _ ih => exact sh_list ih
  | tup _ _ ih => exact sh_tuple ih
theorem Sm.items {n : Nat} {ds : List PyData} (h : Sm n (.list ds)) : ds.length ≤ 300 ∧ ∀ d ∈ ds, Sm n d := by
  have up : ∀ {m : Nat} {d : PyData}, Sm m d → Sm (m + 1) d := fun {m d} h => by
    induction h with
    | non n => exact .non _
    | bl n b => exact .bl _ b
    | int n i => exact .int _ i
    | str n z h h2 => exact .str _ z h h2
    | lst h _ ih => exact .lst h ih
    | tup h _ ih => exact .tup h ih
  cases h with
  | lst h h2 => exact ⟨h, fun d hd => up (h2 d hd)⟩
/-! ### what a value is, by its data -/
section
variable {K : PySem.W.Frag} {H H' : Hp}
def kdOf : PyData → Kd
  | .none => .non
  | .bool _ => .bool
  | .int _ => .int
  | .str _ => .str
  | .tuple _ => .tup
  | _ => .lst
theorem _root_.L2.Dp.plain {v : V} {d : PyData} {n : Nat} (h : Dp K H v d) (s : Sm n d) : Plain K H v (kdOf d) := by
  cases h with
  | non => exact .non
  | bl b => exact .bool b
  | int i => exact .int i
  | str z =>
    cases s with
    | str _ _ h _ => exact .str z (Nat.le_trans h (by decide))
  | lst h _ => exact .lst h
  | tup h _ => exact .tup h
theorem dp_len : ∀ {vs : List V} {ds : List PyData}, DpAll K H vs ds → vs.length = ds.length
  | [], [], _ => rfl
  | _ :: _, _ :: _, .cons _ h => by rw [List.length_cons, List.length_cons, dp_len h]
theorem dp_get : ∀ {vs : List V} {ds : List PyData} {i : Nat} {v : V}, DpAll K H vs ds → vs[i]? = some v → ∃ d, ds[i]? = some d ∧ Dp K H v d
  | _ :: _, _ :: _, 0, _, .cons h _, e => by
    cases e
    exact ⟨_, rfl, h⟩
  | _ :: _, _ :: _, i + 1, _, .cons _ h, e => dp_get (i := i) h e
theorem dp_at {vs : List V} {ds : List PyData} {i : Nat} (h : DpAll K H vs ds) (hi : i < ds.length) : ∃ v d, vs[i]? = some v ∧ ds[i]? = some d ∧ Dp K H v d := by
  have hv : vs[i]? = some (vs[i]'(by rw [dp_len h]; exact hi)) := List.getElem?_eq_getElem _
  obtain ⟨d, hd, p⟩ := dp_get h hv
  exact ⟨_, d, hv, hd, p⟩
mutual
theorem dp_same {v : V} {d : PyData} (h : Dp K H v d) (s : Same H H') : Dp K H' v d := by
  cases h with
  | non => exact .non
  | bl b => exact .bl b
  | int i => exact .int i
  | str z => exact .str z
  | lst h h2 => exact .lst (s.seq h) (dps_same h2 s)
  | tup h h2 => exact .tup (same_seqT s h) (dps_same h2 s)
theorem dps_same {vs : List V} {ds : List PyData} (h : DpAll K H vs ds) (s : Same H H') : DpAll K H' vs ds := by
  cases h with
  | nil => exact .nil
  | cons h h2 => exact .cons (dp_same h s) (dps_same h2 s)
end
theorem _root_.L2.Dp.same {v : V} {d : PyData} (h : Dp K H v d) (s : Same H H') : Dp K H' v d := dp_same h s
theorem _root_.L2.DpAll.same {vs : List V} {ds : List PyData} (h : DpAll K H vs ds) (s : Same H H') : DpAll K H' vs ds := dps_same h s
/-- a list is a list -/
theorem _root_.L2.Dp.lst_of {v : V} {ds : List PyData} (h : Dp K H v (.list ds)) : ∃ a xs, v = .ref a ∧ SqL K H a xs ∧ DpAll K H xs ds := by
  cases h with
  | lst h h2 => exact ⟨_, _, rfl, h, h2⟩
/-- whole, from lo to hi -/
theorem whole_t {v : V} {d : PyData} {lo hi : Int} (h : Dp K H v d) (w : isWhole v lo hi = true) : ∃ i, v = .int i ∧ d = .int i ∧ lo ≤ i ∧ i ≤ hi := by
  cases h with
  | int i =>
    have w : (decide (lo ≤ i) && decide (i ≤ hi)) = true := w
    rw [Bool.and_eq_true] at w
    exact ⟨i, rfl, rfl, of_decide_eq_true w.1, of_decide_eq_true w.2⟩
  | _ => cases w
theorem whole_f {v : V} {i lo hi : Int} (h : Dp K H v (.int i)) (w : isWhole v lo hi = false) : ¬ (lo ≤ i ∧ i ≤ hi) := by
  cases h with
  | int i =>
    intro ⟨h1, h2⟩
    have w : (decide (lo ≤ i) && decide (i ≤ hi)) = false := w
    rw [decide_eq_true h1, decide_eq_true h2] at w
    cases w
end
/-! ### when they hold -/
def natD (k : Nat) : PyData := .int (k : Int)
def natsD (l : List Nat) : PyData := .list (l.map natD)
theorem natD_inj {a b : Nat} (h : natD a = natD b) : a = b := Int.ofNat.inj (PyData.int.inj h)
theorem map_inj_of {α β : Type} {f : α → β} (hf : ∀ a b, f a = f b → a = b) : ∀ {l m : List α}, l.map f = m.map f → l = m
  | [], [], _ => rfl
  | [], _ :: _, h => by cases h
  | _ :: _, [], h => by cases h
  | a :: l, b :: m, h => by
    rw [List.map_cons, List.map_cons] at h
    rw [hf a b (List.cons.inj h).1, map_inj_of hf (List.cons.inj h).2]
theorem natsD_inj {l m : List Nat} (h : natsD l = natsD m) : l = m := map_inj_of (fun _ _ => natD_inj) (PyData.list.inj h)
theorem natsDs_inj {l m : List (List Nat)} (h : l.map natsD = m.map natsD) : l = m := map_inj_of (fun _ _ => natsD_inj) h
/-- each next one behind the one ahead -/
def Steps (A : Nat → Nat → Prop) (r : List Nat) : Prop := ∀ k x y, r[k]? = some x → r[k + 1]? = some y → A x y
structure GoodOf (A : Nat → Nat → Prop) (n : Nat) (R : List (List Nat)) (P : List Nat) : Prop where
  len : R.length = P.length
  ne : ∀ r ∈ R, r ≠ []
  st : ∀ r ∈ R, Steps A r
  nd : R.flatten.Nodup
  lt : ∀ x ∈ R.flatten, x < n
  all : n ≤ R.flatten.length
  up : P.Pairwise (· < ·)
  ltP : ∀ x ∈ P, x < n
  anti : P.Pairwise fun i j => ¬ A i j ∧ ¬ A j i
def Good (A : Nat → Nat → Prop) (n : Nat) (d e : PyData) : Prop := ∃ R P, d = .list (R.map natsD) ∧ e = natsD P ∧ GoodOf A n R P
noncomputable def goodB (A : Nat → Nat → Prop) (n : Nat) (d e : PyData) : Bool := @decide (Good A n d e) (Classical.propDecidable _)
section
variable {A : Nat → Nat → Prop} {n : Nat} {d e : PyData}
theorem good_t (h : Good A n d e) : goodB A n d e = true := by
  unfold goodB
  exact @decide_eq_true _ (Classical.propDecidable _) h
theorem good_f (h : ¬ Good A n d e) : goodB A n d e = false := by
  unfold goodB
  exact @decide_eq_false _ (Classical.propDecidable _) h
/-- the rows ahead of the i-th, and of that one the numbers ahead of the k-th, as they were met -/
structure PreR (A : Nat → Nat → Prop) (n : Nat) (ds : List PyData) (i : Nat) (R : List (List Nat)) : Prop where
  eq : ds.take i = R.map natsD
  ne : ∀ r ∈ R, r ≠ []
  st : ∀ r ∈ R, Steps A r
  nd : R.flatten.Nodup
  lt : ∀ x ∈ R.flatten, x < n
theorem PreR.nil {ds : List PyData} : PreR A n ds 0 [] := ⟨rfl, (fun _ h => nomatch h), (fun _ h => nomatch h), List.nodup_nil, (fun _ h => nomatch h)⟩
/-- where all holds, the rows met so far are the first of them -/
theorem PreR.of {ds : List PyData} {i : Nat} {R R' : List (List Nat)} (p : PreR A n ds i R) (h : ds = R'.map natsD) : R = R'.take i := natsDs_inj (by rw [← p.eq, h, List.map_take])
structure PreK (A : Nat → Nat → Prop) (n : Nat) (es : List PyData) (R : List (List Nat)) (k : Nat) (r : List Nat) : Prop where
  eq : es.take k = r.map natD
  st : Steps A r
  nd : (R.flatten ++ r).Nodup
  lt : ∀ x ∈ r, x < n
theorem PreK.len {es : List PyData} {R : List (List Nat)} {k : Nat} {r : List Nat} (p : PreK A n es R k r) (hk : k ≤ es.length) : r.length = k := by
  have := congrArg List.length p.eq
  rw [List.length_take, List.length_map] at this
  omega
/-- in a row that is one, behind what was met, stands a number that wasn't, in time -/
theorem good_row {ds es : List PyData} {i k : Nat} {R : List (List Nat)} {r : List Nat} {x : PyData} (h : Good A n (.list ds) e) (p : PreR A n ds i R) (hd : ds[i]? = some (.list es)) (q : PreK A n es R k r) (hx : es[k]? = some x) :
    ∃ y : Nat, x = natD y ∧ y < n ∧ y ∉ R.flatten ∧ y ∉ r ∧ ∀ z, r[k - 1]? = some z → 0 < k → A z y := by
  obtain ⟨R', P, h1, _, g⟩ := h
  have h1 : ds = R'.map natsD := PyData.list.inj h1
  have eR := p.of h1
  have hk : k < es.length := (List.getElem?_eq_some_iff.mp hx).1
  have hrl := q.len (Nat.le_of_lt hk)
  rw [h1, List.getElem?_map] at hd
  cases hr' : R'[i]? with
  | none => rw [hr'] at hd; cases hd
  | some r' =>
    rw [hr'] at hd
    have he : es = r'.map natD := (PyData.list.inj (Option.some.inj hd)).symm
    have er : r = r'.take k := map_inj_of (f := natD) (fun _ _ => natD_inj) (by rw [← q.eq, he, List.map_take])
    rw [he, List.getElem?_map] at hx
    cases hy : r'[k]? with
    | none => rw [hy] at hx; cases hx
    | some y =>
      rw [hy] at hx
      have hmem : r' ∈ R' := List.mem_of_getElem? hr'
      have hf : (R'.take (i + 1)).flatten = R.flatten ++ r' := by
        rw [List.take_add_one, hr', List.flatten_append, eR]
        simp
      have hsub : ((R'.take (i + 1)).flatten).Sublist R'.flatten := by
        have e : R'.flatten = (R'.take (i + 1)).flatten ++ (R'.drop (i + 1)).flatten := by rw [← List.flatten_append, List.take_append_drop]
        rw [e]
        exact List.sublist_append_left _ _
      have hnd : (R.flatten ++ r').Nodup := by
        rw [← hf]
        exact g.nd.sublist hsub
      have hsplit : r' = r ++ y :: r'.drop (k + 1) := by
        have h1 : r'.drop k = y :: r'.drop (k + 1) := by
          have hlt := (List.getElem?_eq_some_iff.mp hy)
          obtain ⟨hl, hv⟩ := hlt
          rw [List.drop_eq_getElem_cons hl, hv]
        rw [er, ← h1, List.take_append_drop]
      refine ⟨y, (Option.some.inj hx).symm, g.lt y (List.mem_flatten.mpr ⟨r', hmem, List.mem_of_getElem? hy⟩), fun hm => ?_, fun hm => ?_, fun z hz h0 => ?_⟩
      · exact (List.nodup_append.mp hnd).2.2 y hm y (List.mem_of_getElem? hy) rfl
      · have h2 := (List.nodup_append.mp hnd).2.1
        rw [hsplit] at h2
        exact (List.nodup_append.mp h2).2.2 y hm y List.mem_cons_self rfl
      · have hz' : r'[k - 1]? = some z := by
          rw [er, List.getElem?_take_of_lt (by omega)] at hz
          exact hz
        refine g.st r' hmem (k - 1) z y hz' ?_
        rw [show k - 1 + 1 = k by omega]
        exact hy
/-- each row is a list, and none is empty -/
theorem good_lst {ds : List PyData} {i : Nat} {x : PyData} (h : Good A n (.list ds) e) (hd : ds[i]? = some x) : ∃ es, x = .list es ∧ es ≠ [] := by
  obtain ⟨R', P, h1, _, g⟩ := h
  have h1 : ds = R'.map natsD := PyData.list.inj h1
  rw [h1, List.getElem?_map] at hd
  cases hr' : R'[i]? with
  | none => rw [hr'] at hd; cases hd
  | some r' =>
    rw [hr'] at hd
    refine ⟨r'.map natD, (Option.some.inj hd).symm, fun z => g.ne r' (List.mem_of_getElem? hr') ?_⟩
    cases r' with
    | nil => rfl
    | cons _ _ => cases z
/-- the row is met -/
theorem PreK.done {ds es : List PyData} {i : Nat} {R : List (List Nat)} {r : List Nat} (q : PreK A n es R es.length r) (p : PreR A n ds i R) (hd : ds[i]? = some (.list es)) (hne : es ≠ []) : PreR A n ds (i + 1) (R ++ [r]) := by
  have he : es = r.map natD := by rw [← q.eq, List.take_length]
  have hf : (R ++ [r]).flatten = R.flatten ++ r := by rw [List.flatten_append]; simp
  refine ⟨?_, fun r' hr => ?_, fun r' hr => ?_, by rw [hf]; exact q.nd, fun x hx => ?_⟩
  · rw [List.take_add_one, hd, p.eq, List.map_append, he]
    rfl
  · rcases List.mem_append.mp hr with z | z
    · exact p.ne r' z
    · rw [List.mem_singleton.mp z]
      intro z2
      rw [z2] at he
      exact hne he
  · rcases List.mem_append.mp hr with z | z
    · exact p.st r' z
    · rw [List.mem_singleton.mp z]
      exact q.st
  · rw [hf] at hx
    rcases List.mem_append.mp hx with z | z
    · exact p.lt x z
    · exact q.lt x z
/-- one number more -/
theorem PreK.add {es : List PyData} {R : List (List Nat)} {k y : Nat} {r : List Nat} (q : PreK A n es R k r) (hx : es[k]? = some (natD y)) (hy : y < n) (h1 : y ∉ R.flatten) (h2 : y ∉ r) (hs : ∀ z, r[k - 1]? = some z → 0 < k → A z y) : PreK A n es R (k + 1) (r ++ [y]) := by
  have hk : k < es.length := (List.getElem?_eq_some_iff.mp hx).1
  have hrl := q.len (Nat.le_of_lt hk)
  refine ⟨?_, fun j a b ha hb => ?_, ?_, fun x hx => ?_⟩
  · rw [List.take_add_one, hx, q.eq, List.map_append]
    rfl
  · by_cases hj : j + 1 < r.length
    · rw [List.getElem?_append_left (by omega)] at ha
      rw [List.getElem?_append_left hj] at hb
      exact q.st j a b ha hb
    · have hlt := (List.getElem?_eq_some_iff.mp hb).1
      rw [List.length_append] at hlt
      have hlt : j + 1 < r.length + 1 := hlt
      have ej : j + 1 = r.length := by omega
      rw [List.getElem?_append_left (by omega)] at ha
      rw [List.getElem?_append_right (by omega), ej, Nat.sub_self] at hb
      cases hb
      refine hs a ?_ (by omega)
      rw [show k - 1 = j by omega]
      exact ha
  · rw [← List.append_assoc]
    refine List.nodup_append.mpr ⟨q.nd, List.nodup_cons.mpr ⟨(fun h => nomatch h), List.nodup_nil⟩, fun a ha b hb => ?_⟩
    rw [List.mem_singleton.mp hb]
    rintro rfl
    rcases List.mem_append.mp ha with z | z
    · exact h1 z
    · exact h2 z
  · rcases List.mem_append.mp hx with z | z
    · exact q.lt x z
    · rw [List.mem_singleton.mp z]
      exact hy
/-! ### numbers apart -/
structure PreP (A : Nat → Nat → Prop) (n : Nat) (es : List PyData) (k : Nat) (P : List Nat) : Prop where
  eq : es.take k = P.map natD
  up : P.Pairwise (· < ·)
  lt : ∀ x ∈ P, x < n
  anti : P.Pairwise fun i j => ¬ A i j ∧ ¬ A j i
theorem PreP.nil {es : List PyData} : PreP A n es 0 [] := ⟨rfl, .nil, (fun _ h => nomatch h), .nil⟩
theorem PreP.len {es : List PyData} {k : Nat} {P : List Nat} (p : PreP A n es k P) (hk : k ≤ es.length) : P.length = k := by
  have := congrArg List.length p.eq
  rw [List.length_take, List.length_map] at this
  omega
theorem good_num {es : List PyData} {k : Nat} {P : List Nat} {x : PyData} (h : Good A n d (.list es)) (p : PreP A n es k P) (hx : es[k]? = some x) :
    ∃ y : Nat, x = natD y ∧ y < n ∧ (∀ z ∈ P, z < y) ∧ ∀ z ∈ P, ¬ A z y ∧ ¬ A y z := by
  obtain ⟨R', P', _, h1, g⟩ := h
  have h1 : es = P'.map natD := PyData.list.inj h1
  have eP : P = P'.take k := map_inj_of (f := natD) (fun _ _ => natD_inj) (by rw [← p.eq, h1, List.map_take])
  rw [h1, List.getElem?_map] at hx
  cases hy : P'[k]? with
  | none => rw [hy] at hx; cases hx
  | some y =>
    rw [hy] at hx
    have hsplit : P' = P ++ y :: P'.drop (k + 1) := by
      have h1 : P'.drop k = y :: P'.drop (k + 1) := by
        obtain ⟨hl, hv⟩ := List.getElem?_eq_some_iff.mp hy
        rw [List.drop_eq_getElem_cons hl, hv]
      rw [eP, ← h1, List.take_append_drop]
    have u := g.up
    have a := g.anti
    rw [hsplit] at u a
    exact ⟨y, (Option.some.inj hx).symm, g.ltP y (List.mem_of_getElem? hy), fun z hz => (List.pairwise_append.mp u).2.2 z hz y List.mem_cons_self, fun z hz => (List.pairwise_append.mp a).2.2 z hz y List.mem_cons_self⟩
theorem PreP.add {es : List PyData} {k y : Nat} {P : List Nat} (p : PreP A n es k P) (hx : es[k]? = some (natD y)) (hy : y < n) (h1 : ∀ z ∈ P, z < y) (h2 : ∀ z ∈ P, ¬ A z y ∧ ¬ A y z) : PreP A n es (k + 1) (P ++ [y]) := by
  refine ⟨?_, ?_, fun x hx => ?_, ?_⟩
  · rw [List.take_add_one, hx, p.eq, List.map_append]
    rfl
  · refine List.pairwise_append.mpr ⟨p.up, List.pairwise_singleton _ _, fun a ha b hb => ?_⟩
    rw [List.mem_singleton.mp hb]
    exact h1 a ha
  · rcases List.mem_append.mp hx with z | z
    · exact p.lt x z
    · rw [List.mem_singleton.mp z]
      exact hy
  · refine List.pairwise_append.mpr ⟨p.anti, List.pairwise_singleton _ _, fun a ha b hb => ?_⟩
    rw [List.mem_singleton.mp hb]
    exact h2 a ha
/-- the last one is the greatest -/
theorem PreP.last {es : List PyData} {k y z : Nat} {P : List Nat} (p : PreP A n es k P) (hk : k ≤ es.length) (hz : P[k - 1]? = some z) (h : z < y) : ∀ x ∈ P, x < y := fun x hx => by
  obtain ⟨i, hi, e⟩ := List.mem_iff_getElem.mp hx
  have hl := p.len hk
  by_cases c : i = k - 1
  · subst c
    rw [List.getElem?_eq_getElem hi, e] at hz
    cases hz
    exact h
  · have h2 : k - 1 < P.length := (List.getElem?_eq_some_iff.mp hz).1
    have := List.pairwise_iff_getElem.mp p.up i (k - 1) hi h2 (by omega)
    rw [List.getElem?_eq_getElem h2] at hz
    cases hz
    rw [e] at this
    omega
/-- all is met -/
theorem good_of {ds es : List PyData} {R : List (List Nat)} {P : List Nat} (p : PreR A n ds ds.length R) (q : PreP A n es es.length P) (hl : ds.length = es.length) (ha : n ≤ R.flatten.length) : Good A n (.list ds) (.list es) := by
  have h1 : ds = R.map natsD := by rw [← p.eq, List.take_length]
  have h2 : es = P.map natD := by rw [← q.eq, List.take_length]
  refine ⟨R, P, by rw [h1], by rw [h2]; rfl, ?_, p.ne, p.st, p.nd, p.lt, ha, q.up, q.lt, q.anti⟩
  rw [h1, h2, List.length_map, List.length_map] at hl
  exact hl
theorem good_all {ds : List PyData} {R : List (List Nat)} (h : Good A n (.list ds) e) (p : PreR A n ds ds.length R) : n ≤ R.flatten.length := by
  obtain ⟨R', P, h1, _, g⟩ := h
  have h1 : ds = R'.map natsD := PyData.list.inj h1
  have eR := p.of h1
  rw [List.take_of_length_le (by rw [h1, List.length_map]; exact Nat.le_refl _)] at eR
  rw [eR]
  exact g.all
theorem good_len {ds es : List PyData} (h : Good A n (.list ds) (.list es)) : ds.length = es.length := by
  obtain ⟨R', P, h1, h2, g⟩ := h
  have h1 : ds = R'.map natsD := PyData.list.inj h1
  have h2 : es = P.map natD := PyData.list.inj h2
  rw [h1, h2, List.length_map, List.length_map]
  exact g.len
theorem good_ll (h : Good A n d e) : (∃ ds, d = .list ds) ∧ ∃ es, e = .list es := by
  obtain ⟨R', P, h1, h2, _⟩ := h
  exact ⟨⟨_, h1⟩, ⟨_, h2⟩⟩
end
end Fb
/-! holds: of rows and numbers apart of any form. -/
namespace Fb
open PySem PySem.Spec PyProof.Rows L2
theorem inV_nat {x : Nat} : ∀ {l : List Nat}, inV (.int (x : Int)) (nV l) = decide (x ∈ l)
  | [] => rfl
  | y :: l => by
    have ih := inV_nat (x := x) (l := l)
    show (((y : Int) == (x : Int)) || inV (.int (x : Int)) (nV l)) = _
    rw [ih]
    by_cases h : y = x
    · subst h
      simp
    · have h1 : ((y : Int) == (x : Int)) = false := by
        rw [beq_eq_false_iff_ne]
        omega
      have h2 : ¬ x = y := fun z => h z.symm
      rw [h1, Bool.false_or]
      simp [h2]
theorem flat_nV (l : List Nat) : (nV l).all flatV = true := by
  rw [List.all_eq_true]
  intro v hv
  obtain ⟨k, _, rfl⟩ := List.mem_map.mp hv
  rfl
theorem notin_adj {L : List (List Nat)} {x y : Nat} {l : List Nat} (hl : L[x]? = some l) : (!inV (.int (y : Int)) (nV l)) = false ↔ Adj L x y := by
  rw [inV_nat, Adj.of hl]
  simp
theorem in_adj {L : List (List Nat)} {x y : Nat} {l : List Nat} (hl : L[x]? = some l) : inV (.int (y : Int)) (nV l) = true ↔ Adj L x y := by
  rw [inV_nat, Adj.of hl]
  simp
/-- ds == [] -/
theorem eqv_nil {ds : List PyData} : PyData.eqv (.list ds) (.list []) = ds.isEmpty := by
  cases ds with
  | nil => simp [PyData.eqv, PyData.eqvAll]
  | cons _ _ => simp [PyData.eqv, PyData.eqvAll]
def spHolds (K : PySem.W.Frag) : Sp := fun vs H Q _ => ∃ (a b : Addr) (rides : List Ride) (trips : List Trip) (x y : V) (d e : PyData), vs = [.ref a, .ref b, x, y] ∧ Told2 K H a b rides trips ∧ Dp K H x d ∧ Dp K H y e ∧ Sm 8 d ∧ Sm 8 e ∧
  ∀ H', Same H H' → Q (.bl (goodB (CA rides trips) trips.length d e)) H'
theorem kd_lst_f {d : PyData} (h : (kdOf d).isLst = false) : ∀ ds, d ≠ .list ds := fun ds z => by
  subst z
  cases h
theorem kd_lst_t {n : Nat} {d : PyData} (s : Sm n d) (h : (kdOf d).isLst = true) : ∃ ds, d = .list ds := by
  cases s with
  | lst _ _ => exact ⟨_, rfl⟩
  | _ => cases h
section
variable {P : Program} {w : World} {K : PySem.W.Frag} {mg : Str → Option Value} {base : Heap}
theorem cal_holds {f : Addr} {fd : FuncData} (F : Fn K "holds" s_holds f fd) (g : mg "holds" = some (.ref f)) (B : Bi mg) (c_looked : C8.Cal P w K mg base 3 "looked" (spLooked K) []) (c_behind : C8.Cal P w K mg base 6 "behind" (spBehind K) []) (c_is_whole : C8.Cal P w K mg base 1 "is_whole" (spWhole K) []) : C8.Cal P w K mg base 7 "holds" (spHolds K) [] := by
  refine cal_of F g sc_holds (bi_holds F) (fun vs H Q E h => ?_) (fun cdv A outer s H vs Q E hr h => ?_)
  · obtain ⟨a, b, rides, trips, x, y, d, e, rfl, _⟩ := h
    rfl
  · obtain ⟨a, b, rides, trips, x, y, d, e, rfl, T, px, py, sd, se, q⟩ := h
    have hu := hu_of hr
    refine ⟨_, (pss_cons (ps_expr (C8.pe_c c_looked hr (by decide) (by rfl) (pa_cons (pv 0) (pa_cons (pv 1) pa_nil)))) (pss_cons (ps_if (PW.pt (pw_or (pt_not (pt_val (pe_callB (r := rIsi K) call_isi (by rfl) B.isi (by decide +kernel) (pa_cons (pv 2) (pa_cons (pe_bltn (v := .ty "list") (u := .type "list") (by rfl) B.list (by decide +kernel) (by rfl)) pa_nil))))) (pw_or (pt_not (pt_val (pe_callB (r := rIsi K) call_isi (by rfl) B.isi (by decide +kernel) (pa_cons (pv 3) (pa_cons (pe_bltn (v := .ty "list") (u := .type "list") (by rfl) B.list (by decide +kernel) (by rfl)) pa_nil))))) (pw_or1 (pt_cmpR op_ne (pe_callB (r := rLenS K) call_len_seq (by rfl) B.len PySem.boot_len (pa_cons (pv 2) pa_nil)) (pe_callB (r := rLenS K) call_len_seq (by rfl) B.len PySem.boot_len (pa_cons (pv 3) pa_nil)) (nomark _)))))) (pss_one (ps_ret pe_bl)) pss_nil) (pss_cons (ps_set (i := 4) sc_holds.nd rfl (Or.inl rfl) (C8.pe_c c_behind hr (by decide) (by rfl) (pa_cons (pv 0) (pa_cons (pv 1) pa_nil)))) (pss_cons (ps_set (i := 5) sc_holds.nd rfl (Or.inl rfl) pe_dnewK) (pss_cons (ps_for PassesOwn.never rfl (pi_list (pv 2)) (pg_name (i := 6) sc_holds.nd rfl (Or.inl rfl)) (pss_cons (ps_if (PW.pt (pw_or (pt_not (pt_val (pe_callB (r := rIsi K) call_isi (by rfl) B.isi (by decide +kernel) (pa_cons (pv 6) (pa_cons (pe_bltn (v := .ty "list") (u := .type "list") (by rfl) B.list (by decide +kernel) (by rfl)) pa_nil))))) (pw_or1 (pt_cmpR (op_eqD hr.units) (pv 6) (pe_lst pa_nil) (nomark _))))) (pss_one (ps_ret pe_bl)) pss_nil) (pss_one (ps_for PassesOwn.never rfl (pi_range1 (by rfl) B.range (pa_cons (pe_callB (r := rLenS K) call_len_seq (by rfl) B.len PySem.boot_len (pa_cons (pv 6) pa_nil)) pa_nil)) (pg_name (i := 7) sc_holds.nd rfl (Or.inl rfl)) (pss_cons (ps_if (PW.pt (pw_or (pt_not (pt_val (C8.pe_c c_is_whole hr (by decide) (by rfl) (pa_cons (pe_ix (r := rIxL K) ix_list (pv 6) (pv 7) (fun _ _ => rfl)) (pa_cons pe_int (pa_cons (pe_op op_sub (pe_callB (r := rLenS K) call_len_seq (by rfl) B.len PySem.boot_len (pa_cons (pv 1) pa_nil)) pe_int) pa_nil)))))) (pw_or1 (pt_cmp (pc_din hu (pe_ix (r := rIxL K) ix_list (pv 6) (pv 7) (fun _ _ => rfl)) (pv 5)))))) (pss_one (ps_ret pe_bl)) pss_nil) (C8.pss_cut (ps_if (PW.pt (pw_and (pt_cmpR op_gt (pv 7) pe_int (nomark _)) (pw_and1 (pt_cmpR (r := rIn K true) op_notIn_seq (pe_ix (r := rIxL K) ix_list (pv 6) (pv 7) (fun _ _ => rfl)) (pe_ix (r := rIxL K) ix_list (pv 4) (pe_ix (r := rIxL K) ix_list (pv 6) (pe_op op_sub (pv 7) pe_int) (fun _ _ => rfl)) (fun _ _ => rfl)) (by rfl))))) (pss_one (ps_ret pe_bl)) pss_nil) (pss_one (ps_dput hu (pv 5) (pe_ix (r := rIxL K) ix_list (pv 6) (pv 7) (fun _ _ => rfl)) pe_bl rfl)))))))) (pss_cons (ps_if (pt_cmpR op_lt (pe_callB call_lenD (by rfl) B.len PySem.boot_len (pa_cons (pv 5) pa_nil)) (pe_callB (r := rLenS K) call_len_seq (by rfl) B.len PySem.boot_len (pa_cons (pv 1) pa_nil)) (nomark _)) (pss_one (ps_ret pe_bl)) pss_nil) (pss_cons (ps_for PassesOwn.never rfl (pi_range1 (by rfl) B.range (pa_cons (pe_callB (r := rLenS K) call_len_seq (by rfl) B.len PySem.boot_len (pa_cons (pv 3) pa_nil)) pa_nil)) (pg_name (i := 7) sc_holds.nd rfl (Or.inl rfl)) (C8.pss_cut (ps_if (PW.pt (pw_or (pt_not (pt_val (C8.pe_c c_is_whole hr (by decide) (by rfl) (pa_cons (pe_ix (r := rIxL K) ix_list (pv 3) (pv 7) (fun _ _ => rfl)) (pa_cons pe_int (pa_cons (pe_op op_sub (pe_callB (r := rLenS K) call_len_seq (by rfl) B.len PySem.boot_len (pa_cons (pv 1) pa_nil)) pe_int) pa_nil)))))) (pw_or1 (PW.pt (pw_and (pt_cmpR op_gt (pv 7) pe_int (nomark _)) (pw_and1 (pt_cmpR op_le (pe_ix (r := rIxL K) ix_list (pv 3) (pv 7) (fun _ _ => rfl)) (pe_ix (r := rIxL K) ix_list (pv 3) (pe_op op_sub (pv 7) pe_int) (fun _ _ => rfl)) (nomark _)))))))) (pss_one (ps_ret pe_bl)) pss_nil) (pss_one (ps_for PassesOwn.never rfl (pi_list (pe_slice sl_list (pv 3) po_none (po_some (pv 7)))) (pg_name (i := 8) sc_holds.nd rfl (Or.inl rfl)) (pss_one (ps_if (PW.pt (pw_or (pt_cmpR (r := rIn K false) op_in_seq (pe_ix (r := rIxL K) ix_list (pv 3) (pv 7) (fun _ _ => rfl)) (pe_ix (r := rIxL K) ix_list (pv 4) (pv 8) (fun _ _ => rfl)) (by rfl)) (pw_or1 (pt_cmpR (r := rIn K false) op_in_seq (pv 8) (pe_ix (r := rIxL K) ix_list (pv 4) (pe_ix (r := rIxL K) ix_list (pv 3) (pv 7) (fun _ _ => rfl)) (fun _ _ => rfl)) (by rfl))))) (pss_one (ps_ret pe_bl)) pss_nil)))))) (pss_one (ps_ret pe_bl))))))))), ?_⟩
    obtain ⟨qt, hqt, hTt⟩ := T.lT
    have ll : (qt.map V.ref).length = trips.length := by rw [List.length_map, hTt.1]
    have h101 := T.lenT
    have no : ∀ {H'}, Same H H' → ¬ Good (CA rides trips) trips.length d e → Q (.bl false) H' := fun s h => by
      have := q _ s
      rw [good_f h] at this
      exact this
    refine ⟨_, rfl, _, rfl, a, b, rides, trips, rfl, T, ?_⟩
    refine ⟨_, rfl, _, _, _, _, _, rfl, .ty _, ((px.plain sd)).ty, kit_ty (kd_lst (kdOf d)), _, rfl, ?_⟩
    cases k1 : (kdOf d).isLst with
    | false => exact if_t rfl (if_t rfl (no (Same.refl _) fun h => (good_ll h).1.elim fun ds z => kd_lst_f k1 ds z))
    | true =>
    obtain ⟨ds, rfl⟩ := kd_lst_t sd k1
    refine if_f rfl ⟨_, rfl, _, _, _, _, _, rfl, .ty _, ((py.plain se)).ty, kit_ty (kd_lst (kdOf e)), _, rfl, ?_⟩
    cases k2 : (kdOf e).isLst with
    | false => exact if_t rfl (if_t rfl (no (Same.refl _) fun h => (good_ll h).2.elim fun ds z => kd_lst_f k2 ds z))
    | true =>
    obtain ⟨es, rfl⟩ := kd_lst_t se k2
    obtain ⟨ax, xs, rfl, hX, dX⟩ := px.lst_of
    obtain ⟨ay, ys, rfl, hY, dY⟩ := py.lst_of
    have lx := dp_len dX
    have ly := dp_len dY
    have hd300 := sd.items.1
    have he300 := se.items.1
    refine if_f rfl ⟨_, rfl, ax, _, rfl, .inl hX, _, rfl, ay, _, rfl, .inl hY, rfl, _, rfl, ?_⟩
    cases c0 : decide (V.int (xs.length : Int) = V.int (ys.length : Int)) with
    | false =>
      have hne := of_decide_eq_false c0
      refine if_t rfl (no (Same.refl _) fun h => hne ?_)
      rw [lx, ly, good_len h]
    | true =>
    have hlen : ds.length = es.length := by
      have := V.int.inj (of_decide_eq_true c0)
      omega
    refine if_f rfl ?_
    refine ⟨_, rfl, _, rfl, a, b, rides, trips, rfl, T, fun H1 af qs s1 naf hLL => ?_⟩
    intro dn ndn
    have ndn0 : H dn = none := s1.free ndn
    have alen := afterM_len (roadsM rides trips) trips
    obtain ⟨H2, hH2⟩ : ∃ H2, H2 = upd H1 dn (.dK []) := ⟨_, rfl⟩
    rw [← hH2]
    have s12 : Same H1 H2 := hH2 ▸ same_upd ndn
    have edn2 : H2 dn = some (.dK (dB [])) := by
      rw [hH2, upd_same]
      rfl
    have wh : ∀ {H' : Hp} {v : V} {dd : PyData}, Dp K H' v dd → Sm 8 dd → ∃ k, Plain K H' v k := fun p s => ⟨_, p.plain s⟩
    -- the rows
    refine ⟨_, rfl, ax, rfl, ⟨_, (s1.trans s12).seq hX⟩, for_list (K := K) (a := ax) (xs := xs) (fun i σ H' => Same H1 H' ∧ ∃ (R : List (List Nat)) (l : List (Nat × Nat)) (y6 y7 : Option V), σ = [some (.ref a), some (.ref b), some (.ref ax), some (.ref ay), some (.ref af), some (.ref dn), y6, y7, none] ∧
      H' dn = some (.dK (dB l)) ∧ l.map (·.1) = R.flatten ∧ PreR (CA rides trips) trips.length ds i R) ⟨s12, [], [], none, none, rfl, edn2, rfl, PreR.nil⟩ (fun i σ H' _ ⟨s, _⟩ => (s1.trans s).seq hX) ?_ ?_⟩
    · rintro i v σ H3 hi ⟨s3, R, l, y6, y7, rfl, edn, hl, pre⟩
      obtain ⟨dv, hdv, pv0⟩ := dp_get dX hi
      have sdv := sd.items.2 dv (List.mem_of_getElem? hdv)
      have S3 := s1.trans s3
      have pv3 := pv0.same S3
      refine ⟨_, rfl, _, _, _, _, _, rfl, .ty _, ((pv3.plain sdv)).ty, kit_ty (kd_lst (kdOf dv)), _, rfl, ?_⟩
      cases k3 : (kdOf dv).isLst with
      | false => exact if_t rfl (if_t rfl (no S3 fun h => (good_lst h hdv).elim fun es z => kd_lst_f k3 es z.1))
      | true =>
      obtain ⟨rs, rfl⟩ := kd_lst_t sdv k3
      obtain ⟨ar, zs, rfl, hZ, dZ⟩ := pv0.lst_of
      have lz := dp_len dZ
      have hz300 := sdv.items.1
      refine if_f rfl ⟨_, rfl, Nat.zero_le _, fun e1 n1 => ?_⟩
      have s4 : Same H3 (upd H3 e1 (.lst [])) := same_upd n1
      refine ⟨_, _, pv3.same s4, .lst (sqL_of upd_same) .nil, sdv.sh.ok (by decide), sh_nil0.ok (by decide), ?_⟩
      rw [eqv_nil]
      cases k4 : rs.isEmpty with
      | true =>
        refine ⟨_, rfl, if_t rfl (no (S3.trans s4) fun h => ?_)⟩
        obtain ⟨es', z1, z2⟩ := good_lst h hdv
        cases z1
        exact z2 (List.isEmpty_iff.mp k4)
      | false =>
      refine ⟨_, rfl, if_f rfl ?_⟩
      have hne : rs ≠ [] := fun z => by
        rw [z] at k4
        cases k4
      obtain ⟨H4, hH4⟩ : ∃ H4, H4 = upd H3 e1 (.lst []) := ⟨_, rfl⟩
      rw [← hH4] at s4 ⊢
      clear hH4
      have edn4 := s4 _ _ edn
      have S4 := s3.trans s4
      refine ⟨_, rfl, ar, _, rfl, .inl ((s1.trans S4).seq hZ), (zs.length : Nat), rfl, by omega, by omega, for_range (lo := 0) (n := zs.length) (fun k σ H' => Same H1 H' ∧ ∃ (r : List Nat) (l : List (Nat × Nat)) (y7 : Option V), σ = [some (.ref a), some (.ref b), some (.ref ax), some (.ref ay), some (.ref af), some (.ref dn), some (.ref ar), y7, none] ∧
        H' dn = some (.dK (dB l)) ∧ l.map (·.1) = R.flatten ++ r ∧ PreK (CA rides trips) trips.length rs R k r)
        ⟨S4, [], l, y7, rfl, edn4, by rw [hl, List.append_nil], ⟨rfl, (fun k x y h => by simp at h), by rw [List.append_nil]; exact pre.nd, (fun _ h => nomatch h)⟩⟩ ?_ ?_⟩
      · rintro k σ H5 hk ⟨s5, r, l5, z7, rfl, edn5, hl5, pk⟩
        have S5 := s1.trans s5
        have hZ5 := S5.seq hZ
        have dZ5 := dZ.same S5
        have ek : (0 + (k : Int)) = (k : Nat) := Int.zero_add _
        obtain ⟨v, dv2, hv, hdv2, pv5⟩ := dp_at dZ5 (show k < rs.length by omega)
        have sdv2 := sdv.items.2 dv2 (List.mem_of_getElem? hdv2)
        have av : atI zs (0 + (k : Int)) = some v := by rw [ek]; exact atI_nat hv
        have hrl := pk.len (show k ≤ rs.length by omega)
        have gr : Good (CA rides trips) trips.length (.list ds) (.list es) → _ := fun h => good_row h pre hdv pk hdv2
        -- not is_whole(..)
        refine ⟨_, rfl, _, rfl, ar, _, _, v, rfl, rfl, hZ5, av, _, rfl, b, _, rfl, .inl (S5.seq hqt), _, _, rfl, rfl, v, _, 0, ((qt.map V.ref).length : Int) - 1, rfl, pv5.plain sdv2, _, rfl, ?_⟩
        rw [ll]
        cases cw : isWhole v 0 ((trips.length : Int) - 1) with
        | false =>
          refine if_t rfl (if_t rfl (no S5 fun h => ?_))
          obtain ⟨y, hy, hyn, _⟩ := gr h
          subst hy
          exact whole_f pv5 cw ⟨by omega, by omega⟩
        | true =>
        obtain ⟨z, rfl, rfl, hz0, hz1⟩ := whole_t pv5 cw
        obtain ⟨y, hy⟩ : ∃ y : Nat, z = y := ⟨z.toNat, by omega⟩
        subst hy
        have hyn : y < trips.length := by omega
        -- in done
        refine if_f rfl ⟨_, rfl, _, rfl, ar, _, _, _, rfl, rfl, hZ5, av, _, rfl, dn, _, rfl, get_b edn5 y, _, rfl, ?_⟩
        cases cl : look l5 y with
        | some i0 =>
          refine if_t rfl (no S5 fun h => ?_)
          obtain ⟨y', hy, _, h1, h2, _⟩ := gr h
          have e := natD_inj hy
          subst e
          have hm : y ∈ l5.map (·.1) := by
            cases Classical.em (y ∈ l5.map (·.1)) with
            | inl z => exact z
            | inr z =>
              rw [look_none.mpr z] at cl
              cases cl
          rw [hl5] at hm
          rcases List.mem_append.mp hm with z | z
          · exact h1 z
          · exact h2 z
        | none =>
        have hno : y ∉ R.flatten ++ r := by
          rw [← hl5]
          exact look_none.mp cl
        have hn1 : y ∉ R.flatten := fun z => hno (List.mem_append_left _ z)
        have hn2 : y ∉ r := fun z => hno (List.mem_append_right _ z)
        have hnd5 : (l5.map (·.1)).Nodup := by
          rw [hl5]
          exact pk.nd
        have hlt5 : ∀ x ∈ l5.map (·.1), x < trips.length := fun x hx => by
          rw [hl5] at hx
          rcases List.mem_append.mp hx with z | z
          · exact pre.lt x z
          · exact pk.lt x z
        have hll5 : l5.length ≤ trips.length := by
          have := nodup_len (m := List.range trips.length) hnd5 fun x hx => List.mem_range.mpr (hlt5 x hx)
          rw [List.length_map, List.length_range] at this
          exact this
        -- in time behind the one ahead
        refine if_f rfl ⟨fun σ' H' => H' = H5 ∧ σ' = [some (.ref a), some (.ref b), some (.ref ax), some (.ref ay), some (.ref af), some (.ref dn), some (.ref ar), some (.int (0 + (k : Int))), none] ∧ ∀ z, r[k - 1]? = some z → 0 < k → CA rides trips z y, ?_, ?_⟩
        · refine ⟨_, rfl, _, _, rfl, rfl, _, rfl, ite2 (fun c1 => ?_) (fun c1 => ?_)⟩
          · have hk0 : 0 < k := by
              have := of_decide_eq_true c1
              omega
            obtain ⟨u, hu1⟩ : ∃ u, r[k - 1]? = some u := ⟨_, List.getElem?_eq_getElem (by omega)⟩
            have hut := pk.lt u (List.mem_of_getElem? hu1)
            have hvu : zs[k - 1]? = some (.int u) := by
              obtain ⟨v', d', h1, h2, h3⟩ := dp_at dZ5 (show k - 1 < rs.length by omega)
              have h4 : (rs.take k)[k - 1]? = some (natD u) := by
                rw [pk.eq, List.getElem?_map, hu1]
                rfl
              rw [List.getElem?_take_of_lt (by omega), h2] at h4
              cases h4
              cases h3
              exact h1
            have ek1 : (0 + (k : Int)) - 1 = ((k - 1 : Nat) : Int) := by omega
            have au : atI zs (0 + (k : Int) - 1) = some (.int u) := by rw [ek1]; exact atI_nat hvu
            obtain ⟨q1, lu, atq, hlu, eru, _⟩ := (hLL.same s5).get (show u < (afterM (roadsM rides trips) trips).length by omega)
            refine ⟨_, rfl, _, rfl, ar, _, _, _, rfl, rfl, hZ5, av, _, rfl, _, rfl, _, rfl, _, _, rfl, rfl, ar, _, _, _, rfl, rfl, hZ5, au, af, _, _, _, rfl, rfl, sqL_of (s5 _ _ hLL.at_), atq, q1, _, rfl, .inl (sqL_of eru), rfl, flat_nV lu, ?_⟩
            cases cn : (!inV (.int (y : Int)) (nV lu)) with
            | true =>
              refine ⟨_, rfl, if_t rfl (no S5 fun h => ?_)⟩
              obtain ⟨y', hy, _, _, _, h3⟩ := gr h
              have e := natD_inj hy
              subst e
              have := (notin_adj hlu).mpr (adj_after.mpr (h3 u hu1 hk0))
              rw [cn] at this
              cases this
            | false =>
              refine ⟨_, rfl, if_f rfl ⟨rfl, rfl, fun z hz _ => ?_⟩⟩
              rw [hu1] at hz
              cases hz
              exact adj_after.mp ((notin_adj hlu).mp cn)
          · refine if_f rfl ⟨rfl, rfl, fun z _ h0 => absurd (decide_eq_true (show (0 + (k : Int)) > 0 by omega)) c1⟩
        · rintro σ' H' ⟨rfl, rfl, hs⟩
          refine ⟨_, rfl, _, rfl, _, rfl, ar, _, _, _, rfl, rfl, hZ5, av, dn, _, rfl, put_b edn5 hnd5 (by omega) y 0, same_put s5 ndn, r ++ [y], put l5 y 0, _, rfl, upd_same, ?_, pk.add hdv2 hyn hn1 hn2 hs⟩
          rw [put_new cl, List.map_append, hl5, List.append_assoc]
          rfl
      · rintro σ H5 ⟨s5, r, l5, z7, rfl, edn5, hl5, pk⟩
        rw [lz] at pk
        refine ⟨s5, R ++ [r], l5, _, _, rfl, edn5, ?_, pk.done pre hdv hne⟩
        rw [hl5, List.flatten_append]
        simp
    · rintro σ H3 ⟨s3, R, l, y6, y7, rfl, edn, hl, pre⟩
      rw [lx] at pre
      have S3 := s1.trans s3
      have lR : l.length = R.flatten.length := by rw [← hl, List.length_map]
      refine ⟨_, rfl, dn, _, rfl, edn, _, rfl, b, _, rfl, .inl (S3.seq hqt), _, _, rfl, rfl, _, rfl, ?_⟩
      rw [dOf_len, ll, lR]
      refine ite2 (fun c => ?_) (fun c => ?_)
      · refine no S3 fun h => ?_
        have := good_all h pre
        have := of_decide_eq_true c
        omega
      have hall : trips.length ≤ R.flatten.length := by
        have := of_decide_eq_false (Bool.eq_false_iff.mpr c)
        omega
      -- numbers apart
      refine ⟨_, rfl, ay, _, rfl, .inl (S3.seq hY), (ys.length : Nat), rfl, by omega, by omega, for_range (lo := 0) (n := ys.length) (fun k σ H' => Same H1 H' ∧ ∃ (P : List Nat) (y6 y7 y8 : Option V), σ = [some (.ref a), some (.ref b), some (.ref ax), some (.ref ay), some (.ref af), some (.ref dn), y6, y7, y8] ∧ PreP (CA rides trips) trips.length es k P)
        ⟨s3, [], _, _, _, rfl, PreP.nil⟩ ?_ ?_⟩
      · rintro k σ H4 hk ⟨s4, P, y6, y7, y8, rfl, pp⟩
        have S4 := s1.trans s4
        have hY4 := S4.seq hY
        have dY4 := dY.same S4
        have ek : (0 + (k : Int)) = (k : Nat) := Int.zero_add _
        obtain ⟨v, dv2, hv, hdv2, pv5⟩ := dp_at dY4 (show k < es.length by omega)
        have sdv2 := se.items.2 dv2 (List.mem_of_getElem? hdv2)
        have av : atI ys (0 + (k : Int)) = some v := by rw [ek]; exact atI_nat hv
        have hPl := pp.len (show k ≤ es.length by omega)
        refine ⟨fun σ' H' => H' = H4 ∧ σ' = [some (.ref a), some (.ref b), some (.ref ax), some (.ref ay), some (.ref af), some (.ref dn), y6, some (.int (0 + (k : Int))), y8] ∧ ∃ y : Nat, v = .int y ∧ dv2 = natD y ∧ y < trips.length ∧ ∀ x ∈ P, x < y, ?_, ?_⟩
        · refine ⟨_, rfl, _, rfl, ay, _, _, v, rfl, rfl, hY4, av, _, rfl, b, _, rfl, .inl (S4.seq hqt), _, _, rfl, rfl, v, _, 0, ((qt.map V.ref).length : Int) - 1, rfl, pv5.plain sdv2, _, rfl, ?_⟩
          rw [ll]
          cases cw : isWhole v 0 ((trips.length : Int) - 1) with
          | false =>
            refine if_t rfl (if_t rfl (no S4 fun h => ?_))
            obtain ⟨y, hy, hyn, _⟩ := good_num h pp hdv2
            subst hy
            exact whole_f pv5 cw ⟨by omega, by omega⟩
          | true =>
          obtain ⟨z, rfl, rfl, hz0, hz1⟩ := whole_t pv5 cw
          obtain ⟨y, hy⟩ : ∃ y : Nat, z = y := ⟨z.toNat, by omega⟩
          subst hy
          have hyn : y < trips.length := by omega
          refine if_f rfl ⟨_, rfl, _, _, rfl, rfl, _, rfl, ite2 (fun c1 => ?_) (fun c1 => ?_)⟩
          · have hk0 : 0 < k := by
              have := of_decide_eq_true c1
              omega
            obtain ⟨u, hu1⟩ : ∃ u, P[k - 1]? = some u := ⟨_, List.getElem?_eq_getElem (by omega)⟩
            have hvu : ys[k - 1]? = some (.int u) := by
              obtain ⟨v', d', h1, h2, h3⟩ := dp_at dY4 (show k - 1 < es.length by omega)
              have h4 : (es.take k)[k - 1]? = some (natD u) := by
                rw [pp.eq, List.getElem?_map, hu1]
                rfl
              rw [List.getElem?_take_of_lt (by omega), h2] at h4
              cases h4
              cases h3
              exact h1
            have ek1 : (0 + (k : Int)) - 1 = ((k - 1 : Nat) : Int) := by omega
            have au : atI ys (0 + (k : Int) - 1) = some (.int u) := by rw [ek1]; exact atI_nat hvu
            refine ⟨_, rfl, _, rfl, ay, _, _, _, rfl, rfl, hY4, av, _, rfl, _, rfl, _, _, rfl, rfl, ay, _, _, _, rfl, rfl, hY4, au, _, _, rfl, rfl, _, rfl, ite2 (fun c2 => ?_) (fun c2 => ?_)⟩
            · refine no S4 fun h => ?_
              obtain ⟨y', hy, _, h1, _⟩ := good_num h pp hdv2
              have e := natD_inj hy
              subst e
              have h2 := h1 u (List.mem_of_getElem? hu1)
              have h3 := of_decide_eq_true c2
              omega
            · have h3 := of_decide_eq_false (Bool.eq_false_iff.mpr c2)
              exact ⟨rfl, rfl, y, rfl, rfl, hyn, pp.last (by omega) hu1 (by omega)⟩
          · refine if_f rfl ⟨rfl, rfl, y, rfl, rfl, hyn, fun x hx => ?_⟩
            have : P = [] := List.length_eq_zero_iff.mp (by
              have := of_decide_eq_false (Bool.eq_false_iff.mpr c1)
              omega)
            rw [this] at hx
            cases hx
        · rintro σ' H' ⟨rfl, rfl, y, rfl, rfl, hyn, hup⟩
          obtain ⟨qy, ly2, atqy, hly, ery, _⟩ := (hLL.same s4).get (show y < (afterM (roadsM rides trips) trips).length by omega)
          refine ⟨_, rfl, _, rfl, 0 + (k : Int), rfl, ay, _, rfl, hY4, fun c nc => ?_⟩
          have ect : cutV ys none (some (0 + (k : Int))) = ys.take k := by
            rw [ek]
            exact cut_take _ k
          rw [ect]
          have s5 : Same H' (upd H' c (.lst (ys.take k))) := same_upd nc
          have eat : ∀ {j : Nat} {v : V}, (ys.take k)[j]? = some v → ∃ u : Nat, v = .int u ∧ P[j]? = some u := fun {j v} h => by
            have hj : j < k := by
              have := (List.getElem?_eq_some_iff.mp h).1
              rw [List.length_take] at this
              omega
            rw [List.getElem?_take_of_lt hj] at h
            obtain ⟨d', h2, h3⟩ := dp_get dY4 h
            obtain ⟨u, hu1⟩ : ∃ u, P[j]? = some u := ⟨_, List.getElem?_eq_getElem (by omega)⟩
            have h4 : (es.take k)[j]? = some (natD u) := by
              rw [pp.eq, List.getElem?_map, hu1]
              rfl
            rw [List.getElem?_take_of_lt hj, h2] at h4
            cases h4
            cases h3
            exact ⟨u, rfl, hu1⟩
          refine ⟨c, rfl, ⟨_, sqL_of upd_same⟩, for_list (K := K) (a := c) (xs := ys.take k) (fun j σ H2 => H2 = upd H' c (.lst (ys.take k)) ∧ (∃ y8, σ = [some (.ref a), some (.ref b), some (.ref ax), some (.ref ay), some (.ref af), some (.ref dn), y6, some (.int (0 + (k : Int))), y8]) ∧ ∀ z ∈ P.take j, ¬ CA rides trips z y ∧ ¬ CA rides trips y z)
            ⟨rfl, ⟨_, rfl⟩, (fun _ h => nomatch h)⟩ (fun j σ H2 _ ⟨e, _⟩ => e ▸ sqL_of upd_same) ?_ ?_⟩
          · rintro j v σ H2 hj ⟨rfl, ⟨z8, rfl⟩, hno⟩
            obtain ⟨u, rfl, hu1⟩ := eat hj
            have hum := List.mem_of_getElem? hu1
            have hun := pp.lt u hum
            obtain ⟨qu, lu, atqu, hlu, eru, _⟩ := (hLL.same (s4.trans s5)).get (show u < (afterM (roadsM rides trips) trips).length by omega)
            have hLL5 := hLL.same (s4.trans s5)
            refine ⟨_, rfl, _, rfl, ay, _, _, _, rfl, rfl, s5.seq hY4, av, _, rfl, _, rfl, af, _, _, _, rfl, rfl, sqL_of hLL5.at_, atqu, qu, _, rfl, .inl (sqL_of eru), rfl, flat_nV lu, ?_⟩
            have bad : ∀ {H2}, Same H H2 → (CA rides trips u y ∨ CA rides trips y u) → Q (.bl false) H2 := fun s h => no s fun hg => by
              obtain ⟨y', hy, _, _, h2⟩ := good_num hg pp hdv2
              have e := natD_inj hy
              subst e
              rcases h with h | h
              · exact (h2 u hum).1 h
              · exact (h2 u hum).2 h
            have S5 := S4.trans s5
            cases c1 : inV (.int (y : Int)) (nV lu) with
            | true => exact ⟨_, rfl, if_t rfl (if_t rfl (bad S5 (.inl (adj_after.mp ((in_adj hlu).mp c1)))))⟩
            | false =>
            refine ⟨_, rfl, if_f rfl ?_⟩
            refine ⟨_, rfl, _, rfl, _, rfl, _, rfl, ay, _, _, _, rfl, rfl, s5.seq hY4, av, af, _, _, _, rfl, rfl, sqL_of hLL5.at_, atqy, qy, _, rfl, .inl (sqL_of (s5 _ _ ery)), rfl, flat_nV ly2, ?_⟩
            cases c2 : inV (.int (u : Int)) (nV ly2) with
            | true => exact ⟨_, rfl, if_t rfl (bad S5 (.inr (adj_after.mp ((in_adj hly).mp c2))))⟩
            | false =>
            refine ⟨_, rfl, if_f rfl ⟨rfl, ⟨_, rfl⟩, fun z hz => ?_⟩⟩
            rw [List.take_add_one, hu1] at hz
            rcases List.mem_append.mp hz with hz | hz
            · exact hno z hz
            · rw [List.mem_singleton.mp hz]
              refine ⟨fun h => ?_, fun h => ?_⟩
              · have := (in_adj hlu).mpr (adj_after.mpr h)
                rw [c1] at this
                cases this
              · have := (in_adj hly).mpr (adj_after.mpr h)
                rw [c2] at this
                cases this
          · rintro σ H2 ⟨rfl, ⟨z8, rfl⟩, hno⟩
            rw [List.take_of_length_le (by rw [List.length_take]; omega)] at hno
            exact ⟨s4.trans s5, P ++ [y], _, _, _, rfl, pp.add hdv2 hyn hup hno⟩
      · rintro σ H4 ⟨s4, P, y6, y7, y8, rfl, pp⟩
        rw [ly] at pp
        have := q _ (s1.trans s4)
        rw [good_t (good_of pre pp hlen hall)] at this
        exact this
end
end Fb
/-! _law_asked: one of twelve asks, whatever comes of it (law_k06). -/
namespace Fb
open PySem PySem.Spec PyProof.Rows L2
def spDayLate (K : PySem.W.Frag) (C : Addr) : Sp := fun vs H _ E => ∃ (a b rw : Addr) (rides : List Ride) (trips : List Trip) (row : List Nat) (ts : List Trip), vs = [.ref a, .ref b, .ref rw] ∧ Told2 K H a b rides trips ∧ SqL K H rw (nV row) ∧ row.length ≤ 100 ∧ RowT trips row ts ∧
  (∃ k t u, ts[k]? = some t ∧ ts[k + 1]? = some u ∧ canM (roadsM rides trips) t u = false) ∧ ∀ H', Same H H' → E (.ref C) none H'
/-- one rule or another, as the reading has it -/
theorem pe_alt {X : Cx} {e : Expr} {t u : TE} (h1 : PE X e t) (h2 : PE X e u) : PE X e (fun σ H Q => t σ H Q ∨ u σ H Q) := ⟨fun pins s σ H Q I h => h.elim (h1.run pins s σ H Q I) (h2.run pins s σ H Q I)⟩
/-- a def of the text that lets errors out -/
structure CalX (P : Program) (w : World) (K : PySem.W.Frag) (mg : Str → Option Value) (base : Heap) (k : Nat) (x : Str) (sp : Sp) : Prop where
  ex : ∃ (f : Addr) (fd : FuncData) (ps : List Str), FnOk P w K mg base (L2N.CX P w) k f fd ps sp ∧ mg x = some (.ref f) ∧ PySem.W.keepIn K (.ref f) = true ∧ Binds K fd ps []
theorem pe_cX {X : Cx} {W : WX} {x : Str} {j k : Nat} {sp : Sp} {q pos : Pos} {e : Expr} {es : List Expr} {t : TA} (c : CalX X.prog X.w X.K X.mg X.base k x sp) (hr : Room j X.A) (hk : k ≤ j) (tk : L2N.Takes X W) (hg : Gl X x) (ha : PA X (e :: es) t)
    (hdb : (x == ("__debug__" : Str)) = false := by decide)
    (he : starEach (e :: es) X.env = (false, eval e X.env) :: starEach es X.env := by rfl)
    (hpl : (backTo pos (starEach es X.env)).any (·.1) = false := by rfl) :
    PE X (.Call (.Name x q) (e :: es) [] pos) (tCallS sp (WE W) t) := by
  obtain ⟨f, fd, ps, F, hm, kp, b⟩ := c.ex
  exact pe_callS F (hr.mono hk) hg hm kp b (fun σ => L2N.passAt tk σ) ha hdb he hpl
theorem Verd.same {K : PySem.W.Frag} {g : List V → Bool} {H H' : Hp} {xs : List V} {bs : List Bool} (v : Verd K g H xs bs) (s : Same H H') : Verd K g H' xs bs := ⟨v.1, fun i x b h1 h2 => by
  rcases v.2 i x b h1 h2 with ⟨a, items, e, h, p, f⟩ | ⟨k, p, h, f⟩
  · exact .inl ⟨a, items, e, same_seqT s h, fun y hy => (p y hy).imp fun _ z => z.same s, f⟩
  · exact .inr ⟨k, p.same s, h, f⟩⟩
/-- some ride is none, or some trip -/
def BadA (K : PySem.W.Frag) (H : Hp) (r t : Addr) (ER ET : Prop) : Prop := ∃ (xs ys : List V) (bs cs : List Bool), SqL K H r xs ∧ SqL K H t ys ∧ Verd K rideB H xs bs ∧ Verd K tripB H ys cs ∧ ((false ∈ bs ∧ ER) ∨ (false ∉ bs ∧ false ∈ cs ∧ ET))
theorem BadA.bad {K : PySem.W.Frag} {H H' : Hp} {r t CR CT : Addr} {E : XK} (b : BadA K H r t (∀ H', E (.ref CR) none H') (∀ H', E (.ref CT) none H')) (s : Same H H') : Bad K CR CT H' r t E := by
  obtain ⟨xs, ys, bs, cs, h1, h2, v1, v2, h⟩ := b
  exact ⟨xs, ys, bs, cs, s.seq h1, s.seq h2, v1.same s, v2.same s, h.imp (fun ⟨a, b⟩ => ⟨a, b _⟩) fun ⟨a, b, c⟩ => ⟨a, b, c _⟩⟩
def wPl (w : Int) : Prop := w = 1 ∨ w = 2 ∨ w = 3 ∨ w = 8
def wNm (w : Int) : Prop := w = 4 ∨ w = 5 ∨ w = 6 ∨ w = 9
def spAsked (K : PySem.W.Frag) (CR CT CP CN CL : Addr) : Sp := fun vs H Q E => ∃ (w : Int) (r t : Addr) (x y : V) (kx : Kd) (d : PyData), vs = [.int w, .ref r, .ref t, x, y] ∧ Plain K H x kx ∧ Dp K H y d ∧ Sm 1 d ∧
  (BadA K H r t (∀ H', E (.ref CR) none H') (∀ H', E (.ref CT) none H') ∨ ∃ rides trips, Told2 K H r t rides trips ∧
    ((wPl w ∧ isPlace x = false ∧ ∀ H', E (.ref CP) none H') ∨ (wNm w ∧ isWhole y 0 ((trips.length : Int) - 1) = false ∧ ∀ H', E (.ref CN) none H') ∨
      ((wPl w → ∃ z, x = .str z ∧ okPlace z) ∧ (wNm w → y = .int 0 ∧ 0 < trips.length) ∧ (∀ v H', Q v H') ∧ (w = 6 → ∀ H', E (.ref CL) none H'))))
theorem okPlace_a : okPlace "a" := ⟨by decide +kernel, by decide +kernel, by decide +kernel⟩
section
variable {P : Program} {w : World} {K : PySem.W.Frag} {mg : Str → Option Value} {base : Heap}
theorem calX_of {x : Str} {st : Stmt} {f : Addr} {fd : FuncData} {ps : List Str} {k : Nat} {sp : Sp} (F : Fn K x st f fd) (g : mg x = some (.ref f)) (b : Binds K fd ps []) (G : FnOk P w K mg base (L2N.CX P w) k f fd ps sp) : CalX P w K mg base k x sp := ⟨f, fd, ps, G, g, F.kp, b⟩
theorem ok_day_late {f : Addr} {fd : FuncData} {C : Addr} (F : Fn K "day" s_day f fd) (B : Bi mg) (c_roads : C8.Cal P w K mg base 4 "roads" (spRoads K) []) (c_need_number : C8.Cal P w K mg base 2 "need_number" (spNeedN K) []) (c_can : C8.Cal P w K mg base 6 "can" (spCan K) [])
    (n_NotInTime : ExN K mg "NotInTime" C) : FnOk P w K mg base (L2N.CX P w) 7 f fd ["rides", "trips", "row"] (spDayLate K C) := by
  refine F.ok sc_day (fun vs H Q E h => ?_) (fun cdv A outer s H vs Q E hr h => ?_)
  · obtain ⟨a, b, rw, rides, trips, row, ts, rfl, _⟩ := h
    rfl
  · obtain ⟨a, b, rw_, rides, trips, row, ts, rfl, T, hrow, hlen, ⟨htl, hts⟩, ⟨kl, tl, ul, htl1, hul1, hlate⟩, q⟩ := h
    refine ⟨_, (pss_cons (ps_set (i := 3) sc_day.nd rfl (Or.inl rfl) (C8.pe_c c_roads hr (by decide) (by rfl) (pa_cons (pv 0) (pa_cons (pv 1) pa_nil)))) (pss_cons (ps_for (passes_of rfl) rfl (pi_list (pv 2)) (pg_name (i := 4) sc_day.nd rfl (Or.inl rfl)) (pss_one (ps_expr (C8.pe_c c_need_number hr (by decide) (by rfl) (pa_cons (pv 1) (pa_cons (pv 4) pa_nil)))))) (pss_cons (ps_for (passes_of rfl) rfl (pi_range2 (by rfl) B.range (pa_cons pe_int (pa_cons (pe_callB (r := rLenS K) call_len_seq (by rfl) B.len PySem.boot_len (pa_cons (pv 2) pa_nil)) pa_nil))) (pg_name (i := 5) sc_day.nd rfl (Or.inl rfl)) (pss_one (ps_if (pt_not (pt_val (C8.pe_c c_can hr (by decide) (by rfl) (pa_cons (pv 0) (pa_cons (pv 1) (pa_cons (pe_ix (r := rIxL K) ix_list (pv 2) (pe_op op_sub (pv 5) pe_int) (fun _ _ => rfl)) (pa_cons (pe_ix (r := rIxL K) ix_list (pv 2) (pv 5) (fun _ _ => rfl)) pa_nil))))))) (pss_one (L2N.ps_raise rfl (L2N.takes_of rfl rfl rfl rfl) (L2N.pmk_own PySem.F.excBase_ValueError n_NotInTime.q n_NotInTime.g n_NotInTime.k (raises_own n_NotInTime.e n_NotInTime.t) rfl))) pss_nil))) pss_never))), ?_⟩
    obtain ⟨qt, hqt, hTt⟩ := T.lT
    have h101 := T.lenT
    have lrow : (nV row).length = row.length := by rw [List.length_map]
    have ll : (qt.map V.ref).length = trips.length := by rw [List.length_map, hTt.1]
    refine ⟨_, rfl, _, rfl, a, b, rides, trips, rfl, T, fun H1 ro qo s1 nro ero tro => ?_⟩
    refine ⟨_, rfl, rw_, rfl, ⟨_, s1.seq hrow⟩, for_list (K := K) (a := rw_) (xs := nV row) (fun i σ H' => H' = H1 ∧ ∃ y4, σ = [some (.ref a), some (.ref b), some (.ref rw_), some (.ref ro), y4, none, none, none, none]) ⟨rfl, none, rfl⟩ (fun i σ H' _ ⟨e, _⟩ => e ▸ s1.seq hrow) ?_ ?_⟩
    · rintro i v σ H2 hi ⟨rfl, y4, rfl⟩
      obtain ⟨n, rfl, hn⟩ := nV_get hi
      obtain ⟨t, ht, _⟩ := hts i n hn
      have hnl := (List.getElem?_eq_some_iff.mp ht).1
      exact ⟨_, rfl, _, rfl, b, _, n, rfl, s1.seq hqt, by omega, by rw [ll]; omega, rfl, _, rfl⟩
    rintro σ H2 ⟨rfl, y4, rfl⟩
    refine ⟨_, rfl, rw_, _, rfl, .inl (s1.seq hrow), 1, ((nV row).length : Nat), rfl, ⟨by decide, by decide, by omega, by omega⟩, for_range (lo := 1) (n := (((nV row).length : Int) - 1).toNat) (fun i σ H' => Same H2 H' ∧ (∃ y5, σ = [some (.ref a), some (.ref b), some (.ref rw_), some (.ref ro), y4, y5, none, none, none]) ∧ ∀ k t u, k < i → ts[k]? = some t → ts[k + 1]? = some u → canM (roadsM rides trips) t u = true) ⟨Same.refl _, ⟨none, rfl⟩, fun k t u h => absurd h (Nat.not_lt_zero k)⟩ ?_ ?_⟩
    · rintro i σ H3 hi ⟨s3, ⟨y5, rfl⟩, hok⟩
      have S3 := s1.trans s3
      obtain ⟨u, hu⟩ : ∃ u, row[i]? = some u := ⟨_, List.getElem?_eq_getElem (by omega)⟩
      obtain ⟨v, hv⟩ : ∃ v, row[i + 1]? = some v := ⟨_, List.getElem?_eq_getElem (by omega)⟩
      obtain ⟨tu, htu, htu2⟩ := hts i u hu
      obtain ⟨tv, htv, htv2⟩ := hts (i + 1) v hv
      have ek1 : (1 + (i : Int)) - 1 = (i : Nat) := by omega
      have ek2 : (1 + (i : Int)) = ((i + 1 : Nat) : Int) := by omega
      have au : atI (nV row) (1 + (i : Int) - 1) = some (.int u) := by rw [ek1]; exact nV_at hu
      have av : atI (nV row) (1 + (i : Int)) = some (.int v) := by rw [ek2]; exact nV_at hv
      refine ⟨_, rfl, _, rfl, _, rfl, _, rfl, _, _, rfl, rfl, rw_, _, _, _, rfl, rfl, S3.seq hrow, au, _, rfl, _, rfl, rw_, _, _, _, rfl, rfl, S3.seq hrow, av, a, b, rides, trips, u, v, tu, tv, rfl, T.same S3, htu, htv, fun H4 s4 => ⟨_, rfl, ?_⟩⟩
      cases hc : canM (roadsM rides trips) tu tv with
      | true =>
        refine if_f rfl ⟨s3.trans s4, ⟨_, rfl⟩, fun k t' u' hk h1 h2 => ?_⟩
        by_cases e : k = i
        · subst e
          rw [htu2] at h1
          rw [htv2] at h2
          cases h1
          cases h2
          exact hc
        · exact hok k t' u' (by omega) h1 h2
      | false => exact if_t rfl (q H4 (S3.trans s4))
    rintro σ H3 ⟨s3, _, hok⟩
    have hk := (List.getElem?_eq_some_iff.mp hul1).1
    have := hok kl tl ul (by omega) htl1 hul1
    rw [hlate] at this
    cases this
end
end Fb
/-! _law_asked (printed by genX5.py). -/
namespace Fb
open PySem PySem.Spec PyProof.Rows L2
theorem row_plain {K : PySem.W.Frag} {H : Hp} {y : V} {k : Kd} (p : Plain K H y k) : ∀ x ∈ [V.int 0, .int 0, y], ∃ k, Plain K H x k := fun x hx => by
  rcases List.mem_cons.mp hx with rfl | hx
  · exact ⟨_, .int 0⟩
  rcases List.mem_cons.mp hx with rfl | hx
  · exact ⟨_, .int 0⟩
  rw [List.mem_singleton.mp hx]
  exact ⟨_, p⟩
theorem row_same {trips : List Trip} {t : Trip} (h : trips[0]? = some t) : RowT trips [0, 0, 0] [t, t, t] := ⟨rfl, fun k n hk => by
  match k, hk with
  | 0, e => cases e; exact ⟨t, h, rfl⟩
  | 1, e => cases e; exact ⟨t, h, rfl⟩
  | 2, e => cases e; exact ⟨t, h, rfl⟩
  | k + 3, e => simp at e⟩
theorem sm_up {n : Nat} {d : PyData} (h : Sm n d) : Sm (n + 1) d := by
  induction h with
  | non n => exact .non _
  | bl n b => exact .bl _ b
  | int n i => exact .int _ i
  | str n z h h2 => exact .str _ z h h2
  | lst h _ ih => exact .lst h ih
  | tup h _ ih => exact .tup h ih
theorem sm_row {d : PyData} (h : Sm 1 d) : Sm 8 (.list [.list [d]]) := .lst (by decide : 1 ≤ 300) fun x hx => by
  rw [List.mem_singleton.mp hx]
  refine .lst (by decide : 1 ≤ 300) fun y hy => ?_
  rw [List.mem_singleton.mp hy]
  exact sm_up (sm_up (sm_up (sm_up (sm_up h))))
theorem sm_zero : Sm 8 (.list [.int 0]) := .lst (by decide : 1 ≤ 300) fun x hx => by
  rw [List.mem_singleton.mp hx]
  exact .int _ 0
section
variable {P : Program} {w : World} {K : PySem.W.Frag} {mg : Str → Option Value} {base : Heap}
theorem ok_law_asked {f : Addr} {fd : FuncData} {CR CT CP CN CL : Addr} (F : Fn K "_law_asked" s_law_asked f fd)
    (c_roads : C8.Cal P w K mg base 4 "roads" (spRoads K) []) (c_spread : C8.Cal P w K mg base 5 "spread" (spSpread K) []) (c_way : C8.Cal P w K mg base 6 "way" (spWay K) []) (c_can : C8.Cal P w K mg base 6 "can" (spCan K) []) (c_day : C8.Cal P w K mg base 7 "day" (spDay K) []) (c_plan : C8.Cal P w K mg base 7 "plan" (spPlan K) []) (c_holds : C8.Cal P w K mg base 7 "holds" (spHolds K) [])
    (c_roadsB : CalX P w K mg base 4 "roads" (spBad K CR CT 0)) (c_spreadB : CalX P w K mg base 5 "spread" (spBad K CR CT 1)) (c_wayB : CalX P w K mg base 5 "way" (spBad K CR CT 2)) (c_canB : CalX P w K mg base 4 "can" (spBad K CR CT 2)) (c_dayB : CalX P w K mg base 5 "day" (spBad K CR CT 1)) (c_planB : CalX P w K mg base 5 "plan" (spBad K CR CT 0)) (c_holdsB : CalX P w K mg base 4 "holds" (spBad K CR CT 2))
    (c_spreadX : CalX P w K mg base 5 "spread" (spSpreadX K CP)) (c_wayX : CalX P w K mg base 5 "way" (spWayX K CP)) (c_canX : CalX P w K mg base 5 "can" (spCanX K CN)) (c_dayN : CalX P w K mg base 5 "day" (spDayNX K CN)) (c_dayL : CalX P w K mg base 7 "day" (spDayLate K CL)) :
    FnOk P w K mg base (L2N.CX P w) 8 f fd ["_law_way_by", "_law_rides", "_law_trips", "_law_place", "_law_number"] (spAsked K CR CT CP CN CL) := by
  refine F.ok sc_law_asked (fun vs H Q E h => ?_) (fun cdv A outer s H vs Q E hr h => ?_)
  · obtain ⟨w, r, t, x, y, kx, d, rfl, _⟩ := h
    rfl
  · obtain ⟨w, r, t, x, y, kx, d, rfl, px, py, sy, M⟩ := h
    refine ⟨_, (pss_cons (ps_if (pt_cmpR op_eq (pv 0) pe_int (nomark _)) (pss_one (ps_ret (pe_alt (by exact (pe_cX c_roadsB hr (by decide) (L2N.takes_of rfl rfl rfl rfl) (by rfl) (by exact (pa_cons (pv 1) (pa_cons (pv 2) pa_nil))))) (C8.pe_c c_roads hr (by decide) (by rfl) (pa_cons (pv 1) (pa_cons (pv 2) pa_nil)))))) pss_nil) (pss_cons (ps_if (pt_cmpR op_eq (pv 0) pe_int (nomark _)) (pss_one (ps_ret (pe_alt (by exact (pe_cX c_spreadB hr (by decide) (L2N.takes_of rfl rfl rfl rfl) (by rfl) (by exact (pa_cons (pv 1) (pa_cons (pv 2) (pa_cons (pv 3) pa_nil)))))) (pe_alt (by exact (pe_cX c_spreadX hr (by decide) (L2N.takes_of rfl rfl rfl rfl) (by rfl) (by exact (pa_cons (pv 1) (pa_cons (pv 2) (pa_cons (pv 3) pa_nil)))))) (C8.pe_c c_spread hr (by decide) (by rfl) (pa_cons (pv 1) (pa_cons (pv 2) (pa_cons (pv 3) pa_nil)))))))) pss_nil) (pss_cons (ps_if (pt_cmpR op_eq (pv 0) pe_int (nomark _)) (pss_one (ps_ret (pe_alt (by exact (pe_cX c_wayB hr (by decide) (L2N.takes_of rfl rfl rfl rfl) (by rfl) (by exact (pa_cons (pv 1) (pa_cons (pv 2) (pa_cons pe_str (pa_cons (pv 3) pa_nil))))))) (pe_alt (by exact (pe_cX c_wayX hr (by decide) (L2N.takes_of rfl rfl rfl rfl) (by rfl) (by exact (pa_cons (pv 1) (pa_cons (pv 2) (pa_cons pe_str (pa_cons (pv 3) pa_nil))))))) (C8.pe_c c_way hr (by decide) (by rfl) (pa_cons (pv 1) (pa_cons (pv 2) (pa_cons pe_str (pa_cons (pv 3) pa_nil))))))))) pss_nil) (pss_cons (ps_if (pt_cmpR op_eq (pv 0) pe_int (nomark _)) (pss_one (ps_ret (pe_alt (by exact (pe_cX c_wayB hr (by decide) (L2N.takes_of rfl rfl rfl rfl) (by rfl) (by exact (pa_cons (pv 1) (pa_cons (pv 2) (pa_cons (pv 3) (pa_cons pe_str pa_nil))))))) (pe_alt (by exact (pe_cX c_wayX hr (by decide) (L2N.takes_of rfl rfl rfl rfl) (by rfl) (by exact (pa_cons (pv 1) (pa_cons (pv 2) (pa_cons (pv 3) (pa_cons pe_str pa_nil))))))) (C8.pe_c c_way hr (by decide) (by rfl) (pa_cons (pv 1) (pa_cons (pv 2) (pa_cons (pv 3) (pa_cons pe_str pa_nil))))))))) pss_nil) (pss_cons (ps_if (pt_cmpR op_eq (pv 0) pe_int (nomark _)) (pss_one (ps_ret (pe_alt (by exact (pe_cX c_canB hr (by decide) (L2N.takes_of rfl rfl rfl rfl) (by rfl) (by exact (pa_cons (pv 1) (pa_cons (pv 2) (pa_cons pe_int (pa_cons (pv 4) pa_nil))))))) (pe_alt (by exact (pe_cX c_canX hr (by decide) (L2N.takes_of rfl rfl rfl rfl) (by rfl) (by exact (pa_cons (pv 1) (pa_cons (pv 2) (pa_cons pe_int (pa_cons (pv 4) pa_nil))))))) (C8.pe_c c_can hr (by decide) (by rfl) (pa_cons (pv 1) (pa_cons (pv 2) (pa_cons pe_int (pa_cons (pv 4) pa_nil))))))))) pss_nil) (pss_cons (ps_if (pt_cmpR op_eq (pv 0) pe_int (nomark _)) (pss_one (ps_ret (pe_alt (by exact (pe_cX c_canB hr (by decide) (L2N.takes_of rfl rfl rfl rfl) (by rfl) (by exact (pa_cons (pv 1) (pa_cons (pv 2) (pa_cons (pv 4) (pa_cons pe_int pa_nil))))))) (pe_alt (by exact (pe_cX c_canX hr (by decide) (L2N.takes_of rfl rfl rfl rfl) (by rfl) (by exact (pa_cons (pv 1) (pa_cons (pv 2) (pa_cons (pv 4) (pa_cons pe_int pa_nil))))))) (C8.pe_c c_can hr (by decide) (by rfl) (pa_cons (pv 1) (pa_cons (pv 2) (pa_cons (pv 4) (pa_cons pe_int pa_nil))))))))) pss_nil) (pss_cons (ps_if (pt_cmpR op_eq (pv 0) pe_int (nomark _)) (pss_one (ps_ret (pe_alt (by exact (pe_cX c_dayB hr (by decide) (L2N.takes_of rfl rfl rfl rfl) (by rfl) (by exact (pa_cons (pv 1) (pa_cons (pv 2) (pa_cons (pe_lst (pa_cons pe_int (pa_cons pe_int (pa_cons (pv 4) pa_nil)))) pa_nil)))))) (pe_alt (by exact (pe_cX c_dayN hr (by decide) (L2N.takes_of rfl rfl rfl rfl) (by rfl) (by exact (pa_cons (pv 1) (pa_cons (pv 2) (pa_cons (pe_lst (pa_cons pe_int (pa_cons pe_int (pa_cons (pv 4) pa_nil)))) pa_nil)))))) (by exact (pe_cX c_dayL hr (by decide) (L2N.takes_of rfl rfl rfl rfl) (by rfl) (by exact (pa_cons (pv 1) (pa_cons (pv 2) (pa_cons (pe_lst (pa_cons pe_int (pa_cons pe_int (pa_cons (pv 4) pa_nil)))) pa_nil)))))))))) pss_nil) (pss_cons (ps_if (pt_cmpR op_eq (pv 0) pe_int (nomark _)) (pss_one (ps_ret (pe_alt (by exact (pe_cX c_planB hr (by decide) (L2N.takes_of rfl rfl rfl rfl) (by rfl) (by exact (pa_cons (pv 1) (pa_cons (pv 2) pa_nil))))) (C8.pe_c c_plan hr (by decide) (by rfl) (pa_cons (pv 1) (pa_cons (pv 2) pa_nil)))))) pss_nil) (pss_cons (ps_if (pt_cmpR op_eq (pv 0) pe_int (nomark _)) (pss_one (ps_ret (pe_alt (by exact (pe_cX c_wayB hr (by decide) (L2N.takes_of rfl rfl rfl rfl) (by rfl) (by exact (pa_cons (pv 1) (pa_cons (pv 2) (pa_cons (pv 3) (pa_cons (pv 3) pa_nil))))))) (pe_alt (by exact (pe_cX c_wayX hr (by decide) (L2N.takes_of rfl rfl rfl rfl) (by rfl) (by exact (pa_cons (pv 1) (pa_cons (pv 2) (pa_cons (pv 3) (pa_cons (pv 3) pa_nil))))))) (C8.pe_c c_way hr (by decide) (by rfl) (pa_cons (pv 1) (pa_cons (pv 2) (pa_cons (pv 3) (pa_cons (pv 3) pa_nil))))))))) pss_nil) (pss_cons (ps_if (pt_cmpR op_eq (pv 0) pe_int (nomark _)) (pss_one (ps_ret (pe_alt (by exact (pe_cX c_canB hr (by decide) (L2N.takes_of rfl rfl rfl rfl) (by rfl) (by exact (pa_cons (pv 1) (pa_cons (pv 2) (pa_cons (pv 4) (pa_cons (pv 4) pa_nil))))))) (pe_alt (by exact (pe_cX c_canX hr (by decide) (L2N.takes_of rfl rfl rfl rfl) (by rfl) (by exact (pa_cons (pv 1) (pa_cons (pv 2) (pa_cons (pv 4) (pa_cons (pv 4) pa_nil))))))) (C8.pe_c c_can hr (by decide) (by rfl) (pa_cons (pv 1) (pa_cons (pv 2) (pa_cons (pv 4) (pa_cons (pv 4) pa_nil))))))))) pss_nil) (pss_cons (ps_if (pt_cmpR op_eq (pv 0) pe_int (nomark _)) (pss_one (ps_ret (pe_alt (by exact (pe_cX c_dayB hr (by decide) (L2N.takes_of rfl rfl rfl rfl) (by rfl) (by exact (pa_cons (pv 1) (pa_cons (pv 2) (pa_cons (pe_lst pa_nil) pa_nil)))))) (C8.pe_c c_day hr (by decide) (by rfl) (pa_cons (pv 1) (pa_cons (pv 2) (pa_cons (pe_lst pa_nil) pa_nil))))))) pss_nil) (pss_one (ps_ret (pe_alt (by exact (pe_cX c_holdsB hr (by decide) (L2N.takes_of rfl rfl rfl rfl) (by rfl) (by exact (pa_cons (pv 1) (pa_cons (pv 2) (pa_cons (pe_lst (pa_cons (pe_lst (pa_cons (pv 4) pa_nil)) pa_nil)) (pa_cons (pe_lst (pa_cons pe_int pa_nil)) pa_nil))))))) (C8.pe_c c_holds hr (by decide) (by rfl) (pa_cons (pv 1) (pa_cons (pv 2) (pa_cons (pe_lst (pa_cons (pe_lst (pa_cons (pv 4) pa_nil)) pa_nil)) (pa_cons (pe_lst (pa_cons pe_int pa_nil)) pa_nil))))))))))))))))))), ?_⟩
    refine ⟨_, rfl, rfl, _, rfl, ite2 (fun c => ?_) (fun c0 => ?_)⟩
    · have ew : w = 0 := V.int.inj (of_decide_eq_true c)
      subst ew
      rcases M with M | ⟨rides, trips, T, ⟨w1, hp, hE⟩ | ⟨w1, hn, hE⟩ | ⟨v1, v2, qv, hE⟩⟩
      · exact .inl ⟨_, rfl, _, rfl, r, t, _, rfl, rfl, M.bad (Same.refl _)⟩
      · exact absurd w1 (by unfold wPl; omega)
      · exact absurd w1 (by unfold wNm; omega)
      · exact .inr (⟨_, rfl, _, rfl, r, t, rides, trips, rfl, T, fun H' p _ _ _ _ _ => qv _ H'⟩)
    refine ⟨_, rfl, rfl, _, rfl, ite2 (fun c => ?_) (fun c1 => ?_)⟩
    · have ew : w = 1 := V.int.inj (of_decide_eq_true c)
      subst ew
      rcases M with M | ⟨rides, trips, T, ⟨w1, hp, hE⟩ | ⟨w1, hn, hE⟩ | ⟨v1, v2, qv, hE⟩⟩
      · exact .inl ⟨_, rfl, _, rfl, _, rfl, r, t, _, rfl, rfl, M.bad (Same.refl _)⟩
      · exact .inr (.inl ⟨_, rfl, _, rfl, _, rfl, r, t, rides, trips, x, kx, rfl, T, px, hp, fun H' _ => hE H'⟩)
      · exact absurd w1 (by unfold wNm; omega)
      · obtain ⟨z, rfl, hz⟩ := v1 (by unfold wPl; omega)
        exact .inr (.inr (⟨_, rfl, _, rfl, _, rfl, r, t, rides, trips, z, rfl, T, hz, fun H' p _ _ _ _ _ => qv _ H'⟩))
    refine ⟨_, rfl, rfl, _, rfl, ite2 (fun c => ?_) (fun c2 => ?_)⟩
    · have ew : w = 2 := V.int.inj (of_decide_eq_true c)
      subst ew
      rcases M with M | ⟨rides, trips, T, ⟨w1, hp, hE⟩ | ⟨w1, hn, hE⟩ | ⟨v1, v2, qv, hE⟩⟩
      · exact .inl ⟨_, rfl, _, rfl, _, rfl, r, t, _, rfl, rfl, M.bad (Same.refl _)⟩
      · exact .inr (.inl ⟨_, rfl, _, rfl, _, rfl, r, t, rides, trips, .str "a", x, _, kx, rfl, T, .str _ (by decide +kernel), px, .inr hp, fun H' _ => hE H'⟩)
      · exact absurd w1 (by unfold wNm; omega)
      · obtain ⟨z, rfl, hz⟩ := v1 (by unfold wPl; omega)
        exact .inr (.inr (⟨_, rfl, _, rfl, _, rfl, r, t, rides, trips, "a", z, rfl, T, okPlace_a, hz, fun _ H' _ => qv _ H', fun H' p _ _ _ _ _ _ => qv _ H'⟩))
    refine ⟨_, rfl, rfl, _, rfl, ite2 (fun c => ?_) (fun c3 => ?_)⟩
    · have ew : w = 3 := V.int.inj (of_decide_eq_true c)
      subst ew
      rcases M with M | ⟨rides, trips, T, ⟨w1, hp, hE⟩ | ⟨w1, hn, hE⟩ | ⟨v1, v2, qv, hE⟩⟩
      · exact .inl ⟨_, rfl, _, rfl, _, rfl, r, t, _, rfl, rfl, M.bad (Same.refl _)⟩
      · exact .inr (.inl ⟨_, rfl, _, rfl, _, rfl, r, t, rides, trips, x, .str "a", kx, _, rfl, T, px, .str _ (by decide +kernel), .inl hp, fun H' _ => hE H'⟩)
      · exact absurd w1 (by unfold wNm; omega)
      · obtain ⟨z, rfl, hz⟩ := v1 (by unfold wPl; omega)
        exact .inr (.inr (⟨_, rfl, _, rfl, _, rfl, r, t, rides, trips, z, "a", rfl, T, hz, okPlace_a, fun _ H' _ => qv _ H', fun H' p _ _ _ _ _ _ => qv _ H'⟩))
    refine ⟨_, rfl, rfl, _, rfl, ite2 (fun c => ?_) (fun c4 => ?_)⟩
    · have ew : w = 4 := V.int.inj (of_decide_eq_true c)
      subst ew
      rcases M with M | ⟨rides, trips, T, ⟨w1, hp, hE⟩ | ⟨w1, hn, hE⟩ | ⟨v1, v2, qv, hE⟩⟩
      · exact .inl ⟨_, rfl, _, rfl, _, rfl, r, t, _, rfl, rfl, M.bad (Same.refl _)⟩
      · exact absurd w1 (by unfold wPl; omega)
      · exact .inr (.inl ⟨_, rfl, _, rfl, _, rfl, r, t, rides, trips, .int 0, y, _, _, rfl, T, .int 0, py.plain sy, .inr hn, hE _⟩)
      · obtain ⟨rfl, h0⟩ := v2 (by unfold wNm; omega)
        have ht : trips[0]? = some trips[0] := List.getElem?_eq_getElem h0
        exact .inr (.inr (⟨_, rfl, _, rfl, _, rfl, r, t, rides, trips, 0, 0, trips[0], trips[0], rfl, T, ht, ht, fun H' _ => qv _ H'⟩))
    refine ⟨_, rfl, rfl, _, rfl, ite2 (fun c => ?_) (fun c5 => ?_)⟩
    · have ew : w = 5 := V.int.inj (of_decide_eq_true c)
      subst ew
      rcases M with M | ⟨rides, trips, T, ⟨w1, hp, hE⟩ | ⟨w1, hn, hE⟩ | ⟨v1, v2, qv, hE⟩⟩
      · exact .inl ⟨_, rfl, _, rfl, _, rfl, r, t, _, rfl, rfl, M.bad (Same.refl _)⟩
      · exact absurd w1 (by unfold wPl; omega)
      · exact .inr (.inl ⟨_, rfl, _, rfl, _, rfl, r, t, rides, trips, y, .int 0, _, _, rfl, T, py.plain sy, .int 0, .inl hn, hE _⟩)
      · obtain ⟨rfl, h0⟩ := v2 (by unfold wNm; omega)
        have ht : trips[0]? = some trips[0] := List.getElem?_eq_getElem h0
        exact .inr (.inr (⟨_, rfl, _, rfl, _, rfl, r, t, rides, trips, 0, 0, trips[0], trips[0], rfl, T, ht, ht, fun H' _ => qv _ H'⟩))
    refine ⟨_, rfl, rfl, _, rfl, ite2 (fun c => ?_) (fun c6 => ?_)⟩
    · have ew : w = 6 := V.int.inj (of_decide_eq_true c)
      subst ew
      rcases M with M | ⟨rides, trips, T, ⟨w1, hp, hE⟩ | ⟨w1, hn, hE⟩ | ⟨v1, v2, qv, hE⟩⟩
      · exact .inl ⟨_, rfl, _, rfl, _, rfl, (by show 3 ≤ sizeLine; decide), fun l nl => ⟨r, t, _, rfl, rfl, M.bad (same_upd nl)⟩⟩
      · exact absurd w1 (by unfold wPl; omega)
      · exact .inr (.inl ⟨_, rfl, _, rfl, _, rfl, (by show 3 ≤ sizeLine; decide), fun l nl => ⟨r, t, l, rides, trips, [.int 0, .int 0, y], rfl, T.same (same_upd nl), sqL_of upd_same, row_plain ((py.same (same_upd nl)).plain sy), ⟨y, List.mem_cons_of_mem _ (List.mem_cons_of_mem _ List.mem_cons_self), hn⟩, fun H' _ => hE H'⟩⟩)
      · obtain ⟨rfl, h0⟩ := v2 (by unfold wNm; omega)
        have ht : trips[0]? = some trips[0] := List.getElem?_eq_getElem h0
        exact .inr (.inr (⟨_, rfl, _, rfl, _, rfl, (by show 3 ≤ sizeLine; decide), fun l nl => ⟨r, t, l, rides, trips, [0, 0, 0], [trips[0], trips[0], trips[0]], rfl, T.same (same_upd nl), sqL_of upd_same, by decide, row_same ht, ⟨0, trips[0], trips[0], rfl, rfl, (Cm_eq ht ht).symm.trans (Cm_irr (posR T.okR T.okT) T.okT)⟩, fun H' _ => hE rfl H'⟩⟩))
    refine ⟨_, rfl, rfl, _, rfl, ite2 (fun c => ?_) (fun c7 => ?_)⟩
    · have ew : w = 7 := V.int.inj (of_decide_eq_true c)
      subst ew
      rcases M with M | ⟨rides, trips, T, ⟨w1, hp, hE⟩ | ⟨w1, hn, hE⟩ | ⟨v1, v2, qv, hE⟩⟩
      · exact .inl ⟨_, rfl, _, rfl, r, t, _, rfl, rfl, M.bad (Same.refl _)⟩
      · exact absurd w1 (by unfold wPl; omega)
      · exact absurd w1 (by unfold wNm; omega)
      · exact .inr (⟨_, rfl, _, rfl, r, t, rides, trips, rfl, T, fun H' p _ _ _ _ _ _ _ => qv _ H'⟩)
    refine ⟨_, rfl, rfl, _, rfl, ite2 (fun c => ?_) (fun c8 => ?_)⟩
    · have ew : w = 8 := V.int.inj (of_decide_eq_true c)
      subst ew
      rcases M with M | ⟨rides, trips, T, ⟨w1, hp, hE⟩ | ⟨w1, hn, hE⟩ | ⟨v1, v2, qv, hE⟩⟩
      · exact .inl ⟨_, rfl, _, rfl, _, rfl, _, rfl, r, t, _, rfl, rfl, M.bad (Same.refl _)⟩
      · exact .inr (.inl ⟨_, rfl, _, rfl, _, rfl, _, rfl, r, t, rides, trips, x, x, kx, kx, rfl, T, px, px, .inl hp, fun H' _ => hE H'⟩)
      · exact absurd w1 (by unfold wNm; omega)
      · obtain ⟨z, rfl, hz⟩ := v1 (by unfold wPl; omega)
        exact .inr (.inr (⟨_, rfl, _, rfl, _, rfl, _, rfl, r, t, rides, trips, z, z, rfl, T, hz, hz, fun _ H' _ => qv _ H', fun H' p _ _ _ _ _ _ => qv _ H'⟩))
    refine ⟨_, rfl, rfl, _, rfl, ite2 (fun c => ?_) (fun c9 => ?_)⟩
    · have ew : w = 9 := V.int.inj (of_decide_eq_true c)
      subst ew
      rcases M with M | ⟨rides, trips, T, ⟨w1, hp, hE⟩ | ⟨w1, hn, hE⟩ | ⟨v1, v2, qv, hE⟩⟩
      · exact .inl ⟨_, rfl, _, rfl, _, rfl, _, rfl, r, t, _, rfl, rfl, M.bad (Same.refl _)⟩
      · exact absurd w1 (by unfold wPl; omega)
      · exact .inr (.inl ⟨_, rfl, _, rfl, _, rfl, _, rfl, r, t, rides, trips, y, y, _, _, rfl, T, py.plain sy, py.plain sy, .inl hn, hE _⟩)
      · obtain ⟨rfl, h0⟩ := v2 (by unfold wNm; omega)
        have ht : trips[0]? = some trips[0] := List.getElem?_eq_getElem h0
        exact .inr (.inr (⟨_, rfl, _, rfl, _, rfl, _, rfl, r, t, rides, trips, 0, 0, trips[0], trips[0], rfl, T, ht, ht, fun H' _ => qv _ H'⟩))
    refine ⟨_, rfl, rfl, _, rfl, ite2 (fun c => ?_) (fun c10 => ?_)⟩
    · have ew : w = 10 := V.int.inj (of_decide_eq_true c)
      subst ew
      rcases M with M | ⟨rides, trips, T, ⟨w1, hp, hE⟩ | ⟨w1, hn, hE⟩ | ⟨v1, v2, qv, hE⟩⟩
      · exact .inl ⟨_, rfl, _, rfl, Nat.zero_le _, fun l nl => ⟨r, t, _, rfl, rfl, M.bad (same_upd nl)⟩⟩
      · exact absurd w1 (by unfold wPl; omega)
      · exact absurd w1 (by unfold wNm; omega)
      · exact .inr (⟨_, rfl, _, rfl, Nat.zero_le _, fun l nl => ⟨r, t, l, rides, trips, [], [], rfl, T.same (same_upd nl), sqL_of upd_same, Nat.zero_le _, ⟨rfl, fun k n h => by simp at h⟩, (fun k _ _ h => by simp at h), fun H' p _ _ _ _ _ _ _ _ _ => qv _ H'⟩⟩)
    have n11 : ¬ wPl w := fun h => by
      rcases h with rfl | rfl | rfl | rfl
      · exact c1 rfl
      · exact c2 rfl
      · exact c3 rfl
      · exact c8 rfl
    have n12 : ¬ wNm w := fun h => by
      rcases h with rfl | rfl | rfl | rfl
      · exact c4 rfl
      · exact c5 rfl
      · exact c6 rfl
      · exact c9 rfl
    rcases M with M | ⟨rides, trips, T, ⟨w1, hp, hE⟩ | ⟨w1, hn, hE⟩ | ⟨v1, v2, qv, hE⟩⟩
    · exact .inl ⟨_, rfl, _, rfl, _, rfl, (by show 1 ≤ sizeLine; decide), fun l1 nl1 => ⟨(by show 1 ≤ sizeLine; decide), fun l2 nl2 => ⟨(by show 1 ≤ sizeLine; decide), fun l3 nl3 => ⟨r, t, _, rfl, rfl, M.bad (((same_upd nl1).trans (same_upd nl2)).trans (same_upd nl3))⟩⟩⟩⟩
    · exact absurd w1 n11
    · exact absurd w1 n12
    · exact .inr (⟨_, rfl, _, rfl, _, rfl, (by show 1 ≤ sizeLine; decide), fun l1 nl1 => ⟨(by show 1 ≤ sizeLine; decide), fun l2 nl2 => ⟨(by show 1 ≤ sizeLine; decide), fun l3 nl3 => ⟨r, t, rides, trips, .ref l2, .ref l3, .list [.list [d]], .list [.int 0], rfl, T.same (((same_upd nl1).trans (same_upd nl2)).trans (same_upd nl3)), .lst (sqL_of ((same_upd nl3) _ _ upd_same)) (.cons (.lst (sqL_of (((same_upd nl2).trans (same_upd nl3)) _ _ upd_same)) (.cons (py.same (((same_upd nl1).trans (same_upd nl2)).trans (same_upd nl3))) .nil)) .nil), .lst (sqL_of upd_same) (.cons (.int 0) .nil), sm_row sy, sm_zero, fun H' _ => qv _ H'⟩⟩⟩⟩)
end
end Fb
/-! _law_marks: which of five classes the caught error is of (law_k06). -/
namespace Fb
open PySem PySem.Spec PyProof.Rows L2
/-- the five classes, apart from one another, over ValueError -/
structure Five (K : PySem.W.Frag) (C : Nat → Addr) : Prop where
  exc : ∀ i, i < 5 → ExcC K (C i)
  kit : ∀ i j, i < 5 → j < 5 → PySem.W.kitOne K (.ref (C i)) (.ref (C j)) = some (decide (i = j))
  ve : ∀ i, i < 5 → PySem.W.kitOne K (.ref (C i)) (.type "ValueError") = some true
def marksV (j : Nat) : List V := [.bl (decide (j = 0)), .bl (decide (j = 1)), .bl (decide (j = 2)), .bl (decide (j = 3)), .bl (decide (j = 4))]
def spMarks (C : Nat → Addr) (a : Addr) (cls : Value) (d : Option Addr) : List V → Hp → VK → Prop := fun vs H Q => ∃ j, j < 5 ∧ vs = [.ref a] ∧ cls = .ref (C j) ∧ d = none ∧ ∀ H' m, Same H H' → H m = none → H' m = some (.lst (marksV j)) → Q (.ref m) H'
def spMarksM (C : Nat → Addr) (p : Addr × Obj) : Sp := fun vs H Q _ => ∃ cls d, p.2.cls = cls ∧ p.2.dict = d ∧ (∃ fs, p.2.data = .fields fs) ∧ spMarks C p.1 cls d vs H Q
def rIsY (K : PySem.W.Frag) (a : Addr) (cls : Value) (d : Option Addr) : List V → Hp → VK → Prop := fun xs H Q => ∃ D, cls = .ref D ∧ d = none ∧ ExcC K D ∧ rIsE K D a xs H Q
/-- isinstance of the error that the suite holds, whatever of the own classes it is of -/
theorem call_isY {X : Cx} {a : Addr} {oe : Obj} {cls : Value} {d : Option Addr} (hp : (a, oe) ∈ X.pn) (hz : L2N.Zn cls d oe) (hf : ∃ vs, oe.data = .fields vs) : CallR X (.builtin "isinstance") (rIsY X.K a cls d) := by
  intro pins s σ H xs us Q I rel told
  obtain ⟨D, rfl, rfl, C, told⟩ := told
  exact call_isM (p := (a, oe)) C hp hz.1 hz.2.1 hf pins s σ H xs us Q I rel told
section
variable {P : Program} {w : World} {K : PySem.W.Frag} {mg : Str → Option Value} {base : Heap}
theorem ok_law_marks {f : Addr} {fd : FuncData} {C : Nat → Addr} (F : Fn K "_law_marks" s_law_marks f fd) (B : Bi mg) (V5 : Five K C) (g0 : mg "NoRide" = some (.ref (C 0))) (g1 : mg "NoTrip" = some (.ref (C 1))) (g2 : mg "NoPlace" = some (.ref (C 2))) (g3 : mg "NoNumber" = some (.ref (C 3))) (g4 : mg "NotInTime" = some (.ref (C 4))) :
    FnM P w K mg base 1 f fd ["_law_e"] (spMarksM C) := by
  refine fnM_of F sc_law_marks (fun p vs H Q E h => ?_) (fun p cdv A outer s H vs Q E hr h => ?_)
  · obtain ⟨_, _, _, _, _, j, _, rfl, _⟩ := h
    rfl
  · obtain ⟨cls, d, hc, hd, hf, j, hj, rfl, rfl, rfl, q⟩ := h
    have E5 := V5.exc j hj
    refine ⟨_, (pss_cons (ps_set (i := 1) sc_law_marks.nd rfl (Or.inl rfl) (pe_lst (pa_cons (pe_callB (call_isM E5 (List.mem_singleton.mpr rfl) hc hd hf) (by rfl) B.isi (by decide +kernel) (pa_cons (pv 0) (pa_cons (pe_glob (v := .ref (C 0)) rfl g0 rfl) pa_nil))) (pa_cons (pe_callB (call_isM E5 (List.mem_singleton.mpr rfl) hc hd hf) (by rfl) B.isi (by decide +kernel) (pa_cons (pv 0) (pa_cons (pe_glob (v := .ref (C 1)) rfl g1 rfl) pa_nil))) (pa_cons (pe_callB (call_isM E5 (List.mem_singleton.mpr rfl) hc hd hf) (by rfl) B.isi (by decide +kernel) (pa_cons (pv 0) (pa_cons (pe_glob (v := .ref (C 2)) rfl g2 rfl) pa_nil))) (pa_cons (pe_callB (call_isM E5 (List.mem_singleton.mpr rfl) hc hd hf) (by rfl) B.isi (by decide +kernel) (pa_cons (pv 0) (pa_cons (pe_glob (v := .ref (C 3)) rfl g3 rfl) pa_nil))) pa_nil)))))) (pss_one (ps_ret (pe_op op_cat (pv 1) (pe_lst (pa_cons (pe_callB (call_isM E5 (List.mem_singleton.mpr rfl) hc hd hf) (by rfl) B.isi (by decide +kernel) (pa_cons (pv 0) (pa_cons (pe_glob (v := .ref (C 4)) rfl g4 rfl) pa_nil))) pa_nil)))))), ?_⟩
    have k := fun i (hi : i < 5) => V5.kit j i hj hi
    refine ⟨_, rfl, _, _, _, rfl, fun _ h => h, k 0 (by decide), _, rfl, _, _, _, rfl, fun _ h => h, k 1 (by decide), _, rfl, _, _, _, rfl, fun _ h => h, k 2 (by decide), _, rfl, _, _, _, rfl, fun _ h => h, k 3 (by decide), (by show 4 ≤ sizeLine; decide), fun l nl => ?_⟩
    refine ⟨_, rfl, _, rfl, _, _, _, rfl, fun _ h => h, k 4 (by decide), (by show 1 ≤ sizeLine; decide), fun z nz => ?_⟩
    have s1 := same_upd (o := .lst [.bl (decide (j = 0)), .bl (decide (j = 1)), .bl (decide (j = 2)), .bl (decide (j = 3))]) nl
    have s2 := same_upd (o := .lst [.bl (decide (j = 4))]) nz
    refine ⟨l, z, _, _, rfl, rfl, s2 _ _ upd_same, upd_same, (by show 5 ≤ sizeLine; decide), fun m nm => ?_⟩
    exact q _ m ((s1.trans s2).trans (same_upd nm)) ((s1.trans s2).free nm) upd_same
end
end Fb
/-! The odd things of law_k06 (printed by genX7.py). -/
namespace Fb
open PySem PySem.Spec PyProof.Rows L2
/-- the z-th of a list -/
theorem atI_in {xs : List V} {z : Int} (h0 : 0 ≤ z) (h1 : z < (xs.length : Int)) : ∃ v, atI xs z = some v ∧ v ∈ xs := by
  have hlt : z.toNat < xs.length := by omega
  have := atI_nat (List.getElem?_eq_getElem hlt)
  rw [show ((z.toNat : Nat) : Int) = z by omega] at this
  exact ⟨_, this, List.getElem_mem hlt⟩
/-- None, a truth, a number, a short text -/
def scal : V → Bool
  | .non => true
  | .bl _ => true
  | .int _ => true
  | .str z => decide (z.length ≤ 100)
  | _ => false
theorem scal_plain {K : PySem.W.Frag} {H : Hp} {v : V} (h : scal v = true) : ∃ k, Plain K H v k := by
  cases v with
  | non => exact ⟨_, .non⟩
  | bl b => exact ⟨_, .bool b⟩
  | int i => exact ⟨_, .int i⟩
  | str z => exact ⟨_, .str z (Nat.le_trans (of_decide_eq_true h) (by decide))⟩
  | _ => cases h
theorem scal_all {K : PySem.W.Frag} {H : Hp} {xs : List V} (h : xs.all scal = true) : ∀ v ∈ xs, ∃ k, Plain K H v k := fun v hv => scal_plain (List.all_eq_true.mp h v hv)
def OddN (v : V) : Prop := isPlace v = false ∧ scal v = true
def spOddName : Sp := fun vs H Q _ => ∃ c : Int, vs = [.int c] ∧ ∀ H' v, Same H H' → OddN v → Q v H'
/-- a thing that is none -/
def OddV (K : PySem.W.Frag) (f : List V → Bool) (H : Hp) (v : V) : Prop := (∃ a items, v = .ref a ∧ SqT K H a items ∧ (∀ x ∈ items, ∃ k, Plain K H x k) ∧ f items = false) ∨ ∃ k, Plain K H v k ∧ k.isTup = false
theorem OddV.same {K : PySem.W.Frag} {f : List V → Bool} {H H' : Hp} {v : V} (o : OddV K f H v) (s : Same H H') : OddV K f H' v := by
  rcases o with ⟨a, items, e, h, p, z⟩ | ⟨k, p, h⟩
  · exact .inl ⟨a, items, e, same_seqT s h, fun y hy => (p y hy).imp fun _ z => z.same s, z⟩
  · exact .inr ⟨k, p.same s, h⟩
def spOddV (K : PySem.W.Frag) (f : List V → Bool) : Sp := fun vs H Q _ => ∃ c : Int, vs = [.int c] ∧ ∀ H' v, Same H H' → OddV K f H' v → Q v H'
section
variable {P : Program} {w : World} {K : PySem.W.Frag} {mg : Str → Option Value} {base : Heap}
theorem cal_law_odd_name {f : Addr} {fd : FuncData} (F : Fn K "_law_odd_name" s_law_odd_name f fd) (g : mg "_law_odd_name" = some (.ref f)) (B : Bi mg) : C8.Cal P w K mg base 1 "_law_odd_name" spOddName [] := by
  refine cal_of F g sc_law_odd_name (bi_law_odd_name F) (fun vs H Q E h => ?_) (fun cdv A outer s H vs Q E hr h => ?_)
  · obtain ⟨c, rfl, _⟩ := h
    rfl
  · obtain ⟨c, rfl, q⟩ := h
    refine ⟨_, (pss_one (ps_ret (pe_ix (r := rIxL K) ix_list (pe_lst (pa_cons pe_str (pa_cons pe_str (pa_cons pe_str (pa_cons pe_str (pa_cons (pe_op op_mul_sign pe_str pe_int) (pa_cons pe_int (pa_cons pe_non (pa_cons pe_str pa_nil))))))))) (pe_op op_mod (pv 0) pe_int) (fun _ _ => rfl)))), ?_⟩
    refine ⟨98, 13, rfl, rfl, by decide, by decide, (by show 8 ≤ sizeLine; decide), fun l nl => ?_⟩
    obtain ⟨v, hat, hv⟩ := atI_in (xs := [V.str "B", .str "", .str "b1", .str "a b", .str (SX.S (List.replicate 13 98)), .int 5, .non, .str "b\n"]) (z := c % 8) (by omega) (by show c % 8 < 8; omega)
    refine ⟨_, rfl, _, _, rfl, rfl, (by show (0 : Int) < 8; decide), l, _, _, _, rfl, rfl, sqL_of upd_same, hat, q _ _ (same_upd nl) ?_⟩
    have : ∀ v ∈ [V.str "B", .str "", .str "b1", .str "a b", .str (SX.S (List.replicate 13 98)), .int 5, .non, .str "b\n"], OddN v := by
      intro v hv
      simp only [List.mem_cons, List.not_mem_nil, or_false] at hv
      rcases hv with rfl | rfl | rfl | rfl | rfl | rfl | rfl | rfl <;> exact ⟨by decide +kernel, by decide +kernel⟩
    exact this v hv
theorem cal_law_odd_ride {f : Addr} {fd : FuncData} (F : Fn K "_law_odd_ride" s_law_odd_ride f fd) (g : mg "_law_odd_ride" = some (.ref f)) (B : Bi mg) (c_odd_name : C8.Cal P w K mg base 1 "_law_odd_name" spOddName []) : C8.Cal P w K mg base 2 "_law_odd_ride" (spOddV K rideB) [] := by
  refine cal_of F g sc_law_odd_ride (bi_law_odd_ride F) (fun vs H Q E h => ?_) (fun cdv A outer s H vs Q E hr h => ?_)
  · obtain ⟨c, rfl, _⟩ := h
    rfl
  · obtain ⟨c, rfl, q⟩ := h
    refine ⟨_, (pss_cons (ps_if (pt_cmpR op_eq (pe_op op_mod (pv 0) pe_int) pe_int (nomark _)) (pss_one (ps_ret (pe_tup (pa_cons (C8.pe_c c_odd_name hr (by decide) (by rfl) (pa_cons (pe_op op_fdiv (pv 0) pe_int) pa_nil)) (pa_cons pe_str (pa_cons pe_int pa_nil)))))) pss_nil) (pss_cons (ps_if (pt_cmpR op_eq (pe_op op_mod (pv 0) pe_int) pe_int (nomark _)) (pss_one (ps_ret (pe_tup (pa_cons pe_str (pa_cons (C8.pe_c c_odd_name hr (by decide) (by rfl) (pa_cons (pe_op op_fdiv (pv 0) pe_int) pa_nil)) (pa_cons pe_int pa_nil)))))) pss_nil) (pss_cons (ps_set (i := 1) sc_law_odd_ride.nd rfl (Or.inl rfl) (pe_lst (pa_cons pe_non (pa_cons (pe_tup (pa_cons pe_str (pa_cons pe_str pa_nil))) (pa_cons (pe_tup (pa_cons pe_str (pa_cons pe_str (pa_cons pe_int (pa_cons pe_int pa_nil))))) (pa_cons (pe_lst (pa_cons pe_str (pa_cons pe_str (pa_cons pe_int pa_nil)))) (pa_cons (pe_tup (pa_cons pe_str (pa_cons pe_str (pa_cons pe_int pa_nil)))) (pa_cons (pe_tup (pa_cons pe_str (pa_cons pe_str (pa_cons pe_int pa_nil)))) (pa_cons (pe_tup (pa_cons pe_str (pa_cons pe_str (pa_cons pe_int pa_nil)))) pa_nil))))))))) (pss_one (ps_ret (pe_ix (r := rIxL K) ix_list (pe_op op_cat (pv 1) (pe_lst (pa_cons (pe_tup (pa_cons pe_str (pa_cons pe_str (pa_cons pe_bl pa_nil)))) (pa_cons (pe_tup (pa_cons pe_str (pa_cons pe_str (pa_cons pe_str pa_nil)))) (pa_cons (pe_tup (pa_cons pe_str (pa_cons pe_str (pa_cons (pe_un un_neg pe_int) pa_nil)))) pa_nil))))) (pe_op op_mod (pe_op op_fdiv (pv 0) pe_int) pe_int) (fun _ _ => rfl))))))), ?_⟩
    refine ⟨_, rfl, _, _, rfl, rfl, (by show (0 : Int) < 5; decide), rfl, _, rfl, ite2 (fun _ => ?_) (fun _ => ?_)⟩
    · refine ⟨_, rfl, _, _, rfl, rfl, ⟨by decide, by decide⟩, c / 5, rfl, fun H1 v s1 hv => ⟨(by show 3 ≤ sizeLine; decide), fun t nt => ?_⟩⟩
      refine q _ _ (s1.trans (same_upd nt)) (.inl ⟨t, _, rfl, sqT_of upd_same, scal_all ?_, ?_⟩)
      · show (scal v && _) = true
        rw [hv.2]
        decide +kernel
      · show (isPlace v && _) = false
        rw [hv.1]
        rfl
    refine ⟨_, rfl, _, _, rfl, rfl, (by show (0 : Int) < 5; decide), rfl, _, rfl, ite2 (fun _ => ?_) (fun _ => ?_)⟩
    · refine ⟨_, rfl, _, _, rfl, rfl, ⟨by decide, by decide⟩, c / 5, rfl, fun H1 v s1 hv => ⟨(by show 3 ≤ sizeLine; decide), fun t nt => ?_⟩⟩
      refine q _ _ (s1.trans (same_upd nt)) (.inl ⟨t, _, rfl, sqT_of upd_same, scal_all ?_, ?_⟩)
      · show (scal (.str "a") && (scal v && _)) = true
        rw [hv.2]
        decide +kernel
      · show (isPlace (.str "a") && (isPlace v && _)) = false
        rw [hv.1, Bool.false_and, Bool.and_false]
    refine ⟨(by show 2 ≤ sizeLine; decide), fun t1 n1 => ?_⟩
    have s1 : Same H (upd H t1 (.tup [V.str "a", .str "b"])) := same_upd n1
    have e1 : (upd H t1 (.tup [V.str "a", .str "b"])) t1 = some (.tup [V.str "a", .str "b"]) := upd_same
    generalize upd H t1 (.tup [V.str "a", .str "b"]) = G1 at *
    refine ⟨(by show 4 ≤ sizeLine; decide), fun t2 n2 => ?_⟩
    have s2 : Same G1 (upd G1 t2 (.tup [V.str "a", .str "b", .int 1, .int 1])) := same_upd n2
    have e2 : (upd G1 t2 (.tup [V.str "a", .str "b", .int 1, .int 1])) t2 = some (.tup [V.str "a", .str "b", .int 1, .int 1]) := upd_same
    generalize upd G1 t2 (.tup [V.str "a", .str "b", .int 1, .int 1]) = G2 at *
    refine ⟨(by show 3 ≤ sizeLine; decide), fun t3 n3 => ?_⟩
    have s3 : Same G2 (upd G2 t3 (.lst [V.str "a", .str "b", .int 1])) := same_upd n3
    have e3 : (upd G2 t3 (.lst [V.str "a", .str "b", .int 1])) t3 = some (.lst [V.str "a", .str "b", .int 1]) := upd_same
    generalize upd G2 t3 (.lst [V.str "a", .str "b", .int 1]) = G3 at *
    refine ⟨(by show 3 ≤ sizeLine; decide), fun t4 n4 => ?_⟩
    have s4 : Same G3 (upd G3 t4 (.tup [V.str "a", .str "a", .int 1])) := same_upd n4
    have e4 : (upd G3 t4 (.tup [V.str "a", .str "a", .int 1])) t4 = some (.tup [V.str "a", .str "a", .int 1]) := upd_same
    generalize upd G3 t4 (.tup [V.str "a", .str "a", .int 1]) = G4 at *
    refine ⟨(by show 3 ≤ sizeLine; decide), fun t5 n5 => ?_⟩
    have s5 : Same G4 (upd G4 t5 (.tup [V.str "a", .str "b", .int 0])) := same_upd n5
    have e5 : (upd G4 t5 (.tup [V.str "a", .str "b", .int 0])) t5 = some (.tup [V.str "a", .str "b", .int 0]) := upd_same
    generalize upd G4 t5 (.tup [V.str "a", .str "b", .int 0]) = G5 at *
    refine ⟨(by show 3 ≤ sizeLine; decide), fun t6 n6 => ?_⟩
    have s6 : Same G5 (upd G5 t6 (.tup [V.str "a", .str "b", .int 10000])) := same_upd n6
    have e6 : (upd G5 t6 (.tup [V.str "a", .str "b", .int 10000])) t6 = some (.tup [V.str "a", .str "b", .int 10000]) := upd_same
    generalize upd G5 t6 (.tup [V.str "a", .str "b", .int 10000]) = G6 at *
    refine ⟨(by show 7 ≤ sizeLine; decide), fun t7 n7 => ?_⟩
    have s7 : Same G6 (upd G6 t7 (.lst [V.non, .ref t1, .ref t2, .ref t3, .ref t4, .ref t5, .ref t6])) := same_upd n7
    have e7 : (upd G6 t7 (.lst [V.non, .ref t1, .ref t2, .ref t3, .ref t4, .ref t5, .ref t6])) t7 = some (.lst [V.non, .ref t1, .ref t2, .ref t3, .ref t4, .ref t5, .ref t6]) := upd_same
    generalize upd G6 t7 (.lst [V.non, .ref t1, .ref t2, .ref t3, .ref t4, .ref t5, .ref t6]) = G7 at *
    refine ⟨_, rfl, (by show 3 ≤ sizeLine; decide), fun t8 n8 => ?_⟩
    have s8 : Same G7 (upd G7 t8 (.tup [V.str "a", .str "b", .bl true])) := same_upd n8
    have e8 : (upd G7 t8 (.tup [V.str "a", .str "b", .bl true])) t8 = some (.tup [V.str "a", .str "b", .bl true]) := upd_same
    generalize upd G7 t8 (.tup [V.str "a", .str "b", .bl true]) = G8 at *
    refine ⟨(by show 3 ≤ sizeLine; decide), fun t9 n9 => ?_⟩
    have s9 : Same G8 (upd G8 t9 (.tup [V.str "a", .str "b", .str "1"])) := same_upd n9
    have e9 : (upd G8 t9 (.tup [V.str "a", .str "b", .str "1"])) t9 = some (.tup [V.str "a", .str "b", .str "1"]) := upd_same
    generalize upd G8 t9 (.tup [V.str "a", .str "b", .str "1"]) = G9 at *
    refine ⟨_, rfl, (by show 3 ≤ sizeLine; decide), fun t10 n10 => ?_⟩
    have s10 : Same G9 (upd G9 t10 (.tup [V.str "a", .str "b", .int (-1)])) := same_upd n10
    have e10 : (upd G9 t10 (.tup [V.str "a", .str "b", .int (-1)])) t10 = some (.tup [V.str "a", .str "b", .int (-1)]) := upd_same
    generalize upd G9 t10 (.tup [V.str "a", .str "b", .int (-1)]) = G10 at *
    refine ⟨(by show 3 ≤ sizeLine; decide), fun t11 n11 => ?_⟩
    have s11 : Same G10 (upd G10 t11 (.lst [V.ref t8, .ref t9, .ref t10])) := same_upd n11
    have e11 : (upd G10 t11 (.lst [V.ref t8, .ref t9, .ref t10])) t11 = some (.lst [V.ref t8, .ref t9, .ref t10]) := upd_same
    generalize upd G10 t11 (.lst [V.ref t8, .ref t9, .ref t10]) = G11 at *
    refine ⟨t7, t11, _, _, rfl, rfl, (s8.trans (s9.trans (s10.trans s11))) _ _ e7, e11, (by show 10 ≤ sizeLine; decide), fun t12 n12 => ?_⟩
    have s12 : Same G11 (upd G11 t12 (.lst ([V.non, .ref t1, .ref t2, .ref t3, .ref t4, .ref t5, .ref t6] ++ [V.ref t8, .ref t9, .ref t10]))) := same_upd n12
    have e12 : (upd G11 t12 (.lst ([V.non, .ref t1, .ref t2, .ref t3, .ref t4, .ref t5, .ref t6] ++ [V.ref t8, .ref t9, .ref t10]))) t12 = some (.lst [V.non, .ref t1, .ref t2, .ref t3, .ref t4, .ref t5, .ref t6, .ref t8, .ref t9, .ref t10]) := upd_same
    generalize upd G11 t12 (.lst ([V.non, .ref t1, .ref t2, .ref t3, .ref t4, .ref t5, .ref t6] ++ [V.ref t8, .ref t9, .ref t10])) = G12 at *
    obtain ⟨v, hat, hv⟩ := atI_in (xs := [V.non, .ref t1, .ref t2, .ref t3, .ref t4, .ref t5, .ref t6, .ref t8, .ref t9, .ref t10]) (z := c / 5 % 10) (by omega) (by show c / 5 % 10 < 10; omega)
    refine ⟨_, rfl, _, _, rfl, rfl, ⟨by decide, by decide⟩, _, _, rfl, rfl, (by show (0 : Int) < 10; decide), t12, _, _, _, rfl, rfl, sqL_of e12, hat, q _ _ (s1.trans (s2.trans (s3.trans (s4.trans (s5.trans (s6.trans (s7.trans (s8.trans (s9.trans (s10.trans (s11.trans s12))))))))))) ?_⟩
    rcases List.mem_cons.mp hv with rfl | hv
    · exact .inr ⟨_, .non, rfl⟩
    rcases List.mem_cons.mp hv with rfl | hv
    · exact .inl ⟨t1, _, rfl, sqT_of ((s2.trans (s3.trans (s4.trans (s5.trans (s6.trans (s7.trans (s8.trans (s9.trans (s10.trans (s11.trans s12)))))))))) _ _ e1), scal_all (by decide +kernel), by decide +kernel⟩
    rcases List.mem_cons.mp hv with rfl | hv
    · exact .inl ⟨t2, _, rfl, sqT_of ((s3.trans (s4.trans (s5.trans (s6.trans (s7.trans (s8.trans (s9.trans (s10.trans (s11.trans s12))))))))) _ _ e2), scal_all (by decide +kernel), by decide +kernel⟩
    rcases List.mem_cons.mp hv with rfl | hv
    · exact .inr ⟨_, .lst (sqL_of ((s4.trans (s5.trans (s6.trans (s7.trans (s8.trans (s9.trans (s10.trans (s11.trans s12)))))))) _ _ e3)), rfl⟩
    rcases List.mem_cons.mp hv with rfl | hv
    · exact .inl ⟨t4, _, rfl, sqT_of ((s5.trans (s6.trans (s7.trans (s8.trans (s9.trans (s10.trans (s11.trans s12))))))) _ _ e4), scal_all (by decide +kernel), by decide +kernel⟩
    rcases List.mem_cons.mp hv with rfl | hv
    · exact .inl ⟨t5, _, rfl, sqT_of ((s6.trans (s7.trans (s8.trans (s9.trans (s10.trans (s11.trans s12)))))) _ _ e5), scal_all (by decide +kernel), by decide +kernel⟩
    rcases List.mem_cons.mp hv with rfl | hv
    · exact .inl ⟨t6, _, rfl, sqT_of ((s7.trans (s8.trans (s9.trans (s10.trans (s11.trans s12))))) _ _ e6), scal_all (by decide +kernel), by decide +kernel⟩
    rcases List.mem_cons.mp hv with rfl | hv
    · exact .inl ⟨t8, _, rfl, sqT_of ((s9.trans (s10.trans (s11.trans s12))) _ _ e8), scal_all (by decide +kernel), by decide +kernel⟩
    rcases List.mem_cons.mp hv with rfl | hv
    · exact .inl ⟨t9, _, rfl, sqT_of ((s10.trans (s11.trans s12)) _ _ e9), scal_all (by decide +kernel), by decide +kernel⟩
    rw [List.mem_singleton.mp hv]
    exact .inl ⟨t10, _, rfl, sqT_of ((s11.trans s12) _ _ e10), scal_all (by decide +kernel), by decide +kernel⟩
theorem cal_law_odd_trip {f : Addr} {fd : FuncData} (F : Fn K "_law_odd_trip" s_law_odd_trip f fd) (g : mg "_law_odd_trip" = some (.ref f)) (B : Bi mg) (c_odd_name : C8.Cal P w K mg base 1 "_law_odd_name" spOddName []) : C8.Cal P w K mg base 2 "_law_odd_trip" (spOddV K tripB) [] := by
  refine cal_of F g sc_law_odd_trip (bi_law_odd_trip F) (fun vs H Q E h => ?_) (fun cdv A outer s H vs Q E hr h => ?_)
  · obtain ⟨c, rfl, _⟩ := h
    rfl
  · obtain ⟨c, rfl, q⟩ := h
    refine ⟨_, (pss_cons (ps_if (pt_cmpR op_eq (pe_op op_mod (pv 0) pe_int) pe_int (nomark _)) (pss_one (ps_ret (pe_tup (pa_cons (C8.pe_c c_odd_name hr (by decide) (by rfl) (pa_cons (pe_op op_fdiv (pv 0) pe_int) pa_nil)) (pa_cons pe_int (pa_cons pe_str (pa_cons pe_int pa_nil))))))) pss_nil) (pss_cons (ps_if (pt_cmpR op_eq (pe_op op_mod (pv 0) pe_int) pe_int (nomark _)) (pss_one (ps_ret (pe_tup (pa_cons pe_str (pa_cons pe_int (pa_cons (C8.pe_c c_odd_name hr (by decide) (by rfl) (pa_cons (pe_op op_fdiv (pv 0) pe_int) pa_nil)) (pa_cons pe_int pa_nil))))))) pss_nil) (pss_cons (ps_set (i := 1) sc_law_odd_trip.nd rfl (Or.inl rfl) (pe_lst (pa_cons pe_non (pa_cons (pe_tup (pa_cons pe_str (pa_cons pe_int (pa_cons pe_str pa_nil)))) (pa_cons (pe_tup (pa_cons pe_str (pa_cons pe_int (pa_cons pe_str (pa_cons pe_int (pa_cons pe_int pa_nil)))))) (pa_cons (pe_lst (pa_cons pe_str (pa_cons pe_int (pa_cons pe_str (pa_cons pe_int pa_nil))))) (pa_cons (pe_tup (pa_cons pe_str (pa_cons pe_int (pa_cons pe_str (pa_cons pe_int pa_nil))))) (pa_cons (pe_tup (pa_cons pe_str (pa_cons pe_int (pa_cons pe_str (pa_cons pe_int pa_nil))))) pa_nil)))))))) (pss_cons (ps_set (i := 1) sc_law_odd_trip.nd rfl (Or.inl rfl) (pe_op op_cat (pv 1) (pe_lst (pa_cons (pe_tup (pa_cons pe_str (pa_cons (pe_un un_neg pe_int) (pa_cons pe_str (pa_cons pe_int pa_nil))))) (pa_cons (pe_tup (pa_cons pe_str (pa_cons pe_int (pa_cons pe_str (pa_cons pe_int pa_nil))))) (pa_cons (pe_tup (pa_cons pe_str (pa_cons pe_bl (pa_cons pe_str (pa_cons pe_int pa_nil))))) (pa_cons (pe_tup (pa_cons pe_str (pa_cons pe_int (pa_cons pe_str (pa_cons pe_bl pa_nil))))) pa_nil))))))) (pss_one (ps_ret (pe_ix (r := rIxL K) ix_list (pe_op op_cat (pv 1) (pe_lst (pa_cons (pe_tup (pa_cons pe_str (pa_cons pe_str (pa_cons pe_str (pa_cons pe_int pa_nil))))) (pa_cons (pe_tup (pa_cons pe_str (pa_cons pe_int (pa_cons pe_str (pa_cons pe_int pa_nil))))) pa_nil)))) (pe_op op_mod (pe_op op_fdiv (pv 0) pe_int) pe_int) (fun _ _ => rfl)))))))), ?_⟩
    refine ⟨_, rfl, _, _, rfl, rfl, (by show (0 : Int) < 5; decide), rfl, _, rfl, ite2 (fun _ => ?_) (fun _ => ?_)⟩
    · refine ⟨_, rfl, _, _, rfl, rfl, ⟨by decide, by decide⟩, c / 5, rfl, fun H1 v s1 hv => ⟨(by show 4 ≤ sizeLine; decide), fun t nt => ?_⟩⟩
      refine q _ _ (s1.trans (same_upd nt)) (.inl ⟨t, _, rfl, sqT_of upd_same, scal_all ?_, ?_⟩)
      · show (scal v && _) = true
        rw [hv.2]
        decide +kernel
      · show (isPlace v && _) = false
        rw [hv.1]
        rfl
    refine ⟨_, rfl, _, _, rfl, rfl, (by show (0 : Int) < 5; decide), rfl, _, rfl, ite2 (fun _ => ?_) (fun _ => ?_)⟩
    · refine ⟨_, rfl, _, _, rfl, rfl, ⟨by decide, by decide⟩, c / 5, rfl, fun H1 v s1 hv => ⟨(by show 4 ≤ sizeLine; decide), fun t nt => ?_⟩⟩
      refine q _ _ (s1.trans (same_upd nt)) (.inl ⟨t, _, rfl, sqT_of upd_same, scal_all ?_, ?_⟩)
      · show (scal (.str "a") && (scal (.int 1) && (scal v && _))) = true
        rw [hv.2]
        decide +kernel
      · show (isPlace (.str "a") && (isPlace v && _)) = false
        rw [hv.1, Bool.false_and, Bool.and_false]
    refine ⟨(by show 3 ≤ sizeLine; decide), fun t1 n1 => ?_⟩
    have s1 : Same H (upd H t1 (.tup [V.str "a", .int 1, .str "b"])) := same_upd n1
    have e1 : (upd H t1 (.tup [V.str "a", .int 1, .str "b"])) t1 = some (.tup [V.str "a", .int 1, .str "b"]) := upd_same
    generalize upd H t1 (.tup [V.str "a", .int 1, .str "b"]) = G1 at *
    refine ⟨(by show 5 ≤ sizeLine; decide), fun t2 n2 => ?_⟩
    have s2 : Same G1 (upd G1 t2 (.tup [V.str "a", .int 1, .str "b", .int 2, .int 3])) := same_upd n2
    have e2 : (upd G1 t2 (.tup [V.str "a", .int 1, .str "b", .int 2, .int 3])) t2 = some (.tup [V.str "a", .int 1, .str "b", .int 2, .int 3]) := upd_same
    generalize upd G1 t2 (.tup [V.str "a", .int 1, .str "b", .int 2, .int 3]) = G2 at *
    refine ⟨(by show 4 ≤ sizeLine; decide), fun t3 n3 => ?_⟩
    have s3 : Same G2 (upd G2 t3 (.lst [V.str "a", .int 1, .str "b", .int 2])) := same_upd n3
    have e3 : (upd G2 t3 (.lst [V.str "a", .int 1, .str "b", .int 2])) t3 = some (.lst [V.str "a", .int 1, .str "b", .int 2]) := upd_same
    generalize upd G2 t3 (.lst [V.str "a", .int 1, .str "b", .int 2]) = G3 at *
    refine ⟨(by show 4 ≤ sizeLine; decide), fun t4 n4 => ?_⟩
    have s4 : Same G3 (upd G3 t4 (.tup [V.str "a", .int 2, .str "b", .int 2])) := same_upd n4
    have e4 : (upd G3 t4 (.tup [V.str "a", .int 2, .str "b", .int 2])) t4 = some (.tup [V.str "a", .int 2, .str "b", .int 2]) := upd_same
    generalize upd G3 t4 (.tup [V.str "a", .int 2, .str "b", .int 2]) = G4 at *
    refine ⟨(by show 4 ≤ sizeLine; decide), fun t5 n5 => ?_⟩
    have s5 : Same G4 (upd G4 t5 (.tup [V.str "a", .int 3, .str "b", .int 2])) := same_upd n5
    have e5 : (upd G4 t5 (.tup [V.str "a", .int 3, .str "b", .int 2])) t5 = some (.tup [V.str "a", .int 3, .str "b", .int 2]) := upd_same
    generalize upd G4 t5 (.tup [V.str "a", .int 3, .str "b", .int 2]) = G5 at *
    refine ⟨(by show 6 ≤ sizeLine; decide), fun t6 n6 => ?_⟩
    have s6 : Same G5 (upd G5 t6 (.lst [V.non, .ref t1, .ref t2, .ref t3, .ref t4, .ref t5])) := same_upd n6
    have e6 : (upd G5 t6 (.lst [V.non, .ref t1, .ref t2, .ref t3, .ref t4, .ref t5])) t6 = some (.lst [V.non, .ref t1, .ref t2, .ref t3, .ref t4, .ref t5]) := upd_same
    generalize upd G5 t6 (.lst [V.non, .ref t1, .ref t2, .ref t3, .ref t4, .ref t5]) = G6 at *
    refine ⟨_, rfl, _, rfl, (by show 4 ≤ sizeLine; decide), fun t7 n7 => ?_⟩
    have s7 : Same G6 (upd G6 t7 (.tup [V.str "a", .int (-1), .str "b", .int 2])) := same_upd n7
    have e7 : (upd G6 t7 (.tup [V.str "a", .int (-1), .str "b", .int 2])) t7 = some (.tup [V.str "a", .int (-1), .str "b", .int 2]) := upd_same
    generalize upd G6 t7 (.tup [V.str "a", .int (-1), .str "b", .int 2]) = G7 at *
    refine ⟨(by show 4 ≤ sizeLine; decide), fun t8 n8 => ?_⟩
    have s8 : Same G7 (upd G7 t8 (.tup [V.str "a", .int 1, .str "b", .int 100000])) := same_upd n8
    have e8 : (upd G7 t8 (.tup [V.str "a", .int 1, .str "b", .int 100000])) t8 = some (.tup [V.str "a", .int 1, .str "b", .int 100000]) := upd_same
    generalize upd G7 t8 (.tup [V.str "a", .int 1, .str "b", .int 100000]) = G8 at *
    refine ⟨(by show 4 ≤ sizeLine; decide), fun t9 n9 => ?_⟩
    have s9 : Same G8 (upd G8 t9 (.tup [V.str "a", .bl true, .str "b", .int 2])) := same_upd n9
    have e9 : (upd G8 t9 (.tup [V.str "a", .bl true, .str "b", .int 2])) t9 = some (.tup [V.str "a", .bl true, .str "b", .int 2]) := upd_same
    generalize upd G8 t9 (.tup [V.str "a", .bl true, .str "b", .int 2]) = G9 at *
    refine ⟨(by show 4 ≤ sizeLine; decide), fun t10 n10 => ?_⟩
    have s10 : Same G9 (upd G9 t10 (.tup [V.str "a", .int 0, .str "b", .bl true])) := same_upd n10
    have e10 : (upd G9 t10 (.tup [V.str "a", .int 0, .str "b", .bl true])) t10 = some (.tup [V.str "a", .int 0, .str "b", .bl true]) := upd_same
    generalize upd G9 t10 (.tup [V.str "a", .int 0, .str "b", .bl true]) = G10 at *
    refine ⟨(by show 4 ≤ sizeLine; decide), fun t11 n11 => ?_⟩
    have s11 : Same G10 (upd G10 t11 (.lst [V.ref t7, .ref t8, .ref t9, .ref t10])) := same_upd n11
    have e11 : (upd G10 t11 (.lst [V.ref t7, .ref t8, .ref t9, .ref t10])) t11 = some (.lst [V.ref t7, .ref t8, .ref t9, .ref t10]) := upd_same
    generalize upd G10 t11 (.lst [V.ref t7, .ref t8, .ref t9, .ref t10]) = G11 at *
    refine ⟨t6, t11, _, _, rfl, rfl, (s7.trans (s8.trans (s9.trans (s10.trans s11)))) _ _ e6, e11, (by show 10 ≤ sizeLine; decide), fun t12 n12 => ?_⟩
    have s12 : Same G11 (upd G11 t12 (.lst ([V.non, .ref t1, .ref t2, .ref t3, .ref t4, .ref t5] ++ [V.ref t7, .ref t8, .ref t9, .ref t10]))) := same_upd n12
    have e12 : (upd G11 t12 (.lst ([V.non, .ref t1, .ref t2, .ref t3, .ref t4, .ref t5] ++ [V.ref t7, .ref t8, .ref t9, .ref t10]))) t12 = some (.lst [V.non, .ref t1, .ref t2, .ref t3, .ref t4, .ref t5, .ref t7, .ref t8, .ref t9, .ref t10]) := upd_same
    generalize upd G11 t12 (.lst ([V.non, .ref t1, .ref t2, .ref t3, .ref t4, .ref t5] ++ [V.ref t7, .ref t8, .ref t9, .ref t10])) = G12 at *
    refine ⟨_, rfl, (by show 4 ≤ sizeLine; decide), fun t13 n13 => ?_⟩
    have s13 : Same G12 (upd G12 t13 (.tup [V.str "a", .str "1", .str "b", .int 2])) := same_upd n13
    have e13 : (upd G12 t13 (.tup [V.str "a", .str "1", .str "b", .int 2])) t13 = some (.tup [V.str "a", .str "1", .str "b", .int 2]) := upd_same
    generalize upd G12 t13 (.tup [V.str "a", .str "1", .str "b", .int 2]) = G13 at *
    refine ⟨(by show 4 ≤ sizeLine; decide), fun t14 n14 => ?_⟩
    have s14 : Same G13 (upd G13 t14 (.tup [V.str "a", .int 99999, .str "a", .int 99999])) := same_upd n14
    have e14 : (upd G13 t14 (.tup [V.str "a", .int 99999, .str "a", .int 99999])) t14 = some (.tup [V.str "a", .int 99999, .str "a", .int 99999]) := upd_same
    generalize upd G13 t14 (.tup [V.str "a", .int 99999, .str "a", .int 99999]) = G14 at *
    refine ⟨(by show 2 ≤ sizeLine; decide), fun t15 n15 => ?_⟩
    have s15 : Same G14 (upd G14 t15 (.lst [V.ref t13, .ref t14])) := same_upd n15
    have e15 : (upd G14 t15 (.lst [V.ref t13, .ref t14])) t15 = some (.lst [V.ref t13, .ref t14]) := upd_same
    generalize upd G14 t15 (.lst [V.ref t13, .ref t14]) = G15 at *
    refine ⟨t12, t15, _, _, rfl, rfl, (s13.trans (s14.trans s15)) _ _ e12, e15, (by show 12 ≤ sizeLine; decide), fun t16 n16 => ?_⟩
    have s16 : Same G15 (upd G15 t16 (.lst ([V.non, .ref t1, .ref t2, .ref t3, .ref t4, .ref t5, .ref t7, .ref t8, .ref t9, .ref t10] ++ [V.ref t13, .ref t14]))) := same_upd n16
    have e16 : (upd G15 t16 (.lst ([V.non, .ref t1, .ref t2, .ref t3, .ref t4, .ref t5, .ref t7, .ref t8, .ref t9, .ref t10] ++ [V.ref t13, .ref t14]))) t16 = some (.lst [V.non, .ref t1, .ref t2, .ref t3, .ref t4, .ref t5, .ref t7, .ref t8, .ref t9, .ref t10, .ref t13, .ref t14]) := upd_same
    generalize upd G15 t16 (.lst ([V.non, .ref t1, .ref t2, .ref t3, .ref t4, .ref t5, .ref t7, .ref t8, .ref t9, .ref t10] ++ [V.ref t13, .ref t14])) = G16 at *
    obtain ⟨v, hat, hv⟩ := atI_in (xs := [V.non, .ref t1, .ref t2, .ref t3, .ref t4, .ref t5, .ref t7, .ref t8, .ref t9, .ref t10, .ref t13, .ref t14]) (z := c / 5 % 12) (by omega) (by show c / 5 % 12 < 12; omega)
    refine ⟨_, rfl, _, _, rfl, rfl, ⟨by decide, by decide⟩, _, _, rfl, rfl, (by show (0 : Int) < 12; decide), t16, _, _, _, rfl, rfl, sqL_of e16, hat, q _ _ (s1.trans (s2.trans (s3.trans (s4.trans (s5.trans (s6.trans (s7.trans (s8.trans (s9.trans (s10.trans (s11.trans (s12.trans (s13.trans (s14.trans (s15.trans s16))))))))))))))) ?_⟩
    rcases List.mem_cons.mp hv with rfl | hv
    · exact .inr ⟨_, .non, rfl⟩
    rcases List.mem_cons.mp hv with rfl | hv
    · exact .inl ⟨t1, _, rfl, sqT_of ((s2.trans (s3.trans (s4.trans (s5.trans (s6.trans (s7.trans (s8.trans (s9.trans (s10.trans (s11.trans (s12.trans (s13.trans (s14.trans (s15.trans s16)))))))))))))) _ _ e1), scal_all (by decide +kernel), by decide +kernel⟩
    rcases List.mem_cons.mp hv with rfl | hv
    · exact .inl ⟨t2, _, rfl, sqT_of ((s3.trans (s4.trans (s5.trans (s6.trans (s7.trans (s8.trans (s9.trans (s10.trans (s11.trans (s12.trans (s13.trans (s14.trans (s15.trans s16))))))))))))) _ _ e2), scal_all (by decide +kernel), by decide +kernel⟩
    rcases List.mem_cons.mp hv with rfl | hv
    · exact .inr ⟨_, .lst (sqL_of ((s4.trans (s5.trans (s6.trans (s7.trans (s8.trans (s9.trans (s10.trans (s11.trans (s12.trans (s13.trans (s14.trans (s15.trans s16)))))))))))) _ _ e3)), rfl⟩
    rcases List.mem_cons.mp hv with rfl | hv
    · exact .inl ⟨t4, _, rfl, sqT_of ((s5.trans (s6.trans (s7.trans (s8.trans (s9.trans (s10.trans (s11.trans (s12.trans (s13.trans (s14.trans (s15.trans s16))))))))))) _ _ e4), scal_all (by decide +kernel), by decide +kernel⟩
    rcases List.mem_cons.mp hv with rfl | hv
    · exact .inl ⟨t5, _, rfl, sqT_of ((s6.trans (s7.trans (s8.trans (s9.trans (s10.trans (s11.trans (s12.trans (s13.trans (s14.trans (s15.trans s16)))))))))) _ _ e5), scal_all (by decide +kernel), by decide +kernel⟩
    rcases List.mem_cons.mp hv with rfl | hv
    · exact .inl ⟨t7, _, rfl, sqT_of ((s8.trans (s9.trans (s10.trans (s11.trans (s12.trans (s13.trans (s14.trans (s15.trans s16)))))))) _ _ e7), scal_all (by decide +kernel), by decide +kernel⟩
    rcases List.mem_cons.mp hv with rfl | hv
    · exact .inl ⟨t8, _, rfl, sqT_of ((s9.trans (s10.trans (s11.trans (s12.trans (s13.trans (s14.trans (s15.trans s16))))))) _ _ e8), scal_all (by decide +kernel), by decide +kernel⟩
    rcases List.mem_cons.mp hv with rfl | hv
    · exact .inl ⟨t9, _, rfl, sqT_of ((s10.trans (s11.trans (s12.trans (s13.trans (s14.trans (s15.trans s16)))))) _ _ e9), scal_all (by decide +kernel), by decide +kernel⟩
    rcases List.mem_cons.mp hv with rfl | hv
    · exact .inl ⟨t10, _, rfl, sqT_of ((s11.trans (s12.trans (s13.trans (s14.trans (s15.trans s16))))) _ _ e10), scal_all (by decide +kernel), by decide +kernel⟩
    rcases List.mem_cons.mp hv with rfl | hv
    · exact .inl ⟨t13, _, rfl, sqT_of ((s14.trans (s15.trans s16)) _ _ e13), scal_all (by decide +kernel), by decide +kernel⟩
    rw [List.mem_singleton.mp hv]
    exact .inl ⟨t14, _, rfl, sqT_of ((s15.trans s16) _ _ e14), scal_all (by decide +kernel), by decide +kernel⟩
end
end Fb
/-! law_k06: what is refused. -/
namespace Fb
open PySem PySem.Spec PyProof.Rows L2
abbrev lawLevel : Nat := 9
def spLaw (K : PySem.W.Frag) : Sp := fun vs H Q _ => ∃ (a : Addr) (ns : List Int), vs = [.ref a] ∧ SqL K H a (ns.map V.int) ∧ ns.length ≤ 63 ∧ ∀ H', Q (.bl true) H'
/-! ### a thing put into a row -/
theorem cut_drop (xs : List V) (k : Nat) : cutV xs (some (k : Int)) none = xs.drop k := by
  unfold cutV
  rw [show HT.sIx xs.length 0 (some (k : Int)) = min k xs.length from HT.sIx_nat _ _ k, show HT.sIx xs.length xs.length none = xs.length from HT.sIx_none _ _]
  by_cases h : k ≤ xs.length
  · rw [Nat.min_eq_left h, List.take_of_length_le (by rw [List.length_drop]; exact Nat.le_refl _)]
  · rw [Nat.min_eq_right (by omega), List.drop_of_length_le (Nat.le_refl _), List.drop_of_length_le (by omega), List.take_nil]
def spPut (K : PySem.W.Frag) : Sp := fun vs H Q _ => ∃ (r : Addr) (xs : List V) (x : V) (c : Int), vs = [.ref r, x, .int c] ∧ SqL K H r xs ∧ xs.length ≤ 100 ∧ ∀ H' p k, Same H H' → H' p = some (.lst (xs.take k ++ [x] ++ xs.drop k)) → Q (.ref p) H'
section
variable {P : Program} {w : World} {K : PySem.W.Frag} {mg : Str → Option Value} {base : Heap}
theorem cal_law_put {f : Addr} {fd : FuncData} (F : Fn K "_law_put" s_law_put f fd) (g : mg "_law_put" = some (.ref f)) (B : Bi mg) : C8.Cal P w K mg base 1 "_law_put" (spPut K) [] := by
  refine cal_of F g sc_law_put (bi_law_put F) (fun vs H Q E h => ?_) (fun cdv A outer s H vs Q E hr h => ?_)
  · obtain ⟨r, xs, x, c, rfl, _⟩ := h
    rfl
  · obtain ⟨r, xs, x, c, rfl, hS, hl, q⟩ := h
    refine ⟨_, (pss_cons (ps_set (i := 3) sc_law_put.nd rfl (Or.inl rfl) (pe_op op_mod (pv 2) (pe_op op_add (pe_callB (r := rLenS K) call_len_seq (by rfl) B.len PySem.boot_len (pa_cons (pv 0) pa_nil)) pe_int))) (pss_one (ps_ret (pe_op op_cat (pe_op op_cat (pe_slice sl_list (pv 0) po_none (po_some (pv 3))) (pe_lst (pa_cons (pv 1) pa_nil))) (pe_slice sl_list (pv 0) (po_some (pv 3)) po_none))))), ?_⟩
    refine ⟨_, rfl, _, rfl, r, _, rfl, .inl hS, _, _, rfl, rfl, _, _, rfl, rfl, by omega, ?_⟩
    obtain ⟨k, hk⟩ : ∃ k : Nat, c % ((xs.length : Int) + 1) = k := ⟨(c % ((xs.length : Int) + 1)).toNat, by have := Int.emod_nonneg c (show (xs.length : Int) + 1 ≠ 0 by omega); omega⟩
    refine ⟨_, rfl, _, rfl, _, rfl, r, _, rfl, hS, fun p1 n1 => ?_⟩
    rw [hk, cut_take]
    have s1 : Same H (upd H p1 (.lst (xs.take k))) := same_upd n1
    have e1 : (upd H p1 (.lst (xs.take k))) p1 = some (.lst (xs.take k)) := upd_same
    generalize upd H p1 (.lst (xs.take k)) = G1 at *
    refine ⟨_, rfl, (by show 1 ≤ sizeLine; decide), fun p2 n2 => ?_⟩
    have s2 : Same G1 (upd G1 p2 (.lst [x])) := same_upd n2
    have e2 : (upd G1 p2 (.lst [x])) p2 = some (.lst [x]) := upd_same
    generalize upd G1 p2 (.lst [x]) = G2 at *
    refine ⟨p1, p2, _, _, rfl, rfl, s2 _ _ e1, e2, ?_, fun p3 n3 => ?_⟩
    · rw [List.length_take]
      have : sizeLine = 16777216 := sizeLine_eq
      show _ + 1 ≤ _
      omega
    have s3 : Same G2 (upd G2 p3 (.lst (xs.take k ++ [x]))) := same_upd n3
    have e3 : (upd G2 p3 (.lst (xs.take k ++ [x]))) p3 = some (.lst (xs.take k ++ [x])) := upd_same
    generalize upd G2 p3 (.lst (xs.take k ++ [x])) = G3 at *
    have S3 := (s1.trans s2).trans s3
    refine ⟨_, rfl, _, rfl, _, rfl, r, _, rfl, S3.seq hS, fun p4 n4 => ?_⟩
    rw [hk, cut_drop]
    have s4 : Same G3 (upd G3 p4 (.lst (xs.drop k))) := same_upd n4
    have e4 : (upd G3 p4 (.lst (xs.drop k))) p4 = some (.lst (xs.drop k)) := upd_same
    generalize upd G3 p4 (.lst (xs.drop k)) = G4 at *
    refine ⟨p3, p4, _, _, rfl, rfl, s4 _ _ e3, e4, ?_, fun p5 n5 => q _ p5 k ((S3.trans s4).trans (same_upd n5)) upd_same⟩
    rw [List.length_append, List.length_take, List.length_drop]
    have : sizeLine = 16777216 := sizeLine_eq
    show min k xs.length + 1 + _ ≤ _
    omega
end
/-! ### what rides and trips say of themselves -/
section
variable {K : PySem.W.Frag} {g : List V → Bool} {H H' : Hp}
theorem verd_app {xs ys : List V} {bs cs : List Bool} (u : Verd K g H xs bs) (v : Verd K g H ys cs) : Verd K g H (xs ++ ys) (bs ++ cs) := by
  refine ⟨by rw [List.length_append, List.length_append, u.1, v.1], fun i x b h1 h2 => ?_⟩
  by_cases hi : i < xs.length
  · rw [List.getElem?_append_left hi] at h1
    rw [List.getElem?_append_left (u.1 ▸ hi)] at h2
    exact u.2 i x b h1 h2
  · rw [List.getElem?_append_right (Nat.le_of_not_lt hi)] at h1
    rw [List.getElem?_append_right (u.1 ▸ Nat.le_of_not_lt hi), ← u.1] at h2
    exact v.2 _ x b h1 h2
theorem verd_take {xs : List V} {bs : List Bool} (u : Verd K g H xs bs) (k : Nat) : Verd K g H (xs.take k) (bs.take k) := by
  refine ⟨by rw [List.length_take, List.length_take, u.1], fun i x b h1 h2 => ?_⟩
  rw [List.getElem?_take] at h1 h2
  by_cases hi : i < k
  · rw [if_pos hi] at h1 h2
    exact u.2 i x b h1 h2
  · rw [if_neg hi] at h1
    cases h1
theorem verd_drop {xs : List V} {bs : List Bool} (u : Verd K g H xs bs) (k : Nat) : Verd K g H (xs.drop k) (bs.drop k) := by
  refine ⟨by rw [List.length_drop, List.length_drop, u.1], fun i x b h1 h2 => ?_⟩
  rw [List.getElem?_drop] at h1 h2
  exact u.2 _ x b h1 h2
theorem verd_one {v : V} (o : OddV K g H v) : Verd K g H [v] [false] := ⟨rfl, fun i x b h1 h2 => by
  cases i with
  | zero =>
    cases h1
    cases h2
    exact o.imp id fun ⟨k, p, h⟩ => ⟨k, p, h, rfl⟩
  | succ i => simp at h1⟩
theorem verd_put {xs : List V} {bs : List Bool} {v : V} (u : Verd K g H xs bs) (o : OddV K g H v) (k : Nat) : ∃ cs, Verd K g H (xs.take k ++ [v] ++ xs.drop k) cs ∧ false ∈ cs := ⟨bs.take k ++ [false] ++ bs.drop k, verd_app (verd_app (verd_take u k) (verd_one o)) (verd_drop u k), by simp⟩
theorem verd_of {β : Type} {f : β → List V} {qs : List Addr} {xs : List β} (t : Tups K H f qs xs) (h : ∀ x ∈ xs, g (f x) = true ∧ (f x).all scal = true) : Verd K g H (qs.map V.ref) (xs.map fun _ => true) := by
  refine ⟨by rw [List.length_map, List.length_map, t.1], fun i x b h1 h2 => ?_⟩
  obtain ⟨q, y, rfl, hy, hs⟩ := t.at h1
  rw [List.getElem?_map, hy] at h2
  cases h2
  have hh := h y (List.mem_of_getElem? hy)
  exact .inl ⟨q, _, rfl, hs, scal_all hh.2, hh.1⟩
end
theorem scal_place {z : Str} (h : okPlace z) : scal (.str z) = true := decide_eq_true (Nat.le_trans h.2.1 (by decide))
theorem ride_ok {r : Ride} (h : okRide r) : rideB (rideV r) = true ∧ (rideV r).all scal = true := by
  refine ⟨rideB_ok h, ?_⟩
  show (scal (.str r.1) && (scal (.str r.2.1) && _)) = true
  rw [scal_place h.1, scal_place h.2.1]
  rfl
theorem trip_ok {t : Trip} (h : okTrip t) : tripB (tripV t) = true ∧ (tripV t).all scal = true := by
  refine ⟨tripB_ok h, ?_⟩
  show (scal (.str t.1) && (scal (.int _) && (scal (.str t.2.2.1) && _))) = true
  rw [scal_place h.1, scal_place h.2.1]
  rfl
theorem no_false {β : Type} (xs : List β) : false ∉ xs.map fun _ => true := fun h => by
  obtain ⟨_, _, e⟩ := List.mem_map.mp h
  cases e
def menuR : List Ride := [("a", "b", 3), ("b", "a", 9999), ("c", "ab", 1), ("a", "b", 2)]
def menuT : List Trip := [("a", 0, "b", 5), ("b", 99998, "b", 99999), ("c", 7, "a", 8)]
theorem menuR_ok : ∀ r ∈ menuR, okRide r := by
  unfold okRide okPlace
  decide +kernel
theorem menuT_ok : ∀ t ∈ menuT, okTrip t := by
  unfold okTrip okPlace
  decide +kernel
/-! ### a place, a number -/
structure AskP (K : PySem.W.Frag) (b : Bool) (n : Nat) (x y : V) (d : PyData) : Prop where
  sx : scal x = true
  px : b = true → isPlace x = false
  zz : b = false → x = .str "zz"
  dy : ∀ H, Dp K H y d
  sy : Sm 1 d
  ny : b = true → isWhole y 0 ((n : Int) - 1) = false
  zero : b = false → y = .int 0
theorem in_pl {w : Int} : inV (.int w) [.int 1, .int 2, .int 3, .int 8] = true ↔ wPl w := by
  unfold wPl
  simp only [inV, List.any_cons, List.any_nil, eqV, Bool.or_false, Bool.or_eq_true, beq_iff_eq]
  omega
theorem in_nm {w : Int} : inV (.int w) [.int 4, .int 5, .int 6, .int 9] = true ↔ wNm w := by
  unfold wNm
  simp only [inV, List.any_cons, List.any_nil, eqV, Bool.or_false, Bool.or_eq_true, beq_iff_eq]
  omega
/-- what is due of what is in form -/
def Due (w : Int) (b : Bool) (n : Nat) (δ : Int) : Prop := (wPl w ∧ b = true ∧ δ = 2) ∨ (wNm w ∧ (b = true ∨ n = 0) ∧ δ = 3) ∨ ((wPl w → b = false) ∧ (wNm w → b = false ∧ 0 < n) ∧ δ = -1)
/-- all as it stands ahead of the try -/
def Stand (K : PySem.W.Frag) (H : Hp) (r t : Addr) (w δ : Int) (b : Bool) (n : Nat) : Prop := (δ = 0 ∧ BadA K H r t True False) ∨ (δ = 1 ∧ BadA K H r t False True) ∨ (∃ rides trips, Told2 K H r t rides trips ∧ trips.length = n ∧ Due w b n δ)
theorem BadA.same {K : PySem.W.Frag} {H H' : Hp} {r t : Addr} {A B : Prop} (h : BadA K H r t A B) (s : Same H H') : BadA K H' r t A B := by
  obtain ⟨xs, ys, bs, cs, h1, h2, v1, v2, h⟩ := h
  exact ⟨xs, ys, bs, cs, s.seq h1, s.seq h2, v1.same s, v2.same s, h⟩
theorem Stand.same {K : PySem.W.Frag} {H H' : Hp} {r t : Addr} {w δ : Int} {b : Bool} {n : Nat} (h : Stand K H r t w δ b n) (s : Same H H') : Stand K H' r t w δ b n := by
  rcases h with ⟨e, h⟩ | ⟨e, h⟩ | ⟨rides, trips, T, h⟩
  · exact .inl ⟨e, h.same s⟩
  · exact .inr (.inl ⟨e, h.same s⟩)
  · exact .inr (.inr ⟨rides, trips, T.same s, h⟩)
theorem BadA.imp {K : PySem.W.Frag} {H : Hp} {r t : Addr} {A B A' B' : Prop} (h : BadA K H r t A B) (f : A → A') (g : B → B') : BadA K H r t A' B' := by
  obtain ⟨xs, ys, bs, cs, h1, h2, v1, v2, h⟩ := h
  exact ⟨xs, ys, bs, cs, h1, h2, v1, v2, h.imp (fun ⟨a, b⟩ => ⟨a, f b⟩) fun ⟨a, b, c⟩ => ⟨a, b, g c⟩⟩
theorem asked_any {K : PySem.W.Frag} {H : Hp} {r t : Addr} {w δ : Int} {b : Bool} {n : Nat} {x y : V} {d : PyData} {C : Nat → Addr} {Q : VK} {E : XK} (p : AskP K b n x y d) (h : Stand K H r t w δ b n)
    (hQ : δ = -1 → ∀ v H', Q v H') (hE : ∀ j, j < 5 → (j = 4 → δ = -1 ∧ w = 6) → (j < 4 → δ = (j : Nat)) → ∀ H', E (.ref (C j)) none H') : spAsked K (C 0) (C 1) (C 2) (C 3) (C 4) [.int w, .ref r, .ref t, x, y] H Q E := by
  obtain ⟨kx, px⟩ := scal_plain (K := K) (H := H) p.sx
  refine ⟨w, r, t, x, y, kx, d, rfl, px, p.dy H, p.sy, ?_⟩
  rcases h with ⟨e, h⟩ | ⟨e, h⟩ | ⟨rides, trips, T, hn, h⟩
  · exact .inl (h.imp (fun _ => hE 0 (by decide) (by omega) (fun _ => by omega)) False.elim)
  · exact .inl (h.imp False.elim fun _ => hE 1 (by decide) (by omega) (fun _ => by omega))
  · refine .inr ⟨rides, trips, T, ?_⟩
    rcases h with ⟨h1, h2, h3⟩ | ⟨h1, h2, h3⟩ | ⟨h1, h2, h3⟩
    · exact .inl ⟨h1, p.px h2, hE 2 (by decide) (by omega) (fun _ => by omega)⟩
    · refine .inr (.inl ⟨h1, ?_, hE 3 (by decide) (by omega) (fun _ => by omega)⟩)
      rw [hn]
      cases hb : b with
      | true => exact p.ny hb
      | false =>
        rw [p.zero hb]
        have hz : n = 0 := h2.resolve_left fun z => by rw [z] at hb; cases hb
        rw [hz]
        rfl
    · refine .inr (.inr ⟨fun z => ⟨"zz", p.zz (h1 z), ⟨by decide +kernel, by decide +kernel, by decide +kernel⟩⟩, fun z => ⟨p.zero (h2 z).1, by rw [hn]; exact (h2 z).2⟩, hQ h3, fun z => hE 4 (by decide) (fun _ => ⟨h3, z⟩) (fun z => by omega)⟩)
/-! ### marks -/
def marksD (j : Nat) : List PyData := [.bool (decide (j = 0)), .bool (decide (j = 1)), .bool (decide (j = 2)), .bool (decide (j = 3)), .bool (decide (j = 4))]
theorem marks_dp {K : PySem.W.Frag} {H : Hp} (j : Nat) : DpAll K H (marksV j) (marksD j) := .cons (.bl _) (.cons (.bl _) (.cons (.bl _) (.cons (.bl _) (.cons (.bl _) .nil))))
theorem bl_dp {K : PySem.W.Frag} {H : Hp} : ∀ l : List Bool, DpAll K H (l.map V.bl) (l.map PyData.bool)
  | [] => .nil
  | _ :: l => .cons (.bl _) (bl_dp l)
theorem bl_sh (l : List Bool) : Sh 1 (.list (l.map PyData.bool)) := sh_list fun d hd => by
  obtain ⟨b, _, rfl⟩ := List.mem_map.mp hd
  exact sh_bool b
theorem marks_sh (j : Nat) : Sh 1 (.list (marksD j)) := bl_sh [decide (j = 0), decide (j = 1), decide (j = 2), decide (j = 3), decide (j = 4)]
theorem marks_late {j : Nat} (h : j < 5) : PyData.eqv (.list (marksD j)) (.list [.bool false, .bool false, .bool false, .bool false, .bool true]) = decide (j = 4) := by
  match j, h with
  | 0, _ => simp [marksD, PyData.eqv, PyData.eqvAll]
  | 1, _ => simp [marksD, PyData.eqv, PyData.eqvAll]
  | 2, _ => simp [marksD, PyData.eqv, PyData.eqvAll]
  | 3, _ => simp [marksD, PyData.eqv, PyData.eqvAll]
  | 4, _ => simp [marksD, PyData.eqv, PyData.eqvAll]
theorem marks_eq {j : Nat} (h : j < 4) : (((List.range 5).map fun k : Nat => decide (V.int (0 + (k : Int)) = V.int (j : Int))).map PyData.bool) = marksD j := by
  match j, h with
  | 0, _ => rfl
  | 1, _ => rfl
  | 2, _ => rfl
  | 3, _ => rfl
theorem takes0N {X : Cx} : L2N.Takes X (fun _ _ _ _ => False) := fun u s' x => by
  obtain ⟨_, _, _, _, _, _, _, _, _, _, _, _, _, _, _, _, z⟩ := x
  exact z.elim
end Fb
/-! law_k06: the law's walk. -/
namespace Fb
open PySem PySem.Spec PyProof.Rows L2
section
variable {P : Program} {w : World} {K : PySem.W.Frag} {mg : Str → Option Value} {base : Heap}
theorem cal_law {f fM CB : Addr} {fd fdM : FuncData} {C : Nat → Addr} (F : Fn K "law" s_law f fd) (B : Bi mg) (c_cell : C8.Cal P w K mg base 1 "_law_cell_at" (spCellAt K) []) (c_put : C8.Cal P w K mg base 1 "_law_put" (spPut K) []) (c_odd_ride : C8.Cal P w K mg base 2 "_law_odd_ride" (spOddV K rideB) []) (c_odd_trip : C8.Cal P w K mg base 2 "_law_odd_trip" (spOddV K tripB) [])
    (c_asked : CalX P w K mg base 8 "_law_asked" (spAsked K (C 0) (C 1) (C 2) (C 3) (C 4))) (FM : FnM P w K mg base 1 fM fdM ["_law_e"] (spMarksM C)) (gM : mg "_law_marks" = some (.ref fM)) (kM : PySem.W.keepIn K (.ref fM) = true) (bM : Binds K fdM ["_law_e"] [])
    (gB : mg "BusError" = some (.ref CB)) (te : ∀ j, j < 5 → PySem.W.exmOne K (.ref (C j)) (.ref CB) = some true) (V5 : Five K C) (fV : mg "ValueError" = none) : FnOk P w K mg base CX0 9 f fd ["_law_script"] (spLaw K) := by
  refine F.ok sc_law (fun vs H Q E h => ?_) (fun cdv A outer s H vs Q E hr h => ?_)
  · obtain ⟨a, ns, rfl, _⟩ := h
    rfl
  · obtain ⟨a, ns, rfl, hS, hlen, q⟩ := h
    have hH : L2H.RoomH 1 _ := (L2H.roomH_of hr).mono (by decide)
    refine ⟨_, PSs.nox (pss_cons (ps_set (i := 1) sc_law.nd rfl (Or.inl rfl) (C8.pe_c c_cell hr (by decide) (by rfl) (pa_cons (pv 0) (pa_cons pe_int pa_nil)))) (pss_cons (ps_set (i := 2) sc_law.nd rfl (Or.inl rfl) (pe_slice sl_list (pe_lst (pa_cons (pe_tup (pa_cons pe_str (pa_cons pe_str (pa_cons pe_int pa_nil)))) (pa_cons (pe_tup (pa_cons pe_str (pa_cons pe_str (pa_cons pe_int pa_nil)))) (pa_cons (pe_tup (pa_cons pe_str (pa_cons pe_str (pa_cons pe_int pa_nil)))) (pa_cons (pe_tup (pa_cons pe_str (pa_cons pe_str (pa_cons pe_int pa_nil)))) pa_nil))))) po_none (po_some (pe_op op_mod (pv 1) pe_int)))) (pss_cons (ps_set (i := 3) sc_law.nd rfl (Or.inl rfl) (pe_slice sl_list (pe_lst (pa_cons (pe_tup (pa_cons pe_str (pa_cons pe_int (pa_cons pe_str (pa_cons pe_int pa_nil))))) (pa_cons (pe_tup (pa_cons pe_str (pa_cons pe_int (pa_cons pe_str (pa_cons pe_int pa_nil))))) (pa_cons (pe_tup (pa_cons pe_str (pa_cons pe_int (pa_cons pe_str (pa_cons pe_int pa_nil))))) pa_nil)))) po_none (po_some (pe_op op_mod (pe_op op_fdiv (pv 1) pe_int) pe_int)))) (pss_cons (ps_set (i := 4) sc_law.nd rfl (Or.inl rfl) (C8.pe_c c_cell hr (by decide) (by rfl) (pa_cons (pv 0) (pa_cons pe_int pa_nil)))) (pss_cons (ps_set (i := 5) sc_law.nd rfl (Or.inr rfl) (pe_un un_neg pe_int)) (pss_cons (ps_set (i := 6) sc_law.nd rfl (Or.inl rfl) (pe_op op_mod (C8.pe_c c_cell hr (by decide) (by rfl) (pa_cons (pv 0) (pa_cons pe_int pa_nil))) pe_int)) (pss_cons (ps_set (i := 7) sc_law.nd rfl (Or.inl rfl) (pe_cmpR op_eq (pe_op op_mod (pv 4) pe_int) pe_int (nomark _))) (pss_cons (ps_set (i := 8) sc_law.nd rfl (Or.inl rfl) pe_str) (pss_cons (ps_set (i := 9) sc_law.nd rfl (Or.inl rfl) pe_int) (C8.pss_cut (ps_if (pt_val (pv 7)) (pss_cons (ps_set (i := 8) sc_law.nd rfl (Or.inl rfl) (pe_ix (r := rIxL K) ix_list (pe_lst (pa_cons pe_str (pa_cons pe_str (pa_cons pe_str (pa_cons (pe_op op_mul_sign pe_str pe_int) (pa_cons pe_non (pa_cons pe_int (pa_cons pe_bl (pa_cons pe_str pa_nil))))))))) (pe_op op_mod (pe_op op_fdiv (pv 4) pe_int) pe_int) (fun _ _ => rfl))) (pss_one (ps_set (i := 9) sc_law.nd rfl (Or.inl rfl) (pe_ix (r := rIxL K) ix_list (pe_lst (pa_cons (pe_un un_neg pe_int) (pa_cons (pe_callB (r := rLenS K) call_len_seq (by rfl) B.len PySem.boot_len (pa_cons (pv 3) pa_nil)) (pa_cons pe_int (pa_cons pe_bl (pa_cons pe_bl (pa_cons pe_non (pa_cons pe_str pa_nil)))))))) (pe_op op_mod (pe_op op_fdiv (pv 4) pe_int) pe_int) (fun _ _ => rfl))))) pss_nil) (C8.pss_cut (ps_if (PW.pt (pw_and (pt_cmpR (r := rIn K false) op_in_seq (pv 6) (pe_tup (pa_cons pe_int (pa_cons pe_int (pa_cons pe_int (pa_cons pe_int pa_nil))))) (by rfl)) (pw_and1 (pt_val (pv 7))))) (pss_one (ps_set (i := 5) sc_law.nd rfl (Or.inr rfl) pe_int)) pss_nil) (C8.pss_cut (ps_if (PW.pt (pw_and (pt_cmpR (r := rIn K false) op_in_seq (pv 6) (pe_tup (pa_cons pe_int (pa_cons pe_int (pa_cons pe_int (pa_cons pe_int pa_nil))))) (by rfl)) (pw_and1 (PW.pt (pw_or (pt_val (pv 7)) (pw_or1 (pt_cmpR (op_eqD hr.units) (pv 3) (pe_lst pa_nil) (nomark _)))))))) (pss_one (ps_set (i := 5) sc_law.nd rfl (Or.inr rfl) pe_int)) pss_nil) (C8.pss_cut (ps_if (pt_cmpR op_eq (pe_op op_mod (C8.pe_c c_cell hr (by decide) (by rfl) (pa_cons (pv 0) (pa_cons pe_int pa_nil))) pe_int) pe_int (nomark _)) (pss_cons (ps_set (i := 3) sc_law.nd rfl (Or.inl rfl) (C8.pe_c c_put hr (by decide) (by rfl) (pa_cons (pv 3) (pa_cons (C8.pe_c c_odd_trip hr (by decide) (by rfl) (pa_cons (C8.pe_c c_cell hr (by decide) (by rfl) (pa_cons (pv 0) (pa_cons pe_int pa_nil))) pa_nil)) (pa_cons (pe_op op_fdiv (C8.pe_c c_cell hr (by decide) (by rfl) (pa_cons (pv 0) (pa_cons pe_int pa_nil))) pe_int) pa_nil))))) (pss_one (ps_set (i := 5) sc_law.nd rfl (Or.inr rfl) pe_int))) pss_nil) (C8.pss_cut (ps_if (pt_cmpR op_eq (pe_op op_mod (C8.pe_c c_cell hr (by decide) (by rfl) (pa_cons (pv 0) (pa_cons pe_int pa_nil))) pe_int) pe_int (nomark _)) (pss_cons (ps_set (i := 2) sc_law.nd rfl (Or.inl rfl) (C8.pe_c c_put hr (by decide) (by rfl) (pa_cons (pv 2) (pa_cons (C8.pe_c c_odd_ride hr (by decide) (by rfl) (pa_cons (C8.pe_c c_cell hr (by decide) (by rfl) (pa_cons (pv 0) (pa_cons pe_int pa_nil))) pa_nil)) (pa_cons (pe_op op_fdiv (C8.pe_c c_cell hr (by decide) (by rfl) (pa_cons (pv 0) (pa_cons pe_int pa_nil))) pe_int) pa_nil))))) (pss_one (ps_set (i := 5) sc_law.nd rfl (Or.inr rfl) pe_int))) pss_nil) (pss_cons (ps_set (i := 10) sc_law.nd rfl (Or.inl rfl) (pe_op op_rep (pe_lst (pa_cons pe_bl pa_nil)) pe_int)) (pss_cons (L2N.ps_try_as (i := 11) (tb := fun W => _) (ts := fun a cls d => _) (Wout := fun _ _ _ _ => False) rfl rfl sc_law.nd rfl rfl ⟨rfl, by decide, Or.inl gB⟩ takes0N (fun W pn xe tk _ => (pss_one (ps_expr (by exact (pe_cX c_asked hr (by decide) tk (by rfl) (by exact (pa_cons (pv 6) (pa_cons (pv 2) (pa_cons (pv 3) (pa_cons (pv 8) (pa_cons (pv 9) pa_nil))))))))))) (fun a oe cls d pn hz hf => (pss_cons (ps_set (i := 10) sc_law.nd rfl (Or.inl rfl) (pe_callM (sp' := spMarks C a cls d) (a, oe) List.mem_cons_self (fun _ _ _ h => ⟨cls, d, hz.1, hz.2.1, hf, h⟩) FM ⟨hH.dp, hH.un⟩ (by rfl) gM kM bM (pa_cons (pv 11) pa_nil))) (pss_cons (ps_if (pt_cmpR (r := rEqD K) (op_eqD hr.units) (pv 10) (pe_lst (pa_cons pe_bl (pa_cons pe_bl (pa_cons pe_bl (pa_cons pe_bl (pa_cons pe_bl pa_nil)))))) (nomark _)) (pss_one (ps_ret (pe_and (pe_cmpR op_eq (pv 5) (pe_un un_neg pe_int) (nomark _)) (pe_and (pe_cmpR op_eq (pv 6) pe_int (nomark _)) (pe_one (pe_callB (r := rIsY K a cls d) (call_isY List.mem_cons_self hz hf) (by rfl) B.isi (by decide +kernel) (pa_cons (pv 11) (pa_cons (pe_bltn (v := .ty "ValueError") (u := .type "ValueError") (by rfl) fV (by decide +kernel) (by rfl)) pa_nil)))))))) pss_nil) (pss_one (ps_ret (pe_and (pe_cmpR (r := rEqD K) (op_eqD hr.units) (pv 10) (pe_lcH (own := [("_law_k", 12)]) (g := gName 12) ⟨(a, oe), ⟨rfl, hf.elim fun vs e => ⟨vs, e, hz.2.2 vs e⟩⟩, List.mem_cons_self⟩ sc_law.nd (L2H.pi_range1H (by rfl) B.range (pa_cons pe_int pa_nil)) (blkOk_by (N := ["_law_script", "_law_first", "_law_rides", "_law_trips", "_law_second", "_law_due", "_law_way_by", "_law_bad", "_law_place", "_law_number", "_law_marks_here", "_law_e", "_law_k"]) (sc := defScope s_law) (by decide +kernel)) (fun _ _ _ _ _ _ => pg_name (i := 12) sc_law.nd rfl (Or.inl rfl)) (fun _ _ _ _ _ _ => (pe_cmpR op_eq (pv 12) (pv 5) (nomark _)))) (nomark _)) (pe_one (pe_callB (r := rIsY K a cls d) (call_isY List.mem_cons_self hz hf) (by rfl) B.isi (by decide +kernel) (pa_cons (pv 11) (pa_cons (pe_bltn (v := .ty "ValueError") (u := .type "ValueError") (by rfl) fV (by decide +kernel) (by rfl)) pa_nil))))))))))) (pss_one (ps_ret (pe_cmpR op_eq (pv 5) (pe_un un_neg pe_int) (nomark _)))))))))))))))))))), ?_⟩
    refine ⟨_, rfl, a, ns, 0, rfl, hS, by omega, ?_⟩
    -- the menus
    refine ⟨(by show 3 ≤ sizeLine; decide), fun t1 n1 => ?_⟩
    have s1 : Same H (upd H t1 (.tup [.str "a", .str "b", .int 3])) := same_upd n1
    have e1 : (upd H t1 (.tup [.str "a", .str "b", .int 3])) t1 = some (.tup [.str "a", .str "b", .int 3]) := upd_same
    generalize upd H t1 (.tup [.str "a", .str "b", .int 3]) = G1 at *
    refine ⟨(by show 3 ≤ sizeLine; decide), fun t2 n2 => ?_⟩
    have s2 : Same G1 (upd G1 t2 (.tup [.str "b", .str "a", .int 9999])) := same_upd n2
    have e2 : (upd G1 t2 (.tup [.str "b", .str "a", .int 9999])) t2 = some (.tup [.str "b", .str "a", .int 9999]) := upd_same
    generalize upd G1 t2 (.tup [.str "b", .str "a", .int 9999]) = G2 at *
    refine ⟨(by show 3 ≤ sizeLine; decide), fun t3 n3 => ?_⟩
    have s3 : Same G2 (upd G2 t3 (.tup [.str "c", .str "ab", .int 1])) := same_upd n3
    have e3 : (upd G2 t3 (.tup [.str "c", .str "ab", .int 1])) t3 = some (.tup [.str "c", .str "ab", .int 1]) := upd_same
    generalize upd G2 t3 (.tup [.str "c", .str "ab", .int 1]) = G3 at *
    refine ⟨(by show 3 ≤ sizeLine; decide), fun t4 n4 => ?_⟩
    have s4 : Same G3 (upd G3 t4 (.tup [.str "a", .str "b", .int 2])) := same_upd n4
    have e4 : (upd G3 t4 (.tup [.str "a", .str "b", .int 2])) t4 = some (.tup [.str "a", .str "b", .int 2]) := upd_same
    generalize upd G3 t4 (.tup [.str "a", .str "b", .int 2]) = G4 at *
    refine ⟨(by show 4 ≤ sizeLine; decide), fun t5 n5 => ?_⟩
    have s5 : Same G4 (upd G4 t5 (.lst [V.ref t1, .ref t2, .ref t3, .ref t4])) := same_upd n5
    have e5 : (upd G4 t5 (.lst [V.ref t1, .ref t2, .ref t3, .ref t4])) t5 = some (.lst [V.ref t1, .ref t2, .ref t3, .ref t4]) := upd_same
    generalize upd G4 t5 (.lst [V.ref t1, .ref t2, .ref t3, .ref t4]) = G5 at *
    obtain ⟨kr, hkr⟩ : ∃ k : Nat, cellAt ns 0 % 5 = k := ⟨(cellAt ns 0 % 5).toNat, by omega⟩
    refine ⟨_, rfl, _, _, rfl, rfl, (by show (0 : Int) < 5; decide), _, rfl, t5, _, rfl, sqL_of e5, fun r nr => ?_⟩
    rw [hkr, cut_take]
    have s6 : Same G5 (upd G5 r (.lst ([V.ref t1, .ref t2, .ref t3, .ref t4].take kr))) := same_upd nr
    have e6 : (upd G5 r (.lst ([V.ref t1, .ref t2, .ref t3, .ref t4].take kr))) r = some (.lst ([V.ref t1, .ref t2, .ref t3, .ref t4].take kr)) := upd_same
    generalize upd G5 r (.lst ([V.ref t1, .ref t2, .ref t3, .ref t4].take kr)) = G6 at *
    refine ⟨(by show 4 ≤ sizeLine; decide), fun t7 n7 => ?_⟩
    have s7 : Same G6 (upd G6 t7 (.tup [.str "a", .int 0, .str "b", .int 5])) := same_upd n7
    have e7 : (upd G6 t7 (.tup [.str "a", .int 0, .str "b", .int 5])) t7 = some (.tup [.str "a", .int 0, .str "b", .int 5]) := upd_same
    generalize upd G6 t7 (.tup [.str "a", .int 0, .str "b", .int 5]) = G7 at *
    refine ⟨(by show 4 ≤ sizeLine; decide), fun t8 n8 => ?_⟩
    have s8 : Same G7 (upd G7 t8 (.tup [.str "b", .int 99998, .str "b", .int 99999])) := same_upd n8
    have e8 : (upd G7 t8 (.tup [.str "b", .int 99998, .str "b", .int 99999])) t8 = some (.tup [.str "b", .int 99998, .str "b", .int 99999]) := upd_same
    generalize upd G7 t8 (.tup [.str "b", .int 99998, .str "b", .int 99999]) = G8 at *
    refine ⟨(by show 4 ≤ sizeLine; decide), fun t9 n9 => ?_⟩
    have s9 : Same G8 (upd G8 t9 (.tup [.str "c", .int 7, .str "a", .int 8])) := same_upd n9
    have e9 : (upd G8 t9 (.tup [.str "c", .int 7, .str "a", .int 8])) t9 = some (.tup [.str "c", .int 7, .str "a", .int 8]) := upd_same
    generalize upd G8 t9 (.tup [.str "c", .int 7, .str "a", .int 8]) = G9 at *
    refine ⟨(by show 3 ≤ sizeLine; decide), fun t10 n10 => ?_⟩
    have s10 : Same G9 (upd G9 t10 (.lst [V.ref t7, .ref t8, .ref t9])) := same_upd n10
    have e10 : (upd G9 t10 (.lst [V.ref t7, .ref t8, .ref t9])) t10 = some (.lst [V.ref t7, .ref t8, .ref t9]) := upd_same
    generalize upd G9 t10 (.lst [V.ref t7, .ref t8, .ref t9]) = G10 at *
    obtain ⟨kt, hkt⟩ : ∃ k : Nat, cellAt ns 0 / 5 % 4 = k := ⟨(cellAt ns 0 / 5 % 4).toNat, by omega⟩
    refine ⟨_, rfl, _, _, rfl, rfl, ⟨by decide, by decide⟩, _, _, rfl, rfl, (by show (0 : Int) < 4; decide), _, rfl, t10, _, rfl, sqL_of e10, fun t nt => ?_⟩
    rw [hkt, cut_take]
    have s11 : Same G10 (upd G10 t (.lst ([V.ref t7, .ref t8, .ref t9].take kt))) := same_upd nt
    have e11 : (upd G10 t (.lst ([V.ref t7, .ref t8, .ref t9].take kt))) t = some (.lst ([V.ref t7, .ref t8, .ref t9].take kt)) := upd_same
    generalize upd G10 t (.lst ([V.ref t7, .ref t8, .ref t9].take kt)) = G11 at *
    have w611 := (s7.trans s8).trans ((s9.trans s10).trans s11)
    have w11 := ((s5.trans s6).trans w611)
    have S11 : Same H G11 := ((s1.trans s2).trans (s3.trans s4)).trans w11
    have tr0 : Tups K G11 rideV [] [] := Tups.nil
    have tr1 : Tups K G11 rideV [t1] [("a", "b", 3)] := tr0.add (q := t1) (x := ("a", "b", 3)) (sqT_of (((s2.trans (s3.trans s4)).trans w11) _ _ e1))
    have tr2 : Tups K G11 rideV [t1, t2] [("a", "b", 3), ("b", "a", 9999)] := tr1.add (q := t2) (x := ("b", "a", 9999)) (sqT_of (((s3.trans s4).trans w11) _ _ e2))
    have tr3 : Tups K G11 rideV [t1, t2, t3] [("a", "b", 3), ("b", "a", 9999), ("c", "ab", 1)] := tr2.add (q := t3) (x := ("c", "ab", 1)) (sqT_of ((s4.trans w11) _ _ e3))
    have tr4 : Tups K G11 rideV [t1, t2, t3, t4] [("a", "b", 3), ("b", "a", 9999), ("c", "ab", 1), ("a", "b", 2)] := tr3.add (q := t4) (x := ("a", "b", 2)) (sqT_of (w11 _ _ e4))
    have tr : Tups K G11 rideV [t1, t2, t3, t4] menuR := tr4
    have tt0 : Tups K G11 tripV [] [] := Tups.nil
    have tt1 : Tups K G11 tripV [t7] [("a", 0, "b", 5)] := tt0.add (q := t7) (x := ("a", 0, "b", 5)) (sqT_of (((s8.trans (s9.trans s10)).trans s11) _ _ e7))
    have tt2 : Tups K G11 tripV [t7, t8] [("a", 0, "b", 5), ("b", 99998, "b", 99999)] := tt1.add (q := t8) (x := ("b", 99998, "b", 99999)) (sqT_of (((s9.trans s10).trans s11) _ _ e8))
    have tt3 : Tups K G11 tripV [t7, t8, t9] [("a", 0, "b", 5), ("b", 99998, "b", 99999), ("c", 7, "a", 8)] := tt2.add (q := t9) (x := ("c", 7, "a", 8)) (sqT_of ((s10.trans s11) _ _ e9))
    have tt : Tups K G11 tripV [t7, t8, t9] menuT := tt3
    clear tr0 tr1 tr2 tr3 tr4 tt0 tt1 tt2 tt3
    have er : G11 r = some (.lst (([t1, t2, t3, t4].take kr).map V.ref)) := by
      rw [List.map_take]
      exact w611 _ _ e6
    have et : G11 t = some (.lst (([t7, t8, t9].take kt).map V.ref)) := by
      rw [List.map_take]
      exact e11
    have tr := tr.take kr
    have tt := tt.take kt
    have okR : ∀ x ∈ menuR.take kr, okRide x := fun x hx => menuR_ok x (List.mem_of_mem_take hx)
    have okT : ∀ x ∈ menuT.take kt, okTrip x := fun x hx => menuT_ok x (List.mem_of_mem_take hx)
    have lR : (menuR.take kr).length ≤ 4 := by
      rw [List.length_take]
      exact Nat.le_trans (Nat.min_le_right _ _) (by decide)
    have lT : (menuT.take kt).length ≤ 3 := by
      rw [List.length_take]
      exact Nat.le_trans (Nat.min_le_right _ _) (by decide)
    clear e1 e2 e3 e4 e5 e6 e7 e8 e9 e10 e11 s1 s2 s3 s4 s5 s6 s7 s8 s9 s10 s11 w611 w11 n1 n2 n3 n4 n5 n7 n8 n9 n10 nr nt
    generalize menuR.take kr = rides at *
    generalize menuT.take kt = trips at *
    generalize [t1, t2, t3, t4].take kr = qr at *
    generalize [t7, t8, t9].take kt = qt at *
    have Cs : ∀ {H' : Hp}, Same G11 H' → SqL K H' a (ns.map V.int) := fun s => (S11.trans s).seq hS
    have lt : (qt.map V.ref).length = trips.length := by rw [List.length_map, tt.1]
    have lr : (qr.map V.ref).length = rides.length := by rw [List.length_map, tr.1]
    -- the ask
    refine ⟨_, rfl, a, ns, 1, rfl, Cs (Same.refl _), by omega, 1, rfl, _, rfl, a, ns, 2, rfl, Cs (Same.refl _), by omega, _, _, rfl, rfl, (by show (0 : Int) < 12; decide), _, rfl, _, _, rfl, rfl, (by show (0 : Int) < 2; decide), rfl, ?_⟩
    generalize cellAt ns 1 = second
    obtain ⟨w_, hw⟩ : ∃ w_, w_ = cellAt ns 2 % 12 := ⟨_, rfl⟩
    obtain ⟨bad, hbad⟩ : ∃ bad, bad = decide (V.int (second % 2) = V.int 1) := ⟨_, rfl⟩
    obtain ⟨first, hfirst⟩ : ∃ first, first = cellAt ns 0 := ⟨_, rfl⟩
    refine ⟨fun σ' H' => Same G11 H' ∧ ∃ x y d, σ' = [some (.ref a), some (.int first), some (.ref r), some (.ref t), some (.int second), some (.int (-1)), some (.int w_), some (.bl bad), some x, some y, none, none, none] ∧ AskP K bad trips.length x y d, ?_, ?_⟩
    · refine ⟨_, rfl, _, rfl, ?_⟩
      rw [hfirst, hw, hbad]
      cases hb : decide (V.int (second % 2) = V.int 1) with
      | false => exact if_f rfl ⟨Same.refl _, .str "zz", .int 0, .int 0, rfl, ⟨by decide +kernel, (fun h => nomatch h), fun _ => rfl, fun _ => .int 0, .int _ 0, (fun h => nomatch h), fun _ => rfl⟩⟩
      | true =>
        refine if_t rfl ⟨97, 13, rfl, rfl, by decide, by decide, (by show 8 ≤ sizeLine; decide), fun l nl => ?_⟩
        obtain ⟨x, hat, hx⟩ := atI_in (xs := [V.str "", .str "A", .str "a b", .str (SX.S (List.replicate 13 97)), .non, .int 5, .bl true, .str "a1"]) (z := second / 2 % 8) (by omega) (by show second / 2 % 8 < 8; omega)
        refine ⟨_, rfl, _, _, rfl, rfl, ⟨by decide, by decide⟩, _, _, rfl, rfl, (by show (0 : Int) < 8; decide), l, _, _, _, rfl, rfl, sqL_of upd_same, hat, ?_⟩
        refine ⟨_, rfl, _, rfl, t, _, rfl, .inl (sqL_of ((same_upd nl) _ _ et)), (by show 7 ≤ sizeLine; decide), fun l2 nl2 => ?_⟩
        obtain ⟨y, hat2, hy⟩ := atI_in (xs := [V.int (-1), .int ((qt.map V.ref).length : Nat), .int 99, .bl true, .bl false, .non, .str "0"]) (z := second / 2 % 7) (by omega) (by show second / 2 % 7 < 7; omega)
        refine ⟨_, rfl, _, _, rfl, rfl, ⟨by decide, by decide⟩, _, _, rfl, rfl, (by show (0 : Int) < 7; decide), l2, _, _, _, rfl, rfl, sqL_of upd_same, hat2, (same_upd nl).trans (same_upd nl2), ?_⟩
        have hxx : scal x = true ∧ isPlace x = false := by
          have : ∀ x ∈ [V.str "", .str "A", .str "a b", .str (SX.S (List.replicate 13 97)), .non, .int 5, .bl true, .str "a1"], scal x = true ∧ isPlace x = false := by
            intro x hx
            simp only [List.mem_cons, List.not_mem_nil, or_false] at hx
            rcases hx with rfl | rfl | rfl | rfl | rfl | rfl | rfl | rfl <;> exact ⟨by decide +kernel, by decide +kernel⟩
          exact this x hx
        obtain ⟨d, hd, hsd, hn⟩ : ∃ d, (∀ H, Dp K H y d) ∧ Sm 1 d ∧ isWhole y 0 ((trips.length : Int) - 1) = false := by
          rw [lt] at hy
          rcases List.mem_cons.mp hy with rfl | hy
          · exact ⟨_, fun _ => .int _, .int _ _, rfl⟩
          rcases List.mem_cons.mp hy with rfl | hy
          · refine ⟨_, fun _ => .int _, .int _ _, ?_⟩
            show (decide ((0 : Int) ≤ (trips.length : Int)) && decide ((trips.length : Int) ≤ (trips.length : Int) - 1)) = false
            rw [decide_eq_false (show ¬ ((trips.length : Int) ≤ (trips.length : Int) - 1) by omega), Bool.and_false]
          rcases List.mem_cons.mp hy with rfl | hy
          · refine ⟨_, fun _ => .int _, .int _ _, ?_⟩
            show (decide ((0 : Int) ≤ 99) && decide ((99 : Int) ≤ (trips.length : Int) - 1)) = false
            rw [decide_eq_false (show ¬ ((99 : Int) ≤ (trips.length : Int) - 1) by omega), Bool.and_false]
          rcases List.mem_cons.mp hy with rfl | hy
          · exact ⟨_, fun _ => .bl _, .bl _ _, rfl⟩
          rcases List.mem_cons.mp hy with rfl | hy
          · exact ⟨_, fun _ => .bl _, .bl _ _, rfl⟩
          rcases List.mem_cons.mp hy with rfl | hy
          · exact ⟨_, fun _ => .non, .non _, rfl⟩
          rw [List.mem_singleton.mp hy]
          exact ⟨_, fun _ => .str _, .str _ _ (by decide +kernel) (by decide +kernel), rfl⟩
        exact ⟨x, y, d, rfl, ⟨hxx.1, fun _ => hxx.2, (fun h => nomatch h), hd, hsd, fun _ => hn, (fun h => nomatch h)⟩⟩
    rintro σ' H1 ⟨u1, x, y, d, rfl, ask⟩
    clear hbad hfirst hw
    -- due of a place
    refine ⟨fun σ' H' => Same G11 H' ∧ ∃ δ : Int, σ' = [some (.ref a), some (.int first), some (.ref r), some (.ref t), some (.int second), some (.int δ), some (.int w_), some (.bl bad), some x, some y, none, none, none] ∧ ((wPl w_ ∧ bad = true ∧ δ = 2) ∨ ((wPl w_ → bad = false) ∧ δ = -1)), ?_, ?_⟩
    · refine ⟨_, rfl, (by show 4 ≤ sizeLine; decide), fun tp ntp => ⟨tp, _, rfl, .inr (sqT_of upd_same), rfl, rfl, ?_⟩⟩
      have u2 := u1.trans (same_upd (o := .tup [.int 1, .int 2, .int 3, .int 8]) ntp)
      cases c1 : inV (.int w_) [.int 1, .int 2, .int 3, .int 8] with
      | false => exact ⟨_, rfl, if_f rfl (if_f rfl ⟨u2, -1, rfl, .inr ⟨fun h => (by rw [in_pl.mpr h] at c1; cases c1), rfl⟩⟩)⟩
      | true =>
        refine ⟨_, rfl, if_t rfl ⟨_, rfl, _, rfl, ?_⟩⟩
        cases bad with
        | true => exact if_t rfl ⟨u2, 2, rfl, .inl ⟨in_pl.mp c1, rfl, rfl⟩⟩
        | false => exact if_f rfl ⟨u2, -1, rfl, .inr ⟨fun _ => rfl, rfl⟩⟩
    rintro σ' H2 ⟨u2, δ1, rfl, hδ1⟩
    -- due of a number
    refine ⟨fun σ' H' => Same G11 H' ∧ ∃ δ : Int, σ' = [some (.ref a), some (.int first), some (.ref r), some (.ref t), some (.int second), some (.int δ), some (.int w_), some (.bl bad), some x, some y, none, none, none] ∧ Due w_ bad trips.length δ, ?_, ?_⟩
    · refine ⟨_, rfl, (by show 4 ≤ sizeLine; decide), fun tp ntp => ⟨tp, _, rfl, .inr (sqT_of upd_same), rfl, rfl, ?_⟩⟩
      have u3 := u2.trans (same_upd (o := .tup [.int 4, .int 5, .int 6, .int 9]) ntp)
      generalize upd H2 tp (.tup [.int 4, .int 5, .int 6, .int 9]) = H3 at *
      have other : wNm w_ → ¬ wPl w_ := fun h h2 => by
        unfold wNm at h
        unfold wPl at h2
        omega
      cases c1 : inV (.int w_) [.int 4, .int 5, .int 6, .int 9] with
      | false =>
        refine ⟨_, rfl, if_f rfl (if_f rfl ⟨u3, δ1, rfl, ?_⟩)⟩
        have n1 : ¬ wNm w_ := fun h => by
          rw [in_nm.mpr h] at c1
          cases c1
        rcases hδ1 with ⟨a1, a2, a3⟩ | ⟨a1, a2⟩
        · exact .inl ⟨a1, a2, a3⟩
        · exact .inr (.inr ⟨a1, fun h => absurd h n1, a2⟩)
      | true =>
        have w1 := in_nm.mp c1
        refine ⟨_, rfl, if_t rfl ⟨_, rfl, _, rfl, ?_⟩⟩
        cases hb : bad with
        | true =>
          rw [hb] at hδ1
          exact if_t rfl (if_t rfl ⟨u3, 3, rfl, .inr (.inl ⟨w1, .inl rfl, rfl⟩)⟩)
        | false =>
          rw [hb] at hδ1
          refine if_f rfl ⟨_, rfl, Nat.zero_le _, fun e ne => ?_⟩
          have s4 : Same H3 (upd H3 e (.lst [])) := same_upd ne
          have T3 : Rows K H3 tripV t trips := ⟨qt, sqL_of (u3 _ _ et), tt.same u3⟩
          refine ⟨_, _, dp_trips (T3.same s4), .lst (sqL_of upd_same) .nil, (sh_trips okT).ok (by decide), sh_nil0.ok (by decide), ?_⟩
          rw [eqv_nil]
          have u4 := u3.trans s4
          cases he : (trips.map tripD).isEmpty with
          | true =>
            have h0 : trips.length = 0 := by
              rw [← List.length_map (f := tripD), List.isEmpty_iff.mp he]
              rfl
            exact ⟨_, rfl, if_t rfl ⟨u4, 3, rfl, .inr (.inl ⟨w1, .inr h0, rfl⟩)⟩⟩
          | false =>
            have h0 : 0 < trips.length := by
              cases trips with
              | nil => cases he
              | cons _ _ => exact Nat.succ_pos _
            refine ⟨_, rfl, if_f rfl ⟨u4, δ1, rfl, ?_⟩⟩
            rcases hδ1 with ⟨a1, a2, a3⟩ | ⟨a1, a2⟩
            · exact absurd a1 (other w1)
            · exact .inr (.inr ⟨fun _ => rfl, fun _ => ⟨rfl, h0⟩, a2⟩)
    clear hδ1
    rintro σ' H3 ⟨u3, δ0, rfl, due⟩
    -- an odd trip
    have vT : ∀ {H' : Hp}, Same G11 H' → Verd K tripB H' (qt.map V.ref) (trips.map fun _ => true) := fun s => verd_of (tt.same s) fun x hx => trip_ok (okT x hx)
    have vR : ∀ {H' : Hp}, Same G11 H' → Verd K rideB H' (qr.map V.ref) (rides.map fun _ => true) := fun s => verd_of (tr.same s) fun x hx => ride_ok (okR x hx)
    refine ⟨fun σ' H' => Same G11 H' ∧ ∃ (t' : Addr) (δ : Int), σ' = [some (.ref a), some (.int first), some (.ref r), some (.ref t'), some (.int second), some (.int δ), some (.int w_), some (.bl bad), some x, some y, none, none, none] ∧ ((t' = t ∧ δ = δ0) ∨ (δ = 1 ∧ ∃ ys cs, SqL K H' t' ys ∧ Verd K tripB H' ys cs ∧ false ∈ cs)), ?_, ?_⟩
    · refine ⟨_, rfl, a, ns, 3, rfl, Cs u3, by omega, _, _, rfl, rfl, (by show (0 : Int) < 3; decide), rfl, _, rfl, ite2 (fun _ => ?_) (fun _ => ⟨u3, t, δ0, rfl, .inl ⟨rfl, rfl⟩⟩)⟩
      refine ⟨_, rfl, _, rfl, a, ns, 4, rfl, Cs u3, by omega, cellAt ns 4, rfl, fun H4 v s4 hv => ?_⟩
      have u4 := u3.trans s4
      refine ⟨_, rfl, a, ns, 3, rfl, Cs u4, by omega, _, _, rfl, rfl, ⟨by decide, by decide⟩, t, _, v, cellAt ns 3 / 3, rfl, sqL_of (u4 _ _ et), by omega, fun H5 p k s5 e5 => ?_⟩
      obtain ⟨cs, vc, hc⟩ := verd_put (vT u4) hv k
      exact ⟨u4.trans s5, p, 1, rfl, .inr ⟨rfl, _, cs, sqL_of e5, vc.same s5, hc⟩⟩
    rintro σ' H4 ⟨u4, t', δt, rfl, ft⟩
    -- an odd ride
    refine ⟨fun σ' H' => Same G11 H' ∧ ∃ (r' : Addr) (δ : Int), σ' = [some (.ref a), some (.int first), some (.ref r'), some (.ref t'), some (.int second), some (.int δ), some (.int w_), some (.bl bad), some x, some y, none, none, none] ∧ Stand K H' r' t' w_ δ bad trips.length, ?_, ?_⟩
    · refine ⟨_, rfl, a, ns, 5, rfl, Cs u4, by omega, _, _, rfl, rfl, (by show (0 : Int) < 3; decide), rfl, _, rfl, ite2 (fun _ => ?_) (fun _ => ⟨u4, r, δt, rfl, ?_⟩)⟩
      · refine ⟨_, rfl, _, rfl, a, ns, 6, rfl, Cs u4, by omega, cellAt ns 6, rfl, fun H5 v s5 hv => ?_⟩
        have u5 := u4.trans s5
        refine ⟨_, rfl, a, ns, 5, rfl, Cs u5, by omega, _, _, rfl, rfl, ⟨by decide, by decide⟩, r, _, v, cellAt ns 5 / 3, rfl, sqL_of (u5 _ _ er), by omega, fun H6 p k s6 e6 => ?_⟩
        have u6 := u5.trans s6
        obtain ⟨bs, vb, hb⟩ := verd_put (vR u5) hv k
        refine ⟨u6, p, 0, rfl, .inl ⟨rfl, ?_⟩⟩
        rcases ft with ⟨rfl, _⟩ | ⟨_, ys, cs, hY, vY, _⟩
        · exact ⟨_, _, bs, _, sqL_of e6, sqL_of (u6 _ _ et), vb.same s6, vT u6, .inl ⟨hb, trivial⟩⟩
        · exact ⟨_, ys, bs, cs, sqL_of e6, (s5.trans s6).seq hY, vb.same s6, vY.same (s5.trans s6), .inl ⟨hb, trivial⟩⟩
      · rcases ft with ⟨rfl, rfl⟩ | ⟨e1, ys, cs, hY, vY, hc⟩
        · exact .inr (.inr ⟨rides, trips, ⟨⟨qr, sqL_of (u4 _ _ er), tr.same u4⟩, ⟨qt, sqL_of (u4 _ _ et), tt.same u4⟩, okR, okT, by omega, by omega⟩, rfl, due⟩)
        · exact .inr (.inl ⟨e1, _, ys, _, cs, sqL_of (u4 _ _ er), hY, vR u4, vY, .inr ⟨no_false _, hc, trivial⟩⟩)
    rintro σ' H5 ⟨u5, r', δ, rfl, st⟩
    -- marks
    refine ⟨(by show 1 ≤ sizeLine; decide), fun m0 nm0 => ?_⟩
    have s6 : Same H5 (upd H5 m0 (.lst [.bl false])) := same_upd nm0
    refine ⟨m0, 5, _, rfl, rfl, upd_same, by decide, by decide, (by show 1 * 5 ≤ sizeLine; decide), fun m nm => ?_⟩
    refine ⟨_, rfl, _, rfl, _, rfl, _, rfl, _, rfl, asked_any ask (st.same (s6.trans (same_upd nm))) (fun hδ v H' => ?_) (fun j hj h4 hlt H6 => ?_)⟩
    · subst hδ
      exact ⟨_, rfl, _, rfl, rfl, q _⟩
    · refine ⟨true, te j hj, fun _ a0 _ => ?_, fun z => Bool.noConfusion z⟩
      have E5 := V5.exc j hj
      refine ⟨_, rfl, j, hj, rfl, rfl, rfl, fun H7 mm s8 nmm em => ?_⟩
      -- late, or not
      refine ⟨_, rfl, (by show 5 ≤ sizeLine; decide), fun z nz => ?_⟩
      have s9 : Same H7 (upd H7 z (.lst [.bl false, .bl false, .bl false, .bl false, .bl true])) := same_upd nz
      refine ⟨_, _, .lst (sqL_of (s9 _ _ em)) (marks_dp j), .lst (sqL_of upd_same) (.cons (.bl _) (.cons (.bl _) (.cons (.bl _) (.cons (.bl _) (.cons (.bl _) .nil))))), (marks_sh j).ok (by decide), (bl_sh [false, false, false, false, true]).ok (by decide), ?_⟩
      rw [marks_late hj]
      cases c4 : decide (j = 4) with
      | true =>
        obtain ⟨rfl, rfl⟩ := h4 (of_decide_eq_true c4)
        refine ⟨_, rfl, if_t rfl ⟨_, rfl, _, rfl, rfl, _, rfl, if_t rfl ⟨_, rfl, rfl, _, rfl, if_t rfl ?_⟩⟩⟩
        exact ⟨_, rfl, C j, rfl, rfl, E5, _, _, true, rfl, fun _ h => h, V5.ve j hj, q _⟩
      | false =>
        have hj4 : j < 4 := by
          have := of_decide_eq_false c4
          omega
        have hδ := hlt hj4
        refine ⟨_, rfl, if_f rfl ?_⟩
        have e9 := s9 _ _ em
        generalize upd H7 z (.lst [.bl false, .bl false, .bl false, .bl false, .bl true]) = H8 at *
        refine ⟨_, rfl, 5, rfl, by decide, by decide, fun D nD => ?_⟩
        refine lc_range (lo := 0) (n := 5) (fun i H' => Same H8 H' ∧ H' D = some (.lst (((List.range i).map fun k : Nat => decide (V.int (0 + (k : Int)) = V.int δ)).map V.bl))) ⟨same_upd nD, upd_same⟩ ?_ ?_
        · rintro i H9 hi ⟨s10, e10⟩
          refine ⟨rfl, _, rfl, _, rfl, rfl, _, e10, ?_, same_put s10 nD, ?_⟩
          · rw [List.length_map, List.length_map, List.length_range]
            exact small1000 (by omega)
          · rw [upd_same, List.range_succ, List.map_append, List.map_append]
            rfl
        · rintro H9 ⟨s10, e10⟩
          rw [hδ] at e10
          refine ⟨_, _, .lst (sqL_of (s10 _ _ e9)) (marks_dp j), .lst (sqL_of e10) (bl_dp _), (marks_sh j).ok (by decide), (bl_sh _).ok (by decide), ?_⟩
          rw [marks_eq hj4, eqv_same (marks_sh j)]
          refine ⟨_, rfl, if_t rfl ?_⟩
          exact ⟨_, rfl, C j, rfl, rfl, E5, _, _, true, rfl, fun _ h => h, V5.ve j hj, q _⟩
end
end Fb
namespace Fb
open PySem PySem.Spec PyProof.Rows L2
abbrev dd (x : Str) (i : Nat) : He.DefD := ⟨(x, none), x, x, defArgs (top i), defBody (top i), defScope (top i), [], []⟩
def fn : List He.DefD := [dd "is_whole" 11, dd "is_place" 12, dd "is_ride" 13, dd "is_trip" 14, dd "looked" 15, dd "need_place" 16, dd "need_number" 17, dd "roads" 19, dd "spread" 20, dd "way" 21, dd "comes" 23, dd "can" 24, dd "behind" 25, dd "ridden" 26, dd "day" 27, dd "free_one" 29, dd "paired" 30, dd "apart_of" 31, dd "plan" 32, dd "holds" 33, dd "_law_cell_at" 35, dd "_law_odd_name" 36, dd "_law_odd_ride" 37, dd "_law_odd_trip" 38, dd "_law_put" 39, dd "_law_asked" 40, dd "_law_marks" 41, dd "law" 42]
def fa : List He.Fa := [.glo "is_whole", .glo "is_place", .glo "is_ride", .glo "is_trip", .glo "looked", .glo "need_place", .glo "need_number", .glo "roads", .glo "spread", .glo "way", .glo "comes", .glo "can", .glo "behind", .glo "ridden", .glo "day", .glo "free_one", .glo "paired", .glo "apart_of", .glo "plan", .glo "holds", .glo "_law_cell_at", .glo "_law_odd_name", .glo "_law_odd_ride", .glo "_law_odd_trip", .glo "_law_put", .glo "_law_asked", .glo "_law_marks", .glo "law", .free "len", .free "isinstance", .free "int", .free "bool", .free "str", .free "tuple", .free "list", .free "dict", .free "range", .free "max", .free "min", .free "sorted", .str "LETTERS" "abcdefghijklmnopqrstuvwxyz", .int "MOST_RIDE" 9999, .int "MOST_MINUTE" 99999, .glo "NoRide", .exc "NoRide", .exm "NoRide" "BusError" true, .glo "NoTrip", .exc "NoTrip", .exm "NoTrip" "BusError" true, .glo "NoPlace", .exc "NoPlace", .exm "NoPlace" "BusError" true, .glo "NoNumber", .exc "NoNumber", .exm "NoNumber" "BusError" true, .glo "NotInTime", .exc "NotInTime", .exm "NotInTime" "BusError" true, .glo "BusError", .free "ValueError"]
abbrev R : PySem.W.OpenRow := PySem.W.OpenLaw.row PySem.Challenge.rw_fewbuses_k06_refused
def clsN : List Str := ["NoRide", "NoTrip", "NoPlace", "NoNumber", "NotInTime"]
def C5 (K : PySem.W.Frag) (j : Nat) : Addr := He.ga K (clsN.getD j "NoRide")
def exO (K : PySem.W.Frag) (D : Addr) : Bool :=
  He.eqO (PySem.W.findIn K (.ref D) "__getattribute__") (some (some (.builtin "BaseException.__getattribute__"))) && (He.eqO (PySem.W.findIn K (.ref D) "__getattr__") (some none) &&
  (decide (PySem.W.subIn K (.ref D) (.type "BaseException") = some true) && (PySem.W.hasDictIn K D &&
  (He.eqO (PySem.W.findIn K (.ref D) "__class__") (some (some (.builtin "object.__class__"))) && (He.eqO (PySem.W.specialIn K (.builtin "object.__class__") "__get__") (some (some (.builtin "getset_descriptor.__get__"))) &&
  (decide (PySem.W.takesIn K (.builtin "object.__class__") = some true) && (decide (PySem.W.mroIn K D (.type "object") = some true) &&
  decide (PySem.W.kitOne K (.ref D) (.type "ValueError") = some true))))))))
def exB (K : PySem.W.Frag) : Bool := ((List.range 5).all fun i => exO K (C5 K i)) && (List.range 5).all fun i => (List.range 5).all fun j => decide (PySem.W.kitOne K (.ref (C5 K i)) (.ref (C5 K j)) = some (decide (i = j)))
theorem exO_ok {K : PySem.W.Frag} {D : Addr} (h : exO K D = true) : ExcC K D ∧ PySem.W.kitOne K (.ref D) (.type "ValueError") = some true := by
  obtain ⟨h1, h⟩ := He.ba h
  obtain ⟨h2, h⟩ := He.ba h
  obtain ⟨h3, h⟩ := He.ba h
  obtain ⟨h4, h⟩ := He.ba h
  obtain ⟨h5, h⟩ := He.ba h
  obtain ⟨h6, h⟩ := He.ba h
  obtain ⟨h7, h⟩ := He.ba h
  obtain ⟨h8, h9⟩ := He.ba h
  exact ⟨⟨He.eqO_ok h1, He.eqO_ok h2, of_decide_eq_true h3, h4, He.eqO_ok h5, He.eqO_ok h6, of_decide_eq_true h7, of_decide_eq_true h8⟩, of_decide_eq_true h9⟩
theorem ex_ok {K : PySem.W.Frag} (h : exB K = true) : Five K (C5 K) := by
  obtain ⟨h1, h2⟩ := He.ba h
  have a := fun i (hi : i < 5) => exO_ok (List.all_eq_true.mp h1 i (List.mem_range.mpr hi))
  exact ⟨fun i hi => (a i hi).1, fun i j hi hj => of_decide_eq_true (List.all_eq_true.mp (List.all_eq_true.mp h2 i (List.mem_range.mpr hi)) j (List.mem_range.mpr hj)), fun i hi => (a i hi).2⟩
abbrev AlY : Type := He.AlD × Bool
def obsY (g : Addr → Option Obj) : AlY := (He.obsD fa fn (He.frG g (He.asD g 4)), exB (He.frG g (He.asD g 4)))
def hkY : PySem.W.Hook where
  α := AlY
  obs := fun s => obsY s.heap.get?
  val := fun _ => (He.valD fn, true)
  says := fun _ h => ∃ K : PySem.W.Frag, K.In h ∧ He.SaysD fa fn K ∧ exB K = true
  of := fun _ _ e => ⟨_, He.frG_in, congrArg (fun z : AlY => z.1) e, congrArg (fun z : AlY => z.2) e⟩
  keeps := fun _ _ _ ⟨K, hK, c⟩ k => ⟨K, PySem.W.Frag.In.keeps hK k, c⟩
abbrev hk : PySem.W.Hook := hkY
def ob (s : PySem.W.SharedT) : AlY := obsY (HandSHeadRun.getT s)
theorem ob_eq (s : PySem.W.SharedT) : ob s = hk.obs s.abs := by
  have e : HandSHeadRun.getT s = s.abs.heap.get? := funext fun a => HandSHeadRun.getT_eq s a
  show obsY _ = obsY _
  rw [e]
def loose : List Str := (["BusError", "NoRide", "NoTrip", "NoPlace", "NoNumber", "NotInTime", "LETTERS", "MOST_RIDE", "MOST_MINUTE", "is_whole", "is_place", "is_ride", "is_trip", "looked", "need_place", "need_number", "roads", "spread", "way", "comes"] : List Str) ++ (["can", "behind", "ridden", "day", "free_one", "paired", "apart_of", "plan", "holds", "_law_cell_at", "_law_odd_name", "_law_odd_ride", "_law_odd_trip", "_law_put", "_law_asked", "_law_marks"] : List Str)
set_option maxHeartbeats 0 in
theorem run (w : World) : HandSHeadRun.RunEq R (PySem.W.view R.prog [42]) hk ob 6000 loose w := by
  intro os
  kernel_rfl
theorem facts {P : Program} {w : World} {K : PySem.W.Frag} {h : Heap} {mg : Str → Option Value} {f : Addr} (X : K.In h) (G : h.Ns mainGlobals mg) (hfa : mg ("law" : Str) = some (.ref f)) (c : He.SaysD fa fn K) (xc : exB K = true) :
    ∃ fd : FuncData, (∀ (s : Shared) (v : Value), BindsTo s fd ⟨[v], []⟩ [("_law_script", v)]) ∧ ∀ base : Heap, K.In base → base.Ns mainGlobals mg → FnOk P w K mg base CX0 lawLevel f fd ["_law_script"] (spLaw K) := by
  obtain ⟨d_is_whole, F_is_whole⟩ := c.def_ 0 (d := dd "is_whole" 11) rfl
  obtain ⟨d_is_place, F_is_place⟩ := c.def_ 1 (d := dd "is_place" 12) rfl
  obtain ⟨d_is_ride, F_is_ride⟩ := c.def_ 2 (d := dd "is_ride" 13) rfl
  obtain ⟨d_is_trip, F_is_trip⟩ := c.def_ 3 (d := dd "is_trip" 14) rfl
  obtain ⟨d_looked, F_looked⟩ := c.def_ 4 (d := dd "looked" 15) rfl
  obtain ⟨d_need_place, F_need_place⟩ := c.def_ 5 (d := dd "need_place" 16) rfl
  obtain ⟨d_need_number, F_need_number⟩ := c.def_ 6 (d := dd "need_number" 17) rfl
  obtain ⟨d_roads, F_roads⟩ := c.def_ 7 (d := dd "roads" 19) rfl
  obtain ⟨d_spread, F_spread⟩ := c.def_ 8 (d := dd "spread" 20) rfl
  obtain ⟨d_way, F_way⟩ := c.def_ 9 (d := dd "way" 21) rfl
  obtain ⟨d_comes, F_comes⟩ := c.def_ 10 (d := dd "comes" 23) rfl
  obtain ⟨d_can, F_can⟩ := c.def_ 11 (d := dd "can" 24) rfl
  obtain ⟨d_behind, F_behind⟩ := c.def_ 12 (d := dd "behind" 25) rfl
  obtain ⟨d_ridden, F_ridden⟩ := c.def_ 13 (d := dd "ridden" 26) rfl
  obtain ⟨d_day, F_day⟩ := c.def_ 14 (d := dd "day" 27) rfl
  obtain ⟨d_free_one, F_free_one⟩ := c.def_ 15 (d := dd "free_one" 29) rfl
  obtain ⟨d_paired, F_paired⟩ := c.def_ 16 (d := dd "paired" 30) rfl
  obtain ⟨d_apart_of, F_apart_of⟩ := c.def_ 17 (d := dd "apart_of" 31) rfl
  obtain ⟨d_plan, F_plan⟩ := c.def_ 18 (d := dd "plan" 32) rfl
  obtain ⟨d_holds, F_holds⟩ := c.def_ 19 (d := dd "holds" 33) rfl
  obtain ⟨d_law_cell_at, F_law_cell_at⟩ := c.def_ 20 (d := dd "_law_cell_at" 35) rfl
  obtain ⟨d_law_odd_name, F_law_odd_name⟩ := c.def_ 21 (d := dd "_law_odd_name" 36) rfl
  obtain ⟨d_law_odd_ride, F_law_odd_ride⟩ := c.def_ 22 (d := dd "_law_odd_ride" 37) rfl
  obtain ⟨d_law_odd_trip, F_law_odd_trip⟩ := c.def_ 23 (d := dd "_law_odd_trip" 38) rfl
  obtain ⟨d_law_put, F_law_put⟩ := c.def_ 24 (d := dd "_law_put" 39) rfl
  obtain ⟨d_law_asked, F_law_asked⟩ := c.def_ 25 (d := dd "_law_asked" 40) rfl
  obtain ⟨d_law_marks, F_law_marks⟩ := c.def_ 26 (d := dd "_law_marks" 41) rfl
  obtain ⟨d_law, F_law⟩ := c.def_ 27 (d := dd "law" 42) rfl
  have g_is_whole := He.glo_ok X G (c.fact 0 (f := .glo "is_whole") rfl)
  have g_is_place := He.glo_ok X G (c.fact 1 (f := .glo "is_place") rfl)
  have g_is_ride := He.glo_ok X G (c.fact 2 (f := .glo "is_ride") rfl)
  have g_is_trip := He.glo_ok X G (c.fact 3 (f := .glo "is_trip") rfl)
  have g_looked := He.glo_ok X G (c.fact 4 (f := .glo "looked") rfl)
  have g_need_place := He.glo_ok X G (c.fact 5 (f := .glo "need_place") rfl)
  have g_need_number := He.glo_ok X G (c.fact 6 (f := .glo "need_number") rfl)
  have g_roads := He.glo_ok X G (c.fact 7 (f := .glo "roads") rfl)
  have g_spread := He.glo_ok X G (c.fact 8 (f := .glo "spread") rfl)
  have g_way := He.glo_ok X G (c.fact 9 (f := .glo "way") rfl)
  have g_comes := He.glo_ok X G (c.fact 10 (f := .glo "comes") rfl)
  have g_can := He.glo_ok X G (c.fact 11 (f := .glo "can") rfl)
  have g_behind := He.glo_ok X G (c.fact 12 (f := .glo "behind") rfl)
  have g_ridden := He.glo_ok X G (c.fact 13 (f := .glo "ridden") rfl)
  have g_day := He.glo_ok X G (c.fact 14 (f := .glo "day") rfl)
  have g_free_one := He.glo_ok X G (c.fact 15 (f := .glo "free_one") rfl)
  have g_paired := He.glo_ok X G (c.fact 16 (f := .glo "paired") rfl)
  have g_apart_of := He.glo_ok X G (c.fact 17 (f := .glo "apart_of") rfl)
  have g_plan := He.glo_ok X G (c.fact 18 (f := .glo "plan") rfl)
  have g_holds := He.glo_ok X G (c.fact 19 (f := .glo "holds") rfl)
  have g_law_cell_at := He.glo_ok X G (c.fact 20 (f := .glo "_law_cell_at") rfl)
  have g_law_odd_name := He.glo_ok X G (c.fact 21 (f := .glo "_law_odd_name") rfl)
  have g_law_odd_ride := He.glo_ok X G (c.fact 22 (f := .glo "_law_odd_ride") rfl)
  have g_law_odd_trip := He.glo_ok X G (c.fact 23 (f := .glo "_law_odd_trip") rfl)
  have g_law_put := He.glo_ok X G (c.fact 24 (f := .glo "_law_put") rfl)
  have g_law_asked := He.glo_ok X G (c.fact 25 (f := .glo "_law_asked") rfl)
  have g_law_marks := He.glo_ok X G (c.fact 26 (f := .glo "_law_marks") rfl)
  have g_law := He.glo_ok X G (c.fact 27 (f := .glo "law") rfl)
  have f_len := He.free_ok X G (c.fact 28 (f := .free "len") rfl)
  have f_isinstance := He.free_ok X G (c.fact 29 (f := .free "isinstance") rfl)
  have f_int := He.free_ok X G (c.fact 30 (f := .free "int") rfl)
  have f_bool := He.free_ok X G (c.fact 31 (f := .free "bool") rfl)
  have f_str := He.free_ok X G (c.fact 32 (f := .free "str") rfl)
  have f_tuple := He.free_ok X G (c.fact 33 (f := .free "tuple") rfl)
  have f_list := He.free_ok X G (c.fact 34 (f := .free "list") rfl)
  have f_dict := He.free_ok X G (c.fact 35 (f := .free "dict") rfl)
  have f_range := He.free_ok X G (c.fact 36 (f := .free "range") rfl)
  have f_max := He.free_ok X G (c.fact 37 (f := .free "max") rfl)
  have f_min := He.free_ok X G (c.fact 38 (f := .free "min") rfl)
  have f_sorted := He.free_ok X G (c.fact 39 (f := .free "sorted") rfl)
  have c_LETTERS := He.str_ok X G (c.fact 40 (f := .str "LETTERS" "abcdefghijklmnopqrstuvwxyz") rfl)
  have c_MOST_RIDE := He.int_ok X G (c.fact 41 (f := .int "MOST_RIDE" 9999) rfl)
  have c_MOST_MINUTE := He.int_ok X G (c.fact 42 (f := .int "MOST_MINUTE" 99999) rfl)
  have g_NoRide := He.glo_ok X G (c.fact 43 (f := .glo "NoRide") rfl)
  have x_NoRide := He.exc_ok (c.fact 44 (f := .exc "NoRide") rfl)
  have m_NoRide := He.exm_ok (c.fact 45 (f := .exm "NoRide" "BusError" true) rfl)
  have g_NoTrip := He.glo_ok X G (c.fact 46 (f := .glo "NoTrip") rfl)
  have x_NoTrip := He.exc_ok (c.fact 47 (f := .exc "NoTrip") rfl)
  have m_NoTrip := He.exm_ok (c.fact 48 (f := .exm "NoTrip" "BusError" true) rfl)
  have g_NoPlace := He.glo_ok X G (c.fact 49 (f := .glo "NoPlace") rfl)
  have x_NoPlace := He.exc_ok (c.fact 50 (f := .exc "NoPlace") rfl)
  have m_NoPlace := He.exm_ok (c.fact 51 (f := .exm "NoPlace" "BusError" true) rfl)
  have g_NoNumber := He.glo_ok X G (c.fact 52 (f := .glo "NoNumber") rfl)
  have x_NoNumber := He.exc_ok (c.fact 53 (f := .exc "NoNumber") rfl)
  have m_NoNumber := He.exm_ok (c.fact 54 (f := .exm "NoNumber" "BusError" true) rfl)
  have g_NotInTime := He.glo_ok X G (c.fact 55 (f := .glo "NotInTime") rfl)
  have x_NotInTime := He.exc_ok (c.fact 56 (f := .exc "NotInTime") rfl)
  have m_NotInTime := He.exm_ok (c.fact 57 (f := .exm "NotInTime" "BusError" true) rfl)
  have g_BusError := He.glo_ok X G (c.fact 58 (f := .glo "BusError") rfl)
  have f_ValueError := He.free_ok X G (c.fact 59 (f := .free "ValueError") rfl)
  have e := hfa.symm.trans g_law
  cases e
  have B : Bi mg := ⟨f_len, f_isinstance, f_int, f_bool, f_str, f_tuple, f_list, f_dict, f_range, f_max, f_min, f_sorted⟩
  have b := FunD.bindsA (ps := ["_law_script"]) F_law fun _ _ _ _ _ _ us hl => match us, hl with | [_], _ => rfl
  refine ⟨d_law, fun s v => b s [v] rfl, fun base _ _ => ?_⟩
  have c_is_whole := cal_is_whole (P := P) (w := w) (base := base) F_is_whole g_is_whole B
  have c_is_place := cal_is_place (P := P) (w := w) (base := base) F_is_place g_is_place B c_LETTERS
  have c_is_ride := cal_is_ride (P := P) (w := w) (base := base) F_is_ride g_is_ride B c_MOST_RIDE c_is_place c_is_whole
  have c_is_trip := cal_is_trip (P := P) (w := w) (base := base) F_is_trip g_is_trip B c_MOST_MINUTE c_is_place c_is_whole
  have c_looked := cal_looked (P := P) (w := w) (base := base) F_looked g_looked c_is_ride c_is_trip
  have c_roads := cal_roads (P := P) (w := w) (base := base) F_roads g_roads B c_looked
  have c_cell := cal_law_cell_at (P := P) (w := w) (base := base) F_law_cell_at g_law_cell_at B
  have c_need_place := cal_need_place (P := P) (w := w) (base := base) F_need_place g_need_place c_is_place
  have c_spread := cal_spread (P := P) (w := w) (base := base) F_spread g_spread c_roads c_need_place
  have c_need_number := cal_need_number (P := P) (w := w) (base := base) F_need_number g_need_number B c_is_whole
  have c_comes := cal_comes (P := P) (w := w) (base := base) F_comes g_comes
  have c_can := cal_can (P := P) (w := w) (base := base) F_can g_can c_looked c_need_number c_spread c_comes
  have c_way := cal_way (P := P) (w := w) (base := base) F_way g_way c_roads c_need_place c_spread
  have c_ridden := cal_ridden (P := P) (w := w) (base := base) F_ridden g_ridden B
  have c_day := cal_day (P := P) (w := w) (base := base) F_day g_day B c_roads c_need_number c_can c_way c_ridden
  have c_behind := cal_behind (P := P) (w := w) (base := base) F_behind g_behind B c_looked c_spread c_comes
  have c_free_one := cal_free_one (P := P) (w := w) (base := base) F_free_one g_free_one B
  have c_paired := cal_paired (P := P) (w := w) (base := base) F_paired g_paired B c_free_one
  have c_apart_of := cal_apart_of (P := P) (w := w) (base := base) F_apart_of g_apart_of B
  have c_plan := cal_plan (P := P) (w := w) (base := base) F_plan g_plan B c_behind c_paired c_apart_of
  have c_holds := cal_holds (P := P) (w := w) (base := base) F_holds g_holds B c_looked c_behind c_is_whole
  have n_NoRide : ExN K mg "NoRide" _ := ⟨g_NoRide, x_NoRide.1, x_NoRide.2.1, x_NoRide.2.2.1, x_NoRide.2.2.2⟩
  have n_NoTrip : ExN K mg "NoTrip" _ := ⟨g_NoTrip, x_NoTrip.1, x_NoTrip.2.1, x_NoTrip.2.2.1, x_NoTrip.2.2.2⟩
  have n_NoPlace : ExN K mg "NoPlace" _ := ⟨g_NoPlace, x_NoPlace.1, x_NoPlace.2.1, x_NoPlace.2.2.1, x_NoPlace.2.2.2⟩
  have n_NoNumber : ExN K mg "NoNumber" _ := ⟨g_NoNumber, x_NoNumber.1, x_NoNumber.2.1, x_NoNumber.2.2.1, x_NoNumber.2.2.2⟩
  have n_NotInTime : ExN K mg "NotInTime" _ := ⟨g_NotInTime, x_NotInTime.1, x_NotInTime.2.1, x_NotInTime.2.2.1, x_NotInTime.2.2.2⟩
  have G_looked := ok_looked_bad (P := P) (w := w) (base := base) F_looked c_is_ride c_is_trip n_NoRide n_NoTrip
  have G_roads := ok_roads_bad F_roads F_looked g_looked G_looked
  have G_spread := ok_spread_bad F_spread F_roads g_roads G_roads
  have G_way := ok_way_bad F_way F_roads g_roads G_roads
  have G_can := ok_can_bad F_can F_looked g_looked G_looked
  have G_day := ok_day_bad F_day F_roads g_roads G_roads
  have G_behind := ok_behind_bad F_behind F_looked g_looked G_looked
  have G_plan := ok_plan_bad F_plan F_behind g_behind G_behind
  have G_holds := ok_holds_bad F_holds F_looked g_looked G_looked
  have G_np := ok_need_place_c (P := P) (w := w) (base := base) F_need_place c_is_place n_NoPlace
  have G_nn := ok_need_number_c (P := P) (w := w) (base := base) F_need_number B c_is_whole n_NoNumber
  have G_spreadX := ok_spread_x F_spread F_need_place g_need_place G_np c_roads
  have G_wayX := ok_way_x F_way F_need_place g_need_place G_np c_roads
  have G_canX := ok_can_x F_can F_need_number g_need_number G_nn c_looked
  have G_dayN := ok_day_nx F_day F_need_number g_need_number G_nn c_roads
  have G_dayL := ok_day_late (P := P) (w := w) (base := base) F_day B c_roads c_need_number c_can n_NotInTime
  have V5 := ex_ok xc
  have G_asked := ok_law_asked F_law_asked c_roads c_spread c_way c_can c_day c_plan c_holds (calX_of (st := s_roads) F_roads g_roads (bi_roads F_roads) G_roads) (calX_of (st := s_spread) F_spread g_spread (bi_spread F_spread) G_spread) (calX_of (st := s_way) F_way g_way (bi_way F_way) G_way) (calX_of (st := s_can) F_can g_can (bi_can F_can) G_can) (calX_of (st := s_day) F_day g_day (bi_day F_day) G_day) (calX_of (st := s_plan) F_plan g_plan (bi_plan F_plan) G_plan) (calX_of (st := s_holds) F_holds g_holds (bi_holds F_holds) G_holds) (calX_of (st := s_spread) F_spread g_spread (bi_spread F_spread) G_spreadX) (calX_of (st := s_way) F_way g_way (bi_way F_way) G_wayX) (calX_of (st := s_can) F_can g_can (bi_can F_can) G_canX) (calX_of (st := s_day) F_day g_day (bi_day F_day) G_dayN) (calX_of (st := s_day) F_day g_day (bi_day F_day) G_dayL)
  have c_asked : CalX P w K mg base 8 "_law_asked" (spAsked K (C5 K 0) (C5 K 1) (C5 K 2) (C5 K 3) (C5 K 4)) := calX_of (st := s_law_asked) F_law_asked g_law_asked (bi_law_asked F_law_asked) G_asked
  have c_odd_name := cal_law_odd_name (P := P) (w := w) (base := base) F_law_odd_name g_law_odd_name B
  have c_odd_ride := cal_law_odd_ride (P := P) (w := w) (base := base) F_law_odd_ride g_law_odd_ride B c_odd_name
  have c_odd_trip := cal_law_odd_trip (P := P) (w := w) (base := base) F_law_odd_trip g_law_odd_trip B c_odd_name
  have c_put := cal_law_put (P := P) (w := w) (base := base) F_law_put g_law_put B
  have FM := ok_law_marks (P := P) (w := w) (base := base) (C := C5 K) F_law_marks B V5 g_NoRide g_NoTrip g_NoPlace g_NoNumber g_NotInTime
  have te : ∀ j, j < 5 → PySem.W.exmOne K (.ref (C5 K j)) (.ref (He.ga K "BusError")) = some true := fun j hj => match j, hj with
    | 0, _ => m_NoRide
    | 1, _ => m_NoTrip
    | 2, _ => m_NoPlace
    | 3, _ => m_NoNumber
    | 4, _ => m_NotInTime
  exact cal_law F_law B c_cell c_put c_odd_ride c_odd_trip c_asked FM g_law_marks F_law_marks.kp (bi_law_marks F_law_marks) g_BusError te V5 f_ValueError
end Fb
open PySem PySem.W PySem.Calls PyProof.Rows
set_option maxHeartbeats 0 in
theorem PySem.Challenge.cw_fewbuses_k06_refused_holds : PySem.Challenge.rw_fewbuses_k06_refused.Holds := by
  w_on; o_law
  refine HandSHeadRun.head_any (r := OpenLaw.row PySem.Challenge.rw_fewbuses_k06_refused) (q := view (OpenLaw.row PySem.Challenge.rw_fewbuses_k06_refused).prog [42]) (H := Fb.hk) (ob := Fb.ob) (M := 6000) (loose := Fb.loose) (d := HandSHeadRun.topDef (OpenLaw.row PySem.Challenge.rw_fewbuses_k06_refused).prog 42) (kwd := []) Fb.ob_eq
    (by kernel_rfl) (fun s => by kernel_rfl) Fb.run (by kernel_rfl) (by kernel_rfl) (by kernel_rfl) (by rfl) (by first | assumption | decide +kernel) (by decide +kernel) ⟨rfl, rfl, rfl, rfl, rfl, by decide +kernel⟩ ?hw ?hc
  case hw => w_witness2
  case hc =>
    refine L2.walk_ofE (l := PySem.Challenge.rw_fewbuses_k06_refused) (n := 63) (k := Fb.lawLevel) (x := "_law_script") (CX := L2.CX0) rfl (by decide) (by kernel_rfl) ⟨rfl, by decide, by decide⟩ ?F (fun _ _ _ _ z => z)
    intro w mg fa h Y G hmg0
    obtain ⟨K, KX, c, xc⟩ := Y
    have hmg : mg ("law" : PySem.Str) = some (.ref fa) := by
      have e : (HandSHeadRun.topDef (OpenLaw.row PySem.Challenge.rw_fewbuses_k06_refused).prog 42).name = ("law" : PySem.Str) := by kernel_rfl
      rw [← e]
      exact hmg0
    obtain ⟨fd, hb, hF⟩ := Fb.facts (P := (PySem.Challenge.rw_fewbuses_k06_refused).prog) (w := w) KX G hmg c xc
    exact ⟨K, fd, Fb.spLaw K, KX, hb, fun H a ns hl _ hS => ⟨a, ns, rfl, hS, hl, fun _ => rfl⟩, hF⟩
#print axioms PySem.Challenge.cw_fewbuses_k06_refused_holds
