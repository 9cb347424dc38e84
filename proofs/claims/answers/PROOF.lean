import PyProof.Rows.All
import PyWideLaws
import Wide.All
import OpenK.AllK
import Wide.FinOn
import KE.DataMinMax
import HandS.ForSpec
import HandS.SortKw
import Open.SpecLaws
import KE.OsGo
import HandS.Comp
import HandS.Iter
import HandS.More
import HandS.Style
import HandS.Flow
import HandS.Evl
import HandS.Zip
import HandS.Walk
import HandS.Codes
import HandS.Deep
import PySem.Challenge.RW_unseenplan_s01_answers
import KE.OsArith
/-! ## Sets as numbers -/
namespace U
open Pn09

theorem bit_tb (m k : Nat) : bit m k = m.testBit k := by
  rw [Nat.testBit_eq_decide_div_mod_eq]
  unfold bit
  by_cases h : m / 2 ^ k % 2 = 1
  · rw [h]; rfl
  · rw [decide_eq_false h]
    exact beq_eq_false_iff_ne.mpr h

theorem tb_add_pow {m a : Nat} (h : m.testBit a = false) (k : Nat) : (m + 2 ^ a).testBit k = (m.testBit k || decide (k = a)) := by
  have e := Nat.div_add_mod m (2 ^ (a + 1))
  have lt : m % 2 ^ (a + 1) < 2 ^ (a + 1) := Nat.mod_lt _ (Nat.two_pow_pos _)
  have hr : (m % 2 ^ (a + 1)).testBit a = false := by
    rw [Nat.testBit_mod_two_pow, h]; simp
  have lt2 : m % 2 ^ (a + 1) < 2 ^ a := by
    apply Nat.lt_pow_two_of_testBit
    intro i hi
    by_cases q : i = a
    · rw [q]; exact hr
    · rw [Nat.testBit_mod_two_pow]
      have : ¬ i < a + 1 := by omega
      simp [this]
  have hp : 2 ^ (a + 1) = 2 ^ a + 2 ^ a := by rw [Nat.pow_succ]; omega
  have hs : 2 ^ a + m % 2 ^ (a + 1) < 2 ^ (a + 1) := Nat.lt_of_lt_of_eq (Nat.add_lt_add_left lt2 _) hp.symm
  have e2 : m + 2 ^ a = 2 ^ (a + 1) * (m / 2 ^ (a + 1)) + (2 ^ a + m % 2 ^ (a + 1)) := by omega
  have e3 : m.testBit k = (2 ^ (a + 1) * (m / 2 ^ (a + 1)) + m % 2 ^ (a + 1)).testBit k := by rw [e]
  rw [e3, e2, Nat.testBit_two_pow_mul_add _ hs, Nat.testBit_two_pow_mul_add _ lt]
  by_cases q : k < a + 1
  · rw [if_pos q, if_pos q]
    by_cases q2 : k = a
    · subst q2
      rw [Nat.testBit_two_pow_add_eq]
      rw [hr]; simp
    · have q3 : k < a := by omega
      rw [Nat.testBit_two_pow_add_gt q3]
      simp [q2]
  · rw [if_neg q, if_neg q]
    have : ¬ k = a := by omega
    simp [this]

theorem tb_setOf_go : ∀ (l : List Nat) (m k : Nat), (l.foldl (fun m k => if bit m k = true then m else m + 2 ^ k) m).testBit k = (m.testBit k || decide (k ∈ l))
  | [], m, k => by simp
  | a :: l, m, k => by
    rw [List.foldl_cons, tb_setOf_go l]
    by_cases h : bit m a = true
    · rw [if_pos h]
      rw [bit_tb] at h
      by_cases q : k = a
      · subst q; simp [h]
      · simp [q]
    · rw [if_neg h]
      rw [bit_tb] at h
      rw [tb_add_pow (by simpa using h)]
      by_cases q : k = a
      · subst q; simp
      · simp [q]
theorem tb_setOf (l : List Nat) (k : Nat) : (setOf l).testBit k = decide (k ∈ l) := by
  unfold setOf
  rw [tb_setOf_go]; simp

theorem setOf_sum_go : ∀ (l : List Nat) (m : Nat), l.Nodup → (∀ k ∈ l, m.testBit k = false) → l.foldl (fun m k => if bit m k = true then m else m + 2 ^ k) m = m + (l.map (2 ^ ·)).sum
  | [], m, _, _ => by simp
  | a :: l, m, hn, hm => by
    have ha := hm a List.mem_cons_self
    have hn' := List.nodup_cons.mp hn
    rw [List.foldl_cons, if_neg (by rw [bit_tb, ha]; simp), setOf_sum_go l _ hn'.2, List.map_cons, List.sum_cons, Nat.add_assoc]
    intro k hk
    rw [tb_add_pow ha, hm k (List.mem_cons_of_mem _ hk)]
    have : k ≠ a := fun e => hn'.1 (e ▸ hk)
    simp [this]
theorem setOf_sum {l : List Nat} (h : l.Nodup) : setOf l = (l.map (2 ^ ·)).sum := by
  unfold setOf
  rw [setOf_sum_go l 0 h (by simp)]; simp

theorem setOf_lt {l : List Nat} {n : Nat} (h : ∀ k ∈ l, k < n) : setOf l < 2 ^ n := by
  apply Nat.lt_pow_two_of_testBit
  intro i hi
  rw [tb_setOf]
  exact decide_eq_false fun q => absurd (h i q) (by omega)
theorem setOf_zero {l : List Nat} : setOf l = 0 ↔ l = [] := by
  constructor
  · intro e
    cases l with
    | nil => rfl
    | cons a l =>
      have h := tb_setOf (a :: l) a
      rw [e] at h
      simp at h
  · rintro rfl; rfl
/-- a fold by or -/
theorem tb_or_go {f : Nat → Nat} : ∀ (l : List Nat) (m k : Nat), (l.foldl (fun m s => m ||| f s) m).testBit k = (m.testBit k || l.any fun s => (f s).testBit k)
  | [], m, k => by simp
  | a :: l, m, k => by
    rw [List.foldl_cons, tb_or_go l, Nat.testBit_or, List.any_cons, Bool.or_assoc]
theorem setOf_or {f : Nat → List Nat} (l : List Nat) : setOf (l.flatMap f) = l.foldl (fun m s => m ||| setOf (f s)) 0 := by
  apply Nat.eq_of_testBit_eq
  intro k
  rw [tb_setOf, tb_or_go]
  rw [Nat.zero_testBit, Bool.false_or]
  by_cases h : k ∈ l.flatMap f
  · rw [decide_eq_true h]
    obtain ⟨s, hs, hk⟩ := List.mem_flatMap.mp h
    symm
    rw [List.any_eq_true]
    exact ⟨s, hs, by rw [tb_setOf]; exact decide_eq_true hk⟩
  · rw [decide_eq_false h]
    symm
    rw [List.any_eq_false]
    intro s hs
    rw [tb_setOf]
    have : ¬ k ∈ f s := fun q => h (List.mem_flatMap.mpr ⟨s, hs, q⟩)
    simp [this]

/-! ## The house -/
/-- a house that the desk may hold -/
structure Good (t : Task) : Prop where
  s1 : 1 ≤ t.states
  s5 : t.states ≤ 5
  g : t.goal < 2 ^ t.states
  a6 : t.acts.length ≤ 6
  l4 : t.looks.length ≤ 4
  act : ∀ a ∈ t.acts, 1 ≤ a.cost ∧ a.cost ≤ 1000 ∧ a.next.length = t.states ∧ ∀ r ∈ a.next, rising r = true ∧ ∀ s ∈ r, s < t.states
  look : ∀ l ∈ t.looks, 1 ≤ l.cost ∧ l.cost ≤ 1000 ∧ l.sees.length = t.states ∧ ∀ a ∈ l.sees, a < 3

theorem rising_lt : ∀ {l : List Nat} {a : Nat}, rising (a :: l) = true → ∀ k ∈ l, a < k
  | [], _, _, k, hk => by cases hk
  | b :: r, a, h, k, hk => by
    have h' : (decide (a < b) && rising (b :: r)) = true := h
    rw [Bool.and_eq_true] at h'
    have h1 : a < b := of_decide_eq_true h'.1
    rcases List.mem_cons.mp hk with e | q
    · rw [e]; exact h1
    · exact Nat.lt_trans h1 (rising_lt h'.2 k q)
theorem rising_tail {l : List Nat} {a : Nat} (h : rising (a :: l) = true) : rising l = true := by
  cases l with
  | nil => rfl
  | cons b r =>
    have h' : (decide (a < b) && rising (b :: r)) = true := h
    rw [Bool.and_eq_true] at h'
    exact h'.2
theorem rising_nodup : ∀ {l : List Nat}, rising l = true → l.Nodup
  | [], _ => List.nodup_nil
  | a :: l, h => List.nodup_cons.mpr ⟨fun q => Nat.lt_irrefl _ (rising_lt h a q), rising_nodup (rising_tail h)⟩

section
variable {t : Task}
theorem mem_members {b s : Nat} : s ∈ t.members b ↔ s < t.states ∧ b.testBit s = true := by
  unfold Task.members
  rw [List.mem_filter, List.mem_range, bit_tb]
theorem members_nodup (b : Nat) : (t.members b).Nodup := List.Pairwise.filter _ List.nodup_range
theorem members_set {b : Nat} (h : b < 2 ^ t.states) : setOf (t.members b) = b := by
  apply Nat.eq_of_testBit_eq
  intro k
  rw [tb_setOf]
  by_cases q : b.testBit k = true
  · rw [q]
    refine decide_eq_true (mem_members.mpr ⟨?_, q⟩)
    apply Nat.lt_of_not_le
    intro w
    have : b.testBit k = false := Nat.testBit_lt_two_pow (Nat.lt_of_lt_of_le h (Nat.pow_le_pow_right (by decide) w))
    rw [q] at this; cases this
  · rw [show b.testBit k = false by simpa using q]
    exact decide_eq_false fun z => q (mem_members.mp z).2
theorem members_ne {b : Nat} (h : b < 2 ^ t.states) (h0 : b ≠ 0) : t.members b ≠ [] := fun e => h0 (by rw [← members_set h, e]; rfl)
/-- as wanted, by and -/
theorem done_and {b : Nat} (h : b < 2 ^ t.states) : t.done b = decide (b &&& t.goal = b) := by
  unfold Task.done
  by_cases q : b &&& t.goal = b
  · rw [decide_eq_true q, List.all_eq_true]
    intro s hs
    have w := (mem_members.mp hs).2
    rw [← q, Nat.testBit_and, Bool.and_eq_true] at w
    rw [bit_tb]; exact w.2
  · rw [decide_eq_false q]
    rw [← Bool.not_eq_true, List.all_eq_true]
    intro w
    apply q
    apply Nat.eq_of_testBit_eq
    intro k
    rw [Nat.testBit_and]
    by_cases r : b.testBit k = true
    · have hk : k ∈ t.members b := by
        rw [← members_set h, tb_setOf] at r
        exact of_decide_eq_true r
      have := w k hk
      rw [bit_tb] at this
      rw [r, this]; rfl
    · rw [show b.testBit k = false by simpa using r]; rfl
theorem done_zero : t.done 0 = true := by
  unfold Task.done
  rw [List.all_eq_true]
  intro s hs
  have := (mem_members.mp hs).2
  simp at this
theorem act_of {k : Nat} (h : k < t.acts.length) : t.act k = t.acts[k] := by
  unfold Task.act
  rw [List.getD_eq_getElem?_getD, List.getElem?_eq_getElem h]; rfl
theorem act_no {k : Nat} (h : t.acts.length ≤ k) : t.act k = ⟨1, []⟩ := by
  unfold Task.act
  rw [List.getD_eq_getElem?_getD, List.getElem?_eq_none h]; rfl
theorem look_of {k : Nat} (h : k < t.looks.length) : t.look k = t.looks[k] := by
  unfold Task.look
  rw [List.getD_eq_getElem?_getD, List.getElem?_eq_getElem h]; rfl
theorem look_no {k : Nat} (h : t.looks.length ≤ k) : t.look k = ⟨1, []⟩ := by
  unfold Task.look
  rw [List.getD_eq_getElem?_getD, List.getElem?_eq_none h]; rfl
theorem next_lt (G : Good t) {k s u : Nat} (h : u ∈ (t.act k).next.getD s []) : u < t.states := by
  by_cases hk : k < t.acts.length
  · rw [act_of hk] at h
    rw [List.getD_eq_getElem?_getD] at h
    cases e : t.acts[k].next[s]? with
    | none => rw [e] at h; simp at h
    | some r =>
      rw [e] at h
      exact ((G.act _ (List.getElem_mem hk)).2.2.2 r (List.mem_of_getElem? e)).2 u h
  · rw [act_no (by omega)] at h
    simp at h
theorem then_lt (G : Good t) (b k : Nat) : t.then_ b k < 2 ^ t.states := by
  unfold Task.then_
  apply setOf_lt
  intro u hu
  obtain ⟨s, _, h⟩ := List.mem_flatMap.mp hu
  exact next_lt G h
theorem seen_lt (b j a : Nat) : t.seen b j a < 2 ^ t.states := by
  unfold Task.seen
  apply setOf_lt
  intro u hu
  exact (mem_members.mp (List.mem_filter.mp hu).1).1
theorem then_ne {b k : Nat} (h : b < 2 ^ t.states) (h0 : b ≠ 0) (hc : t.can b k = true) : t.then_ b k ≠ 0 := by
  unfold Task.can at hc
  rw [Bool.and_eq_true] at hc
  have hm := members_ne h h0
  intro e
  unfold Task.then_ at e
  rw [setOf_zero] at e
  cases q : t.members b with
  | nil => exact hm q
  | cons s r =>
    have hs : s ∈ t.members b := by rw [q]; exact List.mem_cons_self
    have w := List.all_eq_true.mp hc.2 s hs
    cases z : (t.act k).next.getD s [] with
    | nil => rw [z] at w; simp at w
    | cons u v =>
      have : u ∈ (t.members b).flatMap fun s => (t.act k).next.getD s [] := List.mem_flatMap.mpr ⟨s, hs, by rw [z]; exact List.mem_cons_self⟩
      rw [e] at this; cases this
theorem sees_lt (G : Good t) (j s : Nat) : (t.look j).sees.getD s 0 < 3 := by
  by_cases hk : j < t.looks.length
  · rw [look_of hk, List.getD_eq_getElem?_getD]
    cases e : t.looks[j].sees[s]? with
    | none => simp
    | some r => exact (G.look _ (List.getElem_mem hk)).2.2.2 r (List.mem_of_getElem? e)
  · rw [look_no (by omega)]; simp
theorem answers_ne (G : Good t) {b : Nat} (h : b < 2 ^ t.states) (h0 : b ≠ 0) (j : Nat) : t.answers b j ≠ [] := by
  cases q : t.members b with
  | nil => exact absurd q (members_ne h h0)
  | cons s r =>
    have hs : s ∈ t.members b := by rw [q]; exact List.mem_cons_self
    have hm : (t.look j).sees.getD s 0 ∈ t.answers b j := by
      unfold Task.answers
      rw [List.mem_filter, List.mem_range]
      refine ⟨sees_lt G j s, ?_⟩
      unfold Task.seen
      rw [bne_iff_ne, Ne, setOf_zero]
      intro e
      have : s ∈ (t.members b).filter fun s' => (t.look j).sees.getD s' 0 == (t.look j).sees.getD s 0 := List.mem_filter.mpr ⟨hs, by simp⟩
      rw [e] at this; cases this
    intro e
    rw [e] at hm; cases hm
theorem mem_answers {b j a : Nat} : a ∈ t.answers b j ↔ a < 3 ∧ t.seen b j a ≠ 0 := by
  unfold Task.answers
  rw [List.mem_filter, List.mem_range, bne_iff_ne]; rfl
end
end U
/-! ## Costs -/
namespace U
open Pn09

def minO : List (Option Nat) → Option Nat
  | [] => none
  | x :: r => least x (minO r)
theorem least_none (x : Option Nat) : least x none = x := by cases x <;> rfl
theorem none_least (x : Option Nat) : least none x = x := by cases x <;> rfl
theorem least_assoc (x y z : Option Nat) : least (least x y) z = least x (least y z) := by
  cases x <;> cases y <;> cases z <;> simp [least, Nat.min_assoc]
theorem fold_least {α : Type} (f : α → Option Nat) : ∀ (l : List α) (x : Option Nat), l.foldl (fun c k => least c (f k)) x = least x (minO (l.map f))
  | [], x => by rw [List.foldl_nil, List.map_nil]; exact (least_none x).symm
  | a :: l, x => by
    rw [List.foldl_cons, fold_least f l, List.map_cons, least_assoc]; rfl
theorem minO_append : ∀ (l m : List (Option Nat)), minO (l ++ m) = least (minO l) (minO m)
  | [], m => (none_least _).symm
  | x :: l, m => by
    show least x (minO (l ++ m)) = least (least x (minO l)) (minO m)
    rw [minO_append l m, least_assoc]
/-- no dearer (none: dearer than all) -/
def LeO (x y : Option Nat) : Prop := ∀ v, y = some v → ∃ u, u ≤ v ∧ x = some u
theorem LeO.refl (x : Option Nat) : LeO x x := fun v h => ⟨v, Nat.le_refl _, h⟩
theorem LeO.trans {x y z : Option Nat} (a : LeO x y) (b : LeO y z) : LeO x z := fun v h => by
  obtain ⟨u, h1, h2⟩ := b v h
  obtain ⟨w, h3, h4⟩ := a u h2
  exact ⟨w, Nat.le_trans h3 h1, h4⟩
theorem LeO.none (x : Option Nat) : LeO x none := fun _ h => by cases h
theorem LeO.antisymm {x y : Option Nat} (a : LeO x y) (b : LeO y x) : x = y := by
  cases y with
  | none =>
    cases x with
    | none => rfl
    | some u => obtain ⟨v, _, h⟩ := b u rfl; cases h
  | some v =>
    obtain ⟨u, h1, rfl⟩ := a v rfl
    obtain ⟨w, h2, h3⟩ := b u rfl
    cases h3
    rw [Nat.le_antisymm h1 h2]
theorem least_of_le {x y : Option Nat} (h : LeO y x) : least x y = y := by
  cases x with
  | none => exact none_least y
  | some v =>
    obtain ⟨u, h1, rfl⟩ := h v rfl
    show some (min v u) = some u
    rw [Nat.min_eq_right h1]
theorem minO_le : ∀ {l : List (Option Nat)} {x : Option Nat}, x ∈ l → LeO (minO l) x
  | [], x, h => by cases h
  | y :: l, x, h => by
    intro v e
    subst e
    rcases List.mem_cons.mp h with e | h
    · subst e
      cases q : minO l with
      | none => exact ⟨v, Nat.le_refl _, by show least (some v) (minO l) = _; rw [q]; rfl⟩
      | some u => exact ⟨min v u, Nat.min_le_left _ _, by show least (some v) (minO l) = _; rw [q]; rfl⟩
    · obtain ⟨u, h1, h2⟩ := minO_le h v rfl
      cases y with
      | none => exact ⟨u, h1, by show least none (minO l) = _; rw [h2]; rfl⟩
      | some w => exact ⟨min w u, Nat.le_trans (Nat.min_le_right _ _) h1, by show least (some w) (minO l) = _; rw [h2]; rfl⟩
theorem minO_mem : ∀ {l : List (Option Nat)} {c : Nat}, minO l = some c → some c ∈ l
  | [], c, h => by cases h
  | y :: l, c, h => by
    have h' : least y (minO l) = some c := h
    cases q : minO l with
    | none =>
      rw [q, least_none] at h'
      rw [h']; exact List.mem_cons_self
    | some u =>
      rw [q] at h'
      cases y with
      | none =>
        have e : some u = some c := h'
        rw [← e]
        exact List.mem_cons_of_mem _ (minO_mem q)
      | some w =>
        have e : some (min w u) = some c := h'
        rw [← e]
        by_cases z : w ≤ u
        · rw [Nat.min_eq_left z]; exact List.mem_cons_self
        · rw [Nat.min_eq_right (by omega)]; exact List.mem_cons_of_mem _ (minO_mem q)
theorem minO_mono {α : Type} {f g : α → Option Nat} {l : List α} (h : ∀ a ∈ l, LeO (f a) (g a)) : LeO (minO (l.map f)) (minO (l.map g)) := fun v e => by
  obtain ⟨a, ha, e2⟩ := List.mem_map.mp (minO_mem e)
  exact ((minO_le (List.mem_map.mpr ⟨a, ha, rfl⟩)).trans (h a ha)) v e2

/-- the dearest of some sets -/
def maxs (d : Array (Option Nat)) (cs : List Nat) (x : Option Nat) : Option Nat := cs.foldl (fun c y => most c (at_ d y)) x
theorem maxs_none (d : Array (Option Nat)) : ∀ cs : List Nat, maxs d cs none = none
  | [] => rfl
  | y :: cs => by
    show maxs d cs (most none (at_ d y)) = none
    exact maxs_none d cs
theorem maxs_some {d : Array (Option Nat)} : ∀ {cs : List Nat} {x : Option Nat} {m : Nat}, maxs d cs x = some m → (∃ v, v ≤ m ∧ x = some v) ∧ ∀ y ∈ cs, ∃ u, u ≤ m ∧ at_ d y = some u
  | [], x, m, h => ⟨⟨m, Nat.le_refl _, h⟩, fun _ z => by cases z⟩
  | y :: cs, x, m, h => by
    have h' : maxs d cs (most x (at_ d y)) = some m := h
    obtain ⟨⟨v, h1, h2⟩, h3⟩ := maxs_some h'
    cases x with
    | none => cases h2
    | some a =>
      cases e : at_ d y with
      | none => rw [e] at h2; cases h2
      | some c =>
        rw [e] at h2
        have h4 : some (max a c) = some v := h2
        have h5 : max a c = v := Option.some.inj h4
        refine ⟨⟨a, by omega, rfl⟩, fun z hz => ?_⟩
        rcases List.mem_cons.mp hz with q | q
        · subst q
          exact ⟨c, by omega, e⟩
        · exact h3 z q
theorem maxs_mono {d d' : Array (Option Nat)} : ∀ {cs : List Nat} {x x' : Option Nat}, LeO x x' → (∀ y ∈ cs, LeO (at_ d y) (at_ d' y)) → LeO (maxs d cs x) (maxs d' cs x')
  | [], x, x', h, _ => h
  | y :: cs, x, x', h, hc => by
    refine maxs_mono (cs := cs) (x := most x (at_ d y)) (x' := most x' (at_ d' y)) ?_ fun z hz => hc z (List.mem_cons_of_mem _ hz)
    intro v e
    cases x' with
    | none => cases e
    | some a =>
      have hy := hc y List.mem_cons_self
      cases q : at_ d' y with
      | none => rw [q] at e; cases e
      | some c =>
        rw [q] at e hy
        obtain ⟨u1, h1, rfl⟩ := h a rfl
        obtain ⟨u2, h2, h3⟩ := hy c rfl
        rw [h3]
        have e' : some (max a c) = some v := e
        cases e'
        exact ⟨max u1 u2, by omega, rfl⟩
theorem maxs_congr {d d' : Array (Option Nat)} : ∀ {cs : List Nat} {x : Option Nat}, (∀ y ∈ cs, at_ d y = at_ d' y) → maxs d cs x = maxs d' cs x
  | [], _, _ => rfl
  | y :: cs, x, h => by
    show maxs d cs (most x (at_ d y)) = maxs d' cs (most x (at_ d' y))
    rw [h y List.mem_cons_self]
    exact maxs_congr fun z hz => h z (List.mem_cons_of_mem _ hz)

/-- what one may begin with: its cost, and the sets behind it -/
def opts (t : Task) (lk : Bool) (b : Nat) : List (Option (Nat × List Nat)) :=
  (List.range t.acts.length).map (fun k => if t.can b k = true then some ((t.act k).cost, [t.then_ b k]) else none) ++
    if lk = true then (List.range t.looks.length).map (fun j => some ((t.look j).cost, (t.answers b j).map (t.seen b j))) else []
def val (d : Array (Option Nat)) : Option (Nat × List Nat) → Option Nat
  | none => none
  | some (c, cs) => (maxs d cs (some 0)).map (c + ·)
/-- what plans cost by what they begin with -/
def ways (t : Task) (lk : Bool) (d : Array (Option Nat)) (b : Nat) : List (Option Nat) :=
  (List.range t.acts.length).map (t.byAct d b) ++ if lk = true then (List.range t.looks.length).map (t.byLook d b) else []
theorem ways_opts (t : Task) (lk : Bool) (d : Array (Option Nat)) (b : Nat) : ways t lk d b = (opts t lk b).map (val d) := by
  unfold ways opts
  rw [List.map_append, List.map_map]
  congr 1
  · apply List.map_congr_left
    intro k _
    show t.byAct d b k = val d (if t.can b k = true then some ((t.act k).cost, [t.then_ b k]) else none)
    unfold Task.byAct
    by_cases h : t.can b k = true
    · rw [if_pos h, if_pos h]
      show _ = (most (some 0) (at_ d (t.then_ b k))).map _
      cases at_ d (t.then_ b k) with
      | none => rfl
      | some c =>
        show some _ = some _
        simp
    · rw [if_neg h, if_neg h]; rfl
  · by_cases h : lk = true
    · rw [if_pos h, if_pos h, List.map_map]
      apply List.map_congr_left
      intro j _
      show t.byLook d b j = (maxs d ((t.answers b j).map (t.seen b j)) (some 0)).map _
      unfold Task.byLook maxs
      rw [List.foldl_map]
    · rw [if_neg h, if_neg h]; rfl
def nextv (t : Task) (lk : Bool) (d : Array (Option Nat)) (b : Nat) : Option Nat := if t.done b = true then some 0 else minO (ways t lk d b)
def nextd (t : Task) (lk : Bool) (d : Array (Option Nat)) : Array (Option Nat) := ((List.range (2 ^ t.states)).map (nextv t lk d)).toArray
def steps (t : Task) (lk : Bool) : Nat → Array (Option Nat)
  | 0 => (List.replicate (2 ^ t.states) none).toArray
  | k + 1 => nextd t lk (steps t lk k)

theorem at_map {n : Nat} {f : Nat → Option Nat} (b : Nat) : at_ ((List.range n).map f).toArray b = if b < n then f b else none := by
  unfold at_
  rw [Array.getD_eq_getD_getElem?]
  by_cases h : b < n
  · rw [if_pos h]
    simp [h]
  · rw [if_neg h]
    simp [h]
theorem at_next {t : Task} {lk : Bool} {d : Array (Option Nat)} (b : Nat) : at_ (nextd t lk d) b = if b < 2 ^ t.states then nextv t lk d b else none := at_map b
theorem at_zero {t : Task} {lk : Bool} (b : Nat) : at_ (steps t lk 0) b = none := by
  unfold at_ steps
  rw [Array.getD_eq_getD_getElem?]
  by_cases h : b < 2 ^ t.states
  · simp [h]
  · simp [h]
theorem size_steps {t : Task} {lk : Bool} : ∀ k, (steps t lk k).size = 2 ^ t.states
  | 0 => by simp [steps]
  | k + 1 => by simp [steps, nextd]
theorem ext_at {d d' : Array (Option Nat)} {n : Nat} (h1 : d.size = n) (h2 : d'.size = n) (h : ∀ b, b < n → at_ d b = at_ d' b) : d = d' := by
  apply Array.ext (h1.trans h2.symm)
  intro i hi hi'
  have := h i (by omega)
  unfold at_ at this
  simpa [Array.getD_eq_getD_getElem?, hi, hi'] using this

theorem val_mono {d d' : Array (Option Nat)} (h : ∀ b, LeO (at_ d b) (at_ d' b)) (o : Option (Nat × List Nat)) : LeO (val d o) (val d' o) := by
  cases o with
  | none => exact LeO.refl _
  | some p =>
    obtain ⟨c, cs⟩ := p
    intro v e
    have e' : (maxs d' cs (some 0)).map (c + ·) = some v := e
    obtain ⟨m, h1, h2⟩ := Option.map_eq_some_iff.mp e'
    obtain ⟨u, h3, h4⟩ := maxs_mono (cs := cs) (LeO.refl (some 0)) (fun y _ => h y) m h1
    refine ⟨c + u, by omega, ?_⟩
    show (maxs d cs (some 0)).map (c + ·) = _
    rw [h4]; rfl
theorem nextv_mono {t : Task} {lk : Bool} {d d' : Array (Option Nat)} (h : ∀ b, LeO (at_ d b) (at_ d' b)) (b : Nat) : LeO (nextv t lk d b) (nextv t lk d' b) := by
  unfold nextv
  by_cases q : t.done b = true
  · rw [if_pos q, if_pos q]; exact LeO.refl _
  · rw [if_neg q, if_neg q, ways_opts, ways_opts]
    exact minO_mono fun o _ => val_mono h o
theorem steps_down {t : Task} {lk : Bool} : ∀ (k b : Nat), LeO (at_ (steps t lk (k + 1)) b) (at_ (steps t lk k) b)
  | 0, b => by rw [at_zero]; exact LeO.none _
  | k + 1, b => by
    show LeO (at_ (nextd t lk (steps t lk (k + 1))) b) (at_ (nextd t lk (steps t lk k)) b)
    rw [at_next, at_next]
    by_cases h : b < 2 ^ t.states
    · rw [if_pos h, if_pos h]
      exact nextv_mono (steps_down k) b
    · rw [if_neg h, if_neg h]; exact LeO.refl _
theorem opts_pos {t : Task} (G : Good t) {lk : Bool} {b c : Nat} {cs : List Nat} (h : some (c, cs) ∈ opts t lk b) : 1 ≤ c := by
  unfold opts at h
  rcases List.mem_append.mp h with h | h
  · obtain ⟨k, hk, e⟩ := List.mem_map.mp h
    by_cases q : t.can b k = true
    · rw [if_pos q] at e
      cases e
      rw [act_of (List.mem_range.mp hk)]
      exact (G.act _ (List.getElem_mem (List.mem_range.mp hk))).1
    · rw [if_neg q] at e; cases e
  · by_cases q : lk = true
    · rw [if_pos q] at h
      obtain ⟨k, hk, e⟩ := List.mem_map.mp h
      cases e
      rw [look_of (List.mem_range.mp hk)]
      exact (G.look _ (List.getElem_mem (List.mem_range.mp hk))).1
    · rw [if_neg q] at h; cases h

/-- a set whose cost changed at a step hangs on one whose cost changed at the step before, and is cheaper -/
theorem chain {t : Task} (G : Good t) {lk : Bool} : ∀ (k b c : Nat), at_ (steps t lk (k + 1)) b = some c → at_ (steps t lk k) b ≠ some c →
    ∃ L : List Nat, L.length = k ∧ (b :: L).Nodup ∧ ∀ y ∈ b :: L, y < 2 ^ t.states ∧ ∃ u, u ≤ c ∧ at_ (steps t lk (k + 1)) y = some u
  | 0, b, c, h, _ => by
    refine ⟨[], rfl, by simp, fun y hy => ?_⟩
    rw [List.mem_singleton] at hy
    subst hy
    refine ⟨?_, c, Nat.le_refl _, h⟩
    apply Classical.byContradiction
    intro q
    have h' : at_ (nextd t lk (steps t lk 0)) y = some c := h
    rw [at_next, if_neg q] at h'; cases h'
  | k + 1, b, c, h, hne => by
    have h' : at_ (nextd t lk (steps t lk (k + 1))) b = some c := h
    rw [at_next] at h'
    have hb : b < 2 ^ t.states := by
      apply Classical.byContradiction
      intro q
      rw [if_neg q] at h'; cases h'
    rw [if_pos hb] at h'
    have hd : ¬ t.done b = true := fun q => by
      apply hne
      show at_ (nextd t lk (steps t lk k)) b = some c
      rw [at_next, if_pos hb, ← h']
      unfold nextv
      rw [if_pos q, if_pos q]
    unfold nextv at h'
    rw [if_neg hd, ways_opts] at h'
    obtain ⟨o, ho, e⟩ := List.mem_map.mp (minO_mem h')
    cases o with
    | none => cases e
    | some p =>
      obtain ⟨cc, cs⟩ := p
      have hp := opts_pos G ho
      have e' : (maxs (steps t lk (k + 1)) cs (some 0)).map (cc + ·) = some c := e
      obtain ⟨m, h1, h2⟩ := Option.map_eq_some_iff.mp e'
      have h2' : cc + m = c := h2
      -- some child changed
      have hx : ∃ y ∈ cs, at_ (steps t lk (k + 1)) y ≠ at_ (steps t lk k) y := by
        apply Classical.byContradiction
        intro q
        have q' : ∀ y ∈ cs, at_ (steps t lk (k + 1)) y = at_ (steps t lk k) y := fun y hy => Classical.byContradiction fun z => q ⟨y, hy, z⟩
        apply hne
        have w : val (steps t lk k) (some (cc, cs)) = some c := by
          show (maxs (steps t lk k) cs (some 0)).map (cc + ·) = some c
          rw [← maxs_congr q', h1]
          exact congrArg some h2'
        have le1 : LeO (nextv t lk (steps t lk k) b) (some c) := by
          unfold nextv
          rw [if_neg hd, ways_opts, ← w]
          exact minO_le (List.mem_map.mpr ⟨_, ho, rfl⟩)
        have le2 := steps_down (t := t) (lk := lk) (k + 1) b
        rw [h] at le2
        apply LeO.antisymm
        · show LeO (at_ (nextd t lk (steps t lk k)) b) _
          rw [at_next, if_pos hb]; exact le1
        · exact le2
      obtain ⟨y, hy, hyn⟩ := hx
      obtain ⟨u, hu, eu⟩ := (maxs_some h1).2 y hy
      rw [eu] at hyn
      obtain ⟨L, l1, l2, l3⟩ := chain G k y u eu (Ne.symm hyn)
      have dn : ∀ z v, at_ (steps t lk (k + 1)) z = some v → ∃ w, w ≤ v ∧ at_ (steps t lk (k + 1 + 1)) z = some w := fun z v => steps_down (k + 1) z v
      refine ⟨y :: L, by rw [List.length_cons, l1], List.nodup_cons.mpr ⟨fun z => ?_, l2⟩, fun z hz => ?_⟩
      · -- b was dearer than c; what stands in the chain is cheaper
        obtain ⟨_, v, v1, v2⟩ := l3 b z
        obtain ⟨w, w1, w2⟩ := dn b v v2
        rw [h] at w2
        cases w2
        omega
      · rcases List.mem_cons.mp hz with q | q
        · subst q
          exact ⟨hb, c, Nat.le_refl _, h⟩
        · obtain ⟨a1, v, v1, v2⟩ := l3 z q
          obtain ⟨w, w1, w2⟩ := dn z v v2
          exact ⟨a1, w, by omega, w2⟩

theorem nodup_le {n : Nat} : ∀ {L : List Nat}, L.Nodup → (∀ y ∈ L, y < n) → L.length ≤ n := by
  induction n with
  | zero =>
    intro L _ h
    cases L with
    | nil => exact Nat.le_refl _
    | cons a r => exact absurd (h a List.mem_cons_self) (Nat.not_lt_zero _)
  | succ n ih =>
    intro L hn h
    have := ih (L := L.filter (· != n)) (List.Pairwise.filter _ hn) fun y hy => by
      obtain ⟨h1, h2⟩ := List.mem_filter.mp hy
      have h3 := h y h1
      have h4 : y ≠ n := by simpa using h2
      omega
    have e : L.length ≤ (L.filter (· != n)).length + 1 := by
      clear this ih h
      induction L with
      | nil => simp
      | cons a r ih =>
        have hn' := List.nodup_cons.mp hn
        by_cases q : a = n
        · subst q
          rw [List.filter_cons_of_neg (by simp)]
          have : r.filter (· != a) = r := by
            rw [List.filter_eq_self]
            intro y hy
            have : y ≠ a := fun z => hn'.1 (z ▸ hy)
            simpa using this
          rw [this]
          simp
        · rw [List.filter_cons_of_pos (by simpa using q)]
          have := ih hn'.2
          simp only [List.length_cons]
          omega
    omega
theorem steps_end {t : Task} (G : Good t) {lk : Bool} {k : Nat} (h : 2 ^ t.states ≤ k) : steps t lk (k + 1) = steps t lk k := by
  apply ext_at (size_steps _) (size_steps _)
  intro b _
  apply Classical.byContradiction
  intro q
  cases e : at_ (steps t lk (k + 1)) b with
  | none =>
    have le := steps_down (t := t) (lk := lk) k b
    rw [e] at le q
    cases e2 : at_ (steps t lk k) b with
    | none => exact q e2.symm
    | some v =>
      obtain ⟨u, _, z⟩ := le v e2
      cases z
  | some c =>
    obtain ⟨L, l1, l2, l3⟩ := chain G k b c e (fun z => q (e.trans z.symm))
    have := nodup_le l2 fun y hy => (l3 y hy).1
    rw [List.length_cons, l1] at this
    omega
theorem steps_fix {t : Task} {lk : Bool} {k : Nat} (h : steps t lk (k + 1) = steps t lk k) : ∀ m, steps t lk (k + m) = steps t lk k
  | 0 => rfl
  | m + 1 => by
    show nextd t lk (steps t lk (k + m)) = steps t lk k
    rw [steps_fix h m]
    exact h
theorem fix_last {t : Task} (G : Good t) {lk : Bool} {k : Nat} (h : steps t lk (k + 1) = steps t lk k) : steps t lk k = steps t lk (2 ^ t.states) := by
  by_cases q : k ≤ 2 ^ t.states
  · have := steps_fix h (2 ^ t.states - k)
    rw [← this]
    congr 1
    omega
  · have := steps_fix (steps_end G (Nat.le_refl (2 ^ t.states)) (lk := lk)) (k - 2 ^ t.states)
    rw [← this]
    congr 1
    omega

/-! ### the specification's rounds -/
theorem round_eq (t : Task) (lk : Bool) (d : Array (Option Nat)) : t.round lk d = ((List.range (2 ^ t.states)).map fun b => if t.done b = true then some 0 else least (at_ d b) (minO (ways t lk d b))).toArray := by
  unfold Task.round
  congr 1
  apply List.map_congr_left
  intro b _
  congr 1
  rw [fold_least (t.byAct d b)]
  unfold ways
  rw [minO_append, ← least_assoc]
  congr 1
  by_cases h : lk = true
  · rw [if_pos h, if_pos h, fold_least (t.byLook d b), none_least]
  · rw [if_neg h, if_neg h]; rfl
theorem round_steps (t : Task) (lk : Bool) (k : Nat) : t.round lk (steps t lk (k + 1)) = steps t lk (k + 2) := by
  rw [round_eq]
  show _ = ((List.range (2 ^ t.states)).map (nextv t lk (steps t lk (k + 1)))).toArray
  congr 1
  apply List.map_congr_left
  intro b hb
  unfold nextv
  by_cases q : t.done b = true
  · rw [if_pos q, if_pos q]
  · rw [if_neg q, if_neg q]
    apply least_of_le
    have := steps_down (t := t) (lk := lk) (k + 1) b
    have e : at_ (steps t lk (k + 1 + 1)) b = minO (ways t lk (steps t lk (k + 1)) b) := by
      show at_ (nextd t lk (steps t lk (k + 1))) b = _
      rw [at_next, if_pos (List.mem_range.mp hb)]
      unfold nextv
      rw [if_neg q]
    rw [e] at this
    exact this
theorem first_steps {t : Task} (G : Good t) (lk : Bool) : ((List.range (2 ^ t.states)).map fun b => if t.done b = true then some 0 else none).toArray = steps t lk 1 := by
  show _ = ((List.range (2 ^ t.states)).map (nextv t lk (steps t lk 0))).toArray
  congr 1
  apply List.map_congr_left
  intro b hb
  unfold nextv
  by_cases q : t.done b = true
  · rw [if_pos q, if_pos q]
  · rw [if_neg q, if_neg q]
    symm
    rw [ways_opts]
    cases e : minO ((opts t lk b).map (val (steps t lk 0))) with
    | none => rfl
    | some c =>
      obtain ⟨o, ho, e2⟩ := List.mem_map.mp (minO_mem e)
      have hb0 : b ≠ 0 := fun z => q (z ▸ done_zero)
      cases o with
      | none => cases e2
      | some p =>
        obtain ⟨cc, cs⟩ := p
        have e3 : (maxs (steps t lk 0) cs (some 0)).map (cc + ·) = some c := e2
        obtain ⟨m, h1, _⟩ := Option.map_eq_some_iff.mp e3
        have hne : cs ≠ [] := by
          unfold opts at ho
          rcases List.mem_append.mp ho with h | h
          · obtain ⟨k, hk, e⟩ := List.mem_map.mp h
            by_cases q : t.can b k = true
            · rw [if_pos q] at e
              cases e
              simp
            · rw [if_neg q] at e; cases e
          · by_cases q : lk = true
            · rw [if_pos q] at h
              obtain ⟨k, hk, e⟩ := List.mem_map.mp h
              cases e
              intro z
              exact answers_ne G (List.mem_range.mp hb) hb0 k (List.map_eq_nil_iff.mp z)
            · rw [if_neg q] at h; cases h
        cases cs with
        | nil => exact absurd rfl hne
        | cons y cs =>
          obtain ⟨u, _, z⟩ := (maxs_some h1).2 y List.mem_cons_self
          rw [at_zero] at z; cases z
theorem settle_steps {t : Task} (lk : Bool) : ∀ (n k : Nat), ∃ m, settle (t.round lk) n (steps t lk (k + 1)) = steps t lk (k + 1 + m) ∧ (m = n ∨ steps t lk (k + 1 + m + 1) = steps t lk (k + 1 + m))
  | 0, k => ⟨0, rfl, .inl rfl⟩
  | n + 1, k => by
    by_cases h : t.round lk (steps t lk (k + 1)) = steps t lk (k + 1)
    · refine ⟨0, ?_, .inr ?_⟩
      · show (if t.round lk (steps t lk (k + 1)) = steps t lk (k + 1) then steps t lk (k + 1) else settle (t.round lk) n (t.round lk (steps t lk (k + 1)))) = _
        rw [if_pos h]
      · rw [round_steps] at h
        exact h
    · obtain ⟨m, h1, h2⟩ := settle_steps lk n (k + 1)
      refine ⟨m + 1, ?_, ?_⟩
      · show (if t.round lk (steps t lk (k + 1)) = steps t lk (k + 1) then steps t lk (k + 1) else settle (t.round lk) n (t.round lk (steps t lk (k + 1)))) = _
        rw [if_neg h, round_steps, h1]
        congr 1
        omega
      · rcases h2 with h2 | h2
        · exact .inl (by omega)
        · refine .inr ?_
          have e : k + 1 + (m + 1) = k + 1 + 1 + m := by omega
          rw [e]; exact h2
/-- the costs are what the steps come to -/
theorem costs_last {t : Task} (G : Good t) (lk : Bool) : t.costs lk = steps t lk (2 ^ t.states) := by
  unfold Task.costs
  rw [first_steps G lk]
  obtain ⟨m, h1, h2⟩ := settle_steps (t := t) lk (2 ^ t.states + 1) 0
  rw [h1]
  rcases h2 with h2 | h2
  · exact fix_last G (steps_end G (by omega))
  · exact fix_last G h2
theorem costs_of {t : Task} (G : Good t) {lk : Bool} {k : Nat} (h : steps t lk (k + 1) = steps t lk k) : steps t lk k = t.costs lk := by
  rw [costs_last G, fix_last G h]
theorem costs_next {t : Task} (G : Good t) (lk : Bool) : nextd t lk (t.costs lk) = t.costs lk := by
  rw [costs_last G]
  exact steps_end G (Nat.le_refl _)
theorem costs_size {t : Task} (G : Good t) (lk : Bool) : (t.costs lk).size = 2 ^ t.states := by
  rw [costs_last G, size_steps]
theorem costs_at {t : Task} (G : Good t) (lk : Bool) {b : Nat} (h : b < 2 ^ t.states) : at_ (t.costs lk) b = nextv t lk (t.costs lk) b := by
  conv => lhs; rw [← costs_next G lk]
  rw [at_next, if_pos h]
end U
/-! ## The best plan -/
namespace U
open Pn09

def ltO : Option Nat → Option Nat → Bool
  | some u, some v => decide (u < v)
  | _, _ => false
/-- how many sets are cheaper -/
def rk (d : Array (Option Nat)) (n b : Nat) : Nat := ((List.range n).filter fun x => ltO (at_ d x) (at_ d b)).length
theorem filter_lt {α : Type} {p q : α → Bool} : ∀ {l : List α}, (∀ x ∈ l, p x = true → q x = true) → (∃ x ∈ l, q x = true ∧ p x = false) → (l.filter p).length < (l.filter q).length
  | [], _, h => by obtain ⟨x, hx, _⟩ := h; cases hx
  | a :: l, h, hx => by
    have hl : ∀ x ∈ l, p x = true → q x = true := fun x hx => h x (List.mem_cons_of_mem _ hx)
    have le : (l.filter p).length ≤ (l.filter q).length := by
      clear hx h
      induction l with
      | nil => exact Nat.le_refl _
      | cons b r ih =>
        have := ih fun x hx => hl x (List.mem_cons_of_mem _ hx)
        have hb := hl b List.mem_cons_self
        rw [List.filter_cons, List.filter_cons]
        by_cases hp : p b = true
        · rw [if_pos hp, if_pos (hb hp)]
          simp only [List.length_cons]
          omega
        · rw [if_neg hp]
          by_cases hq : q b = true
          · rw [if_pos hq]
            simp only [List.length_cons]
            omega
          · rw [if_neg hq]; exact this
    obtain ⟨x, hx, h1, h2⟩ := hx
    rw [List.filter_cons, List.filter_cons]
    rcases List.mem_cons.mp hx with e | hx
    · subst e
      rw [if_pos h1, if_neg (by rw [h2]; exact Bool.false_ne_true)]
      simp only [List.length_cons]
      omega
    · have := filter_lt hl ⟨x, hx, h1, h2⟩
      by_cases hp : p a = true
      · rw [if_pos hp, if_pos (h a List.mem_cons_self hp)]
        simp only [List.length_cons]
        omega
      · rw [if_neg hp]
        by_cases hq : q a = true
        · rw [if_pos hq]
          simp only [List.length_cons]
          omega
        · rw [if_neg hq]; exact this
theorem rk_lt {d : Array (Option Nat)} {n x b u c : Nat} (hx : x < n) (h1 : at_ d x = some u) (h2 : at_ d b = some c) (h : u < c) : rk d n x < rk d n b := by
  refine filter_lt (fun y _ hy => ?_) ⟨x, List.mem_range.mpr hx, ?_, ?_⟩
  · rw [h1] at hy
    rw [h2]
    cases e : at_ d y with
    | none => rw [e] at hy; cases hy
    | some v =>
      rw [e] at hy
      have : v < u := of_decide_eq_true hy
      exact decide_eq_true (show v < c by omega)
  · rw [h1, h2]; exact decide_eq_true h
  · rw [h1]; exact decide_eq_false (Nat.lt_irrefl u)
theorem rk_le (d : Array (Option Nat)) (n b : Nat) : rk d n b ≤ n := by
  have := List.length_filter_le (fun x => ltO (at_ d x) (at_ d b)) (List.range n)
  rw [List.length_range] at this
  exact this

/-- the first place of x -/
def IsFirst (l : List (Option Nat)) (x : Option Nat) (i : Nat) : Prop := l[i]? = some x ∧ ∀ j, j < i → l[j]? ≠ some x
theorem isFirst_of {l : List (Option Nat)} {x : Option Nat} (h : x ∈ l) : ∃ i, IsFirst l x i := by
  induction l with
  | nil => cases h
  | cons a l ih =>
    by_cases q : a = x
    · subst q
      exact ⟨0, rfl, fun j hj => absurd hj (Nat.not_lt_zero _)⟩
    · rcases List.mem_cons.mp h with e | h
      · exact absurd e.symm q
      · obtain ⟨i, h1, h2⟩ := ih h
        refine ⟨i + 1, h1, fun j hj => ?_⟩
        cases j with
        | zero =>
          intro z
          exact q (Option.some.inj z)
        | succ j => exact h2 j (by omega)
theorem IsFirst.uniq {l : List (Option Nat)} {x : Option Nat} {i j : Nat} (a : IsFirst l x i) (b : IsFirst l x j) : i = j := by
  rcases Nat.lt_trichotomy i j with h | h | h
  · exact absurd a.1 (b.2 i h)
  · exact h
  · exact absurd b.1 (a.2 j h)

section
variable {t : Task} {lk : Bool} {d : Array (Option Nat)}
theorem ways_act {b i : Nat} (h : i < t.acts.length) : (ways t lk d b)[i]? = some (t.byAct d b i) := by
  unfold ways
  rw [List.getElem?_append_left (by simpa using h)]
  simp [h]
theorem ways_look {b i : Nat} (h : t.acts.length ≤ i) : (ways t lk d b)[i]? = if lk = true ∧ i - t.acts.length < t.looks.length then some (t.byLook d b (i - t.acts.length)) else none := by
  unfold ways
  rw [List.getElem?_append_right (by simpa using h)]
  by_cases q : lk = true
  · rw [if_pos q]
    by_cases z : i - t.acts.length < t.looks.length
    · rw [if_pos ⟨q, z⟩]
      simp [z]
    · rw [if_neg fun w => z w.2]
      simp [z]
  · rw [if_neg q, if_neg fun w => q w.1]; rfl
/-- what stands behind a step that is taken is cheaper -/
theorem byAct_child (G : Good t) {b i c : Nat} (hi : i < t.acts.length) (h : t.byAct d b i = some c) : t.can b i = true ∧ ∃ v, v < c ∧ at_ d (t.then_ b i) = some v ∧ c = (t.act i).cost + v := by
  unfold Task.byAct at h
  by_cases q : t.can b i = true
  · rw [if_pos q] at h
    obtain ⟨v, h1, h2⟩ := Option.map_eq_some_iff.mp h
    have := (G.act _ (List.getElem_mem hi)).1
    rw [← act_of hi] at this
    exact ⟨q, v, by omega, h1, h2.symm⟩
  · rw [if_neg q] at h; cases h
theorem byLook_child (G : Good t) {b j c : Nat} (hj : j < t.looks.length) (h : t.byLook d b j = some c) {a : Nat} (ha : a ∈ t.answers b j) : ∃ v, v < c ∧ at_ d (t.seen b j a) = some v := by
  have h' : (maxs d ((t.answers b j).map (t.seen b j)) (some 0)).map ((t.look j).cost + ·) = some c := by
    unfold maxs
    rw [List.foldl_map]
    exact h
  obtain ⟨m, h1, h2⟩ := Option.map_eq_some_iff.mp h'
  obtain ⟨v, h3, h4⟩ := (maxs_some h1).2 _ (List.mem_map.mpr ⟨a, ha, rfl⟩)
  have := (G.look _ (List.getElem_mem hj)).1
  rw [← look_of hj] at this
  have h2' : (t.look j).cost + m = c := h2
  exact ⟨v, by omega, h4⟩
theorem best_succ (t : Task) (lk : Bool) (d : Array (Option Nat)) (n b : Nat) : t.best lk d (n + 1) b = if t.done b = true then .done else match (List.range t.acts.length).find? fun k => t.byAct d b k == at_ d b with
    | some k => .act k (t.best lk d n (t.then_ b k))
    | none => match (if lk = true then (List.range t.looks.length).find? fun j => t.byLook d b j == at_ d b else none) with
      | some j => .look j (if t.seen b j 0 = 0 then Way.done else t.best lk d n (t.seen b j 0)) (if t.seen b j 1 = 0 then Way.done else t.best lk d n (t.seen b j 1)) (if t.seen b j 2 = 0 then Way.done else t.best lk d n (t.seen b j 2))
      | none => .done := rfl
theorem best_fuel (G : Good t) : ∀ (n m b c : Nat), at_ d b = some c → rk d (2 ^ t.states) b < n → rk d (2 ^ t.states) b < m → t.best lk d n b = t.best lk d m b
  | 0, _, _, _, _, h, _ => absurd h (Nat.not_lt_zero _)
  | _ + 1, 0, _, _, _, _, h => absurd h (Nat.not_lt_zero _)
  | n + 1, m + 1, b, c, hc, h1, h2 => by
    rw [best_succ, best_succ]
    by_cases q : t.done b = true
    · rw [if_pos q, if_pos q]
    · rw [if_neg q, if_neg q]
      cases e : (List.range t.acts.length).find? fun k => t.byAct d b k == at_ d b with
      | some k =>
        obtain ⟨e1, e2, _⟩ := List.find?_range_eq_some.mp e
        have e3 : t.byAct d b k = some c := by rw [← hc]; exact beq_iff_eq.mp e1
        obtain ⟨_, v, v1, v2, _⟩ := byAct_child G (List.mem_range.mp e2) e3
        have r := rk_lt (then_lt G b k) v2 hc v1
        show Way.act k _ = Way.act k _
        rw [best_fuel G n m _ v v2 (by omega) (by omega)]
      | none =>
        show (match (if lk = true then (List.range t.looks.length).find? fun j => t.byLook d b j == at_ d b else none) with
          | some j => _
          | none => _) = (match (if lk = true then (List.range t.looks.length).find? fun j => t.byLook d b j == at_ d b else none) with
          | some j => _
          | none => _)
        cases e4 : (if lk = true then (List.range t.looks.length).find? fun j => t.byLook d b j == at_ d b else none) with
        | none => rfl
        | some j =>
          by_cases w : lk = true
          · rw [if_pos w] at e4
            obtain ⟨e1, e2, _⟩ := List.find?_range_eq_some.mp e4
            have e3 : t.byLook d b j = some c := by rw [← hc]; exact beq_iff_eq.mp e1
            have go : ∀ a, a < 3 → (if t.seen b j a = 0 then Way.done else t.best lk d n (t.seen b j a)) = (if t.seen b j a = 0 then Way.done else t.best lk d m (t.seen b j a)) := fun a ha => by
              by_cases z : t.seen b j a = 0
              · rw [if_pos z, if_pos z]
              · rw [if_neg z, if_neg z]
                obtain ⟨v, v1, v2⟩ := byLook_child G (List.mem_range.mp e2) e3 (mem_answers.mpr ⟨ha, z⟩)
                have r := rk_lt (seen_lt b j a) v2 hc v1
                exact best_fuel G n m _ v v2 (by omega) (by omega)
            show Way.look j _ _ _ = Way.look j _ _ _
            rw [go 0 (by decide), go 1 (by decide), go 2 (by decide)]
          · rw [if_neg w] at e4; cases e4

/-- the plan from a set, in numbers -/
def plan (t : Task) (lk : Bool) (d : Array (Option Nat)) (b : Nat) : List Nat := t.row b (t.best lk d (2 ^ t.states + 1) b)
theorem plan_done {b : Nat} (h : t.done b = true) : plan t lk d b = [0] := by
  unfold plan
  rw [best_succ, if_pos h]; rfl
theorem rk_full (b : Nat) : rk d (2 ^ t.states) b < 2 ^ t.states + 1 := Nat.lt_succ_of_le (rk_le _ _ _)
theorem plan_act (G : Good t) {b i c : Nat} (hd : ¬ t.done b = true) (hc : at_ d b = some c) (hf : IsFirst (ways t lk d b) (some c) i) (hi : i < t.acts.length) :
    plan t lk d b = (i + 1) :: plan t lk d (t.then_ b i) ∧ ∃ v, v < c ∧ at_ d (t.then_ b i) = some v := by
  have e : t.byAct d b i = some c := by
    have := hf.1
    rw [ways_act hi] at this
    exact Option.some.inj this
  obtain ⟨_, v, v1, v2, _⟩ := byAct_child G hi e
  refine ⟨?_, v, v1, v2⟩
  have ef : ((List.range t.acts.length).find? fun k => t.byAct d b k == at_ d b) = some i := by
    rw [List.find?_range_eq_some]
    refine ⟨by rw [e, hc]; exact beq_self_eq_true _, List.mem_range.mpr hi, fun j hj => ?_⟩
    have := hf.2 j hj
    rw [ways_act (by omega)] at this
    rw [hc]
    have : t.byAct d b j ≠ some c := fun z => this (by rw [z])
    simpa using this
  unfold plan
  rw [best_succ, if_neg hd, ef]
  show (i + 1) :: t.row (t.then_ b i) (t.best lk d (2 ^ t.states) (t.then_ b i)) = _
  have r := rk_lt (then_lt G b i) v2 hc v1
  have := rk_le d (2 ^ t.states) b
  rw [best_fuel G (2 ^ t.states) (2 ^ t.states + 1) _ v v2 (by omega) (by omega)]
theorem answers_flat (b j : Nat) (f : Nat → List Nat) : (t.answers b j).flatMap f = (if t.seen b j 0 = 0 then [] else f 0) ++ ((if t.seen b j 1 = 0 then [] else f 1) ++ if t.seen b j 2 = 0 then [] else f 2) := by
  have e : t.answers b j = (if t.seen b j 0 = 0 then [] else [0]) ++ ((if t.seen b j 1 = 0 then [] else [1]) ++ if t.seen b j 2 = 0 then [] else [2]) := by
    show [0, 1, 2].filter (fun a => t.seen b j a != 0) = _
    by_cases h0 : t.seen b j 0 = 0 <;> by_cases h1 : t.seen b j 1 = 0 <;> by_cases h2 : t.seen b j 2 = 0 <;> simp [h0, h1, h2]
  rw [e]
  by_cases h0 : t.seen b j 0 = 0 <;> by_cases h1 : t.seen b j 1 = 0 <;> by_cases h2 : t.seen b j 2 = 0 <;> simp [h0, h1, h2]
theorem plan_look (G : Good t) {b i c : Nat} (hd : ¬ t.done b = true) (hc : at_ d b = some c) (hf : IsFirst (ways t lk d b) (some c) i) (hi : t.acts.length ≤ i) :
    lk = true ∧ i - t.acts.length < t.looks.length ∧ plan t lk d b = (i - t.acts.length + 100) :: (t.answers b (i - t.acts.length)).flatMap (fun a => plan t lk d (t.seen b (i - t.acts.length) a)) ∧
      ∀ a ∈ t.answers b (i - t.acts.length), ∃ v, v < c ∧ at_ d (t.seen b (i - t.acts.length) a) = some v := by
  have e0 := hf.1
  rw [ways_look hi] at e0
  by_cases w : lk = true ∧ i - t.acts.length < t.looks.length
  · rw [if_pos w] at e0
    obtain ⟨w1, w2⟩ := w
    have e : t.byLook d b (i - t.acts.length) = some c := Option.some.inj e0
    have ch : ∀ a ∈ t.answers b (i - t.acts.length), ∃ v, v < c ∧ at_ d (t.seen b (i - t.acts.length) a) = some v := fun a ha => byLook_child G w2 e ha
    refine ⟨w1, w2, ?_, ch⟩
    have ea : ((List.range t.acts.length).find? fun k => t.byAct d b k == at_ d b) = none := by
      rw [List.find?_range_eq_none]
      intro j hj
      have := hf.2 j (by omega)
      rw [ways_act hj] at this
      rw [hc]
      have : t.byAct d b j ≠ some c := fun z => this (by rw [z])
      simpa using this
    have ef : ((List.range t.looks.length).find? fun k => t.byLook d b k == at_ d b) = some (i - t.acts.length) := by
      rw [List.find?_range_eq_some]
      refine ⟨by rw [e, hc]; exact beq_self_eq_true _, List.mem_range.mpr w2, fun j hj => ?_⟩
      have := hf.2 (t.acts.length + j) (by omega)
      rw [ways_look (by omega), if_pos ⟨w1, by omega⟩, show t.acts.length + j - t.acts.length = j by omega] at this
      rw [hc]
      have : t.byLook d b j ≠ some c := fun z => this (by rw [z])
      simpa using this
    generalize i - t.acts.length = j at *
    rw [answers_flat]
    unfold plan
    rw [best_succ, if_neg hd, ea]
    show t.row b (match (if lk = true then (List.range t.looks.length).find? fun j => t.byLook d b j == at_ d b else none) with
      | some j => _
      | none => _) = _
    rw [if_pos w1, ef]
    have go : ∀ a, a < 3 → (if t.seen b j a = 0 then [] else t.row (t.seen b j a) (if t.seen b j a = 0 then Way.done else t.best lk d (2 ^ t.states) (t.seen b j a))) = (if t.seen b j a = 0 then [] else t.row (t.seen b j a) (t.best lk d (2 ^ t.states + 1) (t.seen b j a))) := fun a ha => by
      by_cases z : t.seen b j a = 0
      · rw [if_pos z, if_pos z]
      · rw [if_neg z, if_neg z, if_neg z]
        obtain ⟨v, v1, v2⟩ := ch a (mem_answers.mpr ⟨ha, z⟩)
        have r := rk_lt (seen_lt b j a) v2 hc v1
        have := rk_le d (2 ^ t.states) b
        rw [best_fuel G (2 ^ t.states) (2 ^ t.states + 1) _ v v2 (by omega) (by omega)]
    show (j + 100) :: ((if t.seen b j 0 = 0 then [] else t.row (t.seen b j 0) (if t.seen b j 0 = 0 then Way.done else t.best lk d (2 ^ t.states) (t.seen b j 0))) ++ ((if t.seen b j 1 = 0 then [] else t.row (t.seen b j 1) (if t.seen b j 1 = 0 then Way.done else t.best lk d (2 ^ t.states) (t.seen b j 1))) ++ if t.seen b j 2 = 0 then [] else t.row (t.seen b j 2) (if t.seen b j 2 = 0 then Way.done else t.best lk d (2 ^ t.states) (t.seen b j 2)))) = _
    rw [go 0 (by decide), go 1 (by decide), go 2 (by decide)]
  · rw [if_neg w] at e0; cases e0
/-- a set that has a cost has a way of that cost -/
theorem first_way (G : Good t) {b c : Nat} (hb : b < 2 ^ t.states) (hd : ¬ t.done b = true) (hc : at_ (t.costs lk) b = some c) : ∃ i, IsFirst (ways t lk (t.costs lk) b) (some c) i := by
  rw [costs_at G lk hb] at hc
  unfold nextv at hc
  rw [if_neg hd] at hc
  exact isFirst_of (minO_mem hc)
end
end U
/-! ## Plans in numbers, read and judged -/
namespace U
open Pn09
section
variable (t : Task)
/-- where one may be behind what a number tells -/
def sets (b x : Nat) : List Nat := if x = 0 then [] else if x < 100 then [t.then_ b (x - 1)] else (t.answers b (x - 100)).map (t.seen b (x - 100))
/-- the numbers in order, each with where one may be; the waiting sets from the next on -/
def walk : List Nat → List Nat → Option (List (Nat × Nat))
  | [], [] => some []
  | _ :: _, [] => none
  | [], _ :: _ => none
  | b :: w, x :: l => (walk (sets t b x ++ w) l).map ((x, b) :: ·)
def stepsOf : Nat → Way → List (Nat × Nat)
  | b, .done => [(0, b)]
  | b, .act k w => (k + 1, b) :: stepsOf (t.then_ b k) w
  | b, .look j x y z => (j + 100, b) :: ((if t.seen b j 0 = 0 then [] else stepsOf (t.seen b j 0) x) ++ ((if t.seen b j 1 = 0 then [] else stepsOf (t.seen b j 1) y) ++ if t.seen b j 2 = 0 then [] else stepsOf (t.seen b j 2) z))
/-- acts' numbers are below 99 -/
def Small : Way → Prop
  | .done => True
  | .act k w => k < 99 ∧ Small w
  | .look _ x y z => Small x ∧ Small y ∧ Small z
def wrong (b x : Nat) : Option (Nat × Nat) :=
  if x = 0 then (if t.done b = true then none else some (2, b)) else if x < 100 then (if t.can b (x - 1) = true then none else some (1, b)) else if x - 100 < t.looks.length then none else some (1, b)
def firstWrong (l : List (Nat × Nat)) : Option (Nat × Nat) := l.findSome? fun p => wrong t p.2 p.1
def costOf (x : Nat) : Nat := if x < 100 then (t.act (x - 1)).cost else (t.look (x - 100)).cost
def maxL (l : List Nat) : Nat := l.foldr max 0
def wstep (p : Nat × Nat) (s : List Nat) : List Nat := if p.1 = 0 then 0 :: s else (costOf t p.1 + maxL (s.take (sets t p.2 p.1).length)) :: s.drop (sets t p.2 p.1).length
def worst (l : List (Nat × Nat)) : List Nat := l.foldr (wstep t) []
/-- at each step there are as many costs as it asks -/
def Wok : List (Nat × Nat) → Prop
  | [] => True
  | p :: r => Wok r ∧ (p.1 ≠ 0 → 0 < (sets t p.2 p.1).length ∧ (sets t p.2 p.1).length ≤ (worst t r).length)
end

section
variable {t : Task}
/-- the set behind what is seen, if it may be seen -/
def opt (t : Task) (b j a : Nat) : List Nat := if t.seen b j a = 0 then [] else [t.seen b j a]
theorem sets_look (b j : Nat) : sets t b (j + 100) = opt t b j 0 ++ (opt t b j 1 ++ opt t b j 2) := by
  unfold sets
  rw [if_neg (by omega), if_neg (by omega), show j + 100 - 100 = j by omega, List.map_eq_flatMap, answers_flat]
  rfl
theorem sets_act (b k : Nat) (h : k < 99) : sets t b (k + 1) = [t.then_ b k] := by
  unfold sets
  rw [if_neg (by omega), if_pos (by omega)]
  rfl

def goRead (t : Task) (n b j a : Nat) (l : List Nat) : Option (Way × List Nat) := if t.seen b j a = 0 then some (Way.done, l) else t.read n (t.seen b j a) l
theorem read_look (t : Task) (n b x : Nat) (l : List Nat) (h : 100 ≤ x) : t.read (n + 1) b (x :: l) = match goRead t n b (x - 100) 0 l with
    | none => none
    | some p => match goRead t n b (x - 100) 1 p.2 with
      | none => none
      | some q => (goRead t n b (x - 100) 2 q.2).map fun r => (.look (x - 100) p.1 q.1 r.1, r.2) := by
  rw [Task.read, if_neg (by omega), if_neg (by omega)]
  rfl
theorem read_act (t : Task) (n b x : Nat) (l : List Nat) (h0 : x ≠ 0) (h : x < 100) : t.read (n + 1) b (x :: l) = (t.read n (t.then_ b (x - 1)) l).map fun r => (.act (x - 1) r.1, r.2) := by
  rw [Task.read, if_neg h0, if_pos h]
theorem read_done (t : Task) (n b : Nat) (l : List Nat) : t.read (n + 1) b (0 :: l) = some (.done, l) := by
  rw [Task.read, if_pos rfl]

/-- what reading says, of the walk over what waits -/
def ReadSays (t : Task) (n b : Nat) (l : List Nat) : Prop :=
  (∀ w r, t.read n b l = some (w, r) → Small w ∧ r.length < l.length ∧ ∀ ws, walk t (b :: ws) l = (walk t ws r).map (stepsOf t b w ++ ·)) ∧
  (t.read n b l = none → ∀ ws, walk t (b :: ws) l = none)
def soOf (t : Task) (b j a : Nat) (w : Way) : List (Nat × Nat) := if t.seen b j a = 0 then [] else stepsOf t (t.seen b j a) w
theorem go_says {n b j a : Nat} {l : List Nat} (h : ReadSays t n (t.seen b j a) l) :
    (∀ w r, goRead t n b j a l = some (w, r) → Small w ∧ r.length ≤ l.length ∧ ∀ ws, walk t (opt t b j a ++ ws) l = (walk t ws r).map (soOf t b j a w ++ ·)) ∧
    (goRead t n b j a l = none → ∀ ws, walk t (opt t b j a ++ ws) l = none) := by
  unfold goRead opt soOf
  by_cases q : t.seen b j a = 0
  · rw [if_pos q, if_pos q]
    refine ⟨fun w r e => ?_, fun e => by cases e⟩
    cases e
    refine ⟨trivial, Nat.le_refl _, fun ws => ?_⟩
    rw [if_pos q]
    show walk t ws l = _
    cases walk t ws l <;> rfl
  · rw [if_neg q, if_neg q]
    refine ⟨fun w r e => ?_, fun e ws => h.2 e ws⟩
    obtain ⟨h1, h2, h3⟩ := h.1 w r e
    refine ⟨h1, Nat.le_of_lt h2, fun ws => ?_⟩
    rw [if_neg q]
    exact h3 ws
theorem map_map_app {α : Type} (o : Option (List α)) (a b : List α) : (o.map (b ++ ·)).map (a ++ ·) = o.map (a ++ b ++ ·) := by
  cases o with
  | none => rfl
  | some x => exact congrArg some (List.append_assoc a b x).symm
theorem read_says : ∀ (n b : Nat) (l : List Nat), l.length < n → ReadSays t n b l
  | 0, _, _, h => absurd h (Nat.not_lt_zero _)
  | n + 1, b, [], _ => ⟨fun w r e => (by rw [Task.read] at e; cases e), fun _ _ => rfl⟩
  | n + 1, b, x :: l, h => by
    have hl : l.length < n := Nat.lt_of_succ_lt_succ h
    by_cases h0 : x = 0
    · subst h0
      unfold ReadSays
      rw [read_done]
      refine ⟨fun w r e => ?_, fun e => by cases e⟩
      cases e
      refine ⟨trivial, Nat.lt_succ_self _, fun ws => ?_⟩
      show (walk t (sets t b 0 ++ ws) l).map _ = _
      rfl
    · by_cases h1 : x < 100
      · unfold ReadSays
        rw [read_act t n b x l h0 h1]
        obtain ⟨i1, i2⟩ := read_says n (t.then_ b (x - 1)) l hl
        have es : sets t b x = [t.then_ b (x - 1)] := by
          have := sets_act (t := t) b (x - 1) (by omega)
          rwa [show x - 1 + 1 = x by omega] at this
        refine ⟨fun w r e => ?_, fun e ws => ?_⟩
        · obtain ⟨p, p1, p2⟩ := Option.map_eq_some_iff.mp e
          cases p2
          obtain ⟨j1, j2, j3⟩ := i1 p.1 p.2 p1
          refine ⟨⟨by omega, j1⟩, Nat.lt_succ_of_lt j2, fun ws => ?_⟩
          show (walk t (sets t b x ++ ws) l).map _ = _
          rw [es]
          show (walk t (t.then_ b (x - 1) :: ws) l).map _ = _
          rw [j3 ws]
          show _ = (walk t ws p.2).map ((x - 1 + 1, b) :: stepsOf t (t.then_ b (x - 1)) p.1 ++ ·)
          rw [show x - 1 + 1 = x by omega]
          cases walk t ws p.2 <;> rfl
        · have e' := Option.map_eq_none_iff.mp e
          show (walk t (sets t b x ++ ws) l).map _ = _
          rw [es]
          show (walk t (t.then_ b (x - 1) :: ws) l).map _ = _
          rw [i2 e' ws]; rfl
      · have h2 : 100 ≤ x := by omega
        have hw : ∀ ws, walk t (b :: ws) (x :: l) = (walk t (opt t b (x - 100) 0 ++ (opt t b (x - 100) 1 ++ (opt t b (x - 100) 2 ++ ws))) l).map ((x, b) :: ·) := fun ws => by
          show (walk t (sets t b x ++ ws) l).map _ = _
          have := sets_look (t := t) b (x - 100)
          rw [show x - 100 + 100 = x by omega] at this
          rw [this, List.append_assoc, List.append_assoc]
        have ih := fun (b : Nat) (m : List Nat) (hm : m.length ≤ l.length) => read_says n b m (Nat.lt_of_le_of_lt hm hl)
        unfold ReadSays
        rw [read_look t n b x l h2]
        obtain ⟨g1, g2⟩ := go_says (j := x - 100) (a := 0) (ih (t.seen b (x - 100) 0) l (Nat.le_refl _))
        cases e0 : goRead t n b (x - 100) 0 l with
        | none =>
          refine ⟨fun w r e => (by cases e), fun _ ws => ?_⟩
          rw [hw, g2 e0]; rfl
        | some p =>
          obtain ⟨p1, p2, p3⟩ := g1 p.1 p.2 e0
          obtain ⟨g3, g4⟩ := go_says (j := x - 100) (a := 1) (ih (t.seen b (x - 100) 1) p.2 p2)
          show (∀ w r, (match goRead t n b (x - 100) 1 p.2 with
            | none => none
            | some q => (goRead t n b (x - 100) 2 q.2).map fun r => (Way.look (x - 100) p.1 q.1 r.1, r.2)) = some (w, r) → _) ∧ ((match goRead t n b (x - 100) 1 p.2 with
            | none => none
            | some q => (goRead t n b (x - 100) 2 q.2).map fun r => (Way.look (x - 100) p.1 q.1 r.1, r.2)) = none → _)
          cases e1 : goRead t n b (x - 100) 1 p.2 with
          | none =>
            refine ⟨fun w r e => (by cases e), fun _ ws => ?_⟩
            rw [hw, p3, g4 e1]; rfl
          | some q =>
            obtain ⟨q1, q2, q3⟩ := g3 q.1 q.2 e1
            obtain ⟨g5, g6⟩ := go_says (j := x - 100) (a := 2) (ih (t.seen b (x - 100) 2) q.2 (Nat.le_trans q2 p2))
            show (∀ w r, ((goRead t n b (x - 100) 2 q.2).map fun r => (Way.look (x - 100) p.1 q.1 r.1, r.2)) = some (w, r) → _) ∧ (((goRead t n b (x - 100) 2 q.2).map fun r => (Way.look (x - 100) p.1 q.1 r.1, r.2)) = none → _)
            cases e2 : goRead t n b (x - 100) 2 q.2 with
            | none =>
              refine ⟨fun w r e => (by cases e), fun _ ws => ?_⟩
              rw [hw, p3, q3, g6 e2]; rfl
            | some s =>
              obtain ⟨s1, s2, s3⟩ := g5 s.1 s.2 e2
              refine ⟨fun w r e => ?_, fun e => by cases e⟩
              cases e
              refine ⟨⟨p1, q1, s1⟩, Nat.lt_succ_of_le (Nat.le_trans s2 (Nat.le_trans q2 p2)), fun ws => ?_⟩
              rw [hw, p3, q3, s3, map_map_app, map_map_app]
              show _ = (walk t ws s.2).map ((x - 100 + 100, b) :: (soOf t b (x - 100) 0 p.1 ++ (soOf t b (x - 100) 1 q.1 ++ soOf t b (x - 100) 2 s.1)) ++ ·)
              rw [show x - 100 + 100 = x by omega]
              cases walk t ws s.2 with
              | none => rfl
              | some z =>
                show some ((x, b) :: (_ ++ z)) = some ((x, b) :: _ ++ z)
                simp only [List.append_assoc, List.cons_append]
/-- the walk of one plan is what reading gives -/
theorem walk_read (b : Nat) (l : List Nat) : (∃ w, t.read (l.length + 1) b l = some (w, []) ∧ Small w ∧ walk t [b] l = some (stepsOf t b w)) ∨ ((∀ w, t.read (l.length + 1) b l ≠ some (w, [])) ∧ walk t [b] l = none) := by
  obtain ⟨h1, h2⟩ := read_says (t := t) (l.length + 1) b l (Nat.lt_succ_self _)
  cases e : t.read (l.length + 1) b l with
  | none => exact .inr ⟨fun w q => (by cases q), h2 e []⟩
  | some p =>
    obtain ⟨w, r⟩ := p
    obtain ⟨a1, _, a3⟩ := h1 w r e
    cases r with
    | nil =>
      refine .inl ⟨w, rfl, a1, ?_⟩
      rw [a3 []]
      show some (stepsOf t b w ++ []) = _
      rw [List.append_nil]
    | cons y r =>
      refine .inr ⟨fun w' q => (by cases q), ?_⟩
      rw [a3 []]; rfl

/-! ### judged -/
def verdict : Verdict → Option (Nat × Nat)
  | .works _ => none
  | .cant u => some (1, u)
  | .short u => some (2, u)
theorem firstWrong_append (a b : List (Nat × Nat)) : firstWrong t (a ++ b) = (firstWrong t a).or (firstWrong t b) := List.findSome?_append
theorem judge_look (t : Task) (b j : Nat) (x y z : Way) (h : j < t.looks.length) : t.judge b (.look j x y z) = match (if t.seen b j 0 = 0 then Verdict.works 0 else t.judge (t.seen b j 0) x) with
    | .works c => (match (if t.seen b j 1 = 0 then Verdict.works 0 else t.judge (t.seen b j 1) y) with
      | .works d => (match (if t.seen b j 2 = 0 then Verdict.works 0 else t.judge (t.seen b j 2) z) with
        | .works e => .works ((t.look j).cost + max c (max d e))
        | v => v)
      | v => v)
    | v => v := by
  rw [Task.judge, if_neg (by omega)]
  rfl
theorem fw_cons (p : Nat × Nat) (r : List (Nat × Nat)) : firstWrong t (p :: r) = (wrong t p.2 p.1).or (firstWrong t r) := by
  unfold firstWrong
  rw [List.findSome?_cons]
  cases wrong t p.2 p.1 <;> rfl
theorem verdict_of : ∀ (w : Way) (b : Nat), Small w → firstWrong t (stepsOf t b w) = verdict (t.judge b w)
  | .done, b, _ => by
    show firstWrong t [(0, b)] = verdict (if t.done b = true then .works 0 else .short b)
    rw [fw_cons]
    show (if t.done b = true then none else some (2, b)).or none = _
    by_cases h : t.done b = true
    · rw [if_pos h, if_pos h]; rfl
    · rw [if_neg h, if_neg h]; rfl
  | .act k w, b, hs => by
    have ih := verdict_of w (t.then_ b k) hs.2
    show firstWrong t ((k + 1, b) :: stepsOf t (t.then_ b k) w) = _
    rw [fw_cons]
    have ew : wrong t b (k + 1) = if t.can b k = true then none else some (1, b) := by
      unfold wrong
      rw [if_neg (by omega), if_pos (by have := hs.1; omega)]; rfl
    show (wrong t b (k + 1)).or (firstWrong t (stepsOf t (t.then_ b k) w)) = _
    rw [ew, ih, Task.judge]
    by_cases h : t.can b k = true
    · rw [if_pos h, if_neg (by rw [h]; exact Bool.noConfusion)]
      cases t.judge (t.then_ b k) w <;> rfl
    · rw [if_neg h, if_pos (by simpa using h)]; rfl
  | .look j x y z, b, hs => by
    have i0 := verdict_of x (t.seen b j 0) hs.1
    have i1 := verdict_of y (t.seen b j 1) hs.2.1
    have i2 := verdict_of z (t.seen b j 2) hs.2.2
    show firstWrong t ((j + 100, b) :: (soOf t b j 0 x ++ (soOf t b j 1 y ++ soOf t b j 2 z))) = _
    rw [fw_cons]
    have ew : wrong t b (j + 100) = if j < t.looks.length then none else some (1, b) := by
      unfold wrong
      rw [if_neg (by omega), if_neg (by omega), show j + 100 - 100 = j by omega]
    show (wrong t b (j + 100)).or (firstWrong t (soOf t b j 0 x ++ (soOf t b j 1 y ++ soOf t b j 2 z))) = _
    rw [ew, firstWrong_append, firstWrong_append]
    have so : ∀ a w, firstWrong t (stepsOf t (t.seen b j a) w) = verdict (t.judge (t.seen b j a) w) → firstWrong t (soOf t b j a w) = verdict (if t.seen b j a = 0 then Verdict.works 0 else t.judge (t.seen b j a) w) := fun a w h => by
      unfold soOf
      by_cases q : t.seen b j a = 0
      · rw [if_pos q, if_pos q]; rfl
      · rw [if_neg q, if_neg q, h]
    rw [so 0 x i0, so 1 y i1, so 2 z i2]
    by_cases h : j < t.looks.length
    · rw [if_pos h, judge_look t b j x y z h]
      cases (if t.seen b j 0 = 0 then Verdict.works 0 else t.judge (t.seen b j 0) x) with
      | cant u => rfl
      | short u => rfl
      | works c =>
        cases (if t.seen b j 1 = 0 then Verdict.works 0 else t.judge (t.seen b j 1) y) with
        | cant u => rfl
        | short u => rfl
        | works d => cases (if t.seen b j 2 = 0 then Verdict.works 0 else t.judge (t.seen b j 2) z) <;> rfl
    · rw [if_neg h, Task.judge, if_pos (show t.looks.length ≤ j by omega)]; rfl

/-! ### the worst cost -/
theorem worst_cons (p : Nat × Nat) (r : List (Nat × Nat)) : worst t (p :: r) = wstep t p (worst t r) := rfl
theorem worst_of (G : Good t) : ∀ (w : Way) (b c : Nat) (r : List (Nat × Nat)), b < 2 ^ t.states → b ≠ 0 → Small w → t.judge b w = .works c → Wok t r → Wok t (stepsOf t b w ++ r) ∧ worst t (stepsOf t b w ++ r) = c :: worst t r
  | .done, b, c, r, _, _, _, h, hr => by
    have e : (if t.done b = true then Verdict.works 0 else .short b) = .works c := h
    by_cases q : t.done b = true
    · rw [if_pos q] at e
      cases e
      exact ⟨⟨hr, fun z => absurd rfl z⟩, rfl⟩
    · rw [if_neg q] at e; cases e
  | .act k w, b, c, r, hb, h0, hs, h, hr => by
    rw [Task.judge] at h
    by_cases q : t.can b k = true
    · rw [if_neg (by rw [q]; exact Bool.noConfusion)] at h
      cases e : t.judge (t.then_ b k) w with
      | cant u => rw [e] at h; cases h
      | short u => rw [e] at h; cases h
      | works v =>
        rw [e] at h
        have hc : (t.act k).cost + v = c := Verdict.works.inj h
        obtain ⟨i1, i2⟩ := worst_of G w (t.then_ b k) v r (then_lt G b k) (then_ne hb h0 q) hs.2 e hr
        have es := sets_act (t := t) b k hs.1
        refine ⟨⟨i1, fun _ => ?_⟩, ?_⟩
        · show 0 < (sets t b (k + 1)).length ∧ (sets t b (k + 1)).length ≤ _
          rw [es]
          show 0 < 1 ∧ 1 ≤ (worst t (stepsOf t (t.then_ b k) w ++ r)).length
          rw [i2]
          simp
        · show wstep t (k + 1, b) (worst t (stepsOf t (t.then_ b k) w ++ r)) = _
          rw [i2]
          unfold wstep
          rw [if_neg (by show ¬ k + 1 = 0; omega)]
          show (costOf t (k + 1) + maxL ((v :: worst t r).take (sets t b (k + 1)).length)) :: (v :: worst t r).drop (sets t b (k + 1)).length = _
          rw [es, ← hc]
          have : costOf t (k + 1) = (t.act k).cost := by
            unfold costOf
            rw [if_pos (by have := hs.1; omega)]; rfl
          rw [this]
          show (_ + maxL [v]) :: worst t r = _
          show (_ + max v 0) :: worst t r = _
          rw [Nat.max_eq_left (Nat.zero_le v)]
    · rw [if_pos (by simpa using q)] at h; cases h
  | .look j x y z, b, c, r, hb, h0, hs, h, hr => by
    by_cases q : j < t.looks.length
    · rw [judge_look t b j x y z q] at h
      -- a child: nothing, or its cost ahead
      have one : ∀ (a v : Nat) (w : Way) (r : List (Nat × Nat)), (∀ c r, t.judge (t.seen b j a) w = .works c → t.seen b j a ≠ 0 → Wok t r → Wok t (stepsOf t (t.seen b j a) w ++ r) ∧ worst t (stepsOf t (t.seen b j a) w ++ r) = c :: worst t r) →
          (if t.seen b j a = 0 then Verdict.works 0 else t.judge (t.seen b j a) w) = .works v → Wok t r → Wok t (soOf t b j a w ++ r) ∧ ∃ l : List Nat, l.length = (opt t b j a).length ∧ maxL l = v ∧ worst t (soOf t b j a w ++ r) = l ++ worst t r := by
        intro a v w r ih e hr
        unfold soOf opt
        by_cases z : t.seen b j a = 0
        · rw [if_pos z] at e
          rw [if_pos z, if_pos z]
          cases e
          exact ⟨hr, [], rfl, rfl, rfl⟩
        · rw [if_neg z] at e
          rw [if_neg z, if_neg z]
          obtain ⟨i1, i2⟩ := ih v r e z hr
          exact ⟨i1, [v], rfl, Nat.max_eq_left (Nat.zero_le v), i2⟩
      have one0 := fun v r => one 0 v x r fun c r e z hr => worst_of G x (t.seen b j 0) c r (seen_lt b j 0) z hs.1 e hr
      have one1 := fun v r => one 1 v y r fun c r e z hr => worst_of G y (t.seen b j 1) c r (seen_lt b j 1) z hs.2.1 e hr
      have one2 := fun v r => one 2 v z r fun c r e z' hr => worst_of G z (t.seen b j 2) c r (seen_lt b j 2) z' hs.2.2 e hr
      cases e0 : (if t.seen b j 0 = 0 then Verdict.works 0 else t.judge (t.seen b j 0) x) with
      | cant u => rw [e0] at h; cases h
      | short u => rw [e0] at h; cases h
      | works v0 =>
        rw [e0] at h
        cases e1 : (if t.seen b j 1 = 0 then Verdict.works 0 else t.judge (t.seen b j 1) y) with
        | cant u => rw [e1] at h; cases h
        | short u => rw [e1] at h; cases h
        | works v1 =>
          rw [e1] at h
          cases e2 : (if t.seen b j 2 = 0 then Verdict.works 0 else t.judge (t.seen b j 2) z) with
          | cant u => rw [e2] at h; cases h
          | short u => rw [e2] at h; cases h
          | works v2 =>
            rw [e2] at h
            have hc : (t.look j).cost + max v0 (max v1 v2) = c := Verdict.works.inj h
            obtain ⟨k2, l2, n2, m2, w2⟩ := one2 v2 r e2 hr
            obtain ⟨k1, l1, n1, m1, w1⟩ := one1 v1 _ e1 k2
            obtain ⟨k0, l0, n0, m0, w0⟩ := one0 v0 _ e0 k1
            have es := sets_look (t := t) b j
            have eb : stepsOf t b (.look j x y z) ++ r = (j + 100, b) :: (soOf t b j 0 x ++ (soOf t b j 1 y ++ (soOf t b j 2 z ++ r))) := by
              show (j + 100, b) :: (soOf t b j 0 x ++ (soOf t b j 1 y ++ soOf t b j 2 z)) ++ r = _
              rw [List.cons_append, List.append_assoc, List.append_assoc]
            have ew : worst t (soOf t b j 0 x ++ (soOf t b j 1 y ++ (soOf t b j 2 z ++ r))) = (l0 ++ (l1 ++ l2)) ++ worst t r := by
              rw [w0, w1, w2, List.append_assoc, List.append_assoc]
            have el : (l0 ++ (l1 ++ l2)).length = (sets t b (j + 100)).length := by
              rw [es]
              simp only [List.length_append]
              omega
            have em : ∀ a b : List Nat, maxL (a ++ b) = max (maxL a) (maxL b) := by
              intro a b
              induction a with
              | nil => exact (Nat.max_eq_right (Nat.zero_le _)).symm
              | cons p a ih =>
                show max p (maxL (a ++ b)) = max (max p (maxL a)) (maxL b)
                rw [ih, Nat.max_assoc]
            have pos : 0 < (sets t b (j + 100)).length := by
              unfold sets
              rw [if_neg (by omega), if_neg (by omega), List.length_map]
              exact List.length_pos_iff.mpr (answers_ne G hb h0 _)
            rw [eb]
            refine ⟨⟨k0, fun _ => ⟨pos, ?_⟩⟩, ?_⟩
            · show (sets t b (j + 100)).length ≤ _
              rw [ew, List.length_append, el]
              omega
            · rw [worst_cons, ew]
              unfold wstep
              rw [if_neg (by show ¬ j + 100 = 0; omega)]
              show (costOf t (j + 100) + maxL (((l0 ++ (l1 ++ l2)) ++ worst t r).take (sets t b (j + 100)).length)) :: ((l0 ++ (l1 ++ l2)) ++ worst t r).drop (sets t b (j + 100)).length = _
              rw [← el, List.take_left, List.drop_left, em, em, m0, m1, m2, ← hc]
              have : costOf t (j + 100) = (t.look j).cost := by
                unfold costOf
                rw [if_neg (by omega)]; rfl
              rw [this]
    · rw [Task.judge, if_pos (by omega)] at h; cases h
end
end U
/-! ## The line of calls -/
namespace U
open Pn09
/-- what a call is, by its place, its numbers and its rows -/
inductive Shape : Nat → List Nat → List (List Nat) → Pn09.Call → Prop
  | begins (n g : Nat) : Shape 0 [n, g] [] (.begins n g)
  | act (c : Nat) (rows : List (List Nat)) : Shape 1 [c] rows (.act c rows)
  | look (c : Nat) (l : List Nat) : Shape 2 [c] [l] (.look c l)
  | goal (g : Nat) : Shape 3 [g] [] (.goal g)
  | plan (b : Nat) : Shape 4 [b] [] (.plan b)
  | blind (b : Nat) : Shape 5 [b] [] (.blind b)
  | judge (b : Nat) (l : List Nat) : Shape 6 [b] [l] (.judge b l)
  | after (b : Nat) (l : List Nat) : Shape 7 [b] [l] (.after b l)
/-- a call as it is told, and what it is -/
structure Told where
  p : Nat
  own : List Nat
  rows : List (List Nat)
  c : Pn09.Call
def nrows : List (List Nat) → List Nat
  | [] => []
  | r :: rs => r.length :: (r ++ nrows rs)
def nput1 (x : Told) : List Nat := x.p :: x.own.length :: (x.own ++ (x.rows.length :: nrows x.rows))
def nput : List Told → List Nat
  | [] => []
  | x :: r => nput1 x ++ nput r
def ansOf : House → List Told → List Int
  | _, [] => []
  | s, x :: r => ((Pn09Neutral.out (step s x.c).2).length : Int) :: (Pn09Neutral.out (step s x.c).2 ++ ansOf (step s x.c).1 r)
def mny : House → List Told → Nat
  | _, [] => 0
  | s, x :: r => (Pn09Neutral.out (step s x.c).2).length + mny (step s x.c).1 r
structure Fine (x : Told) : Prop where
  shape : Shape x.p x.own x.rows x.c
  many : x.rows.length ≤ 1000
  long : ∀ r ∈ x.rows, r.length ≤ 1000
def cst (l : List Nat) : List Int := l.map fun n : Nat => (n : Int)
theorem cst_nats {l : List Int} (h : ∀ x ∈ l, 0 ≤ x) : cst (Pn09Neutral.nats l) = l := by
  unfold cst Pn09Neutral.nats
  rw [List.map_map]
  conv => rhs; rw [← List.map_id l]
  apply List.map_congr_left
  intro x hx
  exact Int.toNat_of_nonneg (h x hx)
theorem nats_len (l : List Int) : (Pn09Neutral.nats l).length = l.length := List.length_map ..
theorem cst_len (l : List Nat) : (cst l).length = l.length := List.length_map ..
theorem cst_rows : ∀ {rows : List (List Int)}, (∀ r ∈ rows, ∀ x ∈ r, 0 ≤ x) → cst (nrows (rows.map Pn09Neutral.nats)) = PyFlat.putRows rows
  | [], _ => rfl
  | r :: rs, h => by
    have ih := cst_rows (rows := rs) fun q hq => h q (List.mem_cons_of_mem _ hq)
    have hr := cst_nats (h r List.mem_cons_self)
    show (((Pn09Neutral.nats r).length : Nat) : Int) :: cst (Pn09Neutral.nats r ++ nrows (rs.map Pn09Neutral.nats)) = ((r.length : Int) :: r) ++ PyFlat.putRows rs
    rw [nats_len]
    unfold cst at *
    rw [List.map_append, hr, ih]
    rfl
theorem whole_nn {z : Int} (h : Pn09Neutral.whole32 z = true) : 0 ≤ z := by
  unfold Pn09Neutral.whole32 at h
  rw [Bool.and_eq_true] at h
  exact of_decide_eq_true h.1
theorem row_nn {l : List Int} {m : Nat} (h : Pn09Neutral.row32 l m = true) : l.length ≤ m ∧ ∀ x ∈ l, 0 ≤ x := by
  unfold Pn09Neutral.row32 at h
  rw [Bool.and_eq_true] at h
  exact ⟨of_decide_eq_true h.1, fun x hx => whole_nn (List.all_eq_true.mp h.2 x hx)⟩
/-- one call -/
theorem told_of {c : List (List Int)} (h : Pn09Neutral.asked1 c = true) : ∃ x : Told, Fine x ∧ PyWide.put1 c = cst (nput1 x) ∧ Pn09Neutral.callOf c = some x.c := by
  have nn : ∀ {z : Int}, Pn09Neutral.whole32 z = true → ((z.toNat : Nat) : Int) = z := fun h => Int.toNat_of_nonneg (whole_nn h)
  unfold Pn09Neutral.asked1 at h
  split at h
  · rename_i n g
    rw [Bool.and_eq_true] at h
    refine ⟨⟨0, [n.toNat, g.toNat], [], .begins n.toNat g.toNat⟩, ⟨.begins _ _, Nat.zero_le _, fun r hr => by cases hr⟩, ?_, rfl⟩
    show [0, 2, n, g, 0] = [0, 2, ((n.toNat : Nat) : Int), ((g.toNat : Nat) : Int), 0]
    rw [nn h.1, nn h.2]
  · rename_i c l
    rw [Bool.and_eq_true, Bool.and_eq_true] at h
    have hl := of_decide_eq_true h.2.1
    have hr : ∀ r ∈ l, r.length ≤ 8 ∧ ∀ x ∈ r, 0 ≤ x := fun r hr => row_nn (List.all_eq_true.mp h.2.2 r hr)
    refine ⟨⟨1, [c.toNat], l.map Pn09Neutral.nats, .act c.toNat (l.map Pn09Neutral.nats)⟩, ⟨.act _ _, by show (l.map Pn09Neutral.nats).length ≤ 1000; rw [List.length_map]; omega, fun r hr2 => ?_⟩, ?_, rfl⟩
    · obtain ⟨q, hq, rfl⟩ := List.mem_map.mp hr2
      rw [nats_len]
      have := (hr q hq).1
      omega
    · show 1 :: (1 :: c :: ((l.length : Int) :: PyFlat.putRows l)) = 1 :: 1 :: ((c.toNat : Nat) : Int) :: (((l.map Pn09Neutral.nats).length : Nat) : Int) :: cst (nrows (l.map Pn09Neutral.nats))
      rw [nn h.1, List.length_map, cst_rows fun r hr2 => (hr r hr2).2]
  · rename_i c l
    rw [Bool.and_eq_true] at h
    have hr := row_nn h.2
    refine ⟨⟨2, [c.toNat], [Pn09Neutral.nats l], .look c.toNat (Pn09Neutral.nats l)⟩, ⟨.look _ _, by show 1 ≤ 1000; decide, fun r hr2 => ?_⟩, ?_, rfl⟩
    · rw [List.mem_singleton.mp hr2, nats_len]; omega
    · show 2 :: (1 :: c :: ((1 : Int) :: PyFlat.putRows [l])) = 2 :: 1 :: ((c.toNat : Nat) : Int) :: 1 :: cst (nrows ([l].map Pn09Neutral.nats))
      rw [nn h.1, cst_rows fun r hr2 => by rw [List.mem_singleton.mp hr2]; exact hr.2]
  · rename_i g
    refine ⟨⟨3, [g.toNat], [], .goal g.toNat⟩, ⟨.goal _, Nat.zero_le _, fun r hr => by cases hr⟩, ?_, rfl⟩
    show [3, 1, g, 0] = [3, 1, ((g.toNat : Nat) : Int), 0]
    rw [nn h]
  · rename_i g
    refine ⟨⟨4, [g.toNat], [], .plan g.toNat⟩, ⟨.plan _, Nat.zero_le _, fun r hr => by cases hr⟩, ?_, rfl⟩
    show [4, 1, g, 0] = [4, 1, ((g.toNat : Nat) : Int), 0]
    rw [nn h]
  · rename_i g
    refine ⟨⟨5, [g.toNat], [], .blind g.toNat⟩, ⟨.blind _, Nat.zero_le _, fun r hr => by cases hr⟩, ?_, rfl⟩
    show [5, 1, g, 0] = [5, 1, ((g.toNat : Nat) : Int), 0]
    rw [nn h]
  · rename_i c l
    rw [Bool.and_eq_true] at h
    have hr := row_nn h.2
    refine ⟨⟨6, [c.toNat], [Pn09Neutral.nats l], .judge c.toNat (Pn09Neutral.nats l)⟩, ⟨.judge _ _, by show 1 ≤ 1000; decide, fun r hr2 => ?_⟩, ?_, rfl⟩
    · rw [List.mem_singleton.mp hr2, nats_len]; omega
    · show 6 :: (1 :: c :: ((1 : Int) :: PyFlat.putRows [l])) = 6 :: 1 :: ((c.toNat : Nat) : Int) :: 1 :: cst (nrows ([l].map Pn09Neutral.nats))
      rw [nn h.1, cst_rows fun r hr2 => by rw [List.mem_singleton.mp hr2]; exact hr.2]
  · rename_i c l
    rw [Bool.and_eq_true] at h
    have hr := row_nn h.2
    refine ⟨⟨7, [c.toNat], [Pn09Neutral.nats l], .after c.toNat (Pn09Neutral.nats l)⟩, ⟨.after _ _, by show 1 ≤ 1000; decide, fun r hr2 => ?_⟩, ?_, rfl⟩
    · rw [List.mem_singleton.mp hr2, nats_len]; omega
    · show 7 :: (1 :: c :: ((1 : Int) :: PyFlat.putRows [l])) = 7 :: 1 :: ((c.toNat : Nat) : Int) :: 1 :: cst (nrows ([l].map Pn09Neutral.nats))
      rw [nn h.1, cst_rows fun r hr2 => by rw [List.mem_singleton.mp hr2]; exact hr.2]
  · cases h
theorem neutral_step {s : House} {c : List (List Int)} {x : Pn09.Call} (h : Pn09Neutral.callOf c = some x) : Pn09Neutral.step s c = ((step s x).1, Pn09Neutral.out (step s x).2) := by
  unfold Pn09Neutral.step
  rw [h]
/-- the calls -/
theorem tolds_of : ∀ {cs : List (List (List Int))}, (∀ c ∈ cs, Pn09Neutral.asked1 c = true) → ∃ L : List Told, (∀ x ∈ L, Fine x) ∧ PyWide.put cs = cst (nput L) ∧ (∀ s, PyFlat.told (PyFlat.played Pn09Neutral.step s cs) = ansOf s L) ∧ ∀ s, Pn09Neutral.many s cs = mny s L
  | [], _ => ⟨[], fun x hx => (by cases hx), rfl, fun _ => rfl, fun _ => rfl⟩
  | c :: cs, h => by
    obtain ⟨x, x1, x2, x3⟩ := told_of (h c List.mem_cons_self)
    obtain ⟨L, l1, l2, l3, l4⟩ := tolds_of (cs := cs) fun d hd => h d (List.mem_cons_of_mem _ hd)
    refine ⟨x :: L, fun y hy => ?_, ?_, fun s => ?_, fun s => ?_⟩
    · rcases List.mem_cons.mp hy with e | hy
      · rw [e]; exact x1
      · exact l1 y hy
    · show PyWide.put1 c ++ PyWide.put cs = cst (nput1 x ++ nput L)
      unfold cst at *
      rw [x2, l2, List.map_append]
    · show PyFlat.told ((Pn09Neutral.step s c).2 :: PyFlat.played Pn09Neutral.step (Pn09Neutral.step s c).1 cs) = _
      rw [neutral_step x3]
      show PyFlat.told (_ :: _) = (_ :: (_ ++ ansOf (step s x.c).1 L))
      rw [← l3]
      unfold PyFlat.told
      rw [List.flatMap_cons]
      rfl
    · show (Pn09Neutral.step s c).2.length + Pn09Neutral.many (Pn09Neutral.step s c).1 cs = _
      rw [neutral_step x3, l4]
      rfl
/-- what is asked, read -/
theorem parsed {ns : List Int} (h : PyPn09.answers_asked ns = true) : ∃ L : List Told, (∀ x ∈ L, Fine x) ∧ ns = cst (nput L) ∧ PyPn09.answers ns = ansOf init L ∧ mny init L ≤ 1000000 ∧ (ansOf init L).length ≤ 10000000 := by
  unfold PyPn09.answers_asked at h
  cases e : PyPn09.calls ns with
  | none => rw [e] at h; cases h
  | some cs =>
    rw [e] at h
    have h' : (!cs.isEmpty && cs.all PyPn09.fits && PyFlat.atMost 60 cs && Pn09Neutral.asked cs && PyFlat.short 10000000 (PyPn09.answers ns)) = true := h
    rw [Bool.and_eq_true, Bool.and_eq_true] at h'
    obtain ⟨⟨_, h1⟩, h2⟩ := h'
    unfold Pn09Neutral.asked at h1
    rw [Bool.and_eq_true, Bool.and_eq_true, Bool.and_eq_true, Bool.and_eq_true] at h1
    obtain ⟨k1, _, ⟨_, _⟩, k2⟩ := h1
    have k2' := of_decide_eq_true k2
    obtain ⟨L, l1, l2, l3, l4⟩ := tolds_of fun c hc => List.all_eq_true.mp k1 c hc
    have ea : PyPn09.answers ns = ansOf init L := by
      unfold PyPn09.answers
      rw [e]
      exact l3 _
    refine ⟨L, l1, ?_, ea, ?_, ?_⟩
    · have := (PyWide.put_calls _ _ _ e).1
      rw [this, l2]
    · rw [← l4]; exact k2'
    · rw [← ea]; exact of_decide_eq_true h2
/-! ### the house stays one that the desk may hold -/
theorem good_init : Good init.task := ⟨by decide, by decide, by decide, by decide, by decide, fun a h => (by cases h), fun a h => (by cases h)⟩
theorem step_good {t : Task} (G : Good t) (c : Pn09.Call) : Good (step ⟨t⟩ c).1.task := by
  cases c with
  | begins n g =>
    show Good (if n = 0 ∨ 5 < n ∨ 2 ^ n ≤ g then ((⟨t⟩ : House), ok (-1)) else (⟨⟨n, g, [], []⟩⟩, ok 0)).1.task
    by_cases h : n = 0 ∨ 5 < n ∨ 2 ^ n ≤ g
    · rw [if_pos h]; exact G
    · rw [if_neg h]
      have h1 : ¬ n = 0 := fun z => h (.inl z)
      have h2 : ¬ 5 < n := fun z => h (.inr (.inl z))
      have h3 : ¬ 2 ^ n ≤ g := fun z => h (.inr (.inr z))
      exact ⟨by show 1 ≤ n; omega, by show n ≤ 5; omega, Nat.lt_of_not_le h3, Nat.zero_le _, Nat.zero_le _, fun a h => (by cases h), fun a h => (by cases h)⟩
  | act c l =>
    show Good (if t.acts.length = 6 then ((⟨t⟩ : House), ok (-7)) else if c = 0 ∨ 1000 < c ∨ l.length ≠ t.states ∨ (l.all fun r => rising r && r.all fun s => decide (s < t.states)) = false then (⟨t⟩, ok (-1)) else (⟨{ t with acts := t.acts ++ [⟨c, l⟩] }⟩, ok (t.acts.length : Nat))).1.task
    by_cases h : t.acts.length = 6
    · rw [if_pos h]; exact G
    · rw [if_neg h]
      by_cases h2 : c = 0 ∨ 1000 < c ∨ l.length ≠ t.states ∨ (l.all fun r => rising r && r.all fun s => decide (s < t.states)) = false
      · rw [if_pos h2]; exact G
      · rw [if_neg h2]
        have q1 : ¬ c = 0 := fun z => h2 (.inl z)
        have q2 : ¬ 1000 < c := fun z => h2 (.inr (.inl z))
        have q3 : l.length = t.states := Classical.byContradiction fun z => h2 (.inr (.inr (.inl z)))
        have q4 : (l.all fun r => rising r && r.all fun s => decide (s < t.states)) = true := by
          cases z : (l.all fun r => rising r && r.all fun s => decide (s < t.states)) with
          | true => rfl
          | false => exact absurd (.inr (.inr (.inr z))) h2
        have a6 := G.a6
        refine ⟨G.s1, G.s5, G.g, ?_, G.l4, fun a ha => ?_, G.look⟩
        · show (t.acts ++ [(⟨c, l⟩ : Act)]).length ≤ 6
          rw [List.length_append, List.length_singleton]; omega
        · rcases List.mem_append.mp ha with ha | ha
          · exact G.act a ha
          · rw [List.mem_singleton.mp ha]
            refine ⟨by show 1 ≤ c; omega, by show c ≤ 1000; omega, q3, fun r hr => ?_⟩
            have := List.all_eq_true.mp q4 r hr
            rw [Bool.and_eq_true] at this
            exact ⟨this.1, fun s hs => of_decide_eq_true (List.all_eq_true.mp this.2 s hs)⟩
  | look c l =>
    show Good (if t.looks.length = 4 then ((⟨t⟩ : House), ok (-7)) else if c = 0 ∨ 1000 < c ∨ l.length ≠ t.states ∨ (l.any fun a => decide (3 ≤ a)) = true then (⟨t⟩, ok (-1)) else (⟨{ t with looks := t.looks ++ [⟨c, l⟩] }⟩, ok (t.looks.length : Nat))).1.task
    by_cases h : t.looks.length = 4
    · rw [if_pos h]; exact G
    · rw [if_neg h]
      by_cases h2 : c = 0 ∨ 1000 < c ∨ l.length ≠ t.states ∨ (l.any fun a => decide (3 ≤ a)) = true
      · rw [if_pos h2]; exact G
      · rw [if_neg h2]
        have q1 : ¬ c = 0 := fun z => h2 (.inl z)
        have q2 : ¬ 1000 < c := fun z => h2 (.inr (.inl z))
        have q3 : l.length = t.states := Classical.byContradiction fun z => h2 (.inr (.inr (.inl z)))
        have q4 : ¬ (l.any fun a => decide (3 ≤ a)) = true := fun z => h2 (.inr (.inr (.inr z)))
        have l4 := G.l4
        refine ⟨G.s1, G.s5, G.g, G.a6, ?_, G.act, fun a ha => ?_⟩
        · show (t.looks ++ [(⟨c, l⟩ : Look)]).length ≤ 4
          rw [List.length_append, List.length_singleton]; omega
        · rcases List.mem_append.mp ha with ha | ha
          · exact G.look a ha
          · rw [List.mem_singleton.mp ha]
            refine ⟨by show 1 ≤ c; omega, by show c ≤ 1000; omega, q3, fun s hs => ?_⟩
            apply Nat.lt_of_not_le
            intro z
            exact q4 (List.any_eq_true.mpr ⟨s, hs, decide_eq_true z⟩)
  | goal g =>
    show Good (if 2 ^ t.states ≤ g then ((⟨t⟩ : House), ok (-1)) else (⟨{ t with goal := g }⟩, ok 0)).1.task
    by_cases h : 2 ^ t.states ≤ g
    · rw [if_pos h]; exact G
    · rw [if_neg h]
      exact ⟨G.s1, G.s5, Nat.lt_of_not_le h, G.a6, G.l4, G.act, G.look⟩
  | plan b =>
    have : (step ⟨t⟩ (.plan b)).1 = ⟨t⟩ := by
      unfold step
      by_cases h : (⟨t⟩ : House).may b = false
      · simp [h]
      · simp [h]
    rw [this]; exact G
  | blind b =>
    have : (step ⟨t⟩ (.blind b)).1 = ⟨t⟩ := by
      unfold step
      by_cases h : (⟨t⟩ : House).may b = false
      · simp [h]
      · simp [h]
    rw [this]; exact G
  | judge b l =>
    have : (step ⟨t⟩ (.judge b l)).1 = ⟨t⟩ := by
      unfold step
      by_cases h : (⟨t⟩ : House).may b = false
      · simp [h]
      · simp only [h]
        rw [if_neg (by simp)]
        split <;> rfl
    rw [this]; exact G
  | after b l =>
    have : (step ⟨t⟩ (.after b l)).1 = ⟨t⟩ := by
      unfold step
      by_cases h : (⟨t⟩ : House).may b = false
      · simp [h]
      · simp [h]
    rw [this]; exact G
end U
set_option Elab.async false
set_option maxRecDepth 100000
set_option maxHeartbeats 4000000
/-! ## min(list of ints, default=x), in the hand layer's form -/
namespace MnD
open PySem PySem.Spec PyProof.Rows L2
theorem fold_le (b : Int) : ∀ l : List Int, l.foldl min b ≤ b ∧ (∀ y ∈ l, l.foldl min b ≤ y) ∧ (l.foldl min b = b ∨ l.foldl min b ∈ l) := by
  intro l
  induction l generalizing b with
  | nil => exact ⟨Int.le_refl b, fun y z => (by cases z), .inl rfl⟩
  | cons x l ih =>
    obtain ⟨h1, h2, h3⟩ := ih (min b x)
    show l.foldl min (min b x) ≤ b ∧ _
    refine ⟨by omega, fun y hy => ?_, ?_⟩
    · rcases List.mem_cons.mp hy with e | hy
      · show l.foldl min (min b x) ≤ y
        omega
      · exact h2 y hy
    · show l.foldl min (min b x) = b ∨ l.foldl min (min b x) ∈ x :: l
      rcases h3 with e | e
      · by_cases z : b ≤ x
        · left; omega
        · right
          rw [e, show min b x = x by omega]
          exact List.mem_cons_self
      · right
        exact List.mem_cons_of_mem _ e
theorem ints_read {h : Heap} : ∀ {ns : List Int} {us : List Value}, Vals (ns.map V.int) us → ReadsAll h us (ns.map PyData.int) []
  | [], _, .nil => .nil
  | n :: _, _, .cons ⟨t, e⟩ r => by
    subst e
    exact .cons (.int n t) (ints_read r)
theorem ints_alike (ns : List Int) : PySem.W.AlikeAll (ns.map PyData.int) := by
  refine ⟨fun x hx y hy => ?_, fun x hx => ?_⟩
  · obtain ⟨i, _, rfl⟩ := List.mem_map.mp hx
    obtain ⟨j, _, rfl⟩ := List.mem_map.mp hy
    rfl
  · obtain ⟨i, _, rfl⟩ := List.mem_map.mp hx
    exact fun z => by cases z
theorem ints_deep : ∀ ns : List Int, PyData.depthAll (ns.map PyData.int) = 0
  | [] => rfl
  | _ :: r => by
    show max 0 (PyData.depthAll (r.map PyData.int)) = 0
    rw [ints_deep r]
    rfl
/-- min(list of ints, default = z): z where there is none, else the least -/
def rMinD (K : PySem.W.Frag) : List V → List V → Hp → VK → Prop := fun vs zs H Q => ∃ (a : Addr) (ns : List Int) (z : V), vs = [V.ref a] ∧ zs = [z] ∧ SqL K H a (ns.map V.int) ∧
  (ns = [] → Q z H) ∧ (ns ≠ [] → ∀ m, m ∈ ns → (∀ y, y ∈ ns → m ≤ y) → Q (.int m) H)
theorem cr_minD {X : Cx} (hc : X.calm = true) (hu : X.A.units + 64 < cLine) : CallRK X (.builtin "min") [Str.ofString "default"] (rMinD X.K) := by
  intro pins s σ H vs zs us ws Q I r rz h
  obtain ⟨a, ns, z, rfl, rfl, hs, q0, q1⟩ := h
  obtain ⟨its, rv, hl, _⟩ := I.list hs
  rw [Vals.ref1 r]
  cases rz with
  | cons rz0 rz1 =>
    cases rz1
    show wpAny _ _ (call (.builtin "min") [.ref a] [(Str.ofString "default", _)]) _ _ _
    refine PySem.W.min_list_default (xs := ns.map PyData.int) (I.ok.hd hc) hl.isList (ints_read rv) (ints_alike ns) (by rw [ints_deep]; omega) (fun e h' tk hk => ?_) fun y ys i v h' tk bs e hv hr hk => ?_
    · exact ⟨z, H, I.kept hk, rz0, q0 (by simpa using e)⟩
    · cases ns with
      | nil => cases e
      | cons n r =>
        injection e with e1 e2
        subst e1 e2
        rw [PySem.W.minD_ints] at hr
        cases hr with
        | int _ t =>
          obtain ⟨h1, h2, h3⟩ := fold_le n r
          refine ⟨.int _, H, I.kept hk, ⟨t, rfl⟩, q1 (fun z => by cases z) _ ?_ fun y hy => ?_⟩
          · rcases h3 with z | z
            · rw [z]; exact List.mem_cons_self
            · exact List.mem_cons_of_mem _ z
          · rcases List.mem_cons.mp hy with z | hy
            · rw [z]; exact h1
            · exact h2 y hy
end MnD
set_option Elab.async false
set_option autoImplicit false
set_option maxRecDepth 100000
set_option maxHeartbeats 4000000
/-! ## The text by places; words -/
namespace Un
open PySem PySem.Spec PyProof.Rows L2 Evl
open C8 (Cal Met Mak pe_c pe_mk pe_mt)

def topS (i : Nat) : Stmt := PySem.Challenge.pw_unseenplan_s01_answers.main.body.getD i (.Pass ⟨0, 0, 0, 0⟩)
/-- a def of the top, a method, an __init__: where it stands -/
structure Df (K : PySem.W.Frag) (mg : Str → Option Value) (x : Str) (i : Nat) (ps : List Str) : Prop where
  ex : ∃ (f : Addr) (fd : FuncData), Fun K x x (topS i) f fd ∧ Binds K fd ps [] ∧ mg x = some (.ref f)
structure Mf (K : PySem.W.Frag) (C : Addr) (m qual : Str) (i j : Nat) (ps : List Str) : Prop where
  ex : ∃ (f : Addr) (fd : FuncData), Fun K m qual (inClass (topS i) j) f fd ∧ Binds K fd ps [] ∧ Cls K C ∧ Meth K C m f
structure Nf (K : PySem.W.Frag) (mg : Str → Option Value) (C : Addr) (x qual : Str) (i : Nat) (ps : List Str) : Prop where
  ex : ∃ (f : Addr) (fd : FuncData), Fun K "__init__" qual (inClass (topS i) 0) f fd ∧ Binds K fd ps [] ∧ Mk K C f ∧ mg x = some (.ref C)
section
variable {P : Program} {w : World} {K : PySem.W.Frag} {mg : Str → Option Value} {base : Heap} {C : Addr} {x m qual : Str} {i j k : Nat} {ps N : List Str} {sp : Sp}
/-- what a body's proof gives -/
abbrev Body (P : Program) (w : World) (K : PySem.W.Frag) (mg : Str → Option Value) (base : Heap) (N : List Str) (qual : Str) (st : Stmt) (k : Nat) (sp : Sp) : Prop :=
  ∀ (f : Addr) (cdv : Value) (A : Around) (outer : List Env) (s : Shared) (H : Hp) (vs : List V) (Q : VK) (E : XK), Room k (A.deeper (envOfC qual (defScope st) s.heap.objs.size f cdv)) → sp vs H Q E →
    ∃ t, PSs (cxOf CX0 P w K mg base N qual (defScope st) f cdv A outer s H E).nox (defBody st) t ∧ t { nx := fun _ H' => Q .non H', rt := Q } (start N vs) H
theorem Df.cal (d : Df K mg x i ps) (S : FnScope N ps (defScope (topS i))) (len : ∀ vs H Q E, sp vs H Q E → vs.length = ps.length) (hb : Body P w K mg base N x (topS i) k sp) : Cal P w K mg base (k + 1) x sp [] := by
  obtain ⟨f, fd, F, b, m⟩ := d.ex
  exact ⟨f, fd, ps, [], F.ok S len fun cdv A outer s H vs Q E hr h => hb f cdv A outer s H vs Q E hr h, m, F.kp, b, .nil⟩
theorem Mf.met (d : Mf K C m qual i j ps) (S : FnScope N ps (defScope (inClass (topS i) j))) (len : ∀ vs H Q E, sp vs H Q E → vs.length = ps.length) (hb : Body P w K mg base N qual (inClass (topS i) j) k sp) : Met P w K mg base (k + 1) C m sp [] := by
  obtain ⟨f, fd, F, b, c, me⟩ := d.ex
  exact ⟨f, fd, ps, [], c, me, F.ok S len fun cdv A outer s H vs Q E hr h => hb f cdv A outer s H vs Q E hr h, b, .nil⟩
theorem Nf.mak (d : Nf K mg C x qual i ps) (S : FnScope N ps (defScope (inClass (topS i) 0))) (len : ∀ vs H Q E, sp vs H Q E → vs.length = ps.length) (hb : Body P w K mg base N qual (inClass (topS i) 0) k sp) : Mak P w K mg base (k + 1) x C sp [] := by
  obtain ⟨f, fd, F, b, M, m⟩ := d.ex
  exact ⟨f, fd, ps, [], M, F.ok S len fun cdv A outer s H vs Q E hr h => hb f cdv A outer s H vs Q E hr h, m, b, .nil⟩
end

/-! ### values -/
def iv (n : Nat) : V := .int (n : Int)
abbrev ivs (l : List Nat) : List V := l.map iv
def ov : Option Nat → V
  | none => .non
  | some n => iv n
theorem ivs_get {l : List Nat} {i : Nat} {x : V} (h : (ivs l)[i]? = some x) : ∃ n, l[i]? = some n ∧ n ∈ l ∧ x = iv n := by
  rw [List.getElem?_map] at h
  obtain ⟨n, h1, h2⟩ := Option.map_eq_some_iff.mp h
  exact ⟨n, h1, List.mem_of_getElem? h1, h2.symm⟩
theorem get_ivs {l : List Nat} {i n : Nat} (h : l[i]? = some n) : (ivs l)[i]? = some (iv n) := by
  rw [List.getElem?_map, h]; rfl
theorem ivs_ints (l : List Nat) : ivs l = (l.map fun n : Nat => (n : Int)).map V.int := by
  rw [List.map_map]; rfl
theorem at_iv {xs : List V} {k : Nat} {v : V} (h : xs[k]? = some v) : atI xs (k : Int) = some v := atI_nat h

/-! ### the house in the heap -/
def ActAt (H : Hp) (v : V) (a : Pn09.Act) : Prop := ∃ p l, v = .ref p ∧ H p = some (.tup [iv a.cost, .ref l]) ∧ H l = some (.lst (ivs (a.next.map Pn09.setOf)))
def LookAt (H : Hp) (v : V) (a : Pn09.Look) : Prop := ∃ p l, v = .ref p ∧ H p = some (.tup [iv a.cost, .ref l]) ∧ H l = some (.lst (ivs a.sees))
def hF (t : Pn09.Task) (la ll : Addr) : List (Str × V) := [("states", iv t.states), ("wanted", iv t.goal), ("acts", .ref la), ("looks", .ref ll)]
structure HouseAt (C : Addr) (H : Hp) (h la ll : Addr) (t : Pn09.Task) : Prop where
  ins : ∃ dx, H h = some (.ins C dx (hF t la ll))
  acts : ∃ va : List V, H la = some (.lst va) ∧ va.length = t.acts.length ∧ ∀ (i : Nat) (a : Pn09.Act), t.acts[i]? = some a → ∃ v, va[i]? = some v ∧ ActAt H v a
  looks : ∃ vl : List V, H ll = some (.lst vl) ∧ vl.length = t.looks.length ∧ ∀ (i : Nat) (a : Pn09.Look), t.looks[i]? = some a → ∃ v, vl[i]? = some v ∧ LookAt H v a
theorem ActAt.ex {H H' : Hp} {v : V} {a : Pn09.Act} (e : Ex H H') (h : ActAt H v a) : ActAt H' v a := by
  obtain ⟨p, l, h1, h2, h3⟩ := h
  exact ⟨p, l, h1, e _ _ h2, e _ _ h3⟩
theorem LookAt.ex {H H' : Hp} {v : V} {a : Pn09.Look} (e : Ex H H') (h : LookAt H v a) : LookAt H' v a := by
  obtain ⟨p, l, h1, h2, h3⟩ := h
  exact ⟨p, l, h1, e _ _ h2, e _ _ h3⟩
theorem HouseAt.ex {C : Addr} {H H' : Hp} {h la ll : Addr} {t : Pn09.Task} (e : Ex H H') (x : HouseAt C H h la ll t) : HouseAt C H' h la ll t := by
  obtain ⟨⟨dx, h1⟩, ⟨va, h2, h3, h4⟩, ⟨vl, h5, h6, h7⟩⟩ := x
  refine ⟨⟨dx, e _ _ h1⟩, ⟨va, e _ _ h2, h3, fun i a ha => ?_⟩, ⟨vl, e _ _ h5, h6, fun i a ha => ?_⟩⟩
  · obtain ⟨v, q1, q2⟩ := h4 i a ha
    exact ⟨v, q1, q2.ex e⟩
  · obtain ⟨v, q1, q2⟩ := h7 i a ha
    exact ⟨v, q1, q2.ex e⟩
theorem lk_here {k : Str} {v : V} {r : List (Str × V)} : List.lookup k ((k, v) :: r) = some v := by
  have e : (k == k) = true := beq_self_eq_true k
  simp only [List.lookup, e]
theorem lk_past {k g : Str} {v : V} {r : List (Str × V)} (h : (k == g) = false) : List.lookup k ((g, v) :: r) = List.lookup k r := by
  simp only [List.lookup, h]
theorem hF_states (t : Pn09.Task) (la ll : Addr) : (hF t la ll).lookup ("states" : Str) = some (iv t.states) := lk_here
theorem hF_wanted (t : Pn09.Task) (la ll : Addr) : (hF t la ll).lookup ("wanted" : Str) = some (iv t.goal) := (lk_past (by decide +kernel)).trans lk_here
theorem hF_acts (t : Pn09.Task) (la ll : Addr) : (hF t la ll).lookup ("acts" : Str) = some (.ref la) := (lk_past (by decide +kernel)).trans ((lk_past (by decide +kernel)).trans lk_here)
theorem hF_looks (t : Pn09.Task) (la ll : Addr) : (hF t la ll).lookup ("looks" : Str) = some (.ref ll) := (lk_past (by decide +kernel)).trans ((lk_past (by decide +kernel)).trans ((lk_past (by decide +kernel)).trans lk_here))

/-! ### what the top has written -/
structure Txt (K : PySem.W.Frag) (mg : Str → Option Value) (C D aS : Addr) : Prop where
  clC : Cls K C
  clD : Cls K D
  nS : NoAttr K C "states"
  nW : NoAttr K C "wanted"
  nA : NoAttr K C "acts"
  nL : NoAttr K C "looks"
  nH : NoAttr K D "house"
  gS : mg "SIGHTS" = some (.ref aS)
  sS : ∀ H : Hp, SqT K H aS [iv 0, iv 1, iv 2]
  bLen : mg "len" = none
  bSum : mg "sum" = none
  bRange : mg "range" = none
  bAll : mg "all" = none
  bMax : mg "max" = none
  bMin : mg "min" = none
  bZip : mg "zip" = none
  bList : mg "list" = none
  bEnum : mg "enumerate" = none
  cDONE : ∃ t, mg "DONE" = some (.int 0 t)
  cFA : ∃ t, mg "FIRST_ACT" = some (.int 1 t)
  cFL : ∃ t, mg "FIRST_LOOK" = some (.int 100 t)
  cND : ∃ t, mg "NOT_DONE" = some (.int 1 t)
  cNW : ∃ t, mg "NOT_WANTED" = some (.int 2 t)
  cW : ∃ t, mg "WRONG" = some (.int (-1) t)
  cNP : ∃ t, mg "NO_PLAN" = some (.int (-5) t)
  cNO : ∃ t, mg "NONE_WORKS" = some (.int (-6) t)
  cTM : ∃ t, mg "TOO_MANY" = some (.int (-7) t)
  cMS : ∃ t, mg "MOST_STATES" = some (.int 5 t)
  cMA : ∃ t, mg "MOST_ACTS" = some (.int 6 t)
  cML : ∃ t, mg "MOST_LOOKS" = some (.int 4 t)
  cMC : ∃ t, mg "MOST_COST" = some (.int 1000 t)
/-- a number of the top -/
theorem pe_num {X : Cx} {x : Str} {pos : Pos} {i : Int} (h : ∃ t, X.mg x = some (.int i t)) (hg : Gl X x) (hd : (x == ("__debug__" : Str)) = false := by decide) (hn : x ≠ "__name__" := by decide) : PE X (.Name x pos) (tC (.int i)) := by
  obtain ⟨t, h⟩ := h
  exact pe_glob hg h ⟨t, rfl⟩ hd

/-! ### evaluations -/
section
variable {K : PySem.W.Frag} {mg : Str → Option Value} {C D aS : Addr} {σ : L2.St} {H : Hp} {te ti tl : TE} {h la ll : Addr} {t : Pn09.Task}
theorem ev_fld {a dx : Addr} {fs : List (Str × V)} {f : Str} {v : V} (ht : Ev te σ H (.ref a)) (ho : H a = some (.ins C dx fs)) (c : Cls K C) (n : NoAttr K C f) (l : fs.lookup f = some v) : Ev (tFld K te f) σ H v := fun H1 e _ q =>
  ht H1 e _ fun H2 e2 => ⟨a, C, dx, fs, v, rfl, (e.trans e2) _ _ ho, c, n, l, q H2 e2⟩
theorem ev_states (T : Txt K mg C D aS) (x : HouseAt C H h la ll t) (ht : Ev te σ H (.ref h)) : Ev (tFld K te "states") σ H (iv t.states) := ev_fld ht x.ins.choose_spec T.clC T.nS (hF_states t la ll)
theorem ev_wanted (T : Txt K mg C D aS) (x : HouseAt C H h la ll t) (ht : Ev te σ H (.ref h)) : Ev (tFld K te "wanted") σ H (iv t.goal) := ev_fld ht x.ins.choose_spec T.clC T.nW (hF_wanted t la ll)
theorem ev_acts (T : Txt K mg C D aS) (x : HouseAt C H h la ll t) (ht : Ev te σ H (.ref h)) : Ev (tFld K te "acts") σ H (.ref la) := ev_fld ht x.ins.choose_spec T.clC T.nA (hF_acts t la ll)
theorem ev_looks (T : Txt K mg C D aS) (x : HouseAt C H h la ll t) (ht : Ev te σ H (.ref h)) : Ev (tFld K te "looks") σ H (.ref ll) := ev_fld ht x.ins.choose_spec T.clC T.nL (hF_looks t la ll)
theorem ev_lenActs (T : Txt K mg C D aS) (x : HouseAt C H h la ll t) (ht : Ev te σ H (.ref h)) : Ev (tCB (rLenS K) (tCons (tFld K te "acts") tNil)) σ H (iv t.acts.length) := by
  obtain ⟨va, h1, h2, _⟩ := x.acts
  unfold iv
  rw [← h2]
  exact ev_len (ev_acts T x ht) (sq_of h1)
theorem ev_lenLooks (T : Txt K mg C D aS) (x : HouseAt C H h la ll t) (ht : Ev te σ H (.ref h)) : Ev (tCB (rLenS K) (tCons (tFld K te "looks") tNil)) σ H (iv t.looks.length) := by
  obtain ⟨va, h1, h2, _⟩ := x.looks
  unfold iv
  rw [← h2]
  exact ev_len (ev_looks T x ht) (sq_of h1)
/-- house.acts[k]: its tuple and its list -/
theorem act_at (T : Txt K mg C D aS) (x : HouseAt C H h la ll t) {k : Nat} {a : Pn09.Act} (ha : t.acts[k]? = some a) : ∃ p l, H p = some (.tup [iv a.cost, .ref l]) ∧ H l = some (.lst (ivs (a.next.map Pn09.setOf))) ∧
    ∀ (te ti : TE) (σ : L2.St) (H1 : Hp), Ex H H1 → Ev te σ H1 (.ref h) → Ev ti σ H1 (iv k) → Ev (tOp (rIxL K) (tFld K te "acts") ti) σ H1 (.ref p) := by
  obtain ⟨va, h1, _, h3⟩ := x.acts
  obtain ⟨v, q1, p, l, rfl, q2, q3⟩ := h3 k a ha
  exact ⟨p, l, q2, q3, fun te ti σ H1 e ht hi => ev_op (ev_acts T (x.ex e) ht) hi (rv_ixL (sq_of (e _ _ h1)) (at_iv q1))⟩
theorem look_at (T : Txt K mg C D aS) (x : HouseAt C H h la ll t) {k : Nat} {a : Pn09.Look} (ha : t.looks[k]? = some a) : ∃ p l, H p = some (.tup [iv a.cost, .ref l]) ∧ H l = some (.lst (ivs a.sees)) ∧
    ∀ (te ti : TE) (σ : L2.St) (H1 : Hp), Ex H H1 → Ev te σ H1 (.ref h) → Ev ti σ H1 (iv k) → Ev (tOp (rIxL K) (tFld K te "looks") ti) σ H1 (.ref p) := by
  obtain ⟨va, h1, _, h3⟩ := x.looks
  obtain ⟨v, q1, p, l, rfl, q2, q3⟩ := h3 k a ha
  exact ⟨p, l, q2, q3, fun te ti σ H1 e ht hi => ev_op (ev_looks T (x.ex e) ht) hi (rv_ixL (sq_of (e _ _ h1)) (at_iv q1))⟩
theorem ev_tup0 {p : Addr} {a b : V} (hp : H p = some (.tup [a, b])) (h : Ev te σ H (.ref p)) : Ev (tOp (rIxT K) te (tC (.int 0))) σ H a := ev_op h ev_c (rv_ixT (st_of hp) (at_iv (k := 0) rfl))
theorem ev_tup1 {p : Addr} {a b : V} (hp : H p = some (.tup [a, b])) (h : Ev te σ H (.ref p)) : Ev (tOp (rIxT K) te (tC (.int 1))) σ H b := ev_op h ev_c (rv_ixT (st_of hp) (at_iv (k := 1) rfl))
theorem et_yes : EvT tYes σ H true := fun H1 _ _ q => q H1 (Ex.refl H1)
/-- a built-in's call upon a new list -/
theorem ev_cbL {r : List V → Hp → VK → Prop} {xs : List V} {z : V} (h : EvL te σ H xs) (hr : ∀ (p : Addr) (H1 : Hp), Ex H H1 → H1 p = some (.lst xs) → ∀ Q : VK, Q z H1 → r [.ref p] H1 Q) : Ev (tCB r (tCons te tNil)) σ H z := fun H1 e _ q =>
  h H1 e _ fun p H2 _ e2 h2 => hr p H2 (e.trans e2) h2 _ (q H2 e2)
/-- .. of numbers -/
theorem rv_iI {g : Int → Int → V} {i j : Nat} {z : V} (hz : g (i : Int) (j : Int) = z) : RV (rI0 g) (iv i) (iv j) H z := by
  rw [← hz]
  exact rv_I0
end

/-! ### comprehensions over lists of numbers -/
theorem given_list {α : Type} (d : α) (p : α → Bool) (f : α → V) (l : List α) : given l.length (fun i => p (l.getD i d)) (fun i => f (l.getD i d)) = (l.filter p).map f := by
  have e : (List.range l.length).map (fun i => l.getD i d) = l := by
    apply List.ext_getElem?
    intro i
    by_cases h : i < l.length
    · simp [h]
    · simp [h]
  show ((List.range l.length).filter _).map _ = _
  conv => rhs; rw [← e]
  rw [List.filter_map, List.map_map]
  rfl
section
variable {K : PySem.W.Frag} {σ : L2.St} {H : Hp} {te tl : TE} {tt : TT} {j : Nat} {vs : List Nat}
theorem lcN {a : Addr} (l : List Nat) (p : Nat → Bool) (f : Nat → V) (h : Ev tl σ H (.ref a)) (hx : SqL K H a (ivs l)) (hz : l.length ≤ 40000) (hw : ∀ x, wipe ((wipe σ vs).set j (some x)) vs = wipe σ vs)
    (ht : ∀ (n : Nat) H1, Ex H H1 → n ∈ l → EvT tt ((wipe σ vs).set j (some (iv n))) H1 (p n)) (he : ∀ (n : Nat) H1, Ex H H1 → n ∈ l → p n = true → Ev te ((wipe σ vs).set j (some (iv n))) H1 (f n)) :
    EvL (tLc (iList K tl) (gName j) tt te vs) σ H ((l.filter p).map f) := by
  have q := el_lcL (K := K) (t := tt) (te := te) (xs := ivs l) (j := j) (vs := vs) (fun i => p (l.getD i 0)) (fun i => f (l.getD i 0)) h hx (by rw [List.length_map]; exact hz) hw (fun i x H1 e hi => ?_) (fun i x H1 e hi hp => ?_)
  · rw [List.length_map, given_list] at q
    exact q
  · obtain ⟨n, h1, h2, rfl⟩ := ivs_get hi
    rw [List.getD_eq_getElem?_getD, h1]
    exact ht n H1 e h2
  · obtain ⟨n, h1, h2, rfl⟩ := ivs_get hi
    rw [List.getD_eq_getElem?_getD, h1] at hp ⊢
    exact he n H1 e h2 hp
theorem lcNL (l : List Nat) (p : Nat → Bool) (f : Nat → V) (h : EvL tl σ H (ivs l)) (hz : l.length ≤ 40000) (hw : ∀ x, wipe ((wipe σ vs).set j (some x)) vs = wipe σ vs)
    (ht : ∀ (n : Nat) H1, Ex H H1 → n ∈ l → EvT tt ((wipe σ vs).set j (some (iv n))) H1 (p n)) (he : ∀ (n : Nat) H1, Ex H H1 → n ∈ l → p n = true → Ev te ((wipe σ vs).set j (some (iv n))) H1 (f n)) :
    EvL (tLc (iList K tl) (gName j) tt te vs) σ H ((l.filter p).map f) := by
  have q := el_lcNL (K := K) (t := tt) (te := te) (xs := ivs l) (j := j) (vs := vs) (fun i => p (l.getD i 0)) (fun i => f (l.getD i 0)) h (by rw [List.length_map]; exact hz) hw (fun i x H1 e hi => ?_) (fun i x H1 e hi hp => ?_)
  · rw [List.length_map, given_list] at q
    exact q
  · obtain ⟨n, h1, h2, rfl⟩ := ivs_get hi
    rw [List.getD_eq_getElem?_getD, h1]
    exact ht n H1 e h2
  · obtain ⟨n, h1, h2, rfl⟩ := ivs_get hi
    rw [List.getD_eq_getElem?_getD, h1] at hp ⊢
    exact he n H1 e h2 hp
theorem lcR {ta : TA} (m : Nat) (p : Nat → Bool) (f : Nat → V) (h : EvA ta σ H [iv m]) (hz : m ≤ 40000) (hw : ∀ x, wipe ((wipe σ vs).set j (some x)) vs = wipe σ vs)
    (ht : ∀ (n : Nat) H1, Ex H H1 → n < m → EvT tt ((wipe σ vs).set j (some (iv n))) H1 (p n)) (he : ∀ (n : Nat) H1, Ex H H1 → n < m → p n = true → Ev te ((wipe σ vs).set j (some (iv n))) H1 (f n)) :
    EvL (tLc (iRng1 ta) (gName j) tt te vs) σ H (((List.range m).filter p).map f) := by
  have q := el_lcR1 (t := tt) (te := te) (j := j) (vs := vs) (n := (m : Int)) p f h ⟨by omega, by omega⟩ hw (fun i H1 e hi => ht i H1 e (by omega)) (fun i H1 e hi hp => he i H1 e (by omega) hp)
  exact q
theorem filter_yes {α : Type} (l : List α) : l.filter (fun _ => true) = l := by
  induction l with
  | nil => rfl
  | cons a r ih => rw [List.filter_cons, if_pos rfl, ih]
theorem filter_all {α : Type} {p : α → Bool} {l : List α} (h : ∀ x ∈ l, p x = true) : l.filter p = l := List.filter_eq_self.mpr h
end

/-! ### is_in, set_of, members -/
def spIsIn : Sp := fun vs H Q _ => ∃ k b : Nat, vs = [iv k, iv b] ∧ RetV (.bl (Pn09.bit b k)) H Q
def spSetOf (K : PySem.W.Frag) : Sp := fun vs H Q _ => ∃ (a : Addr) (l : List Nat), vs = [.ref a] ∧ SqL K H a (ivs l) ∧ l.Nodup ∧ (∀ k ∈ l, k < 100) ∧ l.length ≤ 100 ∧ RetV (iv (Pn09.setOf l)) H Q
def spMembers (C : Addr) : Sp := fun vs H Q _ => ∃ (h la ll : Addr) (t : Pn09.Task) (b : Nat), vs = [.ref h, iv b] ∧ HouseAt C H h la ll t ∧ t.states ≤ 5 ∧ RetL (ivs (t.members b)) H Q
section
variable {P : Program} {w : World} {K : PySem.W.Frag} {mg : Str → Option Value} {base : Heap} {C D aS : Addr}
theorem sc3 : FnScope ["k", "some"] ["k", "some"] (defScope (topS 3)) := ⟨rfl, rfl, rfl, by decide +kernel, rfl, by decide +kernel, by decide +kernel⟩
theorem c_isIn (d : Df K mg "is_in" 3 ["k", "some"]) : Cal P w K mg base 1 "is_in" spIsIn [] := by
  refine d.cal sc3 (fun vs H Q E h => ?_) (fun f cdv A outer s H vs Q E hr h => ⟨_, pss_one (ps_ret (pe_cmpR op_eq (pe_op op_mod (pe_op op_shr (pv 1) (pv 0)) pe_int) pe_int (nomark _))), ?_⟩)
  · obtain ⟨k, b, rfl, _⟩ := h
    rfl
  · obtain ⟨k, b, rfl, q⟩ := h
    refine s_ret (v := .bl (Pn09.bit b k)) (ev_is (ev_op (ev_op (ev_op (ev_var rfl) (ev_var rfl) (rv_I (Int.natCast_nonneg k))) ev_c (rv_I (by decide))) ev_c (rv_eq rfl)) ?_) q
    have e : ((b : Int) / 2 ^ ((k : Int)).toNat) % 2 = ((b / 2 ^ k % 2 : Nat) : Int) := by
      rw [Int.toNat_natCast]; norm_cast
    rw [e]
    show V.bl (decide (V.int ((b / 2 ^ k % 2 : Nat) : Int) = V.int 1)) = V.bl (b / 2 ^ k % 2 == 1)
    congr 1
    by_cases z : b / 2 ^ k % 2 = 1
    · rw [z]; rfl
    · rw [show (b / 2 ^ k % 2 == 1) = false from beq_eq_false_iff_ne.mpr z]
      exact decide_eq_false fun y => z (by injection y with y; omega)
theorem sc4 : FnScope ["states", "k"] ["states"] (defScope (topS 4)) := ⟨rfl, rfl, rfl, by decide +kernel, rfl, by decide +kernel, by decide +kernel⟩
theorem c_setOf (T : Txt K mg C D aS) (d : Df K mg "set_of" 4 ["states"]) : Cal P w K mg base 1 "set_of" (spSetOf K) [] := by
  refine d.cal sc4 (fun vs H Q E h => ?_) (fun f cdv A outer s H vs Q E hr h => ⟨_, pss_one (ps_ret (pe_callB (cr_sum rfl) (by rfl) T.bSum boot_sum (pa_cons
    (pe_lc (own := [("k", 1)]) (g := gName 1) (tt := tYes) rfl sc4.nd (pi_list (pv 0)) (blkOk_by (N := ["states", "k"]) (sc := defScope (topS 4)) (by decide +kernel)) (fun _ _ _ _ _ => pg_name (i := 1) sc4.nd rfl (Or.inl rfl)) (fun _ _ _ _ _ => pts_nil) (fun _ _ _ _ _ => pe_op op_shl pe_int (pv 1))) pa_nil))), ?_⟩)
  · obtain ⟨a, l, rfl, _⟩ := h
    rfl
  · obtain ⟨a, l, rfl, hs, hn, hk, hl, q⟩ := h
    refine s_ret (v := iv (Pn09.setOf l)) ?_ q
    have L := lcN (K := K) (tl := tVar 0) (σ := start ["states", "k"] [.ref a]) (j := 1) (vs := [1]) (tt := tYes) (te := tOp (rI CPow fun i j => .int (i * 2 ^ j.toNat)) (tC (.int 1)) (tVar 1)) l (fun _ => true) (fun n => iv (2 ^ n)) (ev_var rfl) hs (by omega) (fun _ => rfl) (fun _ _ _ _ => et_yes) (fun n H1 e hn _ => ?_)
    · rw [filter_yes] at L
      refine ev_cbL L fun p H1 e hp Q1 q1 => ⟨p, (l.map fun n => ((2 ^ n : Nat) : Int)), rfl, sq_of (by rw [hp, List.map_map]; rfl), ?_⟩
      have es : (l.map fun n => ((2 ^ n : Nat) : Int)).sum = ((Pn09.setOf l : Nat) : Int) := by
        rw [U.setOf_sum hn]
        clear q1 hp L hs hn hk hl q
        induction l with
        | nil => rfl
        | cons a r ih => rw [List.map_cons, List.sum_cons, List.map_cons, List.sum_cons, ih]; norm_cast
      rw [es]
      exact q1
    · refine ev_is (ev_op ev_c (ev_var rfl) (rv_I ⟨Int.natCast_nonneg n, by have := hk n hn; omega, by decide⟩)) ?_
      show V.int (1 * 2 ^ ((n : Int)).toNat) = V.int ((2 ^ n : Nat) : Int)
      rw [Int.toNat_natCast, Int.one_mul]; norm_cast
theorem sc5 : FnScope ["house", "where", "k"] ["house", "where"] (defScope (topS 5)) := ⟨rfl, rfl, rfl, by decide +kernel, rfl, by decide +kernel, by decide +kernel⟩
theorem c_members (T : Txt K mg C D aS) (d : Df K mg "members" 5 ["house", "where"]) (cI : Cal P w K mg base 1 "is_in" spIsIn []) : Cal P w K mg base 2 "members" (spMembers C) [] := by
  refine d.cal sc5 (fun vs H Q E h => ?_) (fun f cdv A outer s H vs Q E hr h => ⟨_, pss_one (ps_ret
    (pe_lc (own := [("k", 2)]) (g := gName 2) rfl sc5.nd (pi_range1 rfl T.bRange (pa_cons (pe_fld (pv 0) rfl) pa_nil)) (blkOk_by (N := ["house", "where", "k"]) (sc := defScope (topS 5)) (by decide +kernel)) (fun _ _ _ _ _ => pg_name (i := 2) sc5.nd rfl (Or.inl rfl))
      (fun _ _ _ _ _ => pts_one (pt_val (pe_c cI hr (by decide) rfl (pa_cons (pv 2) (pa_cons (pv 1) pa_nil))))) (fun _ _ _ _ _ => pv 2))), ?_⟩)
  · obtain ⟨h, la, ll, t, b, rfl, _⟩ := h
    rfl
  · obtain ⟨h, la, ll, t, b, rfl, hh, h5, q⟩ := h
    refine s_retL (xs := ivs (t.members b)) (lcR t.states (Pn09.bit b) iv (ea_cons (ev_states T hh (ev_var rfl)) ea_nil) (by omega) (fun _ => rfl) (fun n H1 e hn => ?_) (fun n H1 e hn _ => ev_var rfl)) q
    exact et_B (ev_call (ea_cons (ev_var rfl) (ea_cons (ev_var rfl) ea_nil)) (fun H2 e2 Q2 q2 E2 => ⟨n, b, rfl, q2⟩))
end
end Un
set_option Elab.async false
set_option autoImplicit false
set_option maxRecDepth 100000
set_option maxHeartbeats 4000000
namespace Un
open PySem PySem.Spec PyProof.Rows L2 Evl
open C8 (Cal Met Mak pe_c pe_mk pe_mt)
section
variable {K : PySem.W.Frag} {σ : L2.St} {H : Hp} {te : TE} {ta : TA}
/-- a def's call upon one new list -/
theorem ev_callL {sp : Sp} {dvs xs : List V} {E : XK} {z : V} (h : EvL te σ H xs) (hs : ∀ (p : Addr) (H1 : Hp), Ex H H1 → H1 p = some (.lst xs) → ∀ (Q : VK) (E : XK), RetV z H1 Q → sp (.ref p :: dvs) H1 Q E) : Ev (tCall sp dvs E (tCons te tNil)) σ H z := fun H1 e _ q =>
  h H1 e _ fun p H2 _ e2 h2 => hs p H2 (e.trans e2) h2 _ E fun H3 e3 => q H3 (e2.trans e3)
theorem ev_callV {sp : Sp} {vs : List V} {E : XK} {z : V} (h : EvA ta σ H vs) (hs : ∀ (H1 : Hp), Ex H H1 → ∀ (Q : VK) (E : XK), RetV z H1 Q → sp vs H1 Q E) : Ev (tCall sp [] E ta) σ H z :=
  ev_call h (by rw [List.append_nil]; exact fun H1 e Q q E2 => hs H1 e Q E2 q)
theorem el_callV {sp : Sp} {vs xs : List V} {E : XK} (h : EvA ta σ H vs) (hs : ∀ (H1 : Hp), Ex H H1 → ∀ (Q : VK) (E : XK), RetL xs H1 Q → sp vs H1 Q E) : EvL (tCall sp [] E ta) σ H xs :=
  el_call h (by rw [List.append_nil]; exact fun H1 e Q q E2 => hs H1 e Q E2 q)
end
theorem cz (n : Nat) : (n : Int) = 0 ↔ n = 0 := by omega
theorem b_or (a b : Nat) : Builtin.bitOr (a : Int) (b : Int) = ((a ||| b : Nat) : Int) := by
  rw [Bits.bitOr_pp (Int.natCast_nonneg a) (Int.natCast_nonneg b), Int.toNat_natCast, Int.toNat_natCast]
theorem dec_le (a b : Nat) : decide ((a : Int) ≤ (b : Int)) = decide (a ≤ b) := decide_eq_decide.mpr Int.ofNat_le
theorem dec_lt (a b : Nat) : decide ((a : Int) < (b : Int)) = decide (a < b) := decide_eq_decide.mpr Int.ofNat_lt
theorem dec_iv (a b : Nat) : decide (iv a = iv b) = decide (a = b) := decide_eq_decide.mpr ⟨fun h => by unfold iv at h; injection h with h; omega, fun h => by rw [h]⟩
theorem dec_i (a : Nat) (b : Int) : decide (iv a = V.int b) = decide ((a : Int) = b) := decide_eq_decide.mpr ⟨fun h => by unfold iv at h; injection h, fun h => by unfold iv; rw [h]⟩

/-! ### is_as_wanted, can_act, behind_act -/
def spWanted (C : Addr) : Sp := fun vs H Q _ => ∃ (h la ll : Addr) (t : Pn09.Task) (b : Nat), vs = [.ref h, iv b] ∧ HouseAt C H h la ll t ∧ b < 2 ^ t.states ∧ RetV (.bl (t.done b)) H Q
def spCan (C : Addr) : Sp := fun vs H Q _ => ∃ (h la ll : Addr) (t : Pn09.Task) (b k : Nat), vs = [.ref h, iv b, iv k] ∧ HouseAt C H h la ll t ∧ U.Good t ∧ RetV (.bl (t.can b k)) H Q
def spBehind (C : Addr) : Sp := fun vs H Q _ => ∃ (h la ll : Addr) (t : Pn09.Task) (b k : Nat), vs = [.ref h, iv b, iv k] ∧ HouseAt C H h la ll t ∧ U.Good t ∧ RetV (iv (t.then_ b k)) H Q
def spSeen (C : Addr) : Sp := fun vs H Q _ => ∃ (h la ll : Addr) (t : Pn09.Task) (j s : Nat), vs = [.ref h, iv j, iv s] ∧ HouseAt C H h la ll t ∧ U.Good t ∧ s < t.states ∧ RetV (iv ((t.look j).sees.getD s 0)) H Q
def spBehindL (C : Addr) : Sp := fun vs H Q _ => ∃ (h la ll : Addr) (t : Pn09.Task) (b j : Nat), vs = [.ref h, iv b, iv j] ∧ HouseAt C H h la ll t ∧ U.Good t ∧ RetL (ivs ((t.answers b j).map (t.seen b j))) H Q
theorem members_len {t : Pn09.Task} (h5 : t.states ≤ 5) (b : Nat) : (t.members b).length ≤ 5 := by
  unfold Pn09.Task.members
  have := List.length_filter_le (Pn09.bit b) (List.range t.states)
  rw [List.length_range] at this
  omega
/-- the row of an act at a state -/
theorem row_at {t : Pn09.Task} (G : U.Good t) {k s : Nat} {a : Pn09.Act} (ha : t.acts[k]? = some a) (hs : s < t.states) : (a.next.map Pn09.setOf)[s]? = some (Pn09.setOf ((t.act k).next.getD s [])) ∧ t.act k = a := by
  obtain ⟨hk, e⟩ := List.getElem?_eq_some_iff.mp ha
  have ea : t.act k = a := by rw [U.act_of hk, e]
  have hl := (G.act a (List.mem_of_getElem? ha)).2.2.1
  refine ⟨?_, ea⟩
  rw [ea, List.getElem?_map, List.getD_eq_getElem?_getD]
  rw [List.getElem?_eq_getElem (by omega)]
  rfl
section
variable {P : Program} {w : World} {K : PySem.W.Frag} {mg : Str → Option Value} {base : Heap} {C D aS : Addr}
theorem sc6 : FnScope ["house", "where"] ["house", "where"] (defScope (topS 6)) := ⟨rfl, rfl, rfl, by decide +kernel, rfl, by decide +kernel, by decide +kernel⟩
theorem c_wanted (T : Txt K mg C D aS) (d : Df K mg "is_as_wanted" 6 ["house", "where"]) : Cal P w K mg base 1 "is_as_wanted" (spWanted C) [] := by
  refine d.cal sc6 (fun vs H Q E h => ?_) (fun f cdv A outer s H vs Q E hr h => ⟨_, pss_one (ps_ret (pe_cmpR op_eq (pe_op op_and (pv 1) (pe_fld (pv 0) rfl)) (pv 1) (nomark _))), ?_⟩)
  · obtain ⟨h, la, ll, t, b, rfl, _⟩ := h
    rfl
  · obtain ⟨h, la, ll, t, b, rfl, hh, hb, q⟩ := h
    refine s_ret (v := .bl (t.done b)) (ev_is (ev_op (ev_op (ev_var rfl) (ev_wanted T hh (ev_var rfl)) (rv_iI (z := iv (b &&& t.goal)) (congrArg V.int (PySem.W.os_band b t.goal)))) (ev_var rfl) (rv_eq rfl)) ?_) q
    rw [dec_iv, U.done_and hb]
theorem sc7 : FnScope ["house", "where", "act", "leads", "k"] ["house", "where", "act"] (defScope (topS 7)) := ⟨rfl, rfl, rfl, by decide +kernel, rfl, by decide +kernel, by decide +kernel⟩
theorem c_can (T : Txt K mg C D aS) (d : Df K mg "can_act" 7 ["house", "where", "act"]) (cM : Cal P w K mg base 2 "members" (spMembers C) []) : Cal P w K mg base 3 "can_act" (spCan C) [] := by
  refine d.cal sc7 (fun vs H Q E h => ?_) (fun f cdv A outer s H vs Q E hr h => ⟨_,
    pss_cons (ps_if (pt_cmpR op_ge (pv 2) (pe_callB call_len_seq (by rfl) T.bLen PySem.boot_len (pa_cons (pe_fld (pv 0) rfl) pa_nil)) (nomark _)) (pss_one (ps_ret pe_bl)) pss_nil)
    (pss_cons (ps_set (i := 3) sc7.nd rfl (Or.inr rfl) (pe_ix ix_tup (pe_ix ix_list (pe_fld (pv 0) rfl) (pv 2) (fun _ _ => rfl)) pe_int (fun _ _ => rfl)))
    (pss_one (ps_ret (pe_callB (cr_all rfl) (by rfl) T.bAll boot_all (pa_cons (pe_lc (own := [("k", 4)]) (g := gName 4) (tt := tYes) rfl sc7.nd (pi_list (pe_c cM hr (by decide) rfl (pa_cons (pv 0) (pa_cons (pv 1) pa_nil))))
      (blkOk_by (N := ["house", "where", "act", "leads", "k"]) (sc := defScope (topS 7)) (by decide +kernel)) (fun _ _ _ _ _ => pg_name (i := 4) sc7.nd rfl (Or.inl rfl)) (fun _ _ _ _ _ => pts_nil) (fun _ _ _ _ _ => pe_cmpR op_ne (pe_ix (r := rIxL K) ix_list (pv 3) (pv 4) (fun _ _ => rfl)) pe_int (nomark _))) pa_nil))))), ?_⟩)
  · obtain ⟨h, la, ll, t, b, k, rfl, _⟩ := h
    rfl
  · obtain ⟨h, la, ll, t, b, k, rfl, hh, G, q⟩ := h
    refine q_when (b := decide (t.acts.length ≤ k)) (et_is (et_test (ev_op (ev_var rfl) (ev_lenActs T hh (ev_var rfl)) (rv_iI rfl))) (dec_le _ _)) (fun hb H1 e1 => ?_) (fun hb H1 e1 => ?_)
    · refine s_ret ev_c fun H2 e2 => ?_
      have : t.can b k = false := by
        unfold Pn09.Task.can
        have hk : t.acts.length ≤ k := of_decide_eq_true hb
        rw [decide_eq_false (show ¬ k < t.acts.length by omega)]; rfl
      rw [← this]
      exact q H2 (e1.trans e2)
    · have hk : k < t.acts.length := by have := of_decide_eq_false hb; omega
      obtain ⟨p, l, hp, hl, hev⟩ := act_at T hh (List.getElem?_eq_getElem hk)
      refine q_asg (ev_tup1 (e1 _ _ hp) (hev _ _ _ H1 e1 (ev_var rfl) (ev_var rfl))) fun H2 e2 => ?_
      have e02 := e1.trans e2
      refine s_ret (v := .bl (t.can b k)) (ev_cbL (lcNL (t.members b) (fun _ => true) (fun s => V.bl (!((t.act k).next.getD s []).isEmpty)) (el_callV (ea_cons (ev_var rfl) (ea_cons (ev_var rfl) ea_nil)) fun H3 e3 Q3 E3 q3 => ⟨h, la, ll, t, b, rfl, hh.ex (e02.trans e3), G.s5, q3⟩)
        (by have := members_len G.s5 b; omega) (fun _ => rfl) (fun _ _ _ _ => et_yes) (fun s H3 e3 hs _ => ?_)) (fun p2 H3 e3 h3 Q3 q3 => ?_)) fun H3 e3 => q H3 (e02.trans e3)
      · have rw_ := row_at G (List.getElem?_eq_getElem hk) (U.mem_members.mp hs).1
        refine ev_is (ev_op (ev_op (ev_var rfl) (ev_var rfl) (rv_ixL (sq_of ((e02.trans e3) _ _ hl)) (at_iv (get_ivs rw_.1)))) ev_c (rv_ne rfl)) ?_
        rw [dec_i]
        congr 1
        cases z : (t.act k).next.getD s [] with
        | nil => rfl
        | cons x r =>
          rw [decide_eq_false]
          · rfl
          · intro z2
            have : Pn09.setOf (x :: r) = 0 := (cz _).mp z2
            rw [U.setOf_zero] at this
            cases this
      · refine ⟨p2, (t.members b).map fun s => !((t.act k).next.getD s []).isEmpty, rfl, sq_of (by rw [h3, filter_yes, List.map_map]; rfl), ?_⟩
        have e : ((t.members b).map fun s => !((t.act k).next.getD s []).isEmpty).all id = t.can b k := by
          unfold Pn09.Task.can
          rw [decide_eq_true hk, Bool.true_and, List.all_map]
          rfl
        rw [e]
        exact q3
theorem sc8 : FnScope ["house", "where", "act", "found", "leads", "k"] ["house", "where", "act"] (defScope (topS 8)) := ⟨rfl, rfl, rfl, by decide +kernel, rfl, by decide +kernel, by decide +kernel⟩
theorem c_behind (T : Txt K mg C D aS) (d : Df K mg "behind_act" 8 ["house", "where", "act"]) (cM : Cal P w K mg base 2 "members" (spMembers C) []) : Cal P w K mg base 3 "behind_act" (spBehind C) [] := by
  refine d.cal sc8 (fun vs H Q E h => ?_) (fun f cdv A outer s H vs Q E hr h => ⟨_,
    pss_cons (ps_set (i := 3) sc8.nd rfl (Or.inl rfl) pe_int)
    (pss_cons (ps_if (pt_cmpR op_lt (pv 2) (pe_callB call_len_seq (by rfl) T.bLen PySem.boot_len (pa_cons (pe_fld (pv 0) rfl) pa_nil)) (nomark _))
      (pss_cons (ps_set (i := 4) sc8.nd rfl (Or.inl rfl) (pe_ix ix_tup (pe_ix ix_list (pe_fld (pv 0) rfl) (pv 2) (fun _ _ => rfl)) pe_int (fun _ _ => rfl)))
      (pss_one (ps_for PassesOwn.never rfl (pi_list (pe_c cM hr (by decide) rfl (pa_cons (pv 0) (pa_cons (pv 1) pa_nil)))) (pg_name (i := 5) sc8.nd rfl (Or.inl rfl))
        (pss_one (ps_set (i := 3) sc8.nd rfl (Or.inl rfl) (pe_op op_or (pv 3) (pe_ix ix_list (pv 4) (pv 5) (fun _ _ => rfl)))))))) pss_nil)
    (pss_one (ps_ret (pv 3)))), ?_⟩)
  · obtain ⟨h, la, ll, t, b, k, rfl, _⟩ := h
    rfl
  · obtain ⟨h, la, ll, t, b, k, rfl, hh, G, q⟩ := h
    refine q_asg ev_c fun H1 e1 => ?_
    refine q_when (b := decide (k < t.acts.length)) (et_is (et_test (ev_op (ev_var rfl) (ev_lenActs T (hh.ex e1) (ev_var rfl)) (rv_iI rfl))) (dec_lt _ _)) (fun hb H2 e2 => ?_) (fun hb H2 e2 => ?_)
    · have hk : k < t.acts.length := of_decide_eq_true hb
      have e02 := e1.trans e2
      obtain ⟨p, l, hp, hl, hev⟩ := act_at T hh (List.getElem?_eq_getElem hk)
      refine q_asg (ev_tup1 (e02 _ _ hp) (hev _ _ _ H2 e02 (ev_var rfl) (ev_var rfl))) fun H3 e3 => ?_
      have e03 := e02.trans e3
      refine s_forNL (el_callV (ea_cons (ev_var rfl) (ea_cons (ev_var rfl) ea_nil)) fun H4 e4 Q4 E4 q4 => ⟨h, la, ll, t, b, rfl, hh.ex (e03.trans e4), G.s5, q4⟩)
        (fun p i σ' H' => (∃ v5, σ' = [some (.ref h), some (iv b), some (iv k), some (iv (((t.members b).take i).foldl (fun m s => m ||| Pn09.setOf ((t.act k).next.getD s [])) 0)), some (.ref l), v5]) ∧ Ex H H' ∧ H' p = some (.lst (ivs (t.members b))))
        (fun p2 H4 _ e4 h4 => ⟨⟨_, rfl⟩, e03.trans e4, h4⟩) (fun p2 i σ' H' _ hp => sq_of hp.2.2) (fun p2 i x σ' H' hx hP => ?_) (fun p2 σ' H' hP => ?_)
      · obtain ⟨⟨v5, rfl⟩, e, hp2⟩ := hP
        obtain ⟨s, hs, hm, rfl⟩ := ivs_get hx
        have rw_ := row_at G (List.getElem?_eq_getElem hk) (U.mem_members.mp hm).1
        refine s_asg (ev_op (ev_var rfl) (ev_op (ev_var rfl) (ev_var rfl) (rv_ixL (sq_of (e _ _ hl)) (at_iv (get_ivs rw_.1)))) (rv_iI (congrArg V.int (b_or _ _)))) fun H5 e5 => ⟨⟨some (iv s), ?_⟩, e.trans e5, e5 _ _ hp2⟩
        rw [List.take_add_one, hs, Option.toList_some, List.foldl_append]
        rfl
      · obtain ⟨⟨v5, rfl⟩, e, hp2⟩ := hP
        refine s_ret (ev_var rfl) fun H5 e5 => ?_
        have et : t.then_ b k = (((t.members b).take (ivs (t.members b)).length).foldl (fun m s => m ||| Pn09.setOf ((t.act k).next.getD s [])) 0) := by
          rw [List.length_map, List.take_length]
          exact U.setOf_or (t.members b)
        have q' := q H5 (e.trans e5)
        rw [et] at q'
        exact q'
    · refine s_ret (ev_var rfl) fun H3 e3 => ?_
      have et : t.then_ b k = 0 := by
        unfold Pn09.Task.then_
        rw [U.act_no (by have := of_decide_eq_false hb; omega), U.setOf_zero]
        simp
      have q' := q H3 ((e1.trans e2).trans e3)
      rw [et] at q'
      exact q'
theorem sc9 : FnScope ["house", "look", "k"] ["house", "look", "k"] (defScope (topS 9)) := ⟨rfl, rfl, rfl, by decide +kernel, rfl, by decide +kernel, by decide +kernel⟩
theorem c_seen (T : Txt K mg C D aS) (d : Df K mg "seen_by" 9 ["house", "look", "k"]) : Cal P w K mg base 1 "seen_by" (spSeen C) [] := by
  refine d.cal sc9 (fun vs H Q E h => ?_) (fun f cdv A outer s H vs Q E hr h => ⟨_,
    pss_cons (ps_if (pt_cmpR op_ge (pv 1) (pe_callB call_len_seq (by rfl) T.bLen PySem.boot_len (pa_cons (pe_fld (pv 0) rfl) pa_nil)) (nomark _)) (pss_one (ps_ret pe_int)) pss_nil)
    (pss_one (ps_ret (pe_ix ix_list (pe_ix ix_tup (pe_ix ix_list (pe_fld (pv 0) rfl) (pv 1) (fun _ _ => rfl)) pe_int (fun _ _ => rfl)) (pv 2) (fun _ _ => rfl)))), ?_⟩)
  · obtain ⟨h, la, ll, t, j, s, rfl, _⟩ := h
    rfl
  · obtain ⟨h, la, ll, t, j, s, rfl, hh, G, hs, q⟩ := h
    refine q_when (b := decide (t.looks.length ≤ j)) (et_is (et_test (ev_op (ev_var rfl) (ev_lenLooks T hh (ev_var rfl)) (rv_iI rfl))) (dec_le _ _)) (fun hb H1 e1 => ?_) (fun hb H1 e1 => ?_)
    · refine s_ret ev_c fun H2 e2 => ?_
      have q' := q H2 (e1.trans e2)
      rw [U.look_no (of_decide_eq_true hb)] at q'
      exact q'
    · have hj : j < t.looks.length := by have := of_decide_eq_false hb; omega
      obtain ⟨p, l, hp, hl, hev⟩ := look_at T hh (List.getElem?_eq_getElem hj)
      have hlen := (G.look _ (List.getElem_mem hj)).2.2.1
      have ha : (t.looks[j].sees)[s]? = some ((t.look j).sees.getD s 0) := by
        rw [U.look_of hj, List.getD_eq_getElem?_getD, List.getElem?_eq_getElem (by omega)]
        rfl
      exact s_ret (ev_op (ev_tup1 (e1 _ _ hp) (hev _ _ _ H1 e1 (ev_var rfl) (ev_var rfl))) (ev_var rfl) (rv_ixL (sq_of (e1 _ _ hl)) (at_iv (get_ivs ha)))) fun H2 e2 => q H2 (e1.trans e2)
theorem sc10 : FnScope ["house", "where", "look", "found", "sight", "own", "k"] ["house", "where", "look"] (defScope (topS 10)) := ⟨rfl, rfl, rfl, by decide +kernel, rfl, by decide +kernel, by decide +kernel⟩
theorem c_behindL (T : Txt K mg C D aS) (d : Df K mg "behind_look" 10 ["house", "where", "look"]) (cM : Cal P w K mg base 2 "members" (spMembers C) []) (cS : Cal P w K mg base 1 "set_of" (spSetOf K) []) (cB : Cal P w K mg base 1 "seen_by" (spSeen C) []) : Cal P w K mg base 3 "behind_look" (spBehindL C) [] := by
  refine d.cal sc10 (fun vs H Q E h => ?_) (fun f cdv A outer s H vs Q E hr h => ⟨_,
    pss_cons (ps_set (i := 3) sc10.nd rfl (Or.inl rfl) (pe_lst pa_nil))
    (pss_cons (ps_for PassesOwn.never rfl (pi_tup (pe_glob (v := .ref aS) rfl T.gS rfl)) (pg_name (i := 4) sc10.nd rfl (Or.inr rfl))
      (pss_cons (ps_set (i := 5) sc10.nd rfl (Or.inl rfl) (pe_c cS hr (by decide) rfl (pa_cons (pe_lc (own := [("k", 6)]) (g := gName 6) rfl sc10.nd (pi_list (pe_c cM hr (by decide) rfl (pa_cons (pv 0) (pa_cons (pv 1) pa_nil))))
          (blkOk_by (N := ["house", "where", "look", "found", "sight", "own", "k"]) (sc := defScope (topS 10)) (by decide +kernel)) (fun _ _ _ _ _ => pg_name (i := 6) sc10.nd rfl (Or.inl rfl))
          (fun _ _ _ _ _ => pts_one (pt_cmpR op_eq (pe_c cB hr (by decide) rfl (pa_cons (pv 0) (pa_cons (pv 2) (pa_cons (pv 6) pa_nil)))) (pv 4) (nomark _))) (fun _ _ _ _ _ => pv 6)) pa_nil)))
      (pss_one (ps_if (pt_cmpR op_ne (pv 5) pe_int (nomark _)) (pss_one (ps_expr (pe_bm PySem.F.plainAttrs_list PySem.F.slot_list_append PySem.F.type_list_append mt_append (pv 3) (pa_cons (pv 5) pa_nil)))) pss_nil))))
    (pss_one (ps_ret (pv 3)))), ?_⟩)
  · obtain ⟨h, la, ll, t, b, j, rfl, _⟩ := h
    rfl
  · obtain ⟨h, la, ll, t, b, j, rfl, hh, G, q⟩ := h
    refine q_asgL (el_lst ea_nil (by decide)) fun f0 H1 hf e1 hl1 => ?_
    refine q_forT (xs := ivs [0, 1, 2]) ev_c (T.sS H1) (fun i σ' H' => (∃ v4 v5, σ' = [some (.ref h), some (iv b), some (iv j), some (.ref f0), v4, v5, none]) ∧ Ex H H' ∧ H' f0 = some (.lst (ivs ((([0, 1, 2].take i).filter fun a => t.seen b j a != 0).map (t.seen b j)))))
      (fun H2 e2 => ⟨⟨none, none, rfl⟩, e1.trans e2, e2 _ _ hl1⟩) (fun _ _ H' _ _ => T.sS H') (fun i x σ' H' hx hP => ?_) (fun σ' H' hP => ?_)
    · obtain ⟨⟨v4, v5, rfl⟩, e, hf'⟩ := hP
      obtain ⟨a, ha, hm, rfl⟩ := ivs_get hx
      refine q_asg (ev_callL (z := iv (t.seen b j a)) (lcNL (t.members b) (fun s => (t.look j).sees.getD s 0 == a) iv (el_callV (ea_cons (ev_var rfl) (ea_cons (ev_var rfl) ea_nil)) fun H3 e3 Q3 E3 q3 => ⟨h, la, ll, t, b, rfl, hh.ex (e.trans e3), G.s5, q3⟩)
        (by have := members_len G.s5 b; omega) (fun _ => rfl) (fun s H3 e3 hs => ?_) (fun s H3 e3 hs _ => ev_var rfl)) (fun p2 H3 e3 h3 Q3 E3 q3 => ?_)) (fun H3 e3 => ?_)
      · refine et_is (et_test (ev_op (ev_callV (z := iv ((t.look j).sees.getD s 0)) (ea_cons (ev_var rfl) (ea_cons (ev_var rfl) (ea_cons (ev_var rfl) ea_nil))) fun H4 e4 Q4 E4 q4 => ⟨h, la, ll, t, j, s, rfl, hh.ex ((e.trans e3).trans e4), G, (U.mem_members.mp hs).1, q4⟩) (ev_var rfl) (rv_eq rfl))) ?_
        rw [dec_iv]
        by_cases z : (t.look j).sees.getD s 0 = a
        · rw [decide_eq_true z]
          exact (beq_iff_eq.mpr z).symm
        · rw [decide_eq_false z]
          exact (beq_eq_false_iff_ne.mpr z).symm
      · refine ⟨p2, (t.members b).filter fun s => (t.look j).sees.getD s 0 == a, rfl, sq_of h3, List.Pairwise.filter _ (U.members_nodup b), fun k hk => ?_, ?_, q3⟩
        · have := (U.mem_members.mp (List.mem_filter.mp hk).1).1
          have := G.s5
          omega
        · have := List.length_filter_le (fun s => (t.look j).sees.getD s 0 == a) (t.members b)
          have := members_len G.s5 b
          omega
      · have tk : [0, 1, 2].take (i + 1) = [0, 1, 2].take i ++ [a] := by rw [List.take_add_one, ha]; rfl
        refine s_when (b := !decide (t.seen b j a = 0)) (et_is (et_test (ev_op (ev_var rfl) ev_c (rv_ne rfl))) ?_) (fun hb H4 e4 => ?_) (fun hb H4 e4 => ?_)
        · rw [dec_i]
          congr 1
          exact decide_eq_decide.mpr (cz _)
        · refine s_app ((e3.trans e4) _ _ hf') (ev_var rfl) (ev_var rfl) ?_ (fun H5 e5 => ⟨⟨_, _, rfl⟩, Ex.mut (((e.trans e3).trans e4).trans e5) hf, ?_⟩)
          · rw [List.length_map, List.length_map]
            have := List.length_filter_le (fun a => t.seen b j a != 0) ([0, 1, 2].take i)
            rw [List.length_take] at this
            have : ([0, 1, 2] : List Nat).length = 3 := rfl
            omega
          · have z : (t.seen b j a != 0) = true := by
              rw [bne_iff_ne]
              intro z
              rw [decide_eq_true z] at hb
              cases hb
            rw [tk, List.filter_append, List.filter_cons, if_pos z]
            unfold ivs
            rw [List.map_append, List.map_append]
            exact upd_same
        · refine ⟨⟨_, _, rfl⟩, (e.trans e3).trans e4, ?_⟩
          have z : ¬ (t.seen b j a != 0) = true := by
            rw [bne_iff_ne]
            intro z
            rw [decide_eq_false z] at hb
            cases hb
          rw [tk, List.filter_append, List.filter_cons, if_neg z]
          show H4 f0 = some (.lst (ivs (List.map (t.seen b j) (_ ++ []))))
          rw [List.append_nil]
          exact (e3.trans e4) _ _ hf'
    · obtain ⟨⟨v4, v5, rfl⟩, e, hf'⟩ := hP
      refine s_ret (ev_var rfl) fun H3 e3 => q f0 H3 hf (e.trans e3) ?_
      exact e3 _ _ hf'
end
end Un
set_option Elab.async false
set_option autoImplicit false
set_option maxRecDepth 100000
set_option maxHeartbeats 4000000
namespace Un
open PySem PySem.Spec PyProof.Rows L2 Evl
open C8 (Cal Met Mak pe_c pe_mk pe_mt)
/-! ### lists of costs -/
def cvs (d : Array (Option Nat)) : List V := d.toList.map ov
theorem cvs_at {d : Array (Option Nat)} {b : Nat} (h : b < d.size) : (cvs d)[b]? = some (ov (Pn09.at_ d b)) := by
  unfold cvs Pn09.at_
  rw [List.getElem?_map, Array.getElem?_toList, Array.getD_eq_getD_getElem?, Array.getElem?_eq_getElem h]
  rfl
theorem ov_inj {x y : Option Nat} (h : ov x = ov y) : x = y := by
  cases x <;> cases y
  · rfl
  · cases h
  · cases h
  · unfold ov iv at h
    injection h with h
    rw [show _ = _ from Int.ofNat.inj h]
theorem dec_ov (x y : Option Nat) : decide (ov x = ov y) = decide (x = y) := decide_eq_decide.mpr ⟨ov_inj, fun h => by rw [h]⟩
theorem ov_non (x : Option Nat) : decide (ov x = V.non) = x.isNone := by
  cases x with
  | none => rfl
  | some n => exact decide_eq_false fun h => by unfold ov iv at h; cases h
def od : Option Nat → PyData
  | none => .none
  | some n => .int (n : Int)
theorem od_eqv (x y : Option Nat) : PyData.eqv (od x) (od y) = decide (x = y) := by
  cases x with
  | none => cases y <;> simp [od, PyData.eqv]
  | some m =>
    cases y with
    | none => simp [od, PyData.eqv]
    | some n =>
      show ((m : Int) == (n : Int)) = _
      by_cases h : m = n
      · subst h; simp
      · rw [beq_eq_false_iff_ne.mpr (by omega), decide_eq_false (by simpa using h)]
theorem ods_eqv : ∀ (x y : List (Option Nat)), PyData.eqvAll (x.map od) (y.map od) = decide (x = y)
  | [], [] => by simp [PyData.eqvAll]
  | [], _ :: _ => by simp [PyData.eqvAll]
  | _ :: _, [] => by simp [PyData.eqvAll]
  | a :: x, b :: y => by
    rw [List.map_cons, List.map_cons, PyData.eqvAll, od_eqv, ods_eqv x y]
    by_cases h : a = b <;> by_cases h2 : x = y <;> simp [h, h2]
theorem ods_lay : ∀ l : List (Option Nat), PyData.canLayAll0 (l.map od) = true
  | [] => by simp [PyData.canLayAll0]
  | a :: l => by
    rw [List.map_cons, PyData.canLayAll0, ods_lay l]
    cases a <;> simp [od, PyData.canLay0]
theorem ods_deep : ∀ l : List (Option Nat), PyData.depthAll (l.map od) = 0
  | [] => by simp [PyData.depthAll]
  | a :: l => by
    rw [List.map_cons, PyData.depthAll, ods_deep l]
    cases a <;> simp [od, PyData.depth]
theorem ods_shaped (l : List (Option Nat)) : SeqAt.shaped (.list (l.map od)) = true := by
  unfold SeqAt.shaped
  rw [PyData.canLay0, ods_lay, PyData.depth, ods_deep]
  rfl
theorem ods_dp {K : PySem.W.Frag} {H : Hp} : ∀ l : List (Option Nat), DpAll K H (l.map ov) (l.map od)
  | [] => .nil
  | none :: l => .cons .non (ods_dp l)
  | some n :: l => .cons (.int _) (ods_dp l)
theorem cvs_dp {K : PySem.W.Frag} {H : Hp} {a : Addr} {d : Array (Option Nat)} (h : SqL K H a (cvs d)) : Dp K H (.ref a) (.list (d.toList.map od)) := .lst h (ods_dp _)
theorem cvs_flat (l : List (Option Nat)) : (l.map ov).all flatV = true := by
  rw [List.all_map, List.all_eq_true]
  intro x _
  cases x <;> rfl
theorem rv_isN {x : V} {H : Hp} : RV (fun x y H Q => y = V.non ∧ Q (.bl (decide (x = .non))) H) x .non H (.bl (decide (x = .non))) := fun H1 _ _ q => ⟨rfl, q H1 (Ex.refl H1)⟩
theorem rv_notN {x : V} {H : Hp} : RV (fun x y H Q => y = V.non ∧ Q (.bl (!decide (x = .non))) H) x .non H (.bl (!decide (x = .non))) := fun H1 _ _ q => ⟨rfl, q H1 (Ex.refl H1)⟩
theorem hu64 {A : Around} {k : Nat} (hr : Room k A) : A.units + 64 < cLine := by
  have := hr.un
  omega
theorem ev_cKw {σ : L2.St} {H : Hp} {te : TE} {r : List V → List V → Hp → VK → Prop} {xs : List V} {z v : V} (h : EvL te σ H xs) (hr : ∀ (p : Addr) (H1 : Hp), Ex H H1 → H1 p = some (.lst xs) → ∀ Q : VK, Q v H1 → r [.ref p] [z] H1 Q) : Ev (tCKw r (tCons te tNil) (tCons (tC z) tNil)) σ H v := fun H1 e _ q =>
  h H1 e _ fun p H2 _ e2 h2 => hr p H2 (e.trans e2) h2 _ (q H2 e2)
/-! ### the dearest of some, the cheapest of some -/
theorem most_none {α : Type} {f : α → Option Nat} : ∀ {l : List α} {x : Option Nat}, (x = none ∨ ∃ a ∈ l, f a = none) → l.foldl (fun c a => Pn09.most c (f a)) x = none
  | [], x, h => by
    rcases h with h | ⟨a, ha, _⟩
    · exact h
    · cases ha
  | b :: l, x, h => by
    rw [List.foldl_cons]
    apply most_none
    rcases h with h | ⟨a, ha, e⟩
    · rw [h]; exact .inl rfl
    · rcases List.mem_cons.mp ha with q | q
      · subst q
        rw [e]
        left
        cases x <;> rfl
      · exact .inr ⟨a, q, e⟩
theorem most_some {α : Type} {f : α → Option Nat} {g : α → Nat} : ∀ {l : List α} {m : Nat}, (∀ a ∈ l, f a = some (g a)) → ∃ r, l.foldl (fun c a => Pn09.most c (f a)) (some m) = some r ∧ m ≤ r ∧ (∀ a ∈ l, g a ≤ r) ∧ (r = m ∨ ∃ a ∈ l, g a = r)
  | [], m, _ => ⟨m, rfl, Nat.le_refl _, fun _ h => (by cases h), Or.inl rfl⟩
  | b :: l, m, h => by
    obtain ⟨r, h1, h2, h3, h4⟩ := most_some (l := l) (m := max m (g b)) fun a ha => h a (List.mem_cons_of_mem _ ha)
    refine ⟨r, ?_, by omega, fun a ha => ?_, ?_⟩
    · rw [List.foldl_cons, h b List.mem_cons_self]
      exact h1
    · rcases List.mem_cons.mp ha with q | q
      · subst q; omega
      · exact h3 a q
    · rcases h4 with h4 | ⟨a, ha, e⟩
      · by_cases q : m ≤ g b
        · exact .inr ⟨b, List.mem_cons_self, by omega⟩
        · exact .inl (by omega)
      · exact .inr ⟨a, List.mem_cons_of_mem _ ha, e⟩
/-- the numbers among them -/
theorem minO_nums {l : List (Option Nat)} {m : Int} (h1 : m ∈ (l.filterMap id).map fun n : Nat => (n : Int)) (h2 : ∀ y ∈ (l.filterMap id).map fun n : Nat => (n : Int), m ≤ y) : V.int m = ov (U.minO l) := by
  obtain ⟨n, hn, rfl⟩ := List.mem_map.mp h1
  obtain ⟨x, hx, e⟩ := List.mem_filterMap.mp hn
  obtain ⟨c, hc1, hc2⟩ := U.minO_le hx n e
  have := h2 _ (List.mem_map.mpr ⟨c, List.mem_filterMap.mpr ⟨some c, U.minO_mem hc2, rfl⟩, rfl⟩)
  rw [hc2]
  show V.int (n : Int) = V.int (c : Int)
  rw [show n = c by omega]
theorem minO_nil {l : List (Option Nat)} (h : l.filterMap id = []) : U.minO l = none := by
  cases e : U.minO l with
  | none => rfl
  | some c =>
    have : c ∈ l.filterMap id := List.mem_filterMap.mpr ⟨some c, U.minO_mem e, rfl⟩
    rw [h] at this; cases this
theorem notNone_map (l : List (Option Nat)) : ((l.filter fun x => x.isSome).map ov) = ivs (l.filterMap id) := by
  induction l with
  | nil => rfl
  | cons a r ih =>
    cases a with
    | none => rw [List.filter_cons, if_neg (by simp), List.filterMap_cons, ih]; rfl
    | some n => rw [List.filter_cons, if_pos (by rfl), List.filterMap_cons, List.map_cons, ih]; rfl
/-- a comprehension over a new list of costs -/
theorem lcCL {K : PySem.W.Frag} {σ : L2.St} {H : Hp} {te tl : TE} {tt : TT} {j : Nat} {vs : List Nat} (l : List (Option Nat)) (p : Option Nat → Bool) (h : EvL tl σ H (l.map ov)) (hz : l.length ≤ 40000) (hw : ∀ x, wipe ((wipe σ vs).set j (some x)) vs = wipe σ vs)
    (ht : ∀ (x : Option Nat) H1, Ex H H1 → EvT tt ((wipe σ vs).set j (some (ov x))) H1 (p x)) (he : ∀ (x : Option Nat) H1, Ex H H1 → Ev te ((wipe σ vs).set j (some (ov x))) H1 (ov x)) :
    EvL (tLc (iList K tl) (gName j) tt te vs) σ H ((l.filter p).map ov) := by
  have get : ∀ {i : Nat} {x : V}, (l.map ov)[i]? = some x → ∃ n, l[i]? = some n ∧ x = ov n := fun {i x} hi => by
    rw [List.getElem?_map] at hi
    obtain ⟨n, h1, h2⟩ := Option.map_eq_some_iff.mp hi
    exact ⟨n, h1, h2.symm⟩
  have q := el_lcNL (K := K) (t := tt) (te := te) (xs := l.map ov) (j := j) (vs := vs) (fun i => p (l.getD i none)) (fun i => ov (l.getD i none)) h (by rw [List.length_map]; exact hz) hw (fun i x H1 e hi => ?_) (fun i x H1 e hi _ => ?_)
  · rw [List.length_map, given_list] at q
    exact q
  · obtain ⟨n, h1, rfl⟩ := get hi
    rw [List.getD_eq_getElem?_getD, h1]
    exact ht n H1 e
  · obtain ⟨n, h1, rfl⟩ := get hi
    rw [List.getD_eq_getElem?_getD, h1]
    exact he n H1 e

/-! ### act_cost, look_cost, ways_from, best_cost, next_costs -/
/-- what the defs of costs are handed: a house, a list of costs, a set -/
structure Costs (K : PySem.W.Frag) (C : Addr) (H : Hp) (h c : Addr) (t : Pn09.Task) (d : Array (Option Nat)) : Prop where
  house : ∃ la ll, HouseAt C H h la ll t
  good : U.Good t
  costs : SqL K H c (cvs d)
  size : d.size = 2 ^ t.states
theorem Costs.ex {K : PySem.W.Frag} {C : Addr} {H H' : Hp} {h c : Addr} {t : Pn09.Task} {d : Array (Option Nat)} (e : Ex H H') (x : Costs K C H h c t d) : Costs K C H' h c t d := by
  obtain ⟨⟨la, ll, hh⟩, g, hc, z⟩ := x
  exact ⟨⟨la, ll, hh.ex e⟩, g, ex_l e hc, z⟩
theorem ev_cost {K : PySem.W.Frag} {C : Addr} {H : Hp} {h c : Addr} {t : Pn09.Task} {d : Array (Option Nat)} (x : Costs K C H h c t d) {σ : L2.St} {te ti : TE} {b : Nat} (hb : b < 2 ^ t.states) (h1 : Ev te σ H (.ref c)) (h2 : Ev ti σ H (iv b)) : Ev (tOp (rIxL K) te ti) σ H (ov (Pn09.at_ d b)) :=
  ev_op h1 h2 (rv_ixL x.costs (at_iv (cvs_at (by rw [x.size]; exact hb))))
def spActCost (K : PySem.W.Frag) (C : Addr) : Sp := fun vs H Q _ => ∃ (h c : Addr) (t : Pn09.Task) (d : Array (Option Nat)) (b k : Nat), vs = [.ref h, .ref c, iv b, iv k] ∧ Costs K C H h c t d ∧ k < t.acts.length ∧ RetV (ov (t.byAct d b k)) H Q
def spLookCost (K : PySem.W.Frag) (C : Addr) : Sp := fun vs H Q _ => ∃ (h c : Addr) (t : Pn09.Task) (d : Array (Option Nat)) (b j : Nat), vs = [.ref h, .ref c, iv b, iv j] ∧ Costs K C H h c t d ∧ b < 2 ^ t.states ∧ b ≠ 0 ∧ j < t.looks.length ∧ RetV (ov (t.byLook d b j)) H Q
def spWays (K : PySem.W.Frag) (C : Addr) : Sp := fun vs H Q _ => ∃ (h c : Addr) (t : Pn09.Task) (d : Array (Option Nat)) (b : Nat) (lk : Bool), vs = [.ref h, .ref c, iv b, .bl (!lk)] ∧ Costs K C H h c t d ∧ b < 2 ^ t.states ∧ b ≠ 0 ∧ RetL ((U.ways t lk d b).map ov) H Q
def spBest (K : PySem.W.Frag) (C : Addr) : Sp := fun vs H Q _ => ∃ (h c : Addr) (t : Pn09.Task) (d : Array (Option Nat)) (b : Nat) (lk : Bool), vs = [.ref h, .ref c, iv b, .bl (!lk)] ∧ Costs K C H h c t d ∧ b < 2 ^ t.states ∧ RetV (ov (U.nextv t lk d b)) H Q
def spNext (K : PySem.W.Frag) (C : Addr) : Sp := fun vs H Q _ => ∃ (h c : Addr) (t : Pn09.Task) (d : Array (Option Nat)) (lk : Bool), vs = [.ref h, .ref c, .bl (!lk)] ∧ Costs K C H h c t d ∧ RetL (cvs (U.nextd t lk d)) H Q
def spAll (C : Addr) : Sp := fun vs H Q _ => ∃ (h la ll : Addr) (t : Pn09.Task) (lk : Bool), vs = [.ref h, .bl (!lk)] ∧ HouseAt C H h la ll t ∧ U.Good t ∧ RetL (cvs (t.costs lk)) H Q
theorem p32 {t : Pn09.Task} (G : U.Good t) : 2 ^ t.states ≤ 32 := Nat.pow_le_pow_right (n := 2) (by decide) G.s5
section
variable {P : Program} {w : World} {K : PySem.W.Frag} {mg : Str → Option Value} {base : Heap} {C D aS : Addr}
theorem sc15 : FnScope ["house", "costs", "where", "act", "further"] ["house", "costs", "where", "act"] (defScope (topS 15)) := ⟨rfl, rfl, rfl, by decide +kernel, rfl, by decide +kernel, by decide +kernel⟩
theorem c_actCost (T : Txt K mg C D aS) (d : Df K mg "act_cost" 15 ["house", "costs", "where", "act"]) (cC : Cal P w K mg base 3 "can_act" (spCan C) []) (cB : Cal P w K mg base 3 "behind_act" (spBehind C) []) : Cal P w K mg base 4 "act_cost" (spActCost K C) [] := by
  refine d.cal sc15 (fun vs H Q E h => ?_) (fun f cdv A outer s H vs Q E hr h => ⟨_,
    pss_cons (ps_if (pt_not (pt_val (pe_c cC hr (by decide) rfl (pa_cons (pv 0) (pa_cons (pv 2) (pa_cons (pv 3) pa_nil)))))) (pss_one (ps_ret pe_non)) pss_nil)
    (pss_cons (ps_set (i := 4) sc15.nd rfl (Or.inl rfl) (pe_ix ix_list (pv 1) (pe_c cB hr (by decide) rfl (pa_cons (pv 0) (pa_cons (pv 2) (pa_cons (pv 3) pa_nil)))) (fun _ _ => rfl)))
    (pss_one (ps_ret (pe_ifExp (pt_cmpR op_isN (pv 4) pe_non (nomark _)) pe_non (pe_op op_add (pe_ix ix_tup (pe_ix ix_list (pe_fld (pv 0) rfl) (pv 3) (fun _ _ => rfl)) pe_int (fun _ _ => rfl)) (pv 4)))))), ?_⟩)
  · obtain ⟨h, c, t, d, b, k, rfl, _⟩ := h
    rfl
  · obtain ⟨h, c, t, d, b, k, rfl, hc, hk, q⟩ := h
    obtain ⟨la, ll, hh⟩ := hc.house
    refine q_when (b := !t.can b k) (et_not (et_B (ev_callV (ea_cons (ev_var rfl) (ea_cons (ev_var rfl) (ea_cons (ev_var rfl) ea_nil))) fun H1 e Q1 E1 q1 => ⟨h, la, ll, t, b, k, rfl, hh.ex e, hc.good, q1⟩))) (fun hb H1 e1 => ?_) (fun hb H1 e1 => ?_)
    · refine s_ret ev_c fun H2 e2 => ?_
      have q' := q H2 (e1.trans e2)
      unfold Pn09.Task.byAct at q'
      rw [if_neg (by simpa using hb)] at q'
      exact q'
    · have hcan : t.can b k = true := by simpa using hb
      refine q_asg (ev_cost (hc.ex e1) (U.then_lt hc.good b k) (ev_var rfl) (ev_callV (ea_cons (ev_var rfl) (ea_cons (ev_var rfl) (ea_cons (ev_var rfl) ea_nil))) fun H2 e Q1 E1 q1 => ⟨h, la, ll, t, b, k, rfl, hh.ex (e1.trans e), hc.good, q1⟩)) fun H2 e2 => ?_
      obtain ⟨p, l, hp, hl, hev⟩ := act_at T hh (List.getElem?_eq_getElem hk)
      have e02 := e1.trans e2
      have q' := fun H3 (e3 : Ex H2 H3) => q H3 (e02.trans e3)
      unfold Pn09.Task.byAct at q'
      rw [if_pos hcan, U.act_of hk] at q'
      refine s_ret (v := ov ((Pn09.at_ d (t.then_ b k)).map fun c => t.acts[k].cost + c)) (ev_if (b := (Pn09.at_ d (t.then_ b k)).isNone) (et_is (et_test (ev_op (ev_var rfl) ev_c rv_isN)) (ov_non _)) (fun hn => ?_) (fun hn => ?_)) q'
      · rw [Option.isNone_iff_eq_none.mp hn]
        exact ev_c
      · cases e : Pn09.at_ d (t.then_ b k) with
        | none => rw [e] at hn; cases hn
        | some v => exact ev_op (ev_tup0 (e02 _ _ hp) (hev _ _ _ H2 e02 (ev_var rfl) (ev_var rfl))) (ev_var (v := iv v) rfl) (rv_iI rfl)
theorem sc16 : FnScope ["house", "costs", "where", "look", "further", "own"] ["house", "costs", "where", "look"] (defScope (topS 16)) := ⟨rfl, rfl, rfl, by decide +kernel, rfl, by decide +kernel, by decide +kernel⟩
theorem c_lookCost (T : Txt K mg C D aS) (d : Df K mg "look_cost" 16 ["house", "costs", "where", "look"]) (cB : Cal P w K mg base 3 "behind_look" (spBehindL C) []) : Cal P w K mg base 4 "look_cost" (spLookCost K C) [] := by
  refine d.cal sc16 (fun vs H Q E h => ?_) (fun f cdv A outer s H vs Q E hr h => ⟨_,
    pss_cons (ps_setLc (i := 4) (own := [("own", 5)]) (g := gName 5) (tt := tYes) rfl sc16.nd rfl rfl (sw_true rfl rfl rfl (by decide +kernel)) (pi_list (pe_c cB hr (by decide) rfl (pa_cons (pv 0) (pa_cons (pv 2) (pa_cons (pv 3) pa_nil)))))
      (blkOk_by (N := ["house", "costs", "where", "look", "further", "own"]) (sc := defScope (topS 16)) (by decide +kernel)) (fun _ _ _ _ _ => pg_name (i := 5) sc16.nd rfl (Or.inl rfl)) (fun _ _ _ _ _ => pts_nil) (fun _ _ _ _ _ => pe_ix (r := rIxL K) ix_list (pv 1) (pv 5) (fun _ _ => rfl)))
    (pss_one (ps_ret (pe_ifExp (pt_cmpR op_in_seq pe_non (pv 4) rfl) pe_non (pe_op op_add (pe_ix ix_tup (pe_ix ix_list (pe_fld (pv 0) rfl) (pv 3) (fun _ _ => rfl)) pe_int (fun _ _ => rfl)) (pe_callB (cr_max rfl) (by rfl) T.bMax boot_max (pa_cons (pv 4) pa_nil)))))), ?_⟩)
  · obtain ⟨h, c, t, d, b, j, rfl, _⟩ := h
    rfl
  · obtain ⟨h, c, t, d, b, j, rfl, hc, hb, h0, hj, q⟩ := h
    obtain ⟨la, ll, hh⟩ := hc.house
    have hal : (t.answers b j).length ≤ 3 := by
      unfold Pn09.Task.answers
      exact Nat.le_trans (List.length_filter_le _ _) (by rw [List.length_range]; exact Nat.le_refl _)
    have hne : t.answers b j ≠ [] := U.answers_ne hc.good hb h0 j
    refine q_asgL (xs := ((t.answers b j).map fun a => Pn09.at_ d (t.seen b j a)).map ov) ?_ fun p1 H1 _ e1 h1 => ?_
    · have L := lcNL (K := K) (σ := start ["house", "costs", "where", "look", "further", "own"] [.ref h, .ref c, iv b, iv j]) (j := 5) (vs := [5]) (tt := tYes) (te := tOp (rIxL K) (tVar 1) (tVar 5)) (tl := tCall (spBehindL C) [] E0 (tCons (tVar 0) (tCons (tVar 2) (tCons (tVar 3) tNil)))) (H := H) ((t.answers b j).map (t.seen b j)) (fun _ => true) (fun x => ov (Pn09.at_ d x))
        (el_callV (ea_cons (ev_var rfl) (ea_cons (ev_var rfl) (ea_cons (ev_var rfl) ea_nil))) fun H3 e3 Q3 E3 q3 => ⟨h, la, ll, t, b, j, rfl, hh.ex e3, hc.good, q3⟩) (by rw [List.length_map]; omega) (fun _ => rfl) (fun _ _ _ _ => et_yes) (fun n H1 e hn _ => ?_)
      · rw [filter_yes, List.map_map] at L
        rw [List.map_map]
        exact L
      · obtain ⟨a, ha, rfl⟩ := List.mem_map.mp hn
        exact ev_cost (hc.ex e) (U.seen_lt b j a) (ev_var rfl) (ev_var rfl)
    · obtain ⟨p, l, hp, hl, hev⟩ := look_at T hh (List.getElem?_eq_getElem hj)
      have q' := fun H3 (e3 : Ex H1 H3) => q H3 (e1.trans e3)
      refine s_ret (v := ov (t.byLook d b j)) (ev_if (b := inV V.non (((t.answers b j).map fun a => Pn09.at_ d (t.seen b j a)).map ov)) (et_test (ev_op ev_c (ev_var rfl) (rv_isL (sq_of h1) rfl (cvs_flat _)))) (fun hn => ?_) (fun hn => ?_)) q'
      · obtain ⟨y, hy, e⟩ := List.any_eq_true.mp hn
        rw [List.map_map] at hy
        obtain ⟨a, ha, rfl⟩ := List.mem_map.mp hy
        have ea : Pn09.at_ d (t.seen b j a) = none := by
          cases z : Pn09.at_ d (t.seen b j a) with
          | none => rfl
          | some n =>
            have e' : eqV (ov (Pn09.at_ d (t.seen b j a))) V.non = true := e
            rw [z] at e'
            cases e'
        unfold Pn09.Task.byLook
        rw [most_none (.inr ⟨a, ha, ea⟩)]
        exact ev_c
      · have all : ∀ a ∈ t.answers b j, Pn09.at_ d (t.seen b j a) = some ((Pn09.at_ d (t.seen b j a)).getD 0) := fun a ha => by
          cases z : Pn09.at_ d (t.seen b j a) with
          | some n => rfl
          | none =>
            have : inV V.non (((t.answers b j).map fun a => Pn09.at_ d (t.seen b j a)).map ov) = true := List.any_eq_true.mpr ⟨ov none, List.mem_map.mpr ⟨none, List.mem_map.mpr ⟨a, ha, z⟩, rfl⟩, rfl⟩
            rw [hn] at this; cases this
        obtain ⟨r, r1, _, r3, r4⟩ := most_some (m := 0) all
        unfold Pn09.Task.byLook
        rw [r1, U.look_of hj]
        have hr4 : ∃ a ∈ t.answers b j, (Pn09.at_ d (t.seen b j a)).getD 0 = r := by
          rcases r4 with r4 | r4
          · cases z : t.answers b j with
            | nil => exact absurd z hne
            | cons a l =>
              have ha : a ∈ t.answers b j := by rw [z]; exact List.mem_cons_self
              exact ⟨a, List.mem_cons_self, by have := r3 a ha; omega⟩
          · exact r4
        refine ev_op (ev_tup0 (e1 _ _ hp) (hev _ _ _ H1 e1 (ev_var rfl) (ev_var rfl))) (y := iv r) (fun H2 e2 Q2 q2 => ?_) (rv_iI rfl)
        refine ⟨_, rfl, p1, (t.answers b j).map fun a => (((Pn09.at_ d (t.seen b j a)).getD 0 : Nat) : Int), rfl, sq_of ?_, ?_, fun m hm1 hm2 => ?_⟩
        · rw [e2 _ _ h1, List.map_map, List.map_map]
          congr 2
          apply List.map_congr_left
          intro a ha
          show ov (Pn09.at_ d (t.seen b j a)) = _
          rw [all a ha]
          rfl
        · rw [List.length_map]
          exact List.length_pos_iff.mpr hne
        · have em : m = (r : Int) := by
            obtain ⟨a, ha, rfl⟩ := List.mem_map.mp hm1
            obtain ⟨a2, ha2, e3⟩ := hr4
            have l1 := hm2 _ (List.mem_map.mpr ⟨a2, ha2, rfl⟩)
            have l2 := r3 a ha
            rw [e3] at l1
            omega
          rw [em]
          exact q2 H2 (Ex.refl _)
theorem sc17 : FnScope ["house", "costs", "where", "is_blind", "found", "act", "look"] ["house", "costs", "where", "is_blind"] (defScope (topS 17)) := ⟨rfl, rfl, rfl, by decide +kernel, rfl, by decide +kernel, by decide +kernel⟩
theorem c_ways (T : Txt K mg C D aS) (d : Df K mg "ways_from" 17 ["house", "costs", "where", "is_blind"]) (cA : Cal P w K mg base 4 "act_cost" (spActCost K C) []) (cL : Cal P w K mg base 4 "look_cost" (spLookCost K C) []) : Cal P w K mg base 5 "ways_from" (spWays K C) [] := by
  refine d.cal sc17 (fun vs H Q E h => ?_) (fun f cdv A outer s H vs Q E hr h => ⟨_,
    pss_cons (ps_setLc (i := 4) (own := [("act", 5)]) (g := gName 5) (tt := tYes) rfl sc17.nd rfl rfl (sw_true rfl rfl rfl (by decide +kernel)) (pi_range1 rfl T.bRange (pa_cons (pe_callB call_len_seq (by rfl) T.bLen PySem.boot_len (pa_cons (pe_fld (pv 0) rfl) pa_nil)) pa_nil))
      (blkOk_by (N := ["house", "costs", "where", "is_blind", "found", "act", "look"]) (sc := defScope (topS 17)) (by decide +kernel)) (fun _ _ _ _ _ => pg_name (i := 5) sc17.nd rfl (Or.inl rfl)) (fun _ _ _ _ _ => pts_nil) (fun _ _ _ _ _ => pe_c cA hr (by decide) rfl (pa_cons (pv 0) (pa_cons (pv 1) (pa_cons (pv 2) (pa_cons (pv 5) pa_nil))))))
    (pss_cons (ps_if (pt_not (pt_val (pv 3))) (pss_one (ps_expr (pe_bm PySem.F.plainAttrs_list PySem.F.slot_list_extend PySem.F.type_list_extend mt_extend (pv 4) (pa_cons
        (pe_lc (own := [("look", 6)]) (g := gName 6) (tt := tYes) rfl sc17.nd (pi_range1 rfl T.bRange (pa_cons (pe_callB call_len_seq (by rfl) T.bLen PySem.boot_len (pa_cons (pe_fld (pv 0) rfl) pa_nil)) pa_nil))
          (blkOk_by (N := ["house", "costs", "where", "is_blind", "found", "act", "look"]) (sc := defScope (topS 17)) (by decide +kernel)) (fun _ _ _ _ _ => pg_name (i := 6) sc17.nd rfl (Or.inl rfl)) (fun _ _ _ _ _ => pts_nil) (fun _ _ _ _ _ => pe_c cL hr (by decide) rfl (pa_cons (pv 0) (pa_cons (pv 1) (pa_cons (pv 2) (pa_cons (pv 6) pa_nil)))))) pa_nil)))) pss_nil)
    (pss_one (ps_ret (pv 4)))), ?_⟩)
  · obtain ⟨h, c, t, d, b, lk, rfl, _⟩ := h
    rfl
  · obtain ⟨h, c, t, d, b, lk, rfl, hc, hb, h0, q⟩ := h
    obtain ⟨la, ll, hh⟩ := hc.house
    have a6 := hc.good.a6
    have l4 := hc.good.l4
    refine q_asgL (xs := ((List.range t.acts.length).map (t.byAct d b)).map ov) ?_ fun p1 H1 f1 e1 h1 => ?_
    · have L := lcR (σ := start ["house", "costs", "where", "is_blind", "found", "act", "look"] [.ref h, .ref c, iv b, .bl (!lk)]) (j := 5) (vs := [5]) (tt := tYes) (te := tCall (spActCost K C) [] E0 (tCons (tVar 0) (tCons (tVar 1) (tCons (tVar 2) (tCons (tVar 5) tNil))))) (H := H) (ta := tCons (tCB (rLenS K) (tCons (tFld K (tVar 0) "acts") tNil)) tNil)
        t.acts.length (fun _ => true) (fun k => ov (t.byAct d b k)) (ea_cons (ev_lenActs T hh (ev_var rfl)) ea_nil) (by omega) (fun _ => rfl) (fun _ _ _ _ => et_yes) (fun k H1 e hk _ => ev_callV (ea_cons (ev_var rfl) (ea_cons (ev_var rfl) (ea_cons (ev_var rfl) (ea_cons (ev_var rfl) ea_nil)))) fun H2 e2 Q2 E2 q2 => ⟨h, c, t, d, b, k, rfl, hc.ex (e.trans e2), hk, q2⟩)
      rw [filter_yes] at L
      rw [List.map_map]
      exact L
    · refine q_when (b := lk) (et_is (et_not (et_B (ev_var rfl))) (Bool.not_not lk)) (fun hl H2 e2 => ?_) (fun hl H2 e2 => ?_)
      · subst hl
        have L := lcR (σ := [some (V.ref h), some (V.ref c), some (iv b), some (V.bl (!true)), some (V.ref p1), none, none]) (j := 6) (vs := [6]) (tt := tYes) (te := tCall (spLookCost K C) [] E0 (tCons (tVar 0) (tCons (tVar 1) (tCons (tVar 2) (tCons (tVar 6) tNil))))) (H := H2) (ta := tCons (tCB (rLenS K) (tCons (tFld K (tVar 0) "looks") tNil)) tNil)
          t.looks.length (fun _ => true) (fun k => ov (t.byLook d b k)) (ea_cons (ev_lenLooks T (hh.ex (e1.trans e2)) (ev_var rfl)) ea_nil) (by omega) (fun _ => rfl) (fun _ _ _ _ => et_yes) (fun k H3 e hk _ => ev_callV (ea_cons (ev_var rfl) (ea_cons (ev_var rfl) (ea_cons (ev_var rfl) (ea_cons (ev_var rfl) ea_nil)))) fun H4 e4 Q4 E4 q4 => ⟨h, c, t, d, b, k, rfl, hc.ex (((e1.trans e2).trans e).trans e4), hb, h0, hk, q4⟩)
        rw [filter_yes] at L
        refine ⟨_, rfl, Or.inl ⟨rfl, _, sq_of (e2 _ _ h1)⟩, L H2 (Ex.refl _) _ fun p2 H3 _ e3 h3 => ⟨p1, p2, _, _, rfl, rfl, e3 _ _ (e2 _ _ h1), h3, ?_, ?_⟩⟩
        · refine sz_of ?_
          simp only [List.length_map, List.length_range]
          omega
        · refine s_ret (ev_var rfl) fun H4 e4 => q p1 H4 f1 ((Ex.mut ((e1.trans e2).trans e3) f1).trans e4) ?_
          rw [e4 _ _ upd_same]
          unfold U.ways
          rw [if_pos rfl, List.map_append, List.map_map, List.map_map]
          rfl
      · subst hl
        refine s_ret (ev_var rfl) fun H3 e3 => q p1 H3 f1 ((e1.trans e2).trans e3) ?_
        unfold U.ways
        rw [if_neg Bool.false_ne_true, List.append_nil]
        exact (e2.trans e3) _ _ h1
theorem sc18 : FnScope ["house", "costs", "where", "is_blind", "cost"] ["house", "costs", "where", "is_blind"] (defScope (topS 18)) := ⟨rfl, rfl, rfl, by decide +kernel, rfl, by decide +kernel, by decide +kernel⟩
theorem c_best (T : Txt K mg C D aS) (d : Df K mg "best_cost" 18 ["house", "costs", "where", "is_blind"]) (cI : Cal P w K mg base 1 "is_as_wanted" (spWanted C) []) (cW : Cal P w K mg base 5 "ways_from" (spWays K C) []) : Cal P w K mg base 6 "best_cost" (spBest K C) [] := by
  refine d.cal sc18 (fun vs H Q E h => ?_) (fun f cdv A outer s H vs Q E hr h => ⟨_,
    pss_cons (ps_if (pt_val (pe_c cI hr (by decide) rfl (pa_cons (pv 0) (pa_cons (pv 2) pa_nil)))) (pss_one (ps_ret pe_int)) pss_nil)
    (pss_one (ps_ret (pe_callBK (MnD.cr_minD rfl (hu64 hr)) (by rfl) T.bMin boot_min (pa_cons (pe_lc (own := [("cost", 4)]) (g := gName 4) rfl sc18.nd (pi_list (pe_c cW hr (by decide) rfl (pa_cons (pv 0) (pa_cons (pv 1) (pa_cons (pv 2) (pa_cons (pv 3) pa_nil))))))
      (blkOk_by (N := ["house", "costs", "where", "is_blind", "cost"]) (sc := defScope (topS 18)) (by decide +kernel)) (fun _ _ _ _ _ => pg_name (i := 4) sc18.nd rfl (Or.inl rfl)) (fun _ _ _ _ _ => pts_one (pt_cmpR op_notN (pv 4) pe_non (nomark _))) (fun _ _ _ _ _ => pv 4)) pa_nil) (pk_cons pe_non pk_nil)))), ?_⟩)
  · obtain ⟨h, c, t, d, b, lk, rfl, _⟩ := h
    rfl
  · obtain ⟨h, c, t, d, b, lk, rfl, hc, hb, q⟩ := h
    obtain ⟨la, ll, hh⟩ := hc.house
    refine q_when (b := t.done b) (et_B (ev_callV (ea_cons (ev_var rfl) (ea_cons (ev_var rfl) ea_nil)) fun H1 e Q1 E1 q1 => ⟨h, la, ll, t, b, rfl, hh.ex e, hb, q1⟩)) (fun hd H1 e1 => ?_) (fun hd H1 e1 => ?_)
    · refine s_ret ev_c fun H2 e2 => ?_
      have q' := q H2 (e1.trans e2)
      unfold U.nextv at q'
      rw [if_pos hd] at q'
      exact q'
    · have h0 : b ≠ 0 := fun z => by
        rw [z, U.done_zero] at hd
        cases hd
      have hlen : (U.ways t lk d b).length ≤ 40000 := by
        have a6 := hc.good.a6
        have l4 := hc.good.l4
        unfold U.ways
        rw [List.length_append, List.length_map, List.length_range]
        by_cases z : lk = true
        · rw [if_pos z, List.length_map, List.length_range]; omega
        · rw [if_neg z, List.length_nil]; omega
      have q' := fun H3 (e3 : Ex H1 H3) => q H3 (e1.trans e3)
      unfold U.nextv at q'
      rw [if_neg (by rw [hd]; exact Bool.false_ne_true)] at q'
      refine s_ret (ev_cKw (lcCL (K := K) (U.ways t lk d b) (fun x => x.isSome) (el_callV (ea_cons (ev_var rfl) (ea_cons (ev_var rfl) (ea_cons (ev_var rfl) (ea_cons (ev_var rfl) ea_nil)))) fun H3 e3 Q3 E3 q3 => ⟨h, c, t, d, b, lk, rfl, hc.ex (e1.trans e3), hb, h0, q3⟩) hlen (fun _ => rfl)
        (fun x H3 e3 => et_is (et_test (ev_op (ev_var rfl) ev_c rv_notN)) (by rw [ov_non]; cases x <;> rfl)) (fun x H3 e3 => ev_var rfl)) (fun p H2 e2 h2 Q2 q2 => ?_)) q'
      rw [notNone_map, ivs_ints] at h2
      refine ⟨p, _, .non, rfl, rfl, sq_of h2, fun hn => ?_, fun _ m hm1 hm2 => ?_⟩
      · rw [minO_nil (List.map_eq_nil_iff.mp hn)] at q2
        exact q2
      · rw [← minO_nums hm1 hm2] at q2
        exact q2
theorem sc19 : FnScope ["house", "costs", "is_blind", "where"] ["house", "costs", "is_blind"] (defScope (topS 19)) := ⟨rfl, rfl, rfl, by decide +kernel, rfl, by decide +kernel, by decide +kernel⟩
theorem c_next (T : Txt K mg C D aS) (d : Df K mg "next_costs" 19 ["house", "costs", "is_blind"]) (cB : Cal P w K mg base 6 "best_cost" (spBest K C) []) : Cal P w K mg base 7 "next_costs" (spNext K C) [] := by
  refine d.cal sc19 (fun vs H Q E h => ?_) (fun f cdv A outer s H vs Q E hr h => ⟨_,
    pss_one (ps_ret (pe_lc (own := [("where", 3)]) (g := gName 3) (tt := tYes) rfl sc19.nd (pi_range1 rfl T.bRange (pa_cons (pe_op op_shl pe_int (pe_fld (pv 0) rfl)) pa_nil))
      (blkOk_by (N := ["house", "costs", "is_blind", "where"]) (sc := defScope (topS 19)) (by decide +kernel)) (fun _ _ _ _ _ => pg_name (i := 3) sc19.nd rfl (Or.inl rfl)) (fun _ _ _ _ _ => pts_nil) (fun _ _ _ _ _ => pe_c cB hr (by decide) rfl (pa_cons (pv 0) (pa_cons (pv 1) (pa_cons (pv 3) (pa_cons (pv 2) pa_nil))))))), ?_⟩)
  · obtain ⟨h, c, t, d, lk, rfl, _⟩ := h
    rfl
  · obtain ⟨h, c, t, d, lk, rfl, hc, q⟩ := h
    obtain ⟨la, ll, hh⟩ := hc.house
    have s5 := hc.good.s5
    have hp := p32 hc.good
    refine s_retL (xs := cvs (U.nextd t lk d)) ?_ q
    have L := lcR (σ := start ["house", "costs", "is_blind", "where"] [.ref h, .ref c, .bl (!lk)]) (j := 3) (vs := [3]) (tt := tYes) (te := tCall (spBest K C) [] E0 (tCons (tVar 0) (tCons (tVar 1) (tCons (tVar 3) (tCons (tVar 2) tNil))))) (H := H) (ta := tCons (tOp (rI CPow fun i j => .int (i * 2 ^ j.toNat)) (tC (.int 1)) (tFld K (tVar 0) "states")) tNil)
      (2 ^ t.states) (fun _ => true) (fun b => ov (U.nextv t lk d b)) (ea_cons (ev_is (ev_op ev_c (ev_states T hh (ev_var rfl)) (rv_I ⟨Int.natCast_nonneg _, by omega, by decide⟩)) ?_) ea_nil) (by omega) (fun _ => rfl) (fun _ _ _ _ => et_yes)
      (fun b H1 e hb _ => ev_callV (ea_cons (ev_var rfl) (ea_cons (ev_var rfl) (ea_cons (ev_var rfl) (ea_cons (ev_var rfl) ea_nil)))) fun H2 e2 Q2 E2 q2 => ⟨h, c, t, d, b, lk, rfl, hc.ex (e.trans e2), hb, q2⟩)
    · rw [filter_yes] at L
      unfold cvs U.nextd
      rw [List.map_map]
      exact L
    · show V.int (1 * 2 ^ ((t.states : Int)).toNat) = V.int ((2 ^ t.states : Nat) : Int)
      rw [Int.toNat_natCast, Int.one_mul]; norm_cast
theorem sc20 : FnScope ["house", "is_blind", "costs", "more"] ["house", "is_blind"] (defScope (topS 20)) := ⟨rfl, rfl, rfl, by decide +kernel, rfl, by decide +kernel, by decide +kernel⟩
theorem c_all (T : Txt K mg C D aS) (d : Df K mg "all_costs" 20 ["house", "is_blind"]) (cN : Cal P w K mg base 7 "next_costs" (spNext K C) []) : Cal P w K mg base 8 "all_costs" (spAll C) [] := by
  refine d.cal sc20 (fun vs H Q E h => ?_) (fun f cdv A outer s H vs Q E hr h => ⟨_,
    pss_cons (ps_set (i := 2) sc20.nd rfl (Or.inl rfl) (pe_op op_rep (pe_lst (pa_cons pe_non pa_nil)) (pe_op op_shl pe_int (pe_fld (pv 0) rfl))))
    (pss_cons (ps_set (i := 3) sc20.nd rfl (Or.inl rfl) (pe_c cN hr (by decide) rfl (pa_cons (pv 0) (pa_cons (pv 2) (pa_cons (pv 1) pa_nil)))))
    (pss_cons (ps_while PassesOwn.never (pt_cmpR (op_neD (hu64 hr)) (pv 3) (pv 2) (nomark _))
      (pss_cons (ps_set (i := 2) sc20.nd rfl (Or.inl rfl) (pv 3)) (pss_one (ps_set (i := 3) sc20.nd rfl (Or.inl rfl) (pe_c cN hr (by decide) rfl (pa_cons (pv 0) (pa_cons (pv 2) (pa_cons (pv 1) pa_nil))))))))
    (pss_one (ps_ret (pv 2))))), ?_⟩)
  · obtain ⟨h, la, ll, t, lk, rfl, _⟩ := h
    rfl
  · obtain ⟨h, la, ll, t, lk, rfl, hh, G, q⟩ := h
    have s5 := G.s5
    have hp := p32 G
    refine q_asgL (xs := cvs (U.steps t lk 0)) (fun H1 e Q1 q1 => ?_) fun p1 H1 f1 e1 h1 => ?_
    · refine ⟨(by decide), fun l0 hl0 => ?_⟩
      refine ev_op (σ := start ["house", "is_blind", "costs", "more"] [.ref h, .bl (!lk)]) ev_c (ev_states T (hh.ex (e.trans (Ex.new hl0))) (ev_var rfl)) (rv_I (C := CPow) (g := fun i j => V.int (i * 2 ^ j.toNat)) ⟨Int.natCast_nonneg _, by omega, by decide⟩) _ (Ex.refl _) _ fun H2 e2 => ?_
      have en : (1 * 2 ^ ((t.states : Int)).toNat : Int) = ((2 ^ t.states : Nat) : Int) := by
        rw [Int.toNat_natCast, Int.one_mul]; norm_cast
      have en1 : -(2 ^ 63) ≤ (1 * 2 ^ ((t.states : Int)).toNat : Int) ∧ (1 * 2 ^ ((t.states : Int)).toNat : Int) < 2 ^ 63 := by
        rw [en]
        generalize 2 ^ t.states = n at hp
        omega
      refine ⟨l0, 1 * 2 ^ ((t.states : Int)).toNat, [.non], rfl, rfl, e2 _ _ upd_same, en1.1, en1.2, ?_, fun p hp2 => ?_⟩
      · rw [en, Int.toNat_natCast]
        refine sz_of ?_
        show 1 * 2 ^ t.states ≤ _
        generalize 2 ^ t.states = n at hp
        omega
      · refine q1 p _ (fresh_back ((Ex.new hl0).trans e2) hp2) (((Ex.new hl0).trans e2).trans (Ex.new hp2)) ?_
        rw [upd_same, en, Int.toNat_natCast]
        congr 2
        unfold cvs U.steps
        show (List.replicate (2 ^ t.states) [V.non]).flatten = (List.replicate (2 ^ t.states) none).map ov
        rw [List.map_replicate]
        generalize 2 ^ t.states = n
        induction n with
        | zero => rfl
        | succ n ih =>
          rw [List.replicate_succ, List.replicate_succ, List.flatten_cons, ih]
          rfl
    · have callN : ∀ (k : Nat) (v3 : Option V) (p : Addr) (H1 : Hp), Ex H H1 → H1 p = some (.lst (cvs (U.steps t lk k))) → EvL (tCall (spNext K C) [] E0 (tCons (tVar 0) (tCons (tVar 2) (tCons (tVar 1) tNil)))) [some (.ref h), some (.bl (!lk)), some (.ref p), v3] H1 (cvs (U.steps t lk (k + 1))) := fun k v3 p H1 e hp =>
        el_callV (ea_cons (ev_var rfl) (ea_cons (ev_var rfl) (ea_cons (ev_var rfl) ea_nil))) fun H2 e2 Q2 E2 q2 => ⟨h, p, t, U.steps t lk k, lk, rfl, ⟨⟨la, ll, hh.ex (e.trans e2)⟩, G, sq_of (e2 _ _ hp), U.size_steps k⟩, q2⟩
      refine q_asgL (callN 0 _ p1 H1 e1 h1) fun p2 H2 f2 e2 h2 => ?_
      refine q_while (fun m σ' H' => ∃ (k : Nat) (a b : Addr), m = 2 ^ t.states - k ∧ σ' = [some (.ref h), some (.bl (!lk)), some (.ref a), some (.ref b)] ∧ Ex H H' ∧ H a = none ∧ H b = none ∧ H' a = some (.lst (cvs (U.steps t lk k))) ∧ H' b = some (.lst (cvs (U.steps t lk (k + 1))))) (2 ^ t.states)
        ⟨0, p1, p2, (Nat.sub_zero _).symm, rfl, e1.trans e2, f1, fresh_back e1 f2, e2 _ _ h1, h2⟩ ?_
      rintro m σ' H' ⟨k, a, b, rfl, rfl, e, fa, fb, ha, hb⟩
      refine ⟨!decide ((U.steps t lk (k + 1)).toList = (U.steps t lk k).toList), ?_, fun hn H3 e3 => ?_, fun hn H3 e3 => ?_⟩
      · refine et_test (ev_op (ev_var rfl) (ev_var rfl) fun H3 e3 Q3 q3 => ⟨_, _, cvs_dp (sq_of (e3 _ _ hb)), cvs_dp (sq_of (e3 _ _ ha)), ods_shaped _, ods_shaped _, ?_⟩)
        rw [PyData.eqv, ods_eqv]
        exact q3 H3 (Ex.refl _)
      · have hk : k < 2 ^ t.states := by
          apply Nat.lt_of_not_le
          intro z
          rw [U.steps_end G z, decide_eq_true rfl] at hn
          cases hn
        refine ⟨fun σ2 H2 => ∃ (c : Addr), σ2 = [some (.ref h), some (.bl (!lk)), some (.ref b), some (.ref c)] ∧ Ex H H2 ∧ H c = none ∧ H2 b = some (.lst (cvs (U.steps t lk (k + 1)))) ∧ H2 c = some (.lst (cvs (U.steps t lk (k + 1 + 1)))), ?_, ?_⟩
        · rintro σ2 H2 ⟨c, rfl, x1, x2, x3, x4⟩
          exact ⟨2 ^ t.states - (k + 1), Nat.sub_lt_sub_left hk (Nat.lt_succ_self k), k + 1, b, c, rfl, rfl, x1, fb, x2, x3, x4⟩
        · refine q_asg (ev_var rfl) fun H4 e4 => ?_
          refine s_asgL (callN (k + 1) _ b H4 ((e.trans e3).trans e4) ((e3.trans e4) _ _ hb)) fun c H5 fc e5 hc => ⟨c, rfl, ((e.trans e3).trans e4).trans e5, fresh_back ((e.trans e3).trans e4) fc, ((e3.trans e4).trans e5) _ _ hb, hc⟩
      · have hs : U.steps t lk (k + 1) = U.steps t lk k := by
          have : (U.steps t lk (k + 1)).toList = (U.steps t lk k).toList := by
            apply Classical.byContradiction
            intro z
            rw [decide_eq_false z] at hn
            cases hn
          exact Array.toList_inj.mp this
        refine s_ret (ev_var rfl) fun H4 e4 => q a H4 fa ((e.trans e3).trans e4) ?_
        rw [(e3.trans e4) _ _ ha, U.costs_of G hs]
end
end Un
set_option Elab.async false
set_option autoImplicit false
set_option maxRecDepth 100000
set_option maxHeartbeats 4000000
namespace Un
open PySem PySem.Spec PyProof.Rows L2 Evl
open C8 (Cal Met Mak pe_c pe_mk pe_mt)
section
variable {K : PySem.W.Frag} {σ : L2.St} {H : Hp} {te ta tb : TE} {D : Ends}
/-- a new list and a new list: a new one of both -/
theorem el_cat {xs zs : List V} (ha : EvL ta σ H xs) (hb : ∀ H1, Ex H H1 → EvL tb σ H1 zs) (hz : xs.length + zs.length ≤ sizeLine) : EvL (tOp rCat ta tb) σ H (xs ++ zs) := fun H1 e _ q =>
  ha H1 e _ fun p1 H2 _ e2 h2 => hb H2 (e.trans e2) H2 (Ex.refl _) _ fun p2 H3 _ e3 h3 => ⟨p1, p2, xs, zs, rfl, rfl, e3 _ _ h2, h3, hz, fun p hp => q p _ (fresh_back (e2.trans e3) hp) ((e2.trans e3).trans (Ex.new hp)) upd_same⟩
/-- xs.extend(a new list) -/
theorem s_ext {l : Addr} {xs ys : List V} (hl : H l = some (.lst xs)) (ha : Ev ta σ H (.ref l)) (h : EvL te σ H ys) (hz : xs.length + ys.length ≤ sizeLine) (k : ∀ H1, Ex H H1 → D.nx σ (upd H1 l (.lst (xs ++ ys)))) :
    tDrop (tBM K "list" rExtend ta (tCons te tNil)) D σ H := ha H (Ex.refl H) _ fun H1 e1 =>
  ⟨Or.inl ⟨rfl, xs, sq_of (e1 l _ hl)⟩, h H1 e1 _ fun p H2 _ e2 h2 => ⟨l, p, xs, ys, rfl, rfl, e2 _ _ (e1 _ _ hl), h2, hz, k H2 (e1.trans e2)⟩⟩
end
theorem take_flat_le {α β : Type} (f : α → List β) (l : List α) (i : Nat) : ((l.take i).flatMap f).length ≤ (l.flatMap f).length := by
  conv => rhs; rw [← List.take_append_drop i l, List.flatMap_append, List.length_append]
  omega
theorem mem_flat_le {α β : Type} {f : α → List β} {l : List α} {a : α} (h : a ∈ l) : (f a).length ≤ (l.flatMap f).length := by
  induction l with
  | nil => cases h
  | cons b r ih =>
    rw [List.flatMap_cons, List.length_append]
    rcases List.mem_cons.mp h with e | h
    · subst e; omega
    · have := ih h; omega
theorem eqV_ov (x : Option Nat) (c : Nat) : eqV (ov x) (iv c) = decide (x = some c) := by
  cases x with
  | none => rfl
  | some n =>
    show ((n : Int) == (c : Int)) = _
    by_cases h : n = c
    · subst h; simp
    · rw [beq_eq_false_iff_ne.mpr (by omega), decide_eq_false (by simpa using h)]
theorem one_le {v : V} : [v].length ≤ 100000 := by
  show 1 ≤ 100000
  decide
theorem line_ge {n : Nat} (h : n ≤ 2000000) : n ≤ sizeLine := by
  rw [sizeLine_eq]
  omega

/-! ### plan_from, best_plan -/
def spPlan (K : PySem.W.Frag) (C : Addr) (n : Nat) : Sp := fun vs H Q _ => ∃ (h c : Addr) (t : Pn09.Task) (b v : Nat) (lk : Bool), vs = [.ref h, .ref c, iv b, .bl (!lk)] ∧ Costs K C H h c t (t.costs lk) ∧ b < 2 ^ t.states ∧ Pn09.at_ (t.costs lk) b = some v ∧
  U.rk (t.costs lk) (2 ^ t.states) b < n ∧ (U.plan t lk (t.costs lk) b).length ≤ 1000000 ∧ RetL (ivs (U.plan t lk (t.costs lk) b)) H Q
def spBestPlan (C : Addr) : Sp := fun vs H Q _ => ∃ (h la ll : Addr) (t : Pn09.Task) (b : Nat) (lk : Bool), vs = [.ref h, iv b, .bl (!lk)] ∧ HouseAt C H h la ll t ∧ U.Good t ∧ b < 2 ^ t.states ∧
  (∀ v, Pn09.at_ (t.costs lk) b = some v → (U.plan t lk (t.costs lk) b).length ≤ 1000000) ∧
  (Pn09.at_ (t.costs lk) b = none → RetV .non H Q) ∧ (∀ v, Pn09.at_ (t.costs lk) b = some v → RetL (iv v :: ivs (U.plan t lk (t.costs lk) b)) H Q)
section
variable {P : Program} {w : World} {K : PySem.W.Frag} {mg : Str → Option Value} {base : Heap} {C D aS : Addr}
abbrev n21 : List Str := ["house", "costs", "where", "is_blind", "first", "look", "found", "own"]
theorem sc21 : FnScope n21 ["house", "costs", "where", "is_blind"] (defScope (topS 21)) := ⟨rfl, rfl, rfl, by decide +kernel, rfl, by decide +kernel, by decide +kernel⟩
theorem c_plan (T : Txt K mg C D aS) (d : Df K mg "plan_from" 21 ["house", "costs", "where", "is_blind"]) (cI : Cal P w K mg base 1 "is_as_wanted" (spWanted C) []) (cW : Cal P w K mg base 5 "ways_from" (spWays K C) []) (cA : Cal P w K mg base 3 "behind_act" (spBehind C) []) (cL : Cal P w K mg base 3 "behind_look" (spBehindL C) []) :
    ∀ n : Nat, Cal P w K mg base (8 + n) "plan_from" (spPlan K C n) []
  | 0 => by
    obtain ⟨f, fd, F, b, m⟩ := d.ex
    refine ⟨f, fd, _, [], ⟨fun vs H Q E h => ?_, fun A outer s H args us vs Q E _ _ _ _ h => ?_⟩, m, F.kp, b, .nil⟩
    · obtain ⟨h, c, t, b, v, lk, _, _, _, _, z, _⟩ := h
      exact absurd z (Nat.not_lt_zero _)
    · obtain ⟨h, c, t, b, v, lk, _, _, _, _, z, _⟩ := h
      exact absurd z (Nat.not_lt_zero _)
  | n + 1 => by
    have ih := c_plan T d cI cW cA cL n
    refine d.cal (k := 8 + n) sc21 (fun vs H Q E h => ?_) (fun f cdv A outer s H vs Q E hr h => ⟨_,
      pss_cons (ps_if (pt_val (pe_c cI hr (by omega) rfl (pa_cons (pv 0) (pa_cons (pv 2) pa_nil)))) (pss_one (ps_ret (pe_lst (pa_cons (pe_num T.cDONE rfl) pa_nil)))) pss_nil)
      (pss_cons (ps_set (i := 4) sc21.nd rfl (Or.inl rfl) (pe_bm PySem.F.plainAttrs_list PySem.F.slot_list_index PySem.F.type_list_index mt_index (pe_c cW hr (by omega) rfl (pa_cons (pv 0) (pa_cons (pv 1) (pa_cons (pv 2) (pa_cons (pv 3) pa_nil))))) (pa_cons (pe_ix ix_list (pv 1) (pv 2) (fun _ _ => rfl)) pa_nil)))
      (pss_cons (ps_if (pt_cmpR op_lt (pv 4) (pe_callB call_len_seq (by rfl) T.bLen PySem.boot_len (pa_cons (pe_fld (pv 0) rfl) pa_nil)) (nomark _))
        (pss_one (ps_ret (pe_op op_cat (pe_lst (pa_cons (pe_op op_add (pe_num T.cFA rfl) (pv 4)) pa_nil)) (pe_c ih hr (Nat.le_refl _) rfl (pa_cons (pv 0) (pa_cons (pv 1) (pa_cons (pe_c cA hr (by omega) rfl (pa_cons (pv 0) (pa_cons (pv 2) (pa_cons (pv 4) pa_nil)))) (pa_cons (pv 3) pa_nil)))))))) pss_nil)
      (pss_cons (ps_set (i := 5) sc21.nd rfl (Or.inl rfl) (pe_op op_sub (pv 4) (pe_callB call_len_seq (by rfl) T.bLen PySem.boot_len (pa_cons (pe_fld (pv 0) rfl) pa_nil))))
      (pss_cons (ps_set (i := 6) sc21.nd rfl (Or.inl rfl) (pe_lst (pa_cons (pe_op op_add (pe_num T.cFL rfl) (pv 5)) pa_nil)))
      (pss_cons (ps_for PassesOwn.never rfl (pi_list (pe_c cL hr (by omega) rfl (pa_cons (pv 0) (pa_cons (pv 2) (pa_cons (pv 5) pa_nil))))) (pg_name (i := 7) sc21.nd rfl (Or.inl rfl))
        (pss_one (ps_expr (pe_bm PySem.F.plainAttrs_list PySem.F.slot_list_extend PySem.F.type_list_extend mt_extend (pv 6) (pa_cons (pe_c ih hr (Nat.le_refl _) rfl (pa_cons (pv 0) (pa_cons (pv 1) (pa_cons (pv 7) (pa_cons (pv 3) pa_nil))))) pa_nil)))))
      (pss_one (ps_ret (pv 6)))))))), ?_⟩)
    · obtain ⟨h, c, t, b, v, lk, rfl, _⟩ := h
      rfl
    · obtain ⟨h, c, t, b, v, lk, rfl, hc, hb, hv, hrk, hlen, q⟩ := h
      obtain ⟨la, ll, hh⟩ := hc.house
      have G := hc.good
      refine q_when (b := t.done b) (et_B (ev_callV (ea_cons (ev_var rfl) (ea_cons (ev_var rfl) ea_nil)) fun H1 e Q1 E1 q1 => ⟨h, la, ll, t, b, rfl, hh.ex e, hb, q1⟩)) (fun hd H1 e1 => ?_) (fun hd H1 e1 => ?_)
      · refine s_retL (xs := ivs [0]) (el_lst (ea_cons ev_c ea_nil) (by decide)) fun p H2 fp e2 h2 => q p H2 (fresh_back e1 fp) (e1.trans e2) ?_
        rw [U.plan_done hd]
        exact h2
      · have hd' : ¬ t.done b = true := by rw [hd]; exact Bool.false_ne_true
        have h0 : b ≠ 0 := fun z => by
          rw [z, U.done_zero] at hd
          cases hd
        obtain ⟨i, hi⟩ := U.first_way (lk := lk) G hb hd' hv
        refine q_asg (v := iv i) (fun H2 e2 Q2 q2 => ?_) fun H2 e2 => ?_
        · refine el_callV (xs := (U.ways t lk (t.costs lk) b).map ov) (ea_cons (ev_var rfl) (ea_cons (ev_var rfl) (ea_cons (ev_var rfl) (ea_cons (ev_var rfl) ea_nil)))) (fun H3 e3 Q3 E3 q3 => ⟨h, c, t, t.costs lk, b, lk, rfl, hc.ex ((e1.trans e2).trans e3), hb, h0, q3⟩) H2 (Ex.refl _) _ fun p H3 _ e3 h3 => ?_
          refine ⟨Or.inl ⟨rfl, _, sq_of h3⟩, ?_⟩
          refine ev_cost (hc.ex ((e1.trans e2).trans e3)) hb (ev_var rfl) (ev_var rfl) H3 (Ex.refl _) _ fun H4 e4 => ?_
          rw [hv]
          refine ⟨p, _, iv v, i, ov (some v), rfl, rfl, sq_of (e4 _ _ h3), rfl, cvs_flat _, ?_, ?_, fun m z' hm hz' => ?_, q2 H4 (e3.trans e4)⟩
          · rw [List.getElem?_map, hi.1]; rfl
          · rw [eqV_ov, decide_eq_true rfl]
          · rw [List.getElem?_map] at hz'
            obtain ⟨x, hx1, rfl⟩ := Option.map_eq_some_iff.mp hz'
            rw [eqV_ov]
            exact decide_eq_false fun z => hi.2 m hm (by rw [hx1, z])
        · have e02 := e1.trans e2
          refine q_when (b := decide (i < t.acts.length)) (et_is (et_test (ev_op (ev_var rfl) (ev_lenActs T (hh.ex e02) (ev_var rfl)) (rv_iI rfl))) (dec_lt _ _)) (fun hb2 H3 e3 => ?_) (fun hb2 H3 e3 => ?_)
          · have hia : i < t.acts.length := of_decide_eq_true hb2
            obtain ⟨p1, u, u1, u2⟩ := U.plan_act G hd' hv hi hia
            have e03 := e02.trans e3
            rw [p1] at hlen q
            have rk1 := U.rk_lt (U.then_lt G b i) u2 hv u1
            refine s_retL (xs := ivs [i + 1] ++ ivs (U.plan t lk (t.costs lk) (t.then_ b i))) (el_cat (el_lst (ea_cons (ev_is (ev_op ev_c (ev_var rfl) rv_I0) ?_) ea_nil) one_le) (fun H4 e4 => ?_) ?_) fun p H4 fp e4 h4 => q p H4 (fresh_back e03 fp) (e03.trans e4) h4
            · show V.int (1 + (i : Int)) = V.int ((i + 1 : Nat) : Int)
              rw [show (1 + (i : Int)) = ((i + 1 : Nat) : Int) by omega]
            · refine el_callV (ea_cons (ev_var rfl) (ea_cons (ev_var rfl) (ea_cons (ev_callV (z := iv (t.then_ b i)) (ea_cons (ev_var rfl) (ea_cons (ev_var rfl) (ea_cons (ev_var rfl) ea_nil))) fun H5 e5 Q5 E5 q5 => ⟨h, la, ll, t, b, i, rfl, hh.ex ((e03.trans e4).trans e5), G, q5⟩) (ea_cons (ev_var rfl) ea_nil)))) fun H5 e5 Q5 E5 q5 =>
                ⟨h, c, t, t.then_ b i, u, lk, rfl, hc.ex ((e03.trans e4).trans e5), U.then_lt G b i, u2, by omega, by rw [List.length_cons] at hlen; omega, q5⟩
            · rw [List.length_cons] at hlen
              refine line_ge ?_
              simp only [List.length_map, List.length_cons, List.length_nil]
              omega
          · have hia : t.acts.length ≤ i := by have := of_decide_eq_false hb2; omega
            obtain ⟨_, hj, p1, ch⟩ := U.plan_look G hd' hv hi hia
            have ej : (i : Int) - (t.acts.length : Int) = ((i - t.acts.length : Nat) : Int) := by omega
            generalize i - t.acts.length = j at hj p1 ch ej
            have e03 := e02.trans e3
            refine q_asg (v := iv j) (ev_is (ev_op (ev_var rfl) (ev_lenActs T (hh.ex e03) (ev_var rfl)) rv_I0) (congrArg V.int ej)) fun H4 e4 => ?_
            have e04 := e03.trans e4
            refine q_asgL (xs := ivs [j + 100]) (el_lst (ea_cons (ev_is (ev_op ev_c (ev_var rfl) rv_I0) ?_) ea_nil) one_le) fun f0 H5 ff e5 h5 => ?_
            · show V.int (100 + (j : Int)) = V.int ((j + 100 : Nat) : Int)
              rw [show (100 + (j : Int)) = ((j + 100 : Nat) : Int) by omega]
            have e05 := e04.trans e5
            have ff0 := fresh_back e04 ff
            have len1 : ((t.answers b j).flatMap fun a => U.plan t lk (t.costs lk) (t.seen b j a)).length + 1 ≤ 1000000 := by
              rw [p1, List.length_cons] at hlen
              exact hlen
            refine q_forNL (xs := ivs ((t.answers b j).map (t.seen b j))) (el_callV (ea_cons (ev_var rfl) (ea_cons (ev_var rfl) (ea_cons (ev_var rfl) ea_nil))) fun H6 e6 Q6 E6 q6 => ⟨h, la, ll, t, b, j, rfl, hh.ex (e05.trans e6), G, q6⟩)
              (fun p m σ' H' => (∃ v7, σ' = [some (.ref h), some (.ref c), some (iv b), some (.bl (!lk)), some (iv i), some (iv j), some (.ref f0), v7]) ∧ Ex H H' ∧ f0 ≠ p ∧ H' p = some (.lst (ivs ((t.answers b j).map (t.seen b j)))) ∧
                H' f0 = some (.lst (ivs ((j + 100) :: ((t.answers b j).take m).flatMap fun a => U.plan t lk (t.costs lk) (t.seen b j a)))))
              (fun p H6 fp e6 h6 => ⟨⟨none, rfl⟩, e05.trans e6, ne_of_none h5 fp, h6, e6 _ _ h5⟩) (fun p m σ' H' _ hP => sq_of hP.2.2.2.1) (fun p m x σ' H' hx hP => ?_) (fun p σ' H' hP => ?_)
            · obtain ⟨⟨v7, rfl⟩, e, nfp, hp, hf⟩ := hP
              obtain ⟨s, hs, hm, rfl⟩ := ivs_get hx
              rw [List.getElem?_map] at hs
              obtain ⟨a, ha, rfl⟩ := Option.map_eq_some_iff.mp hs
              have ham := List.mem_of_getElem? ha
              obtain ⟨u, u1, u2⟩ := ch a ham
              have rk1 := U.rk_lt (U.seen_lt b j a) u2 hv u1
              have l1 := mem_flat_le (f := fun a => U.plan t lk (t.costs lk) (t.seen b j a)) ham
              have l2 := take_flat_le (fun a => U.plan t lk (t.costs lk) (t.seen b j a)) (t.answers b j) m
              refine s_ext (ys := ivs (U.plan t lk (t.costs lk) (t.seen b j a))) hf (ev_var rfl) (el_callV (ea_cons (ev_var rfl) (ea_cons (ev_var rfl) (ea_cons (ev_var rfl) (ea_cons (ev_var rfl) ea_nil)))) fun H6 e6 Q6 E6 q6 =>
                ⟨h, c, t, t.seen b j a, u, lk, rfl, hc.ex (e.trans e6), U.seen_lt b j a, u2, by omega, by omega, q6⟩) ?_ fun H6 e6 => ⟨⟨_, rfl⟩, Ex.mut (e.trans e6) ff0, nfp, ?_, ?_⟩
              · refine line_ge ?_
                rw [List.length_map, List.length_map, List.length_cons]
                omega
              · rw [upd_ne (Ne.symm nfp)]
                exact e6 _ _ hp
              · rw [upd_same, List.take_add_one, ha, Option.toList_some, List.flatMap_append, List.flatMap_singleton]
                unfold ivs
                rw [← List.map_append, List.cons_append]
            · obtain ⟨⟨v7, rfl⟩, e, nfp, hp, hf⟩ := hP
              refine s_ret (ev_var rfl) fun H6 e6 => q f0 H6 ff0 (e.trans e6) ?_
              rw [p1, e6 _ _ hf, List.length_map, List.length_map, List.take_length]
theorem sc22 : FnScope ["house", "where", "is_blind", "costs"] ["house", "where", "is_blind"] (defScope (topS 22)) := ⟨rfl, rfl, rfl, by decide +kernel, rfl, by decide +kernel, by decide +kernel⟩
theorem c_bestPlan (T : Txt K mg C D aS) (d : Df K mg "best_plan" 22 ["house", "where", "is_blind"]) (cA : Cal P w K mg base 8 "all_costs" (spAll C) []) (cP : Cal P w K mg base 41 "plan_from" (spPlan K C 33) []) : Cal P w K mg base 42 "best_plan" (spBestPlan C) [] := by
  refine d.cal sc22 (fun vs H Q E h => ?_) (fun f cdv A outer s H vs Q E hr h => ⟨_,
    pss_cons (ps_set (i := 3) sc22.nd rfl (Or.inl rfl) (pe_c cA hr (by decide) rfl (pa_cons (pv 0) (pa_cons (pv 2) pa_nil))))
    (pss_cons (ps_if (pt_cmpR op_isN (pe_ix ix_list (pv 3) (pv 1) (fun _ _ => rfl)) pe_non (nomark _)) (pss_one (ps_ret pe_non)) pss_nil)
    (pss_one (ps_ret (pe_op op_cat (pe_lst (pa_cons (pe_ix ix_list (pv 3) (pv 1) (fun _ _ => rfl)) pa_nil)) (pe_c cP hr (by decide) rfl (pa_cons (pv 0) (pa_cons (pv 3) (pa_cons (pv 1) (pa_cons (pv 2) pa_nil))))))))), ?_⟩)
  · obtain ⟨h, la, ll, t, b, lk, rfl, _⟩ := h
    rfl
  · obtain ⟨h, la, ll, t, b, lk, rfl, hh, G, hb, hlen, q0, q1⟩ := h
    refine q_asgL (el_callV (ea_cons (ev_var rfl) (ea_cons (ev_var rfl) ea_nil)) fun H1 e1 Q1 E1 k1 => ⟨h, la, ll, t, lk, rfl, hh.ex e1, G, k1⟩) fun c H1 fc e1 h1 => ?_
    have hc : Costs K C H1 h c t (t.costs lk) := ⟨⟨la, ll, hh.ex e1⟩, G, sq_of h1, U.costs_size G lk⟩
    refine q_when (b := (Pn09.at_ (t.costs lk) b).isNone) (et_is (et_test (ev_op (ev_cost hc hb (ev_var rfl) (ev_var rfl)) ev_c rv_isN)) (ov_non _)) (fun hn H2 e2 => ?_) (fun hn H2 e2 => ?_)
    · exact s_ret ev_c fun H3 e3 => q0 (Option.isNone_iff_eq_none.mp hn) H3 ((e1.trans e2).trans e3)
    · cases hv : Pn09.at_ (t.costs lk) b with
      | none => rw [hv] at hn; cases hn
      | some v =>
        have l1 := hlen v hv
        have k1 := q1 v hv
        have r1 := U.rk_le (t.costs lk) (2 ^ t.states) b
        have r2 := p32 G
        refine s_retL (xs := [iv v] ++ ivs (U.plan t lk (t.costs lk) b)) (el_cat (el_lst (ea_cons (ev_is (ev_cost (hc.ex e2) hb (ev_var rfl) (ev_var rfl)) (by rw [hv]; rfl)) ea_nil) one_le) (fun H3 e3 => ?_) ?_) fun p H3 fp e3 h3 => k1 p H3 (fresh_back (e1.trans e2) fp) ((e1.trans e2).trans e3) h3
        · exact el_callV (ea_cons (ev_var rfl) (ea_cons (ev_var rfl) (ea_cons (ev_var rfl) (ea_cons (ev_var rfl) ea_nil)))) fun H4 e4 Q4 E4 q4 => ⟨h, c, t, b, v, lk, rfl, (hc.ex e2).ex (e3.trans e4), hb, hv, Nat.lt_succ_of_le (Nat.le_trans r1 r2), l1, q4⟩
        · refine line_ge ?_
          rw [List.length_map]
          show 1 + _ ≤ _
          omega
end
end Un
set_option Elab.async false
set_option autoImplicit false
set_option maxRecDepth 100000
set_option maxHeartbeats 4000000
namespace Un
open PySem PySem.Spec PyProof.Rows L2 Evl
open C8 (Cal Met Mak pe_c pe_mk pe_mt)
/-! ### steps: a list of pairs -/
def StepAt (H : Hp) (v : V) (s : Nat × Nat) : Prop := ∃ p, v = .ref p ∧ H p = some (.tup [iv s.1, iv s.2])
def StepsAt (H : Hp) (vs : List V) (st : List (Nat × Nat)) : Prop := vs.length = st.length ∧ ∀ (i : Nat) (s : Nat × Nat), st[i]? = some s → ∃ v, vs[i]? = some v ∧ StepAt H v s
theorem StepsAt.ex {H H' : Hp} {vs : List V} {st : List (Nat × Nat)} (e : Ex H H') (x : StepsAt H vs st) : StepsAt H' vs st :=
  ⟨x.1, fun i s h => by
    obtain ⟨v, h1, p, h2, h3⟩ := x.2 i s h
    exact ⟨v, h1, p, h2, e _ _ h3⟩⟩
theorem StepsAt.mut {H : Hp} {vs : List V} {st : List (Nat × Nat)} {l : Addr} {xs ys : List V} (hl : H l = some (.lst xs)) (x : StepsAt H vs st) : StepsAt (upd H l (.lst ys)) vs st :=
  ⟨x.1, fun i s h => by
    obtain ⟨v, h1, p, h2, h3⟩ := x.2 i s h
    exact ⟨v, h1, p, h2, by rw [upd_ne (ne_of h3 hl (by intro z; cases z))]; exact h3⟩⟩
theorem StepsAt.nil (H : Hp) : StepsAt H [] [] := ⟨rfl, fun i s h => by simp at h⟩
theorem StepsAt.snoc {H : Hp} {vs : List V} {st : List (Nat × Nat)} {p : Addr} {s : Nat × Nat} (x : StepsAt H vs st) (hp : H p = some (.tup [iv s.1, iv s.2])) : StepsAt H (vs ++ [.ref p]) (st ++ [s]) := by
  refine ⟨by rw [List.length_append, List.length_append, x.1]; rfl, fun i s' h => ?_⟩
  by_cases hi : i < st.length
  · rw [List.getElem?_append_left hi] at h
    obtain ⟨v, h1, h2⟩ := x.2 i s' h
    exact ⟨v, by rw [List.getElem?_append_left (by rw [x.1]; exact hi)]; exact h1, h2⟩
  · rw [List.getElem?_append_right (by omega)] at h
    have e : i - st.length = 0 := by
      apply Classical.byContradiction
      intro z
      rw [List.getElem?_eq_none (by simp; omega)] at h
      cases h
    rw [e] at h
    have es : s = s' := Option.some.inj h
    subst es
    exact ⟨.ref p, by rw [List.getElem?_append_right (by rw [x.1]; omega), x.1, e]; rfl, p, rfl, hp⟩
theorem StepsAt.get {H : Hp} {vs : List V} {st : List (Nat × Nat)} (x : StepsAt H vs st) {i : Nat} {v : V} (h : vs[i]? = some v) : ∃ s, st[i]? = some s ∧ StepAt H v s := by
  have hi := (List.getElem?_eq_some_iff.mp h).1
  have hi' : i < st.length := by rw [← x.1]; exact hi
  obtain ⟨v', h1, h2⟩ := x.2 i st[i] (List.getElem?_eq_getElem hi')
  rw [h] at h1
  cases h1
  exact ⟨_, List.getElem?_eq_getElem hi', h2⟩
theorem StepsAt.rev {H : Hp} {vs : List V} {st : List (Nat × Nat)} (x : StepsAt H vs st) : StepsAt H vs.reverse st.reverse := by
  refine ⟨by rw [List.length_reverse, List.length_reverse, x.1], fun i s h => ?_⟩
  have hi : i < st.length := by
    have := (List.getElem?_eq_some_iff.mp h).1
    rwa [List.length_reverse] at this
  rw [List.getElem?_reverse hi] at h
  rw [List.getElem?_reverse (by rw [x.1]; exact hi), x.1]
  exact x.2 _ s h
section
variable {K : PySem.W.Frag} {σ : L2.St} {H : Hp} {te ta tb : TE} {tc : TT} {D : Ends} {g : TG}
theorem el_rev {xs : List V} (h : EvL te σ H xs) : EvL (tRevL K te) σ H xs.reverse := fun H1 e _ q =>
  h H1 e _ fun p H2 _ e2 h2 => ⟨p, xs, rfl, sq_of h2, fun p2 hp2 => q p2 _ (fresh_back e2 hp2) (e2.trans (Ex.new hp2)) upd_same⟩
theorem el_revV {a : Addr} {xs : List V} (h : Ev te σ H (.ref a)) (hx : SqL K H a xs) : EvL (tRevL K te) σ H xs.reverse := fun H1 e _ q =>
  h H1 e _ fun H2 e2 => ⟨a, xs, rfl, ex_l (e.trans e2) hx, fun p2 hp2 => q p2 _ (fresh_back e2 hp2) (e2.trans (Ex.new hp2)) upd_same⟩
theorem s_retIf {b : Bool} (h : EvT tc σ H b) (h1 : b = true → ∀ H1, Ex H H1 → tRet ta D σ H1) (h2 : b = false → ∀ H1, Ex H H1 → tRet tb D σ H1) : tRet (tIf tc ta tb) D σ H := h H (Ex.refl H) _ fun H1 e => by
  cases b with
  | true => exact h1 rfl H1 e
  | false => exact h2 rfl H1 e
/-- a pair to two names -/
theorem g_pair {i j : Nat} {v : V} {s : Nat × Nat} {Q : L2.St → Hp → Prop} (h : StepAt H v s) (q : Q ((σ.set i (some (iv s.1))).set j (some (iv s.2))) H) : gTup K 2 (gCons (gName i) (gCons (gName j) gNil)) v σ H Q := by
  obtain ⟨p, rfl, hp⟩ := h
  exact ⟨p, _, rfl, st_of hp, rfl, _, _, rfl, _, _, rfl, rfl, q⟩
end
theorem ints_eqv_nil (l : List Nat) : PyData.eqvAll (l.map fun n : Nat => PyData.int (n : Int)) [] = decide (l = []) := by
  cases l <;> simp [PyData.eqvAll]
theorem ints_dp {K : PySem.W.Frag} {H : Hp} : ∀ l : List Nat, DpAll K H (ivs l) (l.map fun n : Nat => PyData.int (n : Int))
  | [] => .nil
  | _ :: l => .cons (.int _) (ints_dp l)
theorem ints_shaped (l : List Nat) : SeqAt.shaped (.list (l.map fun n : Nat => PyData.int (n : Int))) = true := by
  have h := ods_shaped (l.map some)
  rw [List.map_map] at h
  exact h
/-- waiting == [] -/
theorem et_empty {K : PySem.W.Frag} {σ : L2.St} {H : Hp} {te : TE} {a : Addr} {l : List Nat} (h : Ev te σ H (.ref a)) (hx : SqL K H a (ivs l)) : EvT (tTest (tOp (rEqD K) te (tLst tNil))) σ H (decide (l = [])) :=
  et_test fun H1 e Q q => h H1 e _ fun H2 e2 => ⟨by decide, fun p hp => ⟨_, _, .lst (ex_l ((e.trans e2).trans (Ex.new hp)) hx) (ints_dp l), .lst (sq_of upd_same) (ints_dp []), ints_shaped l, ints_shaped [], by
    show Q (.bl (PyData.eqv (.list _) (.list []))) _
    rw [PyData.eqv, ints_eqv_nil]
    exact q _ (e2.trans (Ex.new hp))⟩⟩
theorem dec_eqi (a : Nat) (b : Nat) : decide (iv a = V.int (b : Int)) = decide (a = b) := dec_iv a b
theorem lt_line {n : Nat} (h : n < 100000) : n < sizeLine := sz_lt h

def spSets (C : Addr) : Sp := fun vs H Q _ => ∃ (h la ll : Addr) (t : Pn09.Task) (b x : Nat), vs = [.ref h, iv b, iv x] ∧ HouseAt C H h la ll t ∧ U.Good t ∧ RetL (ivs (U.sets t b x)) H Q
def spWalked (K : PySem.W.Frag) (C : Addr) : Sp := fun vs H Q _ => ∃ (h la ll a : Addr) (t : Pn09.Task) (b : Nat) (l : List Nat), vs = [.ref h, iv b, .ref a] ∧ HouseAt C H h la ll t ∧ U.Good t ∧ SqL K H a (ivs l) ∧ l.length ≤ 1000 ∧
  (U.walk t [b] l = none → RetV .non H Q) ∧ (∀ st, U.walk t [b] l = some st → ∀ (p : Addr) (H2 : Hp) (ws : List V), H p = none → Ex H H2 → H2 p = some (.lst ws) → StepsAt H2 ws st → Q (.ref p) H2)
def spThere (C : Addr) : Sp := fun vs H Q _ => ∃ (h la ll : Addr) (t : Pn09.Task) (b x : Nat), vs = [.ref h, iv b, iv x] ∧ HouseAt C H h la ll t ∧ U.Good t ∧ x ≠ 0 ∧ RetV (.bl (if x < 100 then t.can b (x - 1) else decide (x - 100 < t.looks.length))) H Q
def spWrong (C : Addr) : Sp := fun vs H Q _ => ∃ (h la ll : Addr) (t : Pn09.Task) (b x : Nat), vs = [.ref h, iv b, iv x] ∧ HouseAt C H h la ll t ∧ U.Good t ∧ b < 2 ^ t.states ∧
  (U.wrong t b x = none → RetV .non H Q) ∧ (∀ r, U.wrong t b x = some r → RetL (ivs [r.1, r.2]) H Q)
def spFirst (C : Addr) : Sp := fun vs H Q _ => ∃ (h la ll a : Addr) (t : Pn09.Task) (ws : List V) (st : List (Nat × Nat)), vs = [.ref h, .ref a] ∧ HouseAt C H h la ll t ∧ U.Good t ∧ H a = some (.lst ws) ∧ StepsAt H ws st ∧ (∀ s ∈ st, s.2 < 2 ^ t.states) ∧
  (U.firstWrong t st = none → RetV .non H Q) ∧ (∀ r, U.firstWrong t st = some r → RetL (ivs [r.1, r.2]) H Q)
def spCostOf (C : Addr) : Sp := fun vs H Q _ => ∃ (h la ll : Addr) (t : Pn09.Task) (x : Nat), vs = [.ref h, iv x] ∧ HouseAt C H h la ll t ∧ x ≠ 0 ∧ (x < 100 → x - 1 < t.acts.length) ∧ (100 ≤ x → x - 100 < t.looks.length) ∧ RetV (iv (U.costOf t x)) H Q
def spWorst (C : Addr) : Sp := fun vs H Q _ => ∃ (h la ll a : Addr) (t : Pn09.Task) (ws : List V) (st : List (Nat × Nat)) (c : Nat), vs = [.ref h, .ref a] ∧ HouseAt C H h la ll t ∧ U.Good t ∧ H a = some (.lst ws) ∧ StepsAt H ws st ∧ st.length ≤ 1000 ∧
  U.firstWrong t st = none ∧ U.Wok t st ∧ U.worst t st = [c] ∧ RetV (iv c) H Q
/-- what judging answers -/
def judgeAns (t : Pn09.Task) (b : Nat) (l : List Nat) : Option (List Nat) := match t.read (l.length + 1) b l with
  | some (w, []) => some (match t.judge b w with
    | .works c => [0, c]
    | .cant u => [1, u]
    | .short u => [2, u])
  | _ => none
def spJudged (K : PySem.W.Frag) (C : Addr) : Sp := fun vs H Q _ => ∃ (h la ll a : Addr) (t : Pn09.Task) (b : Nat) (l : List Nat), vs = [.ref h, iv b, .ref a] ∧ HouseAt C H h la ll t ∧ U.Good t ∧ b < 2 ^ t.states ∧ b ≠ 0 ∧ SqL K H a (ivs l) ∧ l.length ≤ 1000 ∧
  (judgeAns t b l = none → RetV .non H Q) ∧ (∀ r, judgeAns t b l = some r → RetL (ivs r) H Q)

/-! ### the mathematics that is left -/
theorem sets_len {t : Pn09.Task} (b x : Nat) : (U.sets t b x).length ≤ 3 := by
  unfold U.sets
  by_cases h : x = 0
  · rw [if_pos h]; exact Nat.zero_le _
  · rw [if_neg h]
    by_cases h2 : x < 100
    · rw [if_pos h2]; exact (by decide : 1 ≤ 3)
    · rw [if_neg h2, List.length_map]
      unfold Pn09.Task.answers
      exact Nat.le_trans (List.length_filter_le _ _) (by rw [List.length_range]; exact Nat.le_refl _)
theorem stepsOf_lt {t : Pn09.Task} (G : U.Good t) : ∀ (w : Pn09.Way) (b : Nat), b < 2 ^ t.states → ∀ s ∈ U.stepsOf t b w, s.2 < 2 ^ t.states
  | .done, b, hb, s, hs => by
    rw [List.mem_singleton.mp hs]; exact hb
  | .act k w, b, hb, s, hs => by
    rcases List.mem_cons.mp hs with e | h
    · rw [e]; exact hb
    · exact stepsOf_lt G w _ (U.then_lt G b k) s h
  | .look j x y z, b, hb, s, hs => by
    have one : ∀ (a : Nat) (w : Pn09.Way), (∀ s ∈ U.stepsOf t (t.seen b j a) w, s.2 < 2 ^ t.states) → s ∈ (if t.seen b j a = 0 then [] else U.stepsOf t (t.seen b j a) w) → s.2 < 2 ^ t.states := fun a w ih h => by
      by_cases q : t.seen b j a = 0
      · rw [if_pos q] at h; cases h
      · rw [if_neg q] at h; exact ih s h
    rcases List.mem_cons.mp hs with e | h
    · rw [e]; exact hb
    · rcases List.mem_append.mp h with h | h
      · exact one 0 x (stepsOf_lt G x _ (U.seen_lt b j 0)) h
      · rcases List.mem_append.mp h with h | h
        · exact one 1 y (stepsOf_lt G y _ (U.seen_lt b j 1)) h
        · exact one 2 z (stepsOf_lt G z _ (U.seen_lt b j 2)) h
theorem wok_drop {t : Pn09.Task} : ∀ {st : List (Nat × Nat)} (k : Nat), U.Wok t st → U.Wok t (st.drop k)
  | st, 0, h => h
  | [], _ + 1, h => h
  | _ :: r, k + 1, h => wok_drop (st := r) k h.1
theorem none_of_first {t : Pn09.Task} {st : List (Nat × Nat)} (h : U.firstWrong t st = none) {s : Nat × Nat} (hs : s ∈ st) : U.wrong t s.2 s.1 = none := List.findSome?_eq_none_iff.mp h s hs
theorem there_of {t : Pn09.Task} {b x : Nat} (h : U.wrong t b x = none) (h0 : x ≠ 0) : (x < 100 → x - 1 < t.acts.length) ∧ (100 ≤ x → x - 100 < t.looks.length) := by
  unfold U.wrong at h
  rw [if_neg h0] at h
  refine ⟨fun h1 => ?_, fun h1 => ?_⟩
  · rw [if_pos h1] at h
    by_cases q : t.can b (x - 1) = true
    · unfold Pn09.Task.can at q
      exact of_decide_eq_true (Bool.and_eq_true_iff.mp q).1
    · rw [if_neg q] at h; cases h
  · rw [if_neg (by omega)] at h
    by_cases q : x - 100 < t.looks.length
    · exact q
    · rw [if_neg q] at h; cases h
theorem maxL_ge : ∀ {l : List Nat} {a : Nat}, a ∈ l → a ≤ U.maxL l
  | b :: l, a, h => by
    show a ≤ max b (U.maxL l)
    rcases List.mem_cons.mp h with e | h
    · omega
    · have := maxL_ge h; omega
theorem maxL_mem : ∀ {l : List Nat}, l ≠ [] → U.maxL l ∈ l
  | [], h => absurd rfl h
  | [a], _ => by
    show max a 0 ∈ [a]
    rw [Nat.max_eq_left (Nat.zero_le a)]; exact List.mem_cons_self
  | a :: b :: l, _ => by
    have ih := maxL_mem (l := b :: l) (by simp)
    show max a (U.maxL (b :: l)) ∈ a :: b :: l
    by_cases q : U.maxL (b :: l) ≤ a
    · rw [Nat.max_eq_left q]; exact List.mem_cons_self
    · rw [Nat.max_eq_right (by omega)]; exact List.mem_cons_of_mem _ ih
theorem cut_from {xs : List V} {k : Nat} (h : k ≤ xs.length) : cutV xs (some (k : Int)) none = xs.drop k := by
  unfold cutV
  rw [HT.sIx_nat, HT.sIx_none, Nat.min_eq_left h]
  exact List.take_of_length_le (by rw [List.length_drop]; omega)
theorem cut_to {xs : List V} {k : Nat} (h : k ≤ xs.length) : cutV xs none (some (k : Int)) = xs.take k := by
  unfold cutV
  rw [HT.sIx_nat, HT.sIx_none, Nat.min_eq_left h, List.drop_zero, Nat.sub_zero]

section
variable {P : Program} {w : World} {K : PySem.W.Frag} {mg : Str → Option Value} {base : Heap} {C D aS : Addr}
theorem sc26 : FnScope ["house", "where", "number"] ["house", "where", "number"] (defScope (topS 26)) := ⟨rfl, rfl, rfl, by decide +kernel, rfl, by decide +kernel, by decide +kernel⟩
theorem c_sets (T : Txt K mg C D aS) (d : Df K mg "sets_behind" 26 ["house", "where", "number"]) (cA : Cal P w K mg base 3 "behind_act" (spBehind C) []) (cL : Cal P w K mg base 3 "behind_look" (spBehindL C) []) : Cal P w K mg base 4 "sets_behind" (spSets C) [] := by
  refine d.cal sc26 (fun vs H Q E h => ?_) (fun f cdv A outer s H vs Q E hr h => ⟨_,
    pss_cons (ps_if (pt_cmpR op_eq (pv 2) (pe_num T.cDONE rfl) (nomark _)) (pss_one (ps_ret (pe_lst pa_nil))) pss_nil)
    (pss_cons (ps_if (pt_cmpR op_lt (pv 2) (pe_num T.cFL rfl) (nomark _)) (pss_one (ps_ret (pe_lst (pa_cons (pe_c cA hr (by decide) rfl (pa_cons (pv 0) (pa_cons (pv 1) (pa_cons (pe_op op_sub (pv 2) (pe_num T.cFA rfl)) pa_nil)))) pa_nil)))) pss_nil)
    (pss_one (ps_ret (pe_c cL hr (by decide) rfl (pa_cons (pv 0) (pa_cons (pv 1) (pa_cons (pe_op op_sub (pv 2) (pe_num T.cFL rfl)) pa_nil))))))), ?_⟩)
  · obtain ⟨h, la, ll, t, b, x, rfl, _⟩ := h
    rfl
  · obtain ⟨h, la, ll, t, b, x, rfl, hh, G, q⟩ := h
    unfold U.sets at q
    refine q_when (b := decide (x = 0)) (et_is (et_test (ev_op (ev_var rfl) ev_c (rv_eq rfl))) (dec_eqi x 0)) (fun hb H1 e1 => ?_) (fun hb H1 e1 => ?_)
    · rw [if_pos (of_decide_eq_true hb)] at q
      exact s_retL (el_lst ea_nil (by decide)) fun p H2 fp e2 h2 => q p H2 (fresh_back e1 fp) (e1.trans e2) h2
    · have h0 := of_decide_eq_false hb
      rw [if_neg h0] at q
      refine q_when (b := decide (x < 100)) (et_is (et_test (ev_op (ev_var rfl) ev_c (rv_I0 (i := (x : Int)) (j := 100)))) (dec_lt x 100)) (fun hb2 H2 e2 => ?_) (fun hb2 H2 e2 => ?_)
      · rw [if_pos (of_decide_eq_true hb2)] at q
        refine s_retL (xs := [iv (t.then_ b (x - 1))]) (el_lst (ea_cons (ev_callV (ea_cons (ev_var rfl) (ea_cons (ev_var rfl) (ea_cons (ev_is (ev_op (ev_var rfl) ev_c (rv_I0 (i := (x : Int)) (j := 1))) (w := iv (x - 1)) ?_) ea_nil))) fun H3 e3 Q3 E3 q3 => ⟨h, la, ll, t, b, x - 1, rfl, hh.ex ((e1.trans e2).trans e3), G, q3⟩) ea_nil) one_le) fun p H3 fp e3 h3 => q p H3 (fresh_back (e1.trans e2) fp) ((e1.trans e2).trans e3) h3
        show V.int ((x : Int) - 1) = V.int ((x - 1 : Nat) : Int)
        rw [show ((x : Int) - 1) = ((x - 1 : Nat) : Int) by omega]
      · have h2 := of_decide_eq_false hb2
        rw [if_neg h2] at q
        refine s_retL (el_callV (ea_cons (ev_var rfl) (ea_cons (ev_var rfl) (ea_cons (ev_is (ev_op (ev_var rfl) ev_c (rv_I0 (i := (x : Int)) (j := 100))) (w := iv (x - 100)) ?_) ea_nil))) fun H3 e3 Q3 E3 q3 => ⟨h, la, ll, t, b, x - 100, rfl, hh.ex ((e1.trans e2).trans e3), G, q3⟩) fun p H3 fp e3 h3 => q p H3 (fresh_back (e1.trans e2) fp) ((e1.trans e2).trans e3) h3
        show V.int ((x : Int) - 100) = V.int ((x - 100 : Nat) : Int)
        rw [show ((x : Int) - 100) = ((x - 100 : Nat) : Int) by omega]
theorem sc27 : FnScope ["house", "where", "numbers", "found", "waiting", "number", "here"] ["house", "where", "numbers"] (defScope (topS 27)) := ⟨rfl, rfl, rfl, by decide +kernel, rfl, by decide +kernel, by decide +kernel⟩
theorem c_walked (T : Txt K mg C D aS) (d : Df K mg "walked" 27 ["house", "where", "numbers"]) (cS : Cal P w K mg base 4 "sets_behind" (spSets C) []) : Cal P w K mg base 5 "walked" (spWalked K C) [] := by
  refine d.cal sc27 (fun vs H Q E h => ?_) (fun f cdv A outer s H vs Q E hr h => ⟨_,
    pss_cons (ps_set (i := 3) sc27.nd rfl (Or.inl rfl) (pe_lst pa_nil))
    (pss_cons (ps_set (i := 4) sc27.nd rfl (Or.inl rfl) (pe_lst (pa_cons (pv 1) pa_nil)))
    (pss_cons (ps_for PassesOwn.never rfl (pi_list (pv 2)) (pg_name (i := 5) sc27.nd rfl (Or.inl rfl))
      (pss_cons (ps_if (pt_cmpR (op_eqD (hu64 hr)) (pv 4) (pe_lst pa_nil) (nomark _)) (pss_one (ps_ret pe_non)) pss_nil)
      (pss_cons (ps_set (i := 6) sc27.nd rfl (Or.inl rfl) (pe_bm0 PySem.F.plainAttrs_list PySem.F.slot_list_pop PySem.F.type_list_pop mt_pop (pv 4)))
      (pss_cons (ps_expr (pe_bm PySem.F.plainAttrs_list PySem.F.slot_list_append PySem.F.type_list_append mt_append (pv 3) (pa_cons (pe_tup (pa_cons (pv 5) (pa_cons (pv 6) pa_nil))) pa_nil)))
      (pss_one (ps_expr (pe_bm PySem.F.plainAttrs_list PySem.F.slot_list_extend PySem.F.type_list_extend mt_extend (pv 4) (pa_cons (pe_revL (pe_c cS hr (by decide) rfl (pa_cons (pv 0) (pa_cons (pv 6) (pa_cons (pv 5) pa_nil))))) pa_nil))))))))
    (pss_one (ps_ret (pe_ifExp (pt_cmpR (op_eqD (hu64 hr)) (pv 4) (pe_lst pa_nil) (nomark _)) (pv 3) pe_non))))), ?_⟩)
  · obtain ⟨h, la, ll, a, t, b, l, rfl, _⟩ := h
    rfl
  · obtain ⟨h, la, ll, a, t, b, l, rfl, hh, G, hl, hlen, q0, q1⟩ := h
    refine q_asgL (xs := []) (el_lst ea_nil (by decide)) fun f0 H1 ff e1 h1 => ?_
    refine q_asgL (xs := ivs [b]) (el_lst (ea_cons (ev_var rfl) ea_nil) one_le) fun w0 H2 fw e2 h2 => ?_
    have fw0 := fresh_back e1 fw
    have nfw : f0 ≠ w0 := ne_of_none h1 fw
    refine q_forL (xs := ivs l) (ev_var rfl) (ex_l (e1.trans e2) hl)
      (fun i σ' H' => ∃ (v5 v6 : Option V) (ws : List V) (pre : List (Nat × Nat)) (rest : List Nat), σ' = [some (.ref h), some (iv b), some (.ref a), some (.ref f0), some (.ref w0), v5, v6] ∧ Ex H H' ∧ H' f0 = some (.lst ws) ∧ ws.length = i ∧ StepsAt H' ws pre ∧
        H' w0 = some (.lst (ivs rest.reverse)) ∧ rest.length ≤ 1 + 3 * i ∧ U.walk t [b] l = (U.walk t rest (l.drop i)).map (pre ++ ·))
      (fun H3 e3 => ⟨none, none, [], [], [b], rfl, (e1.trans e2).trans e3, (e2.trans e3) _ _ h1, rfl, StepsAt.nil _, e3 _ _ h2, Nat.le_refl 1, ?_⟩) (fun i σ' H' _ hP => ?_) (fun i x σ' H' hx hP => ?_) (fun σ' H' hP => ?_)
    · rw [List.drop_zero]
      cases U.walk t [b] l <;> rfl
    · obtain ⟨v5, v6, ws, pre, rest, _, e, _⟩ := hP
      exact ex_l e hl
    · obtain ⟨v5, v6, ws, pre, rest, rfl, e, hf, hwl, hst, hw, hrl, hwalk⟩ := hP
      obtain ⟨n, hn, hnm, rfl⟩ := ivs_get hx
      have hi : i < l.length := (List.getElem?_eq_some_iff.mp hn).1
      have hdrop : l.drop i = n :: l.drop (i + 1) := by
        rw [List.drop_eq_getElem_cons hi]
        congr 1
        exact (List.getElem?_eq_some_iff.mp hn).2
      rw [hdrop] at hwalk
      refine q_when (b := decide (rest.reverse = [])) (et_empty (ev_var rfl) (sq_of hw)) (fun hb H3 e3 => ?_) (fun hb H3 e3 => ?_)
      · refine s_ret ev_c fun H4 e4 => q0 ?_ H4 ((e.trans e3).trans e4)
        have : rest = [] := List.reverse_eq_nil_iff.mp (of_decide_eq_true hb)
        rw [hwalk, this]
        rfl
      · have hne : rest ≠ [] := fun z => (of_decide_eq_false hb) (by rw [z]; rfl)
        cases rest with
        | nil => exact absurd rfl hne
        | cons u rest =>
          have ew : ivs (u :: rest).reverse = ivs rest.reverse ++ [iv u] := by
            unfold ivs
            rw [List.reverse_cons, List.map_append]
            rfl
          have hw3 := e3 _ _ hw
          rw [ew] at hw3
          have e03 := e.trans e3
          refine ⟨_, rfl, Or.inl ⟨rfl, _, sq_of hw3⟩, w0, _, iv u, rfl, rfl, hw3, ?_, ?_⟩
          · rw [List.length_append, List.length_singleton, Nat.add_sub_cancel, List.getElem?_append_right (Nat.le_refl _), Nat.sub_self]
            rfl
          · rw [List.dropLast_concat]
            refine q_appU (xs := ws) (ys := [iv n, iv u]) (by rw [upd_ne nfw]; exact e3 _ _ hf) (ev_var rfl) (eu_tup (ea_cons (ev_var rfl) (ea_cons (ev_var rfl) ea_nil)) (by show 2 ≤ 100000; decide)) (by omega) fun p H4 fp e4 h4 => ?_
            have hw4 : H4 w0 = some (.lst (ivs rest.reverse)) := e4 _ _ upd_same
            have hf4 : H4 f0 = some (.lst ws) := e4 _ _ (by rw [upd_ne nfw]; exact e3 _ _ hf)
            have e04 : Ex H H4 := (Ex.mut e03 fw0).trans e4
            have hst4 : StepsAt H4 (ws ++ [.ref p]) (pre ++ [(n, u)]) := ((((hst.ex e3).mut hw3).ex e4).snoc (s := (n, u)) h4)
            refine s_ext (xs := ivs rest.reverse) (ys := (ivs (U.sets t u n)).reverse) (by rw [upd_ne (Ne.symm nfw)]; exact hw4) (ev_var rfl) (el_rev (el_callV (ea_cons (ev_var rfl) (ea_cons (ev_var rfl) (ea_cons (ev_var rfl) ea_nil))) fun H5 e5 Q5 E5 q5 => ⟨h, la, ll, t, u, n, rfl, hh.ex ((Ex.mut e04 ff).trans e5), G, q5⟩)) ?_ fun H5 e5 => ?_
            · refine line_ge ?_
              have := sets_len (t := t) u n
              simp only [List.length_map, List.length_reverse]
              simp only [List.length_cons] at hrl
              omega
            · refine ⟨_, _, ws ++ [.ref p], pre ++ [(n, u)], U.sets t u n ++ rest, rfl, Ex.mut ((Ex.mut e04 ff).trans e5) fw0, ?_, ?_, ?_, ?_, ?_, ?_⟩
              · rw [upd_ne nfw]
                exact e5 _ _ upd_same
              · rw [List.length_append, hwl]; rfl
              · exact ((hst4.mut hf4).ex e5).mut (e5 _ _ (by rw [upd_ne (Ne.symm nfw)]; exact hw4))
              · rw [upd_same]
                unfold ivs
                rw [← List.map_reverse, ← List.map_append, ← List.reverse_append]
              · have := sets_len (t := t) u n
                rw [List.length_append]
                simp only [List.length_cons] at hrl
                omega
              · rw [hwalk]
                show ((U.walk t (U.sets t u n ++ rest) (l.drop (i + 1))).map ((n, u) :: ·)).map (pre ++ ·) = _
                cases U.walk t (U.sets t u n ++ rest) (l.drop (i + 1)) with
                | none => rfl
                | some z =>
                  show some (pre ++ (n, u) :: z) = some (pre ++ [(n, u)] ++ z)
                  rw [List.append_assoc]; rfl
    · obtain ⟨v5, v6, ws, pre, rest, rfl, e, hf, hwl, hst, hw, hrl, hwalk⟩ := hP
      rw [List.length_map, List.drop_length] at hwalk
      refine s_retIf (et_empty (ev_var rfl) (sq_of hw)) (fun hb H3 e3 => ?_) (fun hb H3 e3 => ?_)
      · have : rest = [] := List.reverse_eq_nil_iff.mp (of_decide_eq_true hb)
        rw [this] at hwalk
        have hw2 : U.walk t [b] l = some pre := by
          rw [hwalk]
          show some (pre ++ []) = _
          rw [List.append_nil]
        exact s_ret (ev_var rfl) fun H4 e4 => q1 pre hw2 f0 H4 ws ff ((e.trans e3).trans e4) ((e3.trans e4) _ _ hf) (hst.ex (e3.trans e4))
      · refine s_ret ev_c fun H4 e4 => q0 ?_ H4 ((e.trans e3).trans e4)
        rw [hwalk]
        cases rest with
        | nil => exact absurd rfl (of_decide_eq_false hb)
        | cons u rest => rfl
theorem sc28 : FnScope ["house", "where", "number"] ["house", "where", "number"] (defScope (topS 28)) := ⟨rfl, rfl, rfl, by decide +kernel, rfl, by decide +kernel, by decide +kernel⟩
theorem c_there (T : Txt K mg C D aS) (d : Df K mg "is_there" 28 ["house", "where", "number"]) (cC : Cal P w K mg base 3 "can_act" (spCan C) []) : Cal P w K mg base 4 "is_there" (spThere C) [] := by
  refine d.cal sc28 (fun vs H Q E h => ?_) (fun f cdv A outer s H vs Q E hr h => ⟨_,
    pss_cons (ps_if (pt_cmpR op_lt (pv 2) (pe_num T.cFL rfl) (nomark _)) (pss_one (ps_ret (pe_c cC hr (by decide) rfl (pa_cons (pv 0) (pa_cons (pv 1) (pa_cons (pe_op op_sub (pv 2) (pe_num T.cFA rfl)) pa_nil)))))) pss_nil)
    (pss_one (ps_ret (pe_cmpR op_lt (pe_op op_sub (pv 2) (pe_num T.cFL rfl)) (pe_callB call_len_seq (by rfl) T.bLen PySem.boot_len (pa_cons (pe_fld (pv 0) rfl) pa_nil)) (nomark _)))), ?_⟩)
  · obtain ⟨h, la, ll, t, b, x, rfl, _⟩ := h
    rfl
  · obtain ⟨h, la, ll, t, b, x, rfl, hh, G, h0, q⟩ := h
    refine q_when (b := decide (x < 100)) (et_is (et_test (ev_op (ev_var rfl) ev_c (rv_I0 (i := (x : Int)) (j := 100)))) (dec_lt x 100)) (fun hb H1 e1 => ?_) (fun hb H1 e1 => ?_)
    · rw [if_pos (of_decide_eq_true hb)] at q
      refine s_ret (ev_callV (ea_cons (ev_var rfl) (ea_cons (ev_var rfl) (ea_cons (ev_is (ev_op (ev_var rfl) ev_c (rv_I0 (i := (x : Int)) (j := 1))) (w := iv (x - 1)) ?_) ea_nil))) fun H3 e3 Q3 E3 q3 => ⟨h, la, ll, t, b, x - 1, rfl, hh.ex (e1.trans e3), G, q3⟩) fun H2 e2 => q H2 (e1.trans e2)
      show V.int ((x : Int) - 1) = V.int ((x - 1 : Nat) : Int)
      rw [show ((x : Int) - 1) = ((x - 1 : Nat) : Int) by omega]
    · have h2 := of_decide_eq_false hb
      rw [if_neg h2] at q
      refine s_ret (ev_is (ev_op (ev_is (ev_op (ev_var rfl) ev_c (rv_I0 (i := (x : Int)) (j := 100))) (w := iv (x - 100)) ?_) (ev_lenLooks T (hh.ex e1) (ev_var rfl)) (rv_iI rfl)) (congrArg V.bl (dec_lt _ _))) fun H2 e2 => q H2 (e1.trans e2)
      show V.int ((x : Int) - 100) = V.int ((x - 100 : Nat) : Int)
      rw [show ((x : Int) - 100) = ((x - 100 : Nat) : Int) by omega]
theorem sc29 : FnScope ["house", "where", "number"] ["house", "where", "number"] (defScope (topS 29)) := ⟨rfl, rfl, rfl, by decide +kernel, rfl, by decide +kernel, by decide +kernel⟩
theorem c_wrong (T : Txt K mg C D aS) (d : Df K mg "wrong_at" 29 ["house", "where", "number"]) (cI : Cal P w K mg base 1 "is_as_wanted" (spWanted C) []) (cT : Cal P w K mg base 4 "is_there" (spThere C) []) : Cal P w K mg base 5 "wrong_at" (spWrong C) [] := by
  refine d.cal sc29 (fun vs H Q E h => ?_) (fun f cdv A outer s H vs Q E hr h => ⟨_,
    pss_cons (ps_if (pt_cmpR op_eq (pv 2) (pe_num T.cDONE rfl) (nomark _)) (pss_one (ps_ret (pe_ifExp (pt_val (pe_c cI hr (by decide) rfl (pa_cons (pv 0) (pa_cons (pv 1) pa_nil)))) pe_non (pe_lst (pa_cons (pe_num T.cNW rfl) (pa_cons (pv 1) pa_nil)))))) pss_nil)
    (pss_one (ps_ret (pe_ifExp (pt_val (pe_c cT hr (by decide) rfl (pa_cons (pv 0) (pa_cons (pv 1) (pa_cons (pv 2) pa_nil))))) pe_non (pe_lst (pa_cons (pe_num T.cND rfl) (pa_cons (pv 1) pa_nil)))))), ?_⟩)
  · obtain ⟨h, la, ll, t, b, x, rfl, _⟩ := h
    rfl
  · obtain ⟨h, la, ll, t, b, x, rfl, hh, G, hb, q0, q1⟩ := h
    have two : ∀ {u v : V}, [u, v].length ≤ 100000 := by intro u v; show 2 ≤ 100000; decide
    refine q_when (b := decide (x = 0)) (et_is (et_test (ev_op (ev_var rfl) ev_c (rv_eq rfl))) (dec_eqi x 0)) (fun hx H1 e1 => ?_) (fun hx H1 e1 => ?_)
    · have ew : U.wrong t b x = if t.done b = true then none else some (2, b) := by
        unfold U.wrong
        rw [if_pos (of_decide_eq_true hx)]
      refine s_retIf (b := t.done b) (et_B (ev_callV (ea_cons (ev_var rfl) (ea_cons (ev_var rfl) ea_nil)) fun H2 e2 Q2 E2 q2 => ⟨h, la, ll, t, b, rfl, hh.ex (e1.trans e2), hb, q2⟩)) (fun hd H2 e2 => ?_) (fun hd H2 e2 => ?_)
      · rw [if_pos hd] at ew
        exact s_ret ev_c fun H3 e3 => q0 ew H3 ((e1.trans e2).trans e3)
      · rw [if_neg (by rw [hd]; exact Bool.false_ne_true)] at ew
        exact s_retL (xs := ivs [2, b]) (el_lst (ea_cons ev_c (ea_cons (ev_var rfl) ea_nil)) two) fun p H3 fp e3 h3 => q1 _ ew p H3 (fresh_back (e1.trans e2) fp) ((e1.trans e2).trans e3) h3
    · have h0 := of_decide_eq_false hx
      have ew : U.wrong t b x = if (if x < 100 then t.can b (x - 1) else decide (x - 100 < t.looks.length)) = true then none else some (1, b) := by
        unfold U.wrong
        rw [if_neg h0]
        by_cases z : x < 100
        · rw [if_pos z, if_pos z]
        · rw [if_neg z, if_neg z]
          by_cases z2 : x - 100 < t.looks.length
          · rw [if_pos z2, decide_eq_true z2]; rfl
          · rw [if_neg z2, decide_eq_false z2]; rfl
      refine s_retIf (b := if x < 100 then t.can b (x - 1) else decide (x - 100 < t.looks.length)) (et_B (ev_callV (ea_cons (ev_var rfl) (ea_cons (ev_var rfl) (ea_cons (ev_var rfl) ea_nil))) fun H2 e2 Q2 E2 q2 => ⟨h, la, ll, t, b, x, rfl, hh.ex (e1.trans e2), G, h0, q2⟩)) (fun hd H2 e2 => ?_) (fun hd H2 e2 => ?_)
      · rw [if_pos hd] at ew
        exact s_ret ev_c fun H3 e3 => q0 ew H3 ((e1.trans e2).trans e3)
      · rw [if_neg (by rw [hd]; exact Bool.false_ne_true)] at ew
        exact s_retL (xs := ivs [1, b]) (el_lst (ea_cons ev_c (ea_cons (ev_var rfl) ea_nil)) two) fun p H3 fp e3 h3 => q1 _ ew p H3 (fresh_back (e1.trans e2) fp) ((e1.trans e2).trans e3) h3
theorem sc30 : FnScope ["house", "steps", "number", "where", "found"] ["house", "steps"] (defScope (topS 30)) := ⟨rfl, rfl, rfl, by decide +kernel, rfl, by decide +kernel, by decide +kernel⟩
theorem c_first (T : Txt K mg C D aS) (d : Df K mg "first_wrong" 30 ["house", "steps"]) (cW : Cal P w K mg base 5 "wrong_at" (spWrong C) []) : Cal P w K mg base 6 "first_wrong" (spFirst C) [] := by
  refine d.cal sc30 (fun vs H Q E h => ?_) (fun f cdv A outer s H vs Q E hr h => ⟨_,
    pss_cons (ps_for PassesOwn.never rfl (pi_list (pv 1)) (pg_tup rfl (pgs_cons (pg_name (i := 2) sc30.nd rfl (Or.inl rfl)) (pgs_cons (pg_name (i := 3) sc30.nd rfl (Or.inl rfl)) pgs_nil)))
      (pss_cons (ps_set (i := 4) sc30.nd rfl (Or.inl rfl) (pe_c cW hr (by decide) rfl (pa_cons (pv 0) (pa_cons (pv 3) (pa_cons (pv 2) pa_nil)))))
      (pss_one (ps_if (pt_cmpR op_notN (pv 4) pe_non (nomark _)) (pss_one (ps_ret (pv 4))) pss_nil))))
    (pss_one (ps_ret pe_non)), ?_⟩)
  · obtain ⟨h, la, ll, a, t, ws, st, rfl, _⟩ := h
    rfl
  · obtain ⟨h, la, ll, a, t, ws, st, rfl, hh, G, ha, hst, hlt, q0, q1⟩ := h
    refine q_forL (xs := ws) (ev_var rfl) (sq_of ha) (fun i σ' H' => (∃ v2 v3 v4 : Option V, σ' = [some (.ref h), some (.ref a), v2, v3, v4]) ∧ Ex H H' ∧ U.firstWrong t st = U.firstWrong t (st.drop i))
      (fun H1 e1 => ⟨⟨none, none, none, rfl⟩, e1, rfl⟩) (fun i σ' H' _ hP => sq_of (hP.2.1 _ _ ha)) (fun i x σ' H' hx hP => ?_) (fun σ' H' hP => ?_)
    · obtain ⟨⟨v2, v3, v4, rfl⟩, e, hfw⟩ := hP
      obtain ⟨s, hs, hsa⟩ := (hst.ex e).get hx
      have hi : i < st.length := (List.getElem?_eq_some_iff.mp hs).1
      have hdrop : st.drop i = s :: st.drop (i + 1) := by
        rw [List.drop_eq_getElem_cons hi]
        congr 1
        exact (List.getElem?_eq_some_iff.mp hs).2
      rw [hdrop, U.fw_cons] at hfw
      refine g_pair hsa ?_
      have hsb := hlt s (List.mem_of_getElem? hs)
      cases hw : U.wrong t s.2 s.1 with
      | none =>
        rw [hw] at hfw
        refine q_asg (v := V.non) (ev_callV (ea_cons (ev_var rfl) (ea_cons (ev_var rfl) (ea_cons (ev_var rfl) ea_nil))) fun H2 e2 Q2 E2 q2 => ⟨h, la, ll, t, s.2, s.1, rfl, hh.ex (e.trans e2), G, hsb, fun _ => q2, fun r z => by rw [hw] at z; cases z⟩) fun H2 e2 => ?_
        refine s_when (b := false) (et_test (ev_op (ev_var rfl) ev_c rv_notN)) (fun z => by cases z) (fun _ H3 e3 => ⟨⟨_, _, _, rfl⟩, (e.trans e2).trans e3, hfw⟩)
      | some r =>
        rw [hw] at hfw
        refine q_asgL (xs := ivs [r.1, r.2]) (el_callV (ea_cons (ev_var rfl) (ea_cons (ev_var rfl) (ea_cons (ev_var rfl) ea_nil))) fun H2 e2 Q2 E2 q2 => ⟨h, la, ll, t, s.2, s.1, rfl, hh.ex (e.trans e2), G, hsb, fun z => (by rw [hw] at z; cases z), fun r' z => by rw [hw] at z; cases z; exact q2⟩) fun p H2 fp e2 h2 => ?_
        refine s_when (b := true) (et_test (ev_op (ev_var rfl) ev_c rv_notN)) (fun _ H3 e3 => ?_) (fun z => by cases z)
        exact s_ret (ev_var rfl) fun H4 e4 => q1 r hfw p H4 (fresh_back e fp) (((e.trans e2).trans e3).trans e4) ((e3.trans e4) _ _ h2)
    · obtain ⟨⟨v2, v3, v4, rfl⟩, e, hfw⟩ := hP
      rw [hst.1, List.drop_length] at hfw
      exact s_ret ev_c fun H2 e2 => q0 hfw H2 (e.trans e2)
theorem sc31 : FnScope ["house", "number"] ["house", "number"] (defScope (topS 31)) := ⟨rfl, rfl, rfl, by decide +kernel, rfl, by decide +kernel, by decide +kernel⟩
theorem c_costOf (T : Txt K mg C D aS) (d : Df K mg "cost_of" 31 ["house", "number"]) : Cal P w K mg base 1 "cost_of" (spCostOf C) [] := by
  refine d.cal sc31 (fun vs H Q E h => ?_) (fun f cdv A outer s H vs Q E hr h => ⟨_,
    pss_cons (ps_if (pt_cmpR op_lt (pv 1) (pe_num T.cFL rfl) (nomark _)) (pss_one (ps_ret (pe_ix ix_tup (pe_ix ix_list (pe_fld (pv 0) rfl) (pe_op op_sub (pv 1) (pe_num T.cFA rfl)) (fun _ _ => rfl)) pe_int (fun _ _ => rfl)))) pss_nil)
    (pss_one (ps_ret (pe_ix ix_tup (pe_ix ix_list (pe_fld (pv 0) rfl) (pe_op op_sub (pv 1) (pe_num T.cFL rfl)) (fun _ _ => rfl)) pe_int (fun _ _ => rfl)))), ?_⟩)
  · obtain ⟨h, la, ll, t, x, rfl, _⟩ := h
    rfl
  · obtain ⟨h, la, ll, t, x, rfl, hh, h0, ha, hl, q⟩ := h
    unfold U.costOf at q
    refine q_when (b := decide (x < 100)) (et_is (et_test (ev_op (ev_var rfl) ev_c (rv_I0 (i := (x : Int)) (j := 100)))) (dec_lt x 100)) (fun hb H1 e1 => ?_) (fun hb H1 e1 => ?_)
    · have hx := of_decide_eq_true hb
      obtain ⟨p, l, hp, _, hev⟩ := act_at T hh (List.getElem?_eq_getElem (ha hx))
      rw [if_pos hx, U.act_of (ha hx)] at q
      refine s_ret (ev_tup0 (e1 _ _ hp) (hev _ _ _ H1 e1 (ev_var rfl) (ev_is (ev_op (ev_var rfl) ev_c (rv_I0 (i := (x : Int)) (j := 1))) ?_))) fun H2 e2 => q H2 (e1.trans e2)
      show V.int ((x : Int) - 1) = V.int ((x - 1 : Nat) : Int)
      rw [show ((x : Int) - 1) = ((x - 1 : Nat) : Int) by omega]
    · have hx := of_decide_eq_false hb
      have h1 := hl (by omega)
      obtain ⟨p, l, hp, _, hev⟩ := look_at T hh (List.getElem?_eq_getElem h1)
      rw [if_neg hx, U.look_of h1] at q
      refine s_ret (ev_tup0 (e1 _ _ hp) (hev _ _ _ H1 e1 (ev_var rfl) (ev_is (ev_op (ev_var rfl) ev_c (rv_I0 (i := (x : Int)) (j := 100))) ?_))) fun H2 e2 => q H2 (e1.trans e2)
      show V.int ((x : Int) - 100) = V.int ((x - 100 : Nat) : Int)
      rw [show ((x : Int) - 100) = ((x - 100 : Nat) : Int) by omega]
theorem sc32 : FnScope ["house", "steps", "costs", "number", "where", "many", "own"] ["house", "steps"] (defScope (topS 32)) := ⟨rfl, rfl, rfl, by decide +kernel, rfl, by decide +kernel, by decide +kernel⟩
theorem c_worst (T : Txt K mg C D aS) (d : Df K mg "worst_cost" 32 ["house", "steps"]) (cS : Cal P w K mg base 4 "sets_behind" (spSets C) []) (cC : Cal P w K mg base 1 "cost_of" (spCostOf C) []) : Cal P w K mg base 5 "worst_cost" (spWorst C) [] := by
  refine d.cal sc32 (fun vs H Q E h => ?_) (fun f cdv A outer s H vs Q E hr h => ⟨_,
    pss_cons (ps_set (i := 2) sc32.nd rfl (Or.inl rfl) (pe_lst pa_nil))
    (pss_cons (ps_for PassesOwn.never rfl (pi_list (pe_revL (pv 1))) (pg_tup rfl (pgs_cons (pg_name (i := 3) sc32.nd rfl (Or.inl rfl)) (pgs_cons (pg_name (i := 4) sc32.nd rfl (Or.inl rfl)) pgs_nil)))
      (pss_cons (ps_set (i := 5) sc32.nd rfl (Or.inl rfl) (pe_callB call_len_seq (by rfl) T.bLen PySem.boot_len (pa_cons (pe_c cS hr (by decide) rfl (pa_cons (pv 0) (pa_cons (pv 4) (pa_cons (pv 3) pa_nil)))) pa_nil)))
      (pss_one (ps_if (pt_cmpR op_eq (pv 3) (pe_num T.cDONE rfl) (nomark _))
        (pss_one (ps_expr (pe_bm PySem.F.plainAttrs_list PySem.F.slot_list_append PySem.F.type_list_append mt_append (pv 2) (pa_cons pe_int pa_nil))))
        (pss_cons (ps_set (i := 6) sc32.nd rfl (Or.inl rfl) (pe_slice sl_list (pv 2) (po_some (pe_op op_sub (pe_callB call_len_seq (by rfl) T.bLen PySem.boot_len (pa_cons (pv 2) pa_nil)) (pv 5))) po_none))
        (pss_one (ps_set (i := 2) sc32.nd rfl (Or.inl rfl) (pe_op op_cat (pe_slice sl_list (pv 2) po_none (po_some (pe_op op_sub (pe_callB call_len_seq (by rfl) T.bLen PySem.boot_len (pa_cons (pv 2) pa_nil)) (pv 5))))
          (pe_lst (pa_cons (pe_op op_add (pe_c cC hr (by decide) rfl (pa_cons (pv 0) (pa_cons (pv 3) pa_nil))) (pe_callB (cr_max rfl) (by rfl) T.bMax boot_max (pa_cons (pv 6) pa_nil))) pa_nil))))))))))
    (pss_one (ps_ret (pe_ix ix_list (pv 2) pe_int (fun _ _ => rfl))))), ?_⟩)
  · obtain ⟨h, la, ll, a, t, ws, st, c, rfl, _⟩ := h
    rfl
  · obtain ⟨h, la, ll, a, t, ws, st, c, rfl, hh, G, ha, hst, hlen, hfw, hok, hwc, q⟩ := h
    have wlen : ∀ k, (U.worst t (st.drop k)).length ≤ st.length := by
      intro k
      have : ∀ l : List (Nat × Nat), (U.worst t l).length ≤ l.length := by
        intro l
        induction l with
        | nil => exact Nat.le_refl _
        | cons p r ih =>
          rw [U.worst_cons]
          unfold U.wstep
          by_cases z : p.1 = 0
          · rw [if_pos z, List.length_cons, List.length_cons]; omega
          · rw [if_neg z, List.length_cons, List.length_cons, List.length_drop]; omega
      have h1 := this (st.drop k)
      rw [List.length_drop] at h1
      omega
    refine q_asgL (xs := []) (el_lst ea_nil (by decide)) fun c0 H1 fc e1 h1 => ?_
    refine q_forNL (xs := ws.reverse) (el_revV (ev_var rfl) (sq_of (e1 _ _ ha)))
      (fun p i σ' H' => ∃ (cs : Addr) (v3 v4 v5 v6 : Option V), σ' = [some (.ref h), some (.ref a), some (.ref cs), v3, v4, v5, v6] ∧ Ex H H' ∧ H cs = none ∧ cs ≠ p ∧ H' p = some (.lst ws.reverse) ∧ StepsAt H' ws.reverse st.reverse ∧ H' cs = some (.lst (ivs (U.worst t (st.drop (st.length - i))).reverse)))
      (fun p H2 fp e2 h2 => ⟨c0, none, none, none, none, rfl, e1.trans e2, fc, ne_of_none h1 fp, h2, (hst.ex (e1.trans e2)).rev, ?_⟩) (fun p i σ' H' _ hP => ?_) (fun p i x σ' H' hx hP => ?_) (fun p σ' H' hP => ?_)
    · rw [Nat.sub_zero, List.drop_length]
      exact e2 _ _ h1
    · obtain ⟨cs, v3, v4, v5, v6, _, _, _, _, hp, _⟩ := hP
      exact sq_of hp
    · obtain ⟨cs, v3, v4, v5, v6, rfl, e, fcs, ncp, hp, hstr, hcs⟩ := hP
      obtain ⟨s, hs, hsa⟩ := hstr.get hx
      have hi : i < st.length := by
        have := (List.getElem?_eq_some_iff.mp hs).1
        rwa [List.length_reverse] at this
      rw [List.getElem?_reverse hi] at hs
      have hsm := List.mem_of_getElem? hs
      have hw := none_of_first hfw hsm
      -- the part behind, and the step ahead of it
      have hdrop : st.drop (st.length - (i + 1)) = s :: st.drop (st.length - i) := by
        have hk : st.length - (i + 1) < st.length := by omega
        rw [List.drop_eq_getElem_cons hk, show st.length - (i + 1) + 1 = st.length - i by omega]
        congr 1
        have hs' : st[st.length - (i + 1)]? = some s := by rw [show st.length - (i + 1) = st.length - 1 - i by omega]; exact hs
        exact (List.getElem?_eq_some_iff.mp hs').2
      have hwk := wok_drop (st.length - (i + 1)) hok
      rw [hdrop] at hwk
      obtain ⟨_, hmany⟩ := hwk
      have wl := wlen (st.length - i)
      have goal_eq : U.worst t (st.drop (st.length - (i + 1))) = U.wstep t s (U.worst t (st.drop (st.length - i))) := by rw [hdrop]; rfl
      have goal_eq' : ivs (U.worst t (st.drop (st.length - (i + 1)))).reverse = ivs (U.wstep t s (U.worst t (st.drop (st.length - i)))).reverse := by rw [goal_eq]
      generalize U.worst t (st.drop (st.length - i)) = W at hcs hmany wl goal_eq'
      refine g_pair hsa ?_
      refine q_asg (v := iv (U.sets t s.2 s.1).length) (ev_is (ev_lenN (el_callV (xs := ivs (U.sets t s.2 s.1)) (ea_cons (ev_var rfl) (ea_cons (ev_var rfl) (ea_cons (ev_var rfl) ea_nil))) fun H3 e3 Q3 E3 q3 => ⟨h, la, ll, t, s.2, s.1, rfl, hh.ex (e.trans e3), G, q3⟩)) (by rw [List.length_map]; rfl)) fun H2 e2 => ?_
      have e02 := e.trans e2
      refine s_if (b := decide (s.1 = 0)) (et_is (et_test (ev_op (ev_var rfl) ev_c (rv_eq rfl))) (dec_eqi s.1 0)) (fun hb H3 e3 => ?_) (fun hb H3 e3 => ?_)
      · refine s_app ((e2.trans e3) _ _ hcs) (ev_var rfl) (v := iv 0) ev_c (by rw [List.length_map, List.length_reverse]; omega) fun H4 e4 => ⟨cs, _, _, _, _, rfl, Ex.mut ((e02.trans e3).trans e4) fcs, fcs, ncp, ?_, ?_, ?_⟩
        · rw [upd_ne (Ne.symm ncp)]
          exact ((e2.trans e3).trans e4) _ _ hp
        · exact (hstr.ex ((e2.trans e3).trans e4)).mut (((e2.trans e3).trans e4) _ _ hcs)
        · rw [goal_eq', upd_same]
          unfold U.wstep
          rw [if_pos (of_decide_eq_true hb), List.reverse_cons]
          unfold ivs
          rw [List.map_append]
          rfl
      · have h0 := of_decide_eq_false hb
        obtain ⟨m1, m2⟩ := hmany h0
        have e03 := e02.trans e3
        have hcs3 := (e2.trans e3) _ _ hcs
        have hlenW : (ivs W.reverse).length = W.length := by rw [List.length_map, List.length_reverse]
        generalize hm : (U.sets t s.2 s.1).length = m at m1 m2
        have evd : ∀ (v6 : Option V) (H4 : Hp), Ex H3 H4 → Ev (tOp (rI0 fun i j => .int (i - j)) (tCB (rLenS K) (tCons (tVar 2) tNil)) (tVar 5)) [some (.ref h), some (.ref a), some (.ref cs), some (iv s.1), some (iv s.2), some (iv m), v6] H4 (.int ((W.length - m : Nat) : Int)) := fun v6 H4 e4 => by
          refine ev_is (ev_op (ev_len (ev_var rfl) (sq_of (e4 _ _ hcs3))) (ev_var rfl) (rv_I0 (j := (m : Int)))) ?_
          rw [hlenW]
          exact congrArg V.int (by omega)
        have hcut1 : cutV (ivs W.reverse) (some ((W.length - m : Nat) : Int)) none = ivs (W.take m).reverse := by
          rw [cut_from (by rw [hlenW]; omega)]
          unfold ivs
          rw [← List.map_drop, List.drop_reverse]
          congr 3
          omega
        have hcut2 : cutV (ivs W.reverse) none (some ((W.length - m : Nat) : Int)) = ivs (W.drop m).reverse := by
          rw [cut_to (by rw [hlenW]; omega)]
          unfold ivs
          rw [← List.map_take, List.take_reverse]
          congr 3
          omega
        refine q_asgL (xs := ivs (W.take m).reverse) ?_ fun o1 H4 _ e4 h4 => ?_
        · rw [← hcut1]
          exact el_sl (ev_var rfl) (eo_some (evd _ H3 (Ex.refl _))) eo_none (sq_of hcs3)
        · have tne : W.take m ≠ [] := fun z => by
            have := congrArg List.length z
            rw [List.length_take, List.length_nil] at this
            omega
          refine s_asgL (xs := ivs (W.drop m).reverse ++ [iv (U.costOf t s.1 + U.maxL (W.take m))]) (el_cat ?_ (fun H5 e5 => el_lst (ea_cons (ev_op (y := iv (U.maxL (W.take m))) (ev_callV (z := iv (U.costOf t s.1)) (ea_cons (ev_var rfl) (ea_cons (ev_var rfl) ea_nil)) fun H6 e6 Q6 E6 q6 => ⟨h, la, ll, t, s.1, rfl, hh.ex (((e03.trans e4).trans e5).trans e6), h0, (there_of hw h0).1, (there_of hw h0).2, q6⟩) (fun H6 e6 Q6 q6 => ?_) (rv_iI rfl)) ea_nil) one_le) ?_) fun c1 H5 fc1 e5 h5 => ?_
          · rw [← hcut2]
            exact el_sl (ev_var rfl) eo_none (eo_some (evd _ H4 e4)) (sq_of (e4 _ _ hcs3))
          · refine ⟨_, rfl, o1, (W.take m).reverse.map fun n : Nat => (n : Int), rfl, sq_of ?_, ?_, fun mm hm1 hm2 => ?_⟩
            · rw [(e5.trans e6) _ _ h4, ivs_ints]
            · rw [List.length_map, List.length_reverse]
              exact List.length_pos_iff.mpr tne
            · have em : mm = ((U.maxL (W.take m) : Nat) : Int) := by
                obtain ⟨n, hn, rfl⟩ := List.mem_map.mp hm1
                have g1 := maxL_ge (List.mem_reverse.mp hn)
                have g2 := hm2 _ (List.mem_map.mpr ⟨_, List.mem_reverse.mpr (maxL_mem tne), rfl⟩)
                omega
              rw [em]
              exact q6 H6 (Ex.refl _)
          · refine line_ge ?_
            rw [List.length_map, List.length_reverse, List.length_drop]
            show _ + 1 ≤ _
            omega
          · have e05 := (e03.trans e4).trans e5
            refine ⟨c1, _, _, _, _, rfl, e05, fresh_back (e03.trans e4) fc1, ?_, (((e2.trans e3).trans e4).trans e5) _ _ hp, hstr.ex (((e2.trans e3).trans e4).trans e5), ?_⟩
            · have hp4 := ((e2.trans e3).trans e4) _ _ hp
              exact Ne.symm (ne_of_none hp4 fc1)
            · rw [goal_eq', h5]
              unfold U.wstep
              rw [if_neg h0, hm, List.reverse_cons]
              unfold ivs
              rw [List.map_append]
              rfl
    · obtain ⟨cs, v3, v4, v5, v6, rfl, e, fcs, ncp, hp, hstr, hcs⟩ := hP
      rw [List.length_reverse, hst.1, Nat.sub_self, List.drop_zero, hwc] at hcs
      exact s_ret (ev_op (ev_var rfl) ev_c (rv_ixL (sq_of hcs) (at_iv (k := 0) rfl))) fun H2 e2 => q H2 (e.trans e2)
theorem sc33 : FnScope ["house", "where", "numbers", "steps", "found"] ["house", "where", "numbers"] (defScope (topS 33)) := ⟨rfl, rfl, rfl, by decide +kernel, rfl, by decide +kernel, by decide +kernel⟩
theorem c_judged (T : Txt K mg C D aS) (d : Df K mg "judged" 33 ["house", "where", "numbers"]) (cW : Cal P w K mg base 5 "walked" (spWalked K C) []) (cF : Cal P w K mg base 6 "first_wrong" (spFirst C) []) (cC : Cal P w K mg base 5 "worst_cost" (spWorst C) []) : Cal P w K mg base 7 "judged" (spJudged K C) [] := by
  refine d.cal sc33 (fun vs H Q E h => ?_) (fun f cdv A outer s H vs Q E hr h => ⟨_,
    pss_cons (ps_set (i := 3) sc33.nd rfl (Or.inl rfl) (pe_c cW hr (by decide) rfl (pa_cons (pv 0) (pa_cons (pv 1) (pa_cons (pv 2) pa_nil)))))
    (pss_cons (ps_if (pt_cmpR op_isN (pv 3) pe_non (nomark _)) (pss_one (ps_ret pe_non)) pss_nil)
    (pss_cons (ps_set (i := 4) sc33.nd rfl (Or.inl rfl) (pe_c cF hr (by decide) rfl (pa_cons (pv 0) (pa_cons (pv 3) pa_nil))))
    (pss_cons (ps_if (pt_cmpR op_notN (pv 4) pe_non (nomark _)) (pss_one (ps_ret (pv 4))) pss_nil)
    (pss_one (ps_ret (pe_lst (pa_cons pe_int (pa_cons (pe_c cC hr (by decide) rfl (pa_cons (pv 0) (pa_cons (pv 3) pa_nil))) pa_nil)))))))), ?_⟩)
  · obtain ⟨h, la, ll, a, t, b, l, rfl, _⟩ := h
    rfl
  · obtain ⟨h, la, ll, a, t, b, l, rfl, hh, G, hb, h0, hl, hlen, q0, q1⟩ := h
    have two : ∀ {u v : V}, [u, v].length ≤ 100000 := by intro u v; show 2 ≤ 100000; decide
    rcases U.walk_read (t := t) b l with ⟨wy, hr1, hsm, hwk⟩ | ⟨hr1, hwk⟩
    · have hans : judgeAns t b l = some (match t.judge b wy with
        | .works c => [0, c]
        | .cant u => [1, u]
        | .short u => [2, u]) := by
        unfold judgeAns
        rw [hr1]
      have hv := U.verdict_of wy b hsm (t := t)
      have hlt := stepsOf_lt G wy b hb
      -- the steps' list stands
      have go : ∀ (p : Addr) (H1 : Hp) (ws : List V), H p = none → Ex H H1 → H1 p = some (.lst ws) → StepsAt H1 ws (U.stepsOf t b wy) →
          tSeq (tIfS (tTest (tOp (fun x y H Q => y = V.non ∧ Q (.bl (decide (x = .non))) H) (tVar 3) (tC .non))) (tRet (tC .non)) tNext)
            (tSeq (tAsg (tCall (spFirst C) [] E0 (tCons (tVar 0) (tCons (tVar 3) tNil))) (gName 4))
            (tSeq (tIfS (tTest (tOp (fun x y H Q => y = V.non ∧ Q (.bl (!decide (x = .non))) H) (tVar 4) (tC .non))) (tRet (tVar 4)) tNext)
            (tRet (tLst (tCons (tC (.int 0)) (tCons (tCall (spWorst C) [] E0 (tCons (tVar 0) (tCons (tVar 3) tNil))) tNil))))))
            { nx := fun _ H' => Q .non H', rt := Q } [some (.ref h), some (iv b), some (.ref a), some (.ref p), none] H1 := fun p H1 ws fp e1 hp hst => by
        refine q_when (b := false) (et_test (ev_op (ev_var rfl) ev_c rv_isN)) (fun z => by cases z) (fun _ H2 e2 => ?_)
        have e02 := e1.trans e2
        cases hj : t.judge b wy with
        | works c =>
          rw [hj] at hv hans
          have hv' : U.firstWrong t (U.stepsOf t b wy) = none := hv
          obtain ⟨k1, k2⟩ := U.worst_of G wy b c [] hb h0 hsm hj trivial
          rw [List.append_nil] at k1 k2
          refine q_asg (v := V.non) (ev_callV (ea_cons (ev_var rfl) (ea_cons (ev_var rfl) ea_nil)) fun H3 e3 Q3 E3 q3 => ⟨h, la, ll, p, t, ws, _, rfl, hh.ex (e02.trans e3), G, (e2.trans e3) _ _ hp, hst.ex (e2.trans e3), hlt, fun _ => q3, fun r z => by rw [hv'] at z; cases z⟩) fun H3 e3 => ?_
          refine q_when (b := false) (et_test (ev_op (ev_var rfl) ev_c rv_notN)) (fun z => by cases z) (fun _ H4 e4 => ?_)
          have slen : (U.stepsOf t b wy).length ≤ 1000 := by
            have : ∀ (l : List Nat) (w : List Nat) (st : List (Nat × Nat)), U.walk t w l = some st → st.length = l.length := by
              intro l
              induction l with
              | nil =>
                intro w st z
                cases w with
                | nil => cases z; rfl
                | cons x r => cases z
              | cons x r ih =>
                intro w st z
                cases w with
                | nil => cases z
                | cons y w =>
                  obtain ⟨u, u1, u2⟩ := Option.map_eq_some_iff.mp (show (U.walk t (U.sets t y x ++ w) r).map ((x, y) :: ·) = some st from z)
                  rw [← u2, List.length_cons, List.length_cons, ih _ _ u1]
            rw [this l [b] _ hwk]
            exact hlen
          exact s_retL (xs := ivs [0, c]) (el_lst (ea_cons ev_c (ea_cons (ev_callV (z := iv c) (ea_cons (ev_var rfl) (ea_cons (ev_var rfl) ea_nil)) fun H5 e5 Q5 E5 q5 => ⟨h, la, ll, p, t, ws, _, c, rfl, hh.ex (((e02.trans e3).trans e4).trans e5), G, (((e2.trans e3).trans e4).trans e5) _ _ hp, hst.ex (((e2.trans e3).trans e4).trans e5), slen, hv', k1, k2, q5⟩) ea_nil)) two) fun p2 H5 fp2 e5 h5 =>
            q1 _ hans p2 H5 (fresh_back ((e02.trans e3).trans e4) fp2) (((e02.trans e3).trans e4).trans e5) h5
        | cant u =>
          rw [hj] at hv hans
          have hv' : U.firstWrong t (U.stepsOf t b wy) = some (1, u) := hv
          refine q_asgL (xs := ivs [1, u]) (el_callV (ea_cons (ev_var rfl) (ea_cons (ev_var rfl) ea_nil)) fun H3 e3 Q3 E3 q3 => ⟨h, la, ll, p, t, ws, _, rfl, hh.ex (e02.trans e3), G, (e2.trans e3) _ _ hp, hst.ex (e2.trans e3), hlt, fun z => (by rw [hv'] at z; cases z), fun r z => by rw [hv'] at z; cases z; exact q3⟩) fun p2 H3 fp2 e3 h3 => ?_
          refine q_when (b := true) (et_test (ev_op (ev_var rfl) ev_c rv_notN)) (fun _ H4 e4 => ?_) (fun z => by cases z)
          exact s_ret (ev_var rfl) fun H5 e5 => q1 _ hans p2 H5 (fresh_back e02 fp2) (((e02.trans e3).trans e4).trans e5) ((e4.trans e5) _ _ h3)
        | short u =>
          rw [hj] at hv hans
          have hv' : U.firstWrong t (U.stepsOf t b wy) = some (2, u) := hv
          refine q_asgL (xs := ivs [2, u]) (el_callV (ea_cons (ev_var rfl) (ea_cons (ev_var rfl) ea_nil)) fun H3 e3 Q3 E3 q3 => ⟨h, la, ll, p, t, ws, _, rfl, hh.ex (e02.trans e3), G, (e2.trans e3) _ _ hp, hst.ex (e2.trans e3), hlt, fun z => (by rw [hv'] at z; cases z), fun r z => by rw [hv'] at z; cases z; exact q3⟩) fun p2 H3 fp2 e3 h3 => ?_
          refine q_when (b := true) (et_test (ev_op (ev_var rfl) ev_c rv_notN)) (fun _ H4 e4 => ?_) (fun z => by cases z)
          exact s_ret (ev_var rfl) fun H5 e5 => q1 _ hans p2 H5 (fresh_back e02 fp2) (((e02.trans e3).trans e4).trans e5) ((e4.trans e5) _ _ h3)
      exact ⟨_, rfl, _, rfl, _, rfl, h, la, ll, a, t, b, l, rfl, hh, G, hl, hlen, fun z => (by rw [hwk] at z; cases z), fun st z p H1 ws fp e1 hp hst => by
        rw [hwk] at z
        cases z
        exact go p H1 ws fp e1 hp hst⟩
    · have hans : judgeAns t b l = none := by
        unfold judgeAns
        cases e : t.read (l.length + 1) b l with
        | none => rfl
        | some q =>
          obtain ⟨wy, r⟩ := q
          cases r with
          | nil => exact absurd e (hr1 wy)
          | cons x r => rfl
      refine q_asg (v := V.non) (ev_callV (ea_cons (ev_var rfl) (ea_cons (ev_var rfl) (ea_cons (ev_var rfl) ea_nil))) fun H2 e2 Q2 E2 q2 => ⟨h, la, ll, a, t, b, l, rfl, hh.ex e2, G, ex_l e2 hl, hlen, fun _ => q2, fun st z => by rw [hwk] at z; cases z⟩) fun H2 e2 => ?_
      refine q_when (b := true) (et_test (ev_op (ev_var rfl) ev_c rv_isN)) (fun _ H3 e3 => ?_) (fun z => by cases z)
      exact s_ret ev_c fun H4 e4 => q0 hans H4 ((e2.trans e3).trans e4)
end
end Un
set_option Elab.async false
set_option autoImplicit false
set_option maxRecDepth 100000
set_option maxHeartbeats 4000000
namespace Un
open PySem PySem.Spec PyProof.Rows L2 Evl
open C8 (Cal Met Mak pe_c pe_mk pe_mt)
section
variable {K : PySem.W.Frag} {σ : L2.St} {H : Hp} {te ta tb tc : TE} {t : TA} {D : Ends}
theorem ev_chain {r r' : R2} {x y z : V} {b1 b2 : Bool} (ha : Ev ta σ H x) (hb : Ev tb σ H y) (h1 : RV r x y H (.bl b1)) (hc : Ev tc σ H z) (h2 : RV r' y z H (.bl b2)) : Ev (tChain r r' ta tb tc) σ H (.bl (b1 && b2)) := fun H1 e Q q =>
  ha H1 e _ fun H2 e2 => hb H2 (e.trans e2) _ fun H3 e3 => h1 H3 ((e.trans e2).trans e3) _ fun H4 e4 => ⟨b1, rfl, by
    have e14 := ((e2.trans e3).trans e4)
    cases b1 with
    | true =>
      show tc σ H4 _
      exact hc H4 (e.trans e14) _ fun H5 e5 => h2 H5 ((e.trans e14).trans e5) _ fun H6 e6 => q H6 ((e14.trans e5).trans e6)
    | false =>
      show Q (.bl false) H4
      exact q H4 e14⟩
theorem ev_meth {C : Addr} {m : Str} {sp : Sp} {E : XK} {a dx : Addr} {fs : List (Str × V)} {vs : List V} {z : V} (ha : Ev ta σ H (.ref a)) (ho : H a = some (.ins C dx fs)) (hl : fs.lookup m = none) (h : EvA t σ H vs) (hs : ∀ H1, Ex H H1 → ∀ (Q : VK) (E : XK), RetV z H1 Q → sp (.ref a :: vs) H1 Q E) :
    Ev (tMeth C m sp [] E ta t) σ H z := fun H1 e Q q => ha H1 e _ fun H2 e2 => ⟨a, dx, fs, rfl, (e.trans e2) _ _ ho, hl, h H2 (e.trans e2) _ fun H3 e3 => by
      rw [List.append_nil]
      exact hs H3 ((e.trans e2).trans e3) _ _ fun H4 e4 => q H4 ((e2.trans e3).trans e4)⟩
end
/-! ### is_cost, is_row -/
def spIsCost : Sp := fun vs H Q _ => ∃ c : Nat, vs = [iv c] ∧ RetV (.bl (decide (1 ≤ c) && decide (c ≤ 1000))) H Q
def spIsRow (K : PySem.W.Frag) : Sp := fun vs H Q _ => ∃ (n : Nat) (a : Addr) (l : List Nat), vs = [iv n, .ref a] ∧ SqL K H a (ivs l) ∧ l.length ≤ 1000 ∧ RetV (.bl ((l.all fun k => decide (k < n)) && Pn09.rising l)) H Q
theorem rising_at : ∀ l : List Nat, (List.range (l.length - 1)).all (fun i => decide (l.getD i 0 < l.getD (i + 1) 0)) = Pn09.rising l
  | [] => rfl
  | [_] => rfl
  | a :: b :: r => by
    have ih := rising_at (b :: r)
    show (List.range (r.length + 1)).all _ = (decide (a < b) && Pn09.rising (b :: r))
    rw [List.range_succ_eq_map, List.all_cons, List.all_map, ← ih]
    rfl
/-- a comprehension over zip of a list and its tail, of tests -/
theorem lcZip {K : PySem.W.Frag} {σ : L2.St} {H : Hp} {te : TE} {ta : TA} {j j2 : Nat} {vs : List Nat} {a : Addr} (l : List Nat) (f : Nat → Nat → Bool) (h : Ex H H → ∀ H1, Ex H H1 → ∀ Q : List V → Hp → Prop, (∀ p H2, H1 p = none → Ex H1 H2 → H2 p = some (.lst (ivs (l.drop 1))) → Q [.ref a, .ref p] H2) → ta σ H1 Q) (hx : SqL K H a (ivs l)) (hz : l.length ≤ 40000)
    (hw : ∀ x y, wipe (((wipe σ vs).set j (some x)).set j2 (some y)) vs = wipe σ vs) (he : ∀ (x y : Nat) H1, Ex H H1 → Ev te (((wipe σ vs).set j (some (iv x))).set j2 (some (iv y))) H1 (.bl (f x y))) :
    EvL (tLc (iZip K ta) (gTup K 2 (gCons (gName j) (gCons (gName j2) gNil))) tYes te vs) σ H ((List.range (l.length - 1)).map fun i => V.bl (f (l.getD i 0) (l.getD (i + 1) 0))) := fun H0 e Q q =>
  h (Ex.refl H) H0 e _ fun p H1 fp e1 hp => ⟨a, p, ivs l, ivs (l.drop 1), rfl, ex_l (e.trans e1) hx, sq_of hp, fun Dl hD =>
    lc_it (walk_zip (n := l.length - 1) (by rw [List.length_map, List.length_map, List.length_drop]; omega))
      (fun i H' => H1 Dl = none ∧ Ex H1 H' ∧ H' Dl = some (.lst ((List.range i).map fun i => V.bl (f (l.getD i 0) (l.getD (i + 1) 0))))) ⟨hD, Ex.new hD, upd_same⟩
      (fun i H' _ hP => ⟨ex_l ((e.trans e1).trans hP.2.1) hx, sq_of (hP.2.1 _ _ hp)⟩) (fun i x H' H'' hi hP hy => by
        obtain ⟨h1, h2, h3⟩ := hP
        obtain ⟨Tt, u, v, rfl, fT, rfl, hu, hv⟩ := hy
        have g1 : l[i]? = some (l.getD i 0) := by
          rw [List.getD_eq_getElem?_getD, List.getElem?_eq_getElem (by omega)]; rfl
        have g2 : l[i + 1]? = some (l.getD (i + 1) 0) := by
          rw [List.getD_eq_getElem?_getD, List.getElem?_eq_getElem (by omega)]; rfl
        have eu : u = iv (l.getD i 0) := by
          have hu' : (ivs l)[i]? = some u := hu
          rw [get_ivs g1] at hu'
          exact (Option.some.inj hu').symm
        have ev : v = iv (l.getD (i + 1) 0) := by
          have g3 : (l.drop 1)[i]? = some (l.getD (i + 1) 0) := by
            rw [List.getElem?_drop, Nat.add_comm]; exact g2
          have hv' : (ivs (l.drop 1))[i]? = some v := hv
          rw [get_ivs g3] at hv'
          exact (Option.some.inj hv').symm
        subst eu ev
        have ex2 : Ex H1 (upd H' Tt (.tup [iv (l.getD i 0), iv (l.getD (i + 1) 0)])) := h2.trans (Ex.new fT)
        refine ⟨Tt, _, rfl, st_of upd_same, rfl, _, _, rfl, _, _, rfl, rfl, hw _ _, ?_⟩
        show te _ _ _
        refine he _ _ _ ((e.trans e1).trans ex2) _ (Ex.refl _) _ fun H4 e4 => ⟨_, e4 _ _ (by rw [upd_ne (ne_of_none h3 fT)]; exact h3), ?_, h1, Ex.mut (ex2.trans e4) h1, ?_⟩
        · refine sz_lt ?_
          rw [List.length_map, List.length_range]
          omega
        · rw [upd_same, List.range_succ, List.map_append]
          rfl) (fun H' hP => q Dl H' (fresh_back e1 hP.1) (e1.trans hP.2.1) hP.2.2)⟩
section
variable {P : Program} {w : World} {K : PySem.W.Frag} {mg : Str → Option Value} {base : Heap} {C D aS : Addr}
theorem sc43 : FnScope ["cost"] ["cost"] (defScope (topS 43)) := ⟨rfl, rfl, rfl, by decide +kernel, rfl, by decide +kernel, by decide +kernel⟩
theorem c_isCost (T : Txt K mg C D aS) (d : Df K mg "is_cost" 43 ["cost"]) : Cal P w K mg base 1 "is_cost" spIsCost [] := by
  refine d.cal sc43 (fun vs H Q E h => ?_) (fun f cdv A outer s H vs Q E hr h => ⟨_, pss_one (ps_ret (pe_chain op_le op_le pe_int (pv 0) (pe_num T.cMC rfl))), ?_⟩)
  · obtain ⟨c, rfl, _⟩ := h
    rfl
  · obtain ⟨c, rfl, q⟩ := h
    refine s_ret (ev_is (ev_chain (y := iv c) ev_c (ev_var rfl) (rv_I0 (i := 1) (j := (c : Int))) ev_c (rv_I0 (i := (c : Int)) (j := 1000))) ?_) q
    show V.bl (decide ((1 : Int) ≤ (c : Int)) && decide ((c : Int) ≤ 1000)) = _
    rw [show decide ((1 : Int) ≤ (c : Int)) = decide (1 ≤ c) from dec_le 1 c, show decide ((c : Int) ≤ 1000) = decide (c ≤ 1000) from dec_le c 1000]
theorem sc44 : FnScope ["states", "row", "k", "one", "other"] ["states", "row"] (defScope (topS 44)) := ⟨rfl, rfl, rfl, by decide +kernel, rfl, by decide +kernel, by decide +kernel⟩
theorem c_isRow (T : Txt K mg C D aS) (d : Df K mg "is_row" 44 ["states", "row"]) : Cal P w K mg base 1 "is_row" (spIsRow K) [] := by
  refine d.cal sc44 (fun vs H Q E h => ?_) (fun f cdv A outer s H vs Q E hr h => ⟨_, pss_one (ps_ret (pe_and
    (pe_callB (cr_all rfl) (by rfl) T.bAll boot_all (pa_cons (pe_lc (own := [("k", 2)]) (g := gName 2) (tt := tYes) rfl sc44.nd (pi_list (pv 1)) (blkOk_by (N := ["states", "row", "k", "one", "other"]) (sc := defScope (topS 44)) (by decide +kernel)) (fun _ _ _ _ _ => pg_name (i := 2) sc44.nd rfl (Or.inl rfl)) (fun _ _ _ _ _ => pts_nil) (fun _ _ _ _ _ => pe_cmpR op_lt (pv 2) (pv 0) (nomark _))) pa_nil))
    (pe_one (pe_callB (cr_all rfl) (by rfl) T.bAll boot_all (pa_cons (pe_lc (own := [("one", 3), ("other", 4)]) (g := gTup K 2 (gCons (gName 3) (gCons (gName 4) gNil))) (tt := tYes) rfl sc44.nd (pi_zip (by rfl) T.bZip (pa_cons (pv 1) (pa_cons (pe_slice sl_list (pv 1) (po_some pe_int) po_none) pa_nil)))
      (blkOk_by (N := ["states", "row", "k", "one", "other"]) (sc := defScope (topS 44)) (by decide +kernel)) (fun _ _ _ _ _ => pg_tup rfl (pgs_cons (pg_name (i := 3) sc44.nd rfl (Or.inl rfl)) (pgs_cons (pg_name (i := 4) sc44.nd rfl (Or.inl rfl)) pgs_nil))) (fun _ _ _ _ _ => pts_nil) (fun _ _ _ _ _ => pe_cmpR op_lt (pv 3) (pv 4) (nomark _))) pa_nil))))), ?_⟩)
  · obtain ⟨n, a, l, rfl, _⟩ := h
    rfl
  · obtain ⟨n, a, l, rfl, hl, hlen, q⟩ := h
    refine s_ret (ev_andV (a := l.all fun k => decide (k < n)) (b := Pn09.rising l) ?_ fun _ => ?_) q
    · refine ev_cbL (lcN l (fun _ => true) (fun k => V.bl (decide (k < n))) (ev_var rfl) hl (by omega) (fun _ => rfl) (fun _ _ _ _ => et_yes) (fun k H1 e _ _ => ev_is (ev_op (ev_var rfl) (ev_var rfl) (rv_iI rfl)) (congrArg V.bl (dec_lt k n)))) fun p H1 e hp Q1 q1 => ⟨p, l.map fun k => decide (k < n), rfl, sq_of (by rw [hp, filter_yes, List.map_map]; rfl), ?_⟩
      rw [List.all_map]
      exact q1
    · refine ev_cbL (lcZip l (fun x y => decide (x < y)) (fun _ H1 e Q1 q1 => ?_) hl (by omega) (fun _ _ => rfl) (fun x y H1 e => ev_is (ev_op (ev_var rfl) (ev_var rfl) (rv_iI rfl)) (congrArg V.bl (dec_lt x y)))) fun p H1 e hp Q1 q1 => ⟨p, (List.range (l.length - 1)).map fun i => decide (l.getD i 0 < l.getD (i + 1) 0), rfl, sq_of (by rw [hp, List.map_map]; rfl), ?_⟩
      · refine ⟨_, rfl, _, rfl, 1, rfl, a, ivs l, rfl, ex_l e hl, fun p hp => q1 p _ hp (Ex.new hp) ?_⟩
        rw [upd_same]
        by_cases z : 1 ≤ (ivs l).length
        · rw [show cutV (ivs l) (some 1) none = (ivs l).drop 1 from cut_from (k := 1) z]
          unfold ivs
          rw [List.map_drop]
        · have : l = [] := by
            rw [List.length_map] at z
            exact List.eq_nil_of_length_eq_zero (by omega)
          subst this
          rfl
      · rw [List.all_map]
        have := rising_at l
        rw [← this] at q1
        exact q1
end

/-! ### the desk -/
def dF (h : Addr) : List (Str × V) := [("house", .ref h)]
structure DeskAt (C D : Addr) (H : Hp) (d h la ll : Addr) (t : Pn09.Task) : Prop where
  desk : ∃ dx, H d = some (.ins D dx (dF h))
  house : HouseAt C H h la ll t
  ne : la ≠ ll
theorem DeskAt.ex {C D : Addr} {H H' : Hp} {d h la ll : Addr} {t : Pn09.Task} (e : Ex H H') (x : DeskAt C D H d h la ll t) : DeskAt C D H' d h la ll t := ⟨⟨x.desk.choose, e _ _ x.desk.choose_spec⟩, x.house.ex e, x.ne⟩
/-- all that stood stands, but at some places -/
def Kp (H H' : Hp) (S : List Addr) : Prop := ∀ b o, H b = some o → b ∉ S → H' b = some o
/-- the desk stands whatever is written at f -/
def Rb (C D : Addr) (H : Hp) (d h la ll : Addr) (t : Pn09.Task) (f : Addr) : Prop := ∀ o : HO, DeskAt C D (upd H f o) d h la ll t
theorem ex_upd {H H' : Hp} {f : Addr} {o : HO} (e : Ex H H') : Ex (upd H f o) (upd H' f o) := fun b u hb => by
  by_cases z : b = f
  · subst z
    rw [upd_same] at hb ⊢
    exact hb
  · rw [upd_ne z] at hb ⊢
    exact e _ _ hb
theorem Rb.ex {C D : Addr} {H H' : Hp} {d h la ll f : Addr} {t : Pn09.Task} (e : Ex H H') (r : Rb C D H d h la ll t f) : Rb C D H' d h la ll t f := fun o => (r o).ex (ex_upd e)
/-- a call has been answered -/
def After (C D : Addr) (H : Hp) (d h la ll : Addr) (t t' : Pn09.Task) (ans : List Int) (Q : VK) : Prop :=
  ∀ (H' : Hp) (h' la' ll' p : Addr), DeskAt C D H' d h' la' ll' t' → Kp H H' [d, h, la, ll] → (∀ b ∈ [h', la', ll'], b ∈ [h, la, ll] ∨ H b = none) → (∀ f, H f ≠ none → f ∉ [d, h, la, ll] → Rb C D H d h la ll t f → Rb C D H' d h' la' ll' t' f) → H p = none → H' p = some (.lst (ans.map V.int)) → Q (.ref p) H'
abbrev Stp (C D : Addr) (H : Hp) (d h la ll : Addr) (t : Pn09.Task) (c : Pn09.Call) (Q : VK) : Prop := After C D H d h la ll t (Pn09.step ⟨t⟩ c).1.task (Pn09Neutral.out (Pn09.step ⟨t⟩ c).2) Q
/-- a call that changes nothing -/
theorem After.pure {C D : Addr} {H : Hp} {d h la ll : Addr} {t t' : Pn09.Task} {ans : List Int} {Q : VK} (x : DeskAt C D H d h la ll t) (k : After C D H d h la ll t t' ans Q) (et : t' = t) {xs : List V} (ea : xs = ans.map V.int) : RetL xs H Q := fun p H2 fp e hp => by
  subst et ea
  exact k H2 h la ll p (x.ex e) (fun b o hb _ => e b o hb) (fun b hb => .inl hb) (fun f _ _ r => r.ex e) fp hp
theorem ev_house {K : PySem.W.Frag} {mg : Str → Option Value} {C D aS : Addr} {σ : L2.St} {H : Hp} {te : TE} {d h la ll : Addr} {t : Pn09.Task} (T : Txt K mg C D aS) (x : DeskAt C D H d h la ll t) (ht : Ev te σ H (.ref d)) : Ev (tFld K te "house") σ H (.ref h) := ev_fld ht x.desk.choose_spec T.clD T.nH lk_here
theorem dF_no {h : Addr} {m : Str} (hm : (m == ("house" : Str)) = false) : (dF h).lookup m = none := lk_past hm
def spHI (C : Addr) : Sp := fun vs H Q _ => ∃ (p dx : Addr) (n g : Nat), vs = [.ref p, iv n, iv g] ∧ H p = some (.ins C dx []) ∧
  ∀ (H' : Hp) (la ll : Addr), HouseAt C H' p la ll ⟨n, g, [], []⟩ → la ≠ ll → H la = none → H ll = none → (∀ b o, H b = some o → b ≠ p → H' b = some o) → Q .non H'
def spDI (C D : Addr) : Sp := fun vs H Q _ => ∃ (p dx : Addr), vs = [.ref p] ∧ H p = some (.ins D dx []) ∧
  ∀ (H' : Hp) (h la ll : Addr), DeskAt C D H' p h la ll ⟨1, 0, [], []⟩ → H h = none → H la = none → H ll = none → (∀ b o, H b = some o → b ≠ p → H' b = some o) → Q .non H'
def spIsSet (C D : Addr) : Sp := fun vs H Q _ => ∃ (d h la ll : Addr) (t : Pn09.Task) (x : Nat), vs = [.ref d, iv x] ∧ DeskAt C D H d h la ll t ∧ t.states ≤ 5 ∧ RetV (.bl (decide (x < 2 ^ t.states))) H Q
def spSomewhere (C D : Addr) : Sp := fun vs H Q _ => ∃ (d h la ll : Addr) (t : Pn09.Task) (x : Nat), vs = [.ref d, iv x] ∧ DeskAt C D H d h la ll t ∧ t.states ≤ 5 ∧ RetV (.bl ((⟨t⟩ : Pn09.House).may x)) H Q
def spBegins (C D : Addr) : Sp := fun vs H Q _ => ∃ (d h la ll : Addr) (t : Pn09.Task) (n g : Nat), vs = [.ref d, iv n, iv g] ∧ DeskAt C D H d h la ll t ∧ Stp C D H d h la ll t (.begins n g) Q
def spGoal (C D : Addr) : Sp := fun vs H Q _ => ∃ (d h la ll : Addr) (t : Pn09.Task) (g : Nat), vs = [.ref d, iv g] ∧ DeskAt C D H d h la ll t ∧ U.Good t ∧ Stp C D H d h la ll t (.goal g) Q
/-- a list of rows -/
def RowsAt (H : Hp) (a : Addr) (rows : List (List Nat)) : Prop := ∃ vs : List V, H a = some (.lst vs) ∧ vs.length = rows.length ∧ ∀ (i : Nat) (r : List Nat), rows[i]? = some r → ∃ l, vs[i]? = some (.ref l) ∧ H l = some (.lst (ivs r))
theorem RowsAt.ex {H H' : Hp} {a : Addr} {rows : List (List Nat)} (e : Ex H H') (x : RowsAt H a rows) : RowsAt H' a rows := by
  obtain ⟨vs, h1, h2, h3⟩ := x
  refine ⟨vs, e _ _ h1, h2, fun i r hr => ?_⟩
  obtain ⟨l, h4, h5⟩ := h3 i r hr
  exact ⟨l, h4, e _ _ h5⟩
def spAddAct (C D : Addr) : Sp := fun vs H Q _ => ∃ (d h la ll a : Addr) (t : Pn09.Task) (c : Nat) (rows : List (List Nat)), vs = [.ref d, iv c, .ref a] ∧ DeskAt C D H d h la ll t ∧ U.Good t ∧ RowsAt H a rows ∧ rows.length ≤ 1000 ∧ (∀ r ∈ rows, r.length ≤ 1000) ∧ Stp C D H d h la ll t (.act c rows) Q
def spAddLook (K : PySem.W.Frag) (C D : Addr) : Sp := fun vs H Q _ => ∃ (d h la ll a : Addr) (t : Pn09.Task) (c : Nat) (l : List Nat), vs = [.ref d, iv c, .ref a] ∧ DeskAt C D H d h la ll t ∧ U.Good t ∧ SqL K H a (ivs l) ∧ l.length ≤ 1000 ∧ Stp C D H d h la ll t (.look c l) Q
def spPlanM (C D : Addr) : Sp := fun vs H Q _ => ∃ (d h la ll : Addr) (t : Pn09.Task) (b : Nat) (lk : Bool), vs = [.ref d, iv b, .bl (!lk)] ∧ DeskAt C D H d h la ll t ∧ U.Good t ∧ (Pn09.step ⟨t⟩ (if lk = true then .plan b else .blind b)).2.l.length ≤ 1000000 ∧ Stp C D H d h la ll t (if lk = true then .plan b else .blind b) Q
def spJudgeM (K : PySem.W.Frag) (C D : Addr) : Sp := fun vs H Q _ => ∃ (d h la ll a : Addr) (t : Pn09.Task) (b : Nat) (l : List Nat), vs = [.ref d, iv b, .ref a] ∧ DeskAt C D H d h la ll t ∧ U.Good t ∧ SqL K H a (ivs l) ∧ l.length ≤ 1000 ∧ Stp C D H d h la ll t (.judge b l) Q
def spAfterM (K : PySem.W.Frag) (C D : Addr) : Sp := fun vs H Q _ => ∃ (d h la ll a : Addr) (t : Pn09.Task) (b : Nat) (l : List Nat), vs = [.ref d, iv b, .ref a] ∧ DeskAt C D H d h la ll t ∧ U.Good t ∧ SqL K H a (ivs l) ∧ l.length ≤ 1000 ∧ Stp C D H d h la ll t (.after b l) Q
theorem put_here {f : Str} {v x : V} {r : List (Str × V)} : putF f v ((f, x) :: r) = (f, v) :: r := if_pos rfl
theorem put_past {f g : Str} {v x : V} {r : List (Str × V)} (h : ¬ g = f) : putF f v ((g, x) :: r) = (g, x) :: putF f v r := if_neg h
abbrev sM (j : Nat) : Stmt := inClass (topS 45) j
section
variable {P : Program} {w : World} {K : PySem.W.Frag} {mg : Str → Option Value} {base : Heap} {C D aS : Addr}
theorem scHI : FnScope ["self", "states", "wanted"] ["self", "states", "wanted"] (defScope (inClass (topS 2) 0)) := ⟨rfl, rfl, rfl, by decide +kernel, rfl, by decide +kernel, by decide +kernel⟩
theorem c_HI (T : Txt K mg C D aS) (d : Nf K mg C "House" "House.__init__" 2 ["self", "states", "wanted"]) : Mak P w K mg base 1 "House" C (spHI C) [] := by
  refine d.mak scHI (fun vs H Q E h => ?_) (fun f cdv A outer s H vs Q E hr h => ⟨_, pss_cons (ps_fld (pv 0) (pv 1) rfl) (pss_cons (ps_fld (pv 0) (pv 2) rfl) (pss_cons (ps_fld (pv 0) (pe_lst pa_nil) rfl) (pss_one (ps_fld (pv 0) (pe_lst pa_nil) rfl)))), ?_⟩)
  · obtain ⟨p, dx, n, g, rfl, _⟩ := h
    rfl
  · obtain ⟨p, dx, n, g, rfl, hp, k⟩ := h
    refine ⟨_, rfl, _, rfl, p, C, dx, [], rfl, hp, T.clC, T.nS, (by show 0 < 1000; decide), ?_⟩
    refine ⟨_, rfl, _, rfl, p, C, dx, _, rfl, upd_same, T.clC, T.nW, (by show 1 < 1000; decide), ?_⟩
    refine ⟨by decide, fun la fa => ⟨_, rfl, p, C, dx, putF "wanted" (iv g) (putF "states" (iv n) []), rfl, ?_, T.clC, T.nA, (by show 2 < 1000; decide), ?_⟩⟩
    · rw [upd_ne (ne_of_none (H := upd (upd H p _) p _) upd_same fa)]
      exact upd_same
    · refine ⟨by decide, fun ll fl => ⟨_, rfl, p, C, dx, putF "acts" (.ref la) (putF "wanted" (iv g) (putF "states" (iv n) [])), rfl, ?_, T.clC, T.nL, (by show 3 < 1000; decide), ?_⟩⟩
      · rw [upd_ne (ne_of_none (o := HO.ins C dx _) upd_same fl)]
        exact upd_same
      · have pla : p ≠ la := ne_of_none (H := upd (upd H p _) p _) upd_same fa
        have pll : p ≠ ll := ne_of_none (o := HO.ins C dx _) upd_same fl
        have lall : la ≠ ll := fun z => by
          subst z
          rw [upd_ne (Ne.symm pla), upd_same] at fl
          cases fl
        have fa0 : H la = none := by
          rw [upd_ne (Ne.symm pla), upd_ne (Ne.symm pla)] at fa
          exact fa
        have fl0 : H ll = none := by
          rw [upd_ne (Ne.symm pll), upd_ne (Ne.symm lall), upd_ne (Ne.symm pll), upd_ne (Ne.symm pll)] at fl
          exact fl
        have ef : putF "looks" (.ref ll) (putF "acts" (.ref la) (putF "wanted" (iv g) (putF "states" (iv n) []))) = hF ⟨n, g, [], []⟩ la ll := by
          show putF "looks" (.ref ll) (putF "acts" (.ref la) (putF "wanted" (iv g) [("states", iv n)])) = _
          rw [put_past (f := "wanted") (g := "states") (by decide +kernel)]
          show putF "looks" (.ref ll) (putF "acts" (.ref la) [("states", iv n), ("wanted", iv g)]) = _
          rw [put_past (f := "acts") (g := "states") (by decide +kernel), put_past (f := "acts") (g := "wanted") (by decide +kernel)]
          show putF "looks" (.ref ll) [("states", iv n), ("wanted", iv g), ("acts", .ref la)] = _
          rw [put_past (f := "looks") (g := "states") (by decide +kernel), put_past (f := "looks") (g := "wanted") (by decide +kernel), put_past (f := "looks") (g := "acts") (by decide +kernel)]
          rfl
        refine k _ la ll ⟨⟨dx, ?_⟩, ⟨[], ?_, rfl, fun i a z => by simp at z⟩, ⟨[], ?_, rfl, fun i a z => by simp at z⟩⟩ lall fa0 fl0 fun b o hb hbp => ?_
        · rw [upd_same]
          exact congrArg (fun q => some (HO.ins C dx q)) ef
        · rw [upd_ne (Ne.symm pla), upd_ne lall, upd_ne (Ne.symm pla), upd_same]
        · rw [upd_ne (Ne.symm pll), upd_same]
        · have b1 : b ≠ la := ne_of_none hb fa0
          have b2 : b ≠ ll := ne_of_none hb fl0
          rw [upd_ne hbp, upd_ne b2, upd_ne hbp, upd_ne b1, upd_ne hbp, upd_ne hbp]
          exact hb
/-- House(..), made where a desk stands or not -/
theorem make_house {H H1 : Hp} {x dx : Addr} (nx : H x = none) (nd : H dx = none) (k : ∀ b o, (upd (upd H dx (.own x)) x (.ins C dx [])) b = some o → b ≠ x → H1 b = some o) : Ex H H1 := fun b o e =>
  k b o (by rw [upd_ne (ne_of_none e nx), upd_ne (ne_of_none e nd)]; exact e) (ne_of_none e nx)
theorem free_made {H : Hp} {x dx l : Addr} (h : (upd (upd H dx (.own x)) x (.ins C dx [])) l = none) : H l = none := by
  by_cases z : l = x
  · subst z
    rw [upd_same] at h; cases h
  · rw [upd_ne z] at h
    by_cases z2 : l = dx
    · subst z2
      rw [upd_same] at h; cases h
    · rw [upd_ne z2] at h
      exact h
theorem scDI : FnScope ["self"] ["self"] (defScope (sM 0)) := ⟨rfl, rfl, rfl, by decide +kernel, rfl, by decide +kernel, by decide +kernel⟩
theorem c_DI (T : Txt K mg C D aS) (d : Nf K mg D "Desk" "Desk.__init__" 45 ["self"]) (cH : Mak P w K mg base 1 "House" C (spHI C) []) : Mak P w K mg base 3 "Desk" D (spDI C D) [] := by
  refine d.mak scDI (fun vs H Q E h => ?_) (fun f cdv A outer s H vs Q E hr h => ⟨_, pss_one (ps_fld (pv 0) (pe_mk cH hr (by decide) rfl (pa_cons pe_int (pa_cons pe_int pa_nil))) rfl), ?_⟩)
  · obtain ⟨p, dx, rfl, _⟩ := h
    rfl
  · obtain ⟨p, dx, rfl, hp, k⟩ := h
    intro x dx2 nx nd _
    refine ⟨x, dx2, 1, 0, rfl, upd_same, fun H1 la ll hh nl fa fl kp => ⟨rfl, ?_⟩⟩
    have e1 := make_house nx nd kp
    have px : p ≠ x := ne_of_none hp nx
    have fa0 := free_made fa
    have fl0 := free_made fl
    have hp1 := e1 _ _ hp
    have nla : la ≠ p := by
      obtain ⟨va, h1, _⟩ := hh.acts
      exact ne_of h1 hp1 (by intro z; cases z)
    have nll : ll ≠ p := by
      obtain ⟨va, h1, _⟩ := hh.looks
      exact ne_of h1 hp1 (by intro z; cases z)
    refine ⟨_, rfl, p, D, dx, [], rfl, hp1, T.clD, T.nH, (by show 0 < 1000; decide), ?_⟩
    refine k _ x la ll ⟨⟨dx, upd_same⟩, ⟨⟨hh.ins.choose, ?_⟩, ?_, ?_⟩, nl⟩ nx fa0 fl0 fun b o hb hbp => by rw [upd_ne hbp]; exact e1 _ _ hb
    · rw [upd_ne (Ne.symm px)]
      exact hh.ins.choose_spec
    · obtain ⟨va, h1, h2, _⟩ := hh.acts
      exact ⟨va, by rw [upd_ne nla]; exact h1, h2, fun i a z => by simp at z⟩
    · obtain ⟨va, h1, h2, _⟩ := hh.looks
      exact ⟨va, by rw [upd_ne nll]; exact h1, h2, fun i a z => by simp at z⟩
theorem scM1 : FnScope ["self", "some"] ["self", "some"] (defScope (sM 1)) := ⟨rfl, rfl, rfl, by decide +kernel, rfl, by decide +kernel, by decide +kernel⟩
theorem c_isSet (T : Txt K mg C D aS) (d : Mf K D "is_set" "Desk.is_set" 45 1 ["self", "some"]) : Met P w K mg base 1 D "is_set" (spIsSet C D) [] := by
  refine d.met scM1 (fun vs H Q E h => ?_) (fun f cdv A outer s H vs Q E hr h => ⟨_, pss_one (ps_ret (pe_cmpR op_lt (pv 1) (pe_op op_shl pe_int (pe_fld (pe_fld (pv 0) rfl) rfl)) (nomark _))), ?_⟩)
  · obtain ⟨d, h, la, ll, t, x, rfl, _⟩ := h
    rfl
  · obtain ⟨d, h, la, ll, t, x, rfl, hd, s5, q⟩ := h
    refine s_ret (ev_is (ev_op (ev_var rfl) (ev_is (ev_op ev_c (ev_states T hd.house (ev_house T hd (ev_var rfl))) (rv_I ⟨Int.natCast_nonneg _, by omega, by decide⟩)) (w := iv (2 ^ t.states)) ?_) (rv_iI rfl)) (congrArg V.bl (dec_lt _ _))) q
    show V.int (1 * 2 ^ ((t.states : Int)).toNat) = V.int ((2 ^ t.states : Nat) : Int)
    rw [Int.toNat_natCast, Int.one_mul]; norm_cast
theorem scM2 : FnScope ["self", "where"] ["self", "where"] (defScope (sM 2)) := ⟨rfl, rfl, rfl, by decide +kernel, rfl, by decide +kernel, by decide +kernel⟩
theorem c_somewhere (d : Mf K D "is_somewhere" "Desk.is_somewhere" 45 2 ["self", "where"]) (cS : Met P w K mg base 1 D "is_set" (spIsSet C D) []) : Met P w K mg base 2 D "is_somewhere" (spSomewhere C D) [] := by
  refine d.met scM2 (fun vs H Q E h => ?_) (fun f cdv A outer s H vs Q E hr h => ⟨_, pss_one (ps_ret (pe_and (pe_mt cS hr (by decide) (pv 0) (pa_cons (pv 1) pa_nil)) (pe_one (pe_cmpR op_gt (pv 1) pe_int (nomark _))))), ?_⟩)
  · obtain ⟨d, h, la, ll, t, x, rfl, _⟩ := h
    rfl
  · obtain ⟨d, h, la, ll, t, x, rfl, hd, s5, q⟩ := h
    obtain ⟨dx, hdx⟩ := hd.desk
    refine s_ret (ev_is (ev_andV (a := decide (x < 2 ^ t.states)) (b := decide (0 < x)) (ev_meth (ev_var rfl) hdx (dF_no (by decide +kernel)) (ea_cons (ev_var rfl) ea_nil) fun H1 e Q1 E1 q1 => ⟨d, h, la, ll, t, x, rfl, hd.ex e, s5, q1⟩) fun _ => ev_is (ev_op (ev_var rfl) ev_c (rv_I0 (i := (x : Int)) (j := 0))) (congrArg V.bl (dec_lt 0 x))) ?_) q
    congr 1
    show (decide (x < 2 ^ t.states) && decide (0 < x)) = (x != 0 && decide (x < 2 ^ t.states))
    rw [Bool.and_comm]
    congr 1
    by_cases z : x = 0
    · subst z; rfl
    · rw [decide_eq_true (show 0 < x by omega)]
      exact (bne_iff_ne.mpr z).symm
end
end Un
set_option Elab.async false
set_option autoImplicit false
set_option maxRecDepth 100000
set_option maxHeartbeats 4000000
namespace Un
open PySem PySem.Spec PyProof.Rows L2 Evl
open C8 (Cal Met Mak pe_c pe_mk pe_mt)
/-! ### what a store leaves of the house -/
def ActsAt (H : Hp) (la : Addr) (l : List Pn09.Act) : Prop := ∃ va : List V, H la = some (.lst va) ∧ va.length = l.length ∧ ∀ (i : Nat) (a : Pn09.Act), l[i]? = some a → ∃ v, va[i]? = some v ∧ ActAt H v a
def LooksAt (H : Hp) (la : Addr) (l : List Pn09.Look) : Prop := ∃ va : List V, H la = some (.lst va) ∧ va.length = l.length ∧ ∀ (i : Nat) (a : Pn09.Look), l[i]? = some a → ∃ v, va[i]? = some v ∧ LookAt H v a
section
variable {H : Hp} {a la : Addr} {o : HO}
theorem free_upd {p : Addr} (h : upd H a o p = none) : H p = none ∧ p ≠ a := by
  have n : p ≠ a := fun z => by
    subst z
    rw [upd_same] at h; cases h
  rw [upd_ne n] at h
  exact ⟨h, n⟩
/-- no object of the acts is at a -/
theorem ActsAt.off {l : List Pn09.Act} (n1 : la ≠ a) (n2 : ∀ p xs, H p = some (.tup xs) → p ≠ a) (n3 : ∀ p r, r ≠ [] → H p = some (.lst (ivs r)) → p ≠ a) (hg : ∀ x ∈ l, x.next ≠ []) (x : ActsAt H la l) : ActsAt (upd H a o) la l := by
  obtain ⟨va, h1, h2, h3⟩ := x
  refine ⟨va, by rw [upd_ne n1]; exact h1, h2, fun i b hb => ?_⟩
  obtain ⟨v, q1, p, r, q2, q3, q4⟩ := h3 i b hb
  have hn := hg b (List.mem_of_getElem? hb)
  exact ⟨v, q1, p, r, q2, by rw [upd_ne (n2 _ _ q3)]; exact q3, by rw [upd_ne (n3 _ _ (by simpa using hn) q4)]; exact q4⟩
theorem LooksAt.off {l : List Pn09.Look} (n1 : la ≠ a) (n2 : ∀ p xs, H p = some (.tup xs) → p ≠ a) (n3 : ∀ p r, r ≠ [] → H p = some (.lst (ivs r)) → p ≠ a) (hg : ∀ x ∈ l, x.sees ≠ []) (x : LooksAt H la l) : LooksAt (upd H a o) la l := by
  obtain ⟨va, h1, h2, h3⟩ := x
  refine ⟨va, by rw [upd_ne n1]; exact h1, h2, fun i b hb => ?_⟩
  obtain ⟨v, q1, p, r, q2, q3, q4⟩ := h3 i b hb
  exact ⟨v, q1, p, r, q2, by rw [upd_ne (n2 _ _ q3)]; exact q3, by rw [upd_ne (n3 _ _ (hg b (List.mem_of_getElem? hb)) q4)]; exact q4⟩
theorem refs_ne {va : List V} (hla : H la = some (.lst va)) (hv : ∀ v ∈ va, ∃ p, v = V.ref p) : ∀ p r, r ≠ [] → H p = some (.lst (ivs r)) → p ≠ la := fun p r hr hp => ne_of hp hla (by
  intro z
  injection z with z
  cases r with
  | nil => exact hr rfl
  | cons x r =>
    obtain ⟨q, hq⟩ := hv (iv x) (by rw [← z]; exact List.mem_cons_self)
    unfold iv at hq
    cases hq)
theorem ActsAt.refs {l : List Pn09.Act} {va : List V} (h : H la = some (.lst va)) (x : ActsAt H la l) : ∀ v ∈ va, ∃ p, v = V.ref p := fun v hv => by
  obtain ⟨va', h1, h2, h3⟩ := x
  rw [h] at h1
  cases h1
  obtain ⟨i, hi, e⟩ := List.getElem_of_mem hv
  obtain ⟨v', q1, p, _, q2, _⟩ := h3 i _ (List.getElem?_eq_getElem (by omega))
  rw [List.getElem?_eq_getElem hi, e] at q1
  cases q1
  exact ⟨p, q2⟩
theorem LooksAt.refs {l : List Pn09.Look} {va : List V} (h : H la = some (.lst va)) (x : LooksAt H la l) : ∀ v ∈ va, ∃ p, v = V.ref p := fun v hv => by
  obtain ⟨va', h1, h2, h3⟩ := x
  rw [h] at h1
  cases h1
  obtain ⟨i, hi, e⟩ := List.getElem_of_mem hv
  obtain ⟨v', q1, p, _, q2, _⟩ := h3 i _ (List.getElem?_eq_getElem (by omega))
  rw [List.getElem?_eq_getElem hi, e] at q1
  cases q1
  exact ⟨p, q2⟩
end
theorem good_next {t : Pn09.Task} (G : U.Good t) : ∀ x ∈ t.acts, x.next ≠ [] := fun x hx z => by
  have := (G.act x hx).2.2.1
  rw [z] at this
  have := G.s1
  simp at *
  omega
theorem good_sees {t : Pn09.Task} (G : U.Good t) : ∀ x ∈ t.looks, x.sees ≠ [] := fun x hx z => by
  have := (G.look x hx).2.2.1
  rw [z] at this
  have := G.s1
  simp at *
  omega
theorem desk_ne {C D : Addr} {H : Hp} {d h la ll : Addr} {t : Pn09.Task} (x : DeskAt C D H d h la ll t) : d ≠ h ∧ la ≠ d ∧ ll ≠ d ∧ la ≠ h ∧ ll ≠ h := by
  obtain ⟨dx, h1⟩ := x.desk
  obtain ⟨dy, h2⟩ := x.house.ins
  obtain ⟨va, h3, _⟩ := x.house.acts
  obtain ⟨vl, h4, _⟩ := x.house.looks
  refine ⟨ne_of h1 h2 ?_, ne_of h3 h1 (by intro z; cases z), ne_of h4 h1 (by intro z; cases z), ne_of h3 h2 (by intro z; cases z), ne_of h4 h2 (by intro z; cases z)⟩
  intro z
  injection z with _ _ z
  cases z
/-- a comprehension over rows -/
theorem lcRows {K : PySem.W.Frag} {σ : L2.St} {H : Hp} {te tl : TE} {j : Nat} {vs : List Nat} {a : Addr} (rows : List (List Nat)) (f : List Nat → V) (h : Ev tl σ H (.ref a)) (hx : RowsAt H a rows) (hz : rows.length ≤ 40000) (hw : ∀ x, wipe ((wipe σ vs).set j (some x)) vs = wipe σ vs)
    (he : ∀ (r : List Nat) (l : Addr) H1, Ex H H1 → r ∈ rows → H1 l = some (.lst (ivs r)) → Ev te ((wipe σ vs).set j (some (.ref l))) H1 (f r)) : EvL (tLc (iList K tl) (gName j) tYes te vs) σ H (rows.map f) := by
  obtain ⟨ws, h1, h2, h3⟩ := hx
  have q := el_lcL (K := K) (t := tYes) (te := te) (xs := ws) (j := j) (vs := vs) (fun i => (fun _ : List Nat => true) (rows.getD i [])) (fun i => f (rows.getD i [])) h (sq_of h1) (by omega) hw (fun _ _ _ _ _ => et_yes) (fun i x H1 e hi _ => ?_)
  · have g : given rows.length (fun i => (fun _ : List Nat => true) (rows.getD i [])) (fun i => f (rows.getD i [])) = rows.map f := (given_list [] (fun _ => true) f rows).trans (by rw [filter_yes])
    rw [h2, g] at q
    exact q
  · have hi' : i < rows.length := by
      have := (List.getElem?_eq_some_iff.mp hi).1
      omega
    obtain ⟨l, q1, q2⟩ := h3 i _ (List.getElem?_eq_getElem hi')
    rw [hi] at q1
    cases q1
    rw [List.getD_eq_getElem?_getD, List.getElem?_eq_getElem hi']
    exact he _ l H1 e (List.getElem_mem hi') (e _ _ q2)
/-- xs.append((x, a new list)) -/
theorem s_app2 {K : PySem.W.Frag} {σ : L2.St} {H : Hp} {ta t1 t2 : TE} {D : Ends} {l : Addr} {xs ys : List V} {x : V} (hl : H l = some (.lst xs)) (ha : Ev ta σ H (.ref l)) (h1 : Ev t1 σ H x) (h2 : EvL t2 σ H ys) (hz : xs.length < 100000)
    (k : ∀ (p q : Addr) H1, H p = none → H q = none → Ex H H1 → H1 p = some (.tup [x, .ref q]) → H1 q = some (.lst ys) → D.nx σ (upd H1 l (.lst (xs ++ [.ref p])))) : tDrop (tBM K "list" rAppend ta (tCons (tTup (tCons t1 (tCons t2 tNil))) tNil)) D σ H := ha H (Ex.refl H) _ fun H1 e1 =>
  ⟨Or.inl ⟨rfl, xs, sq_of (e1 _ _ hl)⟩, h1 H1 e1 _ fun H2 e2 => h2 H2 (e1.trans e2) _ fun q H3 fq e3 h3 => ⟨(by show 2 ≤ sizeLine; decide), fun p fp => ⟨l, xs, .ref p, rfl, rfl, by
    have e := ((e1.trans e2).trans e3)
    rw [upd_ne (ne_of_none (e _ _ hl) fp)]
    exact e _ _ hl, sz_lt hz, k p q _ (fresh_back ((e1.trans e2).trans e3) fp) (fresh_back (e1.trans e2) fq) (((e1.trans e2).trans e3).trans (Ex.new fp)) upd_same (by rw [upd_ne (ne_of_none h3 fp)]; exact h3)⟩⟩⟩
theorem upd_comm {H : Hp} {a b : Addr} {x y : HO} (n : a ≠ b) : upd (upd H a x) b y = upd (upd H b y) a x := by
  funext c
  by_cases z : c = b
  · subst z
    rw [upd_same, upd_ne (Ne.symm n), upd_same]
  · rw [upd_ne z]
    by_cases z2 : c = a
    · subst z2
      rw [upd_same, upd_same]
    · rw [upd_ne z2, upd_ne z2, upd_ne z]
theorem not4 {f d h la ll : Addr} (hf : f ∉ [d, h, la, ll]) : f ≠ d ∧ f ≠ h ∧ f ≠ la ∧ f ≠ ll := by
  simp only [List.mem_cons, List.not_mem_nil, or_false, not_or] at hf
  exact hf
/-- an act is put to the acts -/
theorem act_put {C D : Addr} {H4 : Hp} {d h la ll p q : Addr} {t : Pn09.Task} {va : List V} {c : Nat} {rows : List (List Nat)} (hd4 : DeskAt C D H4 d h la ll t) (G : U.Good t) (va4 : H4 la = some (.lst va)) (h4p : H4 p = some (.tup [iv c, .ref q])) (h4q : H4 q = some (.lst (ivs (rows.map Pn09.setOf)))) (hst : rows.length = t.states) :
    DeskAt C D (upd H4 la (.lst (va ++ [.ref p]))) d h la ll { t with acts := t.acts ++ [⟨c, rows⟩] } := by
  obtain ⟨n1, n2, n3, n4, n5⟩ := desk_ne hd4
  have rf := ActsAt.refs va4 hd4.house.acts
  have tup_ne : ∀ p xs, H4 p = some (.tup xs) → p ≠ la := fun p xs hp => ne_of hp va4 (by intro z; cases z)
  have lst_ne := refs_ne va4 rf
  obtain ⟨dxd, hdd⟩ := hd4.desk
  obtain ⟨dx, hh⟩ := hd4.house.ins
  obtain ⟨va', va1, va2, va3⟩ := hd4.house.acts
  rw [va4] at va1
  cases va1
  refine ⟨⟨dxd, by rw [upd_ne (Ne.symm n2)]; exact hdd⟩, ⟨⟨dx, by rw [upd_ne (Ne.symm n4)]; exact hh⟩, ⟨va ++ [.ref p], upd_same, by rw [List.length_append, va2, List.length_append]; rfl, fun i b hb => ?_⟩, LooksAt.off (Ne.symm hd4.ne) tup_ne lst_ne (show ∀ x ∈ t.looks, x.sees ≠ [] from good_sees G) hd4.house.looks⟩, hd4.ne⟩
  have hb' : (t.acts ++ [⟨c, rows⟩])[i]? = some b := hb
  by_cases hi : i < t.acts.length
  · rw [List.getElem?_append_left hi] at hb'
    obtain ⟨v, q1, p', l', q2, q3, q4⟩ := va3 i b hb'
    refine ⟨v, by rw [List.getElem?_append_left (by omega)]; exact q1, p', l', q2, ?_, ?_⟩
    · rw [upd_ne (tup_ne _ _ q3)]
      exact q3
    · rw [upd_ne (lst_ne _ _ (by simpa using good_next G b (List.mem_of_getElem? hb')) q4)]
      exact q4
  · have ei : i = t.acts.length := by
      have := (List.getElem?_eq_some_iff.mp hb').1
      rw [List.length_append, List.length_singleton] at this
      omega
    subst ei
    rw [List.getElem?_append_right (Nat.le_refl _), Nat.sub_self] at hb'
    have eb : (⟨c, rows⟩ : Pn09.Act) = b := Option.some.inj hb'
    subst eb
    refine ⟨.ref p, by rw [List.getElem?_append_right (by omega), va2, Nat.sub_self]; rfl, p, q, rfl, ?_, ?_⟩
    · rw [upd_ne (tup_ne _ _ h4p)]
      exact h4p
    · have hne : rows.map Pn09.setOf ≠ [] := fun z => by
        have := congrArg List.length z
        rw [List.length_map, hst, List.length_nil] at this
        have := G.s1
        omega
      rw [upd_ne (lst_ne _ _ hne h4q)]
      exact h4q
/-- a look is put to the looks -/
theorem look_put {C D : Addr} {H4 : Hp} {d h la ll p q : Addr} {t : Pn09.Task} {va : List V} {c : Nat} {l : List Nat} (hd4 : DeskAt C D H4 d h la ll t) (G : U.Good t) (va4 : H4 ll = some (.lst va)) (h4p : H4 p = some (.tup [iv c, .ref q])) (h4q : H4 q = some (.lst (ivs l))) (hst : l.length = t.states) :
    DeskAt C D (upd H4 ll (.lst (va ++ [.ref p]))) d h la ll { t with looks := t.looks ++ [⟨c, l⟩] } := by
  obtain ⟨n1, n2, n3, n4, n5⟩ := desk_ne hd4
  have rf := LooksAt.refs va4 hd4.house.looks
  have tup_ne : ∀ p xs, H4 p = some (.tup xs) → p ≠ ll := fun p xs hp => ne_of hp va4 (by intro z; cases z)
  have lst_ne := refs_ne va4 rf
  obtain ⟨dxd, hdd⟩ := hd4.desk
  obtain ⟨dx, hh⟩ := hd4.house.ins
  obtain ⟨va', va1, va2, va3⟩ := hd4.house.looks
  rw [va4] at va1
  cases va1
  refine ⟨⟨dxd, by rw [upd_ne (Ne.symm n3)]; exact hdd⟩, ⟨⟨dx, by rw [upd_ne (Ne.symm n5)]; exact hh⟩, ActsAt.off hd4.ne tup_ne lst_ne (show ∀ x ∈ t.acts, x.next ≠ [] from good_next G) hd4.house.acts, ⟨va ++ [.ref p], upd_same, by rw [List.length_append, va2, List.length_append]; rfl, fun i b hb => ?_⟩⟩, hd4.ne⟩
  have hb' : (t.looks ++ [⟨c, l⟩])[i]? = some b := hb
  by_cases hi : i < t.looks.length
  · rw [List.getElem?_append_left hi] at hb'
    obtain ⟨v, q1, p', l', q2, q3, q4⟩ := va3 i b hb'
    refine ⟨v, by rw [List.getElem?_append_left (by omega)]; exact q1, p', l', q2, ?_, ?_⟩
    · rw [upd_ne (tup_ne _ _ q3)]
      exact q3
    · rw [upd_ne (lst_ne _ _ (good_sees G b (List.mem_of_getElem? hb')) q4)]
      exact q4
  · have ei : i = t.looks.length := by
      have := (List.getElem?_eq_some_iff.mp hb').1
      rw [List.length_append, List.length_singleton] at this
      omega
    subst ei
    rw [List.getElem?_append_right (Nat.le_refl _), Nat.sub_self] at hb'
    have eb : (⟨c, l⟩ : Pn09.Look) = b := Option.some.inj hb'
    subst eb
    refine ⟨.ref p, by rw [List.getElem?_append_right (by omega), va2, Nat.sub_self]; rfl, p, q, rfl, ?_, ?_⟩
    · rw [upd_ne (tup_ne _ _ h4p)]
      exact h4p
    · have hne : l ≠ [] := fun z => by
        rw [z, List.length_nil] at hst
        have := G.s1
        omega
      rw [upd_ne (lst_ne _ _ hne h4q)]
      exact h4q
/-- a goal is put -/
theorem goal_put {C D : Addr} {H2 : Hp} {d h la ll dx : Addr} {t : Pn09.Task} {g : Nat} (hd : DeskAt C D H2 d h la ll t) (G : U.Good t) (hh2 : H2 h = some (.ins C dx (hF t la ll))) : DeskAt C D (upd H2 h (.ins C dx (putF "wanted" (iv g) (hF t la ll)))) d h la ll { t with goal := g } := by
  obtain ⟨dxd, hdd⟩ := hd.desk
  obtain ⟨n1, n2, n3, n4, n5⟩ := desk_ne hd
  have ins_ne : ∀ p xs, H2 p = some (.tup xs) → p ≠ h := fun p xs hp => ne_of hp hh2 (by intro z; cases z)
  have ins_ne2 : ∀ p r, r ≠ [] → H2 p = some (.lst (ivs r)) → p ≠ h := fun p r _ hp => ne_of hp hh2 (by intro z; cases z)
  refine ⟨⟨dxd, by rw [upd_ne n1]; exact hdd⟩, ⟨⟨dx, ?_⟩, ActsAt.off n4 ins_ne ins_ne2 (show ∀ x ∈ t.acts, x.next ≠ [] from good_next G) hd.house.acts, LooksAt.off n5 ins_ne ins_ne2 (show ∀ x ∈ t.looks, x.sees ≠ [] from good_sees G) hd.house.looks⟩, hd.ne⟩
  rw [upd_same]
  refine congrArg (fun q => some (HO.ins C dx q)) ?_
  show putF "wanted" (iv g) (("states", iv t.states) :: ("wanted", iv t.goal) :: _) = _
  rw [put_past (by decide +kernel), put_here]
  rfl
/-! ### the steps, by their tests -/
theorem st_begins {t : Pn09.Task} {n g : Nat} : Pn09.step ⟨t⟩ (.begins n g) = if (!(decide (1 ≤ n) && decide (n ≤ 5)) || decide (2 ^ n ≤ g)) = true then (⟨t⟩, Pn09.ok (-1)) else (⟨⟨n, g, [], []⟩⟩, Pn09.ok 0) := by
  show (if n = 0 ∨ 5 < n ∨ 2 ^ n ≤ g then _ else _) = _
  by_cases h : n = 0 ∨ 5 < n ∨ 2 ^ n ≤ g
  · rw [if_pos h, if_pos]
    rw [Bool.or_eq_true, Bool.not_eq_true', Bool.and_eq_false_iff, decide_eq_false_iff_not, decide_eq_false_iff_not, decide_eq_true_iff]
    rcases h with h | h | h
    · left; left; omega
    · left; right; omega
    · right; exact h
  · rw [if_neg h, if_neg]
    intro z
    rw [Bool.or_eq_true, Bool.not_eq_true', Bool.and_eq_false_iff, decide_eq_false_iff_not, decide_eq_false_iff_not, decide_eq_true_iff] at z
    apply h
    rcases z with (z | z) | z
    · left; omega
    · right; left; omega
    · right; right; exact z
section
variable {P : Program} {w : World} {K : PySem.W.Frag} {mg : Str → Option Value} {base : Heap} {C D aS : Addr}
/-- an answer of one number, nothing changed -/
theorem ret_one {σ : L2.St} {H H1 : Hp} {d h la ll : Addr} {t t' : Pn09.Task} {v : Int} {Q : VK} {e : Ends} (he : e.rt = Q) (x : DeskAt C D H d h la ll t) (e1 : Ex H H1) (k : After C D H d h la ll t t' (Pn09Neutral.out (Pn09.ok v)) Q) (et : t' = t) : tRet (tLst (tCons (tC (.int v)) tNil)) e σ H1 := by
  refine s_retL (el_lst (ea_cons ev_c ea_nil) one_le) fun p H2 fp e2 h2 => ?_
  rw [he]
  exact (After.pure x k et (xs := [V.int v]) rfl) p H2 (fresh_back e1 fp) (e1.trans e2) h2
theorem scM3 : FnScope ["self", "states", "wanted"] ["self", "states", "wanted"] (defScope (sM 3)) := ⟨rfl, rfl, rfl, by decide +kernel, rfl, by decide +kernel, by decide +kernel⟩
theorem c_begins (T : Txt K mg C D aS) (d : Mf K D "begins" "Desk.begins" 45 3 ["self", "states", "wanted"]) (cH : Mak P w K mg base 1 "House" C (spHI C) []) : Met P w K mg base 3 D "begins" (spBegins C D) [] := by
  refine d.met scM3 (fun vs H Q E h => ?_) (fun f cdv A outer s H vs Q E hr h => ⟨_,
    pss_cons (ps_if (PW.pt (pw_or (pt_not (pt_chain op_le op_le pe_int (pv 1) (pe_num T.cMS rfl))) (pw_or1 (pt_cmpR op_ge (pv 2) (pe_op op_shl pe_int (pv 1)) (nomark _))))) (pss_one (ps_ret (pe_lst (pa_cons (pe_num T.cW rfl) pa_nil)))) pss_nil)
    (pss_cons (ps_fld (pv 0) (pe_mk cH hr (by decide) rfl (pa_cons (pv 1) (pa_cons (pv 2) pa_nil))) rfl)
    (pss_one (ps_ret (pe_lst (pa_cons pe_int pa_nil))))), ?_⟩)
  · obtain ⟨d, h, la, ll, t, n, g, rfl, _⟩ := h
    rfl
  · obtain ⟨d, h, la, ll, t, n, g, rfl, hd, k⟩ := h
    unfold Stp at k
    rw [st_begins] at k
    refine q_when (b := !(decide (1 ≤ n) && decide (n ≤ 5)) || decide (2 ^ n ≤ g)) (et_or (et_not (et_is (et_test (ev_chain (y := iv n) ev_c (ev_var rfl) (rv_I0 (i := 1) (j := (n : Int))) ev_c (rv_I0 (i := (n : Int)) (j := 5)))) ?_)) (fun hb => et_is (et_test (ev_op (y := iv (2 ^ n)) (ev_var rfl) (ev_is (ev_op (y := iv n) ev_c (ev_var rfl) (rv_I ⟨Int.natCast_nonneg _, ?_, by decide⟩)) ?_) (rv_iI rfl))) (dec_le _ _))) (fun hb H1 e1 => ?_) (fun hb H1 e1 => ?_)
    · show (decide ((1 : Int) ≤ (n : Int)) && decide ((n : Int) ≤ 5)) = _
      rw [show decide ((1 : Int) ≤ (n : Int)) = decide (1 ≤ n) from dec_le 1 n, show decide ((n : Int) ≤ 5) = decide (n ≤ 5) from dec_le n 5]
    · rw [Bool.not_eq_false', Bool.and_eq_true, decide_eq_true_iff, decide_eq_true_iff] at hb
      omega
    · show V.int (1 * 2 ^ ((n : Int)).toNat) = V.int ((2 ^ n : Nat) : Int)
      rw [Int.toNat_natCast, Int.one_mul]; norm_cast
    · rw [if_pos hb] at k
      exact ret_one rfl hd e1 k rfl
    · rw [if_neg (by rw [hb]; exact Bool.false_ne_true)] at k
      refine ⟨_, rfl, _, rfl, fun x dx nx nd _ => ?_⟩
      refine ⟨x, dx, n, g, rfl, upd_same, fun H2 la' ll' hh nl fa fl kp => ⟨rfl, ?_⟩⟩
      have e2 := make_house nx nd kp
      have e02 := e1.trans e2
      obtain ⟨dxd, hdd⟩ := hd.desk
      have hdd2 := e02 _ _ hdd
      have dx_ne : d ≠ x := ne_of_none (e1 _ _ hdd) nx
      have fa0 := fresh_back e1 (free_made fa)
      have fl0 := fresh_back e1 (free_made fl)
      have nx0 := fresh_back e1 nx
      refine ⟨_, rfl, d, D, dxd, dF h, rfl, hdd2, T.clD, T.nH, (by show 1 < 1000; decide), ?_⟩
      show tRet (tLst (tCons (tC (.int 0)) tNil)) { nx := _, rt := Q } (start ["self", "states", "wanted"] [.ref d, iv n, iv g]) _
      refine s_retL (el_lst (ea_cons ev_c ea_nil) one_le) fun p H4 fp e4 h4 => ?_
      obtain ⟨fp2, _⟩ := free_upd fp
      have kd : ∀ {q : Addr} {u : HO}, H2 q = some u → q ≠ d → H4 q = some u := fun hq hn => e4 _ _ (by rw [upd_ne hn]; exact hq)
      have g1 : H4 d = some (.ins D dxd (dF x)) := e4 _ _ upd_same
      have g2 := kd hh.ins.choose_spec (Ne.symm dx_ne)
      obtain ⟨va, a1, a2, _⟩ := hh.acts
      obtain ⟨vl, l1, l2, _⟩ := hh.looks
      have g3 := kd a1 (ne_of a1 hdd2 (by intro z; cases z))
      have g4 := kd l1 (ne_of l1 hdd2 (by intro z; cases z))
      refine k H4 x la' ll' p ⟨⟨dxd, g1⟩, ⟨⟨_, g2⟩, ⟨va, g3, a2, fun i a z => by simp at z⟩, ⟨vl, g4, l2, fun i a z => by simp at z⟩⟩, nl⟩ (fun b o hb hbn => ?_) (fun b hb => ?_) (fun f hf hfn _ o => ?_) (fresh_back e02 fp2) h4
      · exact kd (e02 _ _ hb) (fun z => hbn (by rw [z]; exact List.mem_cons_self))
      · right
        rcases List.mem_cons.mp hb with z | hb
        · rw [z]; exact nx0
        · rcases List.mem_cons.mp hb with z | hb
          · rw [z]; exact fa0
          · rw [List.mem_singleton.mp hb]; exact fl0
      · obtain ⟨f1, _⟩ := not4 hfn
        have nn : ∀ {q : Addr}, H q = none → q ≠ f := fun hq z => hf (by rw [← z]; exact hq)
        exact ⟨⟨dxd, by rw [upd_ne (Ne.symm f1)]; exact g1⟩, ⟨⟨_, by rw [upd_ne (nn nx0)]; exact g2⟩, ⟨va, by rw [upd_ne (nn fa0)]; exact g3, a2, fun i a z => by simp at z⟩, ⟨vl, by rw [upd_ne (nn fl0)]; exact g4, l2, fun i a z => by simp at z⟩⟩, nl⟩
theorem scM6 : FnScope ["self", "wanted"] ["self", "wanted"] (defScope (sM 6)) := ⟨rfl, rfl, rfl, by decide +kernel, rfl, by decide +kernel, by decide +kernel⟩
theorem c_goal (T : Txt K mg C D aS) (d : Mf K D "goal" "Desk.goal" 45 6 ["self", "wanted"]) (cS : Met P w K mg base 1 D "is_set" (spIsSet C D) []) : Met P w K mg base 2 D "goal" (spGoal C D) [] := by
  refine d.met scM6 (fun vs H Q E h => ?_) (fun f cdv A outer s H vs Q E hr h => ⟨_,
    pss_cons (ps_if (pt_not (pt_val (pe_mt cS hr (by decide) (pv 0) (pa_cons (pv 1) pa_nil)))) (pss_one (ps_ret (pe_lst (pa_cons (pe_num T.cW rfl) pa_nil)))) pss_nil)
    (pss_cons (ps_fld (pe_fld (pv 0) rfl) (pv 1) rfl)
    (pss_one (ps_ret (pe_lst (pa_cons pe_int pa_nil))))), ?_⟩)
  · obtain ⟨d, h, la, ll, t, g, rfl, _⟩ := h
    rfl
  · obtain ⟨d, h, la, ll, t, g, rfl, hd, G, k⟩ := h
    obtain ⟨dxd, hdd⟩ := hd.desk
    have hs : Pn09.step ⟨t⟩ (.goal g) = if 2 ^ t.states ≤ g then (⟨t⟩, Pn09.ok (-1)) else (⟨{ t with goal := g }⟩, Pn09.ok 0) := rfl
    unfold Stp at k
    rw [hs] at k
    refine q_when (b := !decide (g < 2 ^ t.states)) (et_not (et_B (ev_meth (ev_var rfl) hdd (dF_no (by decide +kernel)) (ea_cons (ev_var rfl) ea_nil) fun H1 e Q1 E1 q1 => ⟨d, h, la, ll, t, g, rfl, hd.ex e, G.s5, q1⟩))) (fun hb H1 e1 => ?_) (fun hb H1 e1 => ?_)
    · have hg : ¬ g < 2 ^ t.states := fun z => by
        rw [decide_eq_true z] at hb
        cases hb
      rw [if_pos (Nat.le_of_not_lt hg)] at k
      exact ret_one rfl hd e1 k rfl
    · have hg : g < 2 ^ t.states := by
        apply Classical.byContradiction
        intro z
        rw [decide_eq_false z] at hb
        cases hb
      rw [if_neg (Nat.not_le_of_lt hg)] at k
      obtain ⟨n1, n2, n3, n4, n5⟩ := desk_ne hd
      obtain ⟨dx, hh⟩ := hd.house.ins
      have hh1 := e1 _ _ hh
      refine ⟨_, rfl, ev_house T (hd.ex e1) (ev_var rfl) H1 (Ex.refl _) _ fun H2 e2 => ⟨h, C, dx, hF t la ll, rfl, (e1.trans e2) _ _ hh, T.clC, T.nW, (by show 4 < 1000; decide), ?_⟩⟩
      have e02 := e1.trans e2
      have hh2 := e02 _ _ hh
      show tRet (tLst (tCons (tC (.int 0)) tNil)) { nx := _, rt := Q } (start ["self", "wanted"] [.ref d, iv g]) _
      refine s_retL (el_lst (ea_cons ev_c ea_nil) one_le) fun p H4 fp e4 h4 => ?_
      obtain ⟨fp2, _⟩ := free_upd fp
      refine k H4 h la ll p ((goal_put (hd.ex e02) G hh2).ex e4) (fun b o hb hbn => ?_) (fun b hb => .inl hb) (fun f hf hfn r o => ?_) (fresh_back e02 fp2) h4
      · exact e4 _ _ (by rw [upd_ne (fun z => hbn (by rw [z]; exact List.mem_cons_of_mem _ List.mem_cons_self))]; exact e02 _ _ hb)
      · obtain ⟨_, f2, _⟩ := not4 hfn
        have z := goal_put (g := g) ((r.ex e02) o) G (by rw [upd_ne (Ne.symm f2)]; exact hh2)
        rw [upd_comm f2] at z
        exact z.ex (ex_upd e4)
theorem scM4 : FnScope ["self", "cost", "leads", "row"] ["self", "cost", "leads"] (defScope (sM 4)) := ⟨rfl, rfl, rfl, by decide +kernel, rfl, by decide +kernel, by decide +kernel⟩
theorem c_addAct (T : Txt K mg C D aS) (d : Mf K D "add_act" "Desk.add_act" 45 4 ["self", "cost", "leads"]) (cC : Cal P w K mg base 1 "is_cost" spIsCost []) (cR : Cal P w K mg base 1 "is_row" (spIsRow K) []) (cS : Cal P w K mg base 1 "set_of" (spSetOf K) []) : Met P w K mg base 2 D "add_act" (spAddAct C D) [] := by
  refine d.met scM4 (fun vs H Q E h => ?_) (fun f cdv A outer s H vs Q E hr h => ⟨_,
    pss_cons (ps_if (pt_cmpR op_eq (pe_callB call_len_seq (by rfl) T.bLen PySem.boot_len (pa_cons (pe_fld (pe_fld (pv 0) rfl) rfl) pa_nil)) (pe_num T.cMA rfl) (nomark _)) (pss_one (ps_ret (pe_lst (pa_cons (pe_num T.cTM rfl) pa_nil)))) pss_nil)
    (pss_cons (ps_if (PW.pt (pw_or (pt_not (pt_val (pe_c cC hr (by decide) rfl (pa_cons (pv 1) pa_nil)))) (pw_or1 (pt_cmpR op_ne (pe_callB call_len_seq (by rfl) T.bLen PySem.boot_len (pa_cons (pv 2) pa_nil)) (pe_fld (pe_fld (pv 0) rfl) rfl) (nomark _))))) (pss_one (ps_ret (pe_lst (pa_cons (pe_num T.cW rfl) pa_nil)))) pss_nil)
    (pss_cons (ps_if (pt_not (pt_val (pe_callB (cr_all rfl) (by rfl) T.bAll boot_all (pa_cons (pe_lc (own := [("row", 3)]) (g := gName 3) (tt := tYes) rfl scM4.nd (pi_list (pv 2)) (blkOk_by (N := ["self", "cost", "leads", "row"]) (sc := defScope (sM 4)) (by decide +kernel)) (fun _ _ _ _ _ => pg_name (i := 3) scM4.nd rfl (Or.inl rfl)) (fun _ _ _ _ _ => pts_nil)
        (te := tCall (spIsRow K) [] E0 (tCons (tFld K (tFld K (tVar 0) "house") "states") (tCons (tVar 3) tNil))) (fun _ _ _ _ _ => pe_c cR hr (by decide) rfl (pa_cons (pe_fld (pe_fld (pv 0) rfl) rfl) (pa_cons (pv 3) pa_nil)))) pa_nil)))) (pss_one (ps_ret (pe_lst (pa_cons (pe_num T.cW rfl) pa_nil)))) pss_nil)
    (pss_cons (ps_expr (pe_bm PySem.F.plainAttrs_list PySem.F.slot_list_append PySem.F.type_list_append mt_append (pe_fld (pe_fld (pv 0) rfl) rfl) (pa_cons (pe_tup (pa_cons (pv 1) (pa_cons (pe_lc (own := [("row", 3)]) (g := gName 3) (tt := tYes) rfl scM4.nd (pi_list (pv 2)) (blkOk_by (N := ["self", "cost", "leads", "row"]) (sc := defScope (sM 4)) (by decide +kernel)) (fun _ _ _ _ _ => pg_name (i := 3) scM4.nd rfl (Or.inl rfl)) (fun _ _ _ _ _ => pts_nil)
        (fun _ _ _ _ _ => pe_c cS hr (by decide) rfl (pa_cons (pv 3) pa_nil))) pa_nil))) pa_nil)))
    (pss_one (ps_ret (pe_lst (pa_cons (pe_op op_sub (pe_callB call_len_seq (by rfl) T.bLen PySem.boot_len (pa_cons (pe_fld (pe_fld (pv 0) rfl) rfl) pa_nil)) pe_int) pa_nil))))))), ?_⟩)
  · obtain ⟨d, h, la, ll, a, t, c, rows, rfl, _⟩ := h
    rfl
  · obtain ⟨d, h, la, ll, a, t, c, rows, rfl, hd, G, hrows, hlen, hlens, k⟩ := h
    have hs : Pn09.step ⟨t⟩ (.act c rows) = if t.acts.length = 6 then (⟨t⟩, Pn09.ok (-7)) else if c = 0 ∨ 1000 < c ∨ rows.length ≠ t.states ∨ (rows.all fun r => Pn09.rising r && r.all fun s => decide (s < t.states)) = false then (⟨t⟩, Pn09.ok (-1)) else (⟨{ t with acts := t.acts ++ [⟨c, rows⟩] }⟩, Pn09.ok (t.acts.length : Nat)) := rfl
    unfold Stp at k
    rw [hs] at k
    have evh : ∀ (H1 : Hp) (σ : L2.St) (te : TE), Ex H H1 → Ev te σ H1 (.ref d) → Ev (tFld K te "house") σ H1 (.ref h) := fun H1 σ te e ht => ev_house T (hd.ex e) ht
    refine q_when (b := decide (t.acts.length = 6)) (et_is (et_test (ev_op (ev_lenActs T hd.house (evh _ _ _ (Ex.refl _) (ev_var rfl))) ev_c (rv_eq rfl))) (dec_eqi _ 6)) (fun hb H1 e1 => ?_) (fun hb H1 e1 => ?_)
    · rw [if_pos (of_decide_eq_true hb)] at k
      exact ret_one rfl hd e1 k rfl
    · rw [if_neg (of_decide_eq_false hb)] at k
      obtain ⟨ws, hw1, hw2, hw3⟩ := id hrows
      refine q_when (b := !(decide (1 ≤ c) && decide (c ≤ 1000)) || !decide (rows.length = t.states)) (et_or (et_not (et_B (ev_callV (ea_cons (ev_var rfl) ea_nil) fun H2 e2 Q2 E2 q2 => ⟨c, rfl, q2⟩))) (fun _ => et_is (et_test (ev_op (x := iv rows.length) (ev_is (ev_len (ev_var rfl) (sq_of (e1 _ _ hw1))) (by rw [hw2]; rfl)) (ev_states T (hd.ex e1).house (evh _ _ _ e1 (ev_var rfl))) (rv_ne rfl))) (by rw [dec_iv]))) (fun hb2 H2 e2 => ?_) (fun hb2 H2 e2 => ?_)
      · have : c = 0 ∨ 1000 < c ∨ rows.length ≠ t.states ∨ (rows.all fun r => Pn09.rising r && r.all fun s => decide (s < t.states)) = false := by
          rw [Bool.or_eq_true, Bool.not_eq_true', Bool.and_eq_false_iff, decide_eq_false_iff_not, decide_eq_false_iff_not, Bool.not_eq_true', decide_eq_false_iff_not] at hb2
          rcases hb2 with (z | z) | z
          · left; omega
          · right; left; omega
          · right; right; left; exact z
        rw [if_pos this] at k
        exact ret_one rfl hd (e1.trans e2) k rfl
      · rw [Bool.or_eq_false_iff, Bool.not_eq_false', Bool.and_eq_true, decide_eq_true_iff, decide_eq_true_iff, Bool.not_eq_false', decide_eq_true_iff] at hb2
        obtain ⟨⟨hc1, hc2⟩, hst⟩ := hb2
        have e02 := e1.trans e2
        refine q_when (b := !(rows.all fun r => Pn09.rising r && r.all fun s => decide (s < t.states))) (et_not (et_B (ev_cbL (lcRows rows (fun r => V.bl ((r.all fun s => decide (s < t.states)) && Pn09.rising r)) (ev_var rfl) (hrows.ex e02) (by omega) (fun _ => rfl) (fun r l H3 e3 hr3 hl3 => ev_callV (ea_cons (ev_states T (hd.ex (e02.trans e3)).house (evh _ _ _ (e02.trans e3) (ev_var rfl))) (ea_cons (ev_var rfl) ea_nil)) fun H4 e4 Q4 E4 q4 => ⟨t.states, l, r, rfl, sq_of (e4 _ _ hl3), hlens r hr3, q4⟩)) (fun p H3 e3 h3 Q3 q3 => ?_)))) (fun hb3 H3 e3 => ?_) (fun hb3 H3 e3 => ?_)
        · refine ⟨p, rows.map fun r => (r.all fun s => decide (s < t.states)) && Pn09.rising r, rfl, sq_of (by rw [h3, List.map_map]; rfl), ?_⟩
          rw [List.all_map]
          have : (rows.all fun r => Pn09.rising r && r.all fun s => decide (s < t.states)) = rows.all (id ∘ fun r => (r.all fun s => decide (s < t.states)) && Pn09.rising r) := by
            congr 1
            funext r
            exact Bool.and_comm _ _
          rw [← this]
          exact q3
        · rw [if_pos (by right; right; right; simpa using hb3)] at k
          exact ret_one rfl hd (e02.trans e3) k rfl
        · have hall : (rows.all fun r => Pn09.rising r && r.all fun s => decide (s < t.states)) = true := by simpa using hb3
          rw [if_neg (by
            rintro (z | z | z | z)
            · omega
            · omega
            · exact z hst
            · rw [hall] at z; cases z)] at k
          have hrow : ∀ r ∈ rows, Pn09.rising r = true ∧ ∀ s ∈ r, s < t.states := fun r hr => by
            have := List.all_eq_true.mp hall r hr
            rw [Bool.and_eq_true] at this
            exact ⟨this.1, fun s hs => of_decide_eq_true (List.all_eq_true.mp this.2 s hs)⟩
          have e03 := e02.trans e3
          have hd3 := hd.ex e03
          obtain ⟨va, va1, va2, va3⟩ := hd3.house.acts
          have s5 := G.s5
          have a6 := G.a6
          refine s_app2 (K := K) (ys := ivs (rows.map Pn09.setOf)) (x := iv c) (D := { nx := _, rt := Q }) va1 (ev_acts T hd3.house (evh _ _ _ e03 (ev_var rfl))) (ev_var rfl) ?_ (by omega) fun p q H4 fp fq e4 h4p h4q => ?_
          · have L := lcRows (K := K) (σ := start ["self", "cost", "leads", "row"] [.ref d, iv c, .ref a]) (H := H3) (j := 3) (vs := [3]) (tl := tVar 2) (te := tCall (spSetOf K) [] E0 (tCons (tVar 3) tNil)) (a := a) rows (fun r => iv (Pn09.setOf r)) (ev_var rfl) (hrows.ex e03) (by omega) (fun _ => rfl) (fun r l H5 e5 hr5 hl5 => ev_callV (ea_cons (ev_var rfl) ea_nil) fun H6 e6 Q6 E6 q6 => ⟨l, r, rfl, sq_of (e6 _ _ hl5), U.rising_nodup (hrow r hr5).1, fun s hs => by have := (hrow r hr5).2 s hs; omega, ?_, q6⟩)
            · unfold ivs
              rw [List.map_map]
              exact L
            · have : r.length ≤ t.states := U.nodup_le (U.rising_nodup (hrow r hr5).1) (hrow r hr5).2
              omega
          · obtain ⟨n1, n2, n3, n4, n5⟩ := desk_ne hd
            have e04 := e03.trans e4
            have va4 := e4 _ _ va1
            have hd4 := hd3.ex e4
            have hD := act_put hd4 G va4 h4p h4q hst
            refine s_retL (xs := [V.int ((t.acts.length : Nat) : Int)]) (el_lst (ea_cons (ev_is (ev_op (ev_lenActs T hD.house (ev_house T hD (ev_var rfl))) ev_c (rv_I0 (j := 1))) ?_) ea_nil) one_le) fun p2 H5 fp2 e5 h5 => ?_
            · congr 1
              show (((t.acts ++ [(⟨c, rows⟩ : Pn09.Act)]).length : Nat) : Int) - 1 = _
              rw [List.length_append, List.length_singleton]
              omega
            · obtain ⟨fp3, _⟩ := free_upd fp2
              refine k H5 h la ll p2 (hD.ex e5) (fun b o hb hbn => ?_) (fun b hb => .inl hb) (fun f hf hfn r o => ?_) (fresh_back e04 fp3) h5
              · exact e5 _ _ (by rw [upd_ne (fun z => hbn (by rw [z]; exact List.mem_cons_of_mem _ (List.mem_cons_of_mem _ List.mem_cons_self)))]; exact e04 _ _ hb)
              · obtain ⟨_, _, f3, _⟩ := not4 hfn
                have nn : ∀ {q : Addr}, H q = none → q ≠ f := fun hq z => hf (by rw [← z]; exact hq)
                have z := act_put ((r.ex e04) o) G (by rw [upd_ne (Ne.symm f3)]; exact va4) (by rw [upd_ne (nn (fresh_back e03 fp))]; exact h4p) (by rw [upd_ne (nn (fresh_back e03 fq))]; exact h4q) hst
                rw [upd_comm f3] at z
                exact z.ex (ex_upd e5)
end
end Un
set_option Elab.async false
set_option autoImplicit false
set_option maxRecDepth 100000
set_option maxHeartbeats 4000000
namespace Un
open PySem PySem.Spec PyProof.Rows L2 Evl
open C8 (Cal Met Mak pe_c pe_mk pe_mt)
theorem nats_int (l : List Nat) : (l.map fun n : Nat => (n : Int)).map V.int = ivs l := (ivs_ints l).symm
section
variable {P : Program} {w : World} {K : PySem.W.Frag} {mg : Str → Option Value} {base : Heap} {C D aS : Addr}
theorem scM5 : FnScope ["self", "cost", "seen", "sight"] ["self", "cost", "seen"] (defScope (sM 5)) := ⟨rfl, rfl, rfl, by decide +kernel, rfl, by decide +kernel, by decide +kernel⟩
theorem c_addLook (T : Txt K mg C D aS) (d : Mf K D "add_look" "Desk.add_look" 45 5 ["self", "cost", "seen"]) (cC : Cal P w K mg base 1 "is_cost" spIsCost []) : Met P w K mg base 2 D "add_look" (spAddLook K C D) [] := by
  refine d.met scM5 (fun vs H Q E h => ?_) (fun f cdv A outer s H vs Q E hr h => ⟨_,
    pss_cons (ps_if (pt_cmpR op_eq (pe_callB call_len_seq (by rfl) T.bLen PySem.boot_len (pa_cons (pe_fld (pe_fld (pv 0) rfl) rfl) pa_nil)) (pe_num T.cML rfl) (nomark _)) (pss_one (ps_ret (pe_lst (pa_cons (pe_num T.cTM rfl) pa_nil)))) pss_nil)
    (pss_cons (ps_if (PW.pt (pw_or (pt_not (pt_val (pe_c cC hr (by decide) rfl (pa_cons (pv 1) pa_nil)))) (pw_or (pt_cmpR op_ne (pe_callB call_len_seq (by rfl) T.bLen PySem.boot_len (pa_cons (pv 2) pa_nil)) (pe_fld (pe_fld (pv 0) rfl) rfl) (nomark _))
        (pw_or1 (pt_not (pt_val (pe_callB (cr_all rfl) (by rfl) T.bAll boot_all (pa_cons (pe_lc (own := [("sight", 3)]) (g := gName 3) (tt := tYes) rfl scM5.nd (pi_list (pv 2)) (blkOk_by (N := ["self", "cost", "seen", "sight"]) (sc := defScope (sM 5)) (by decide +kernel)) (fun _ _ _ _ _ => pg_name (i := 3) scM5.nd rfl (Or.inl rfl)) (fun _ _ _ _ _ => pts_nil)
          (te := tOp (rIn K false) (tVar 3) (tC (.ref aS))) (fun _ _ _ _ _ => pe_cmpR op_in_seq (pv 3) (pe_glob (v := .ref aS) rfl T.gS rfl) rfl)) pa_nil)))))))) (pss_one (ps_ret (pe_lst (pa_cons (pe_num T.cW rfl) pa_nil)))) pss_nil)
    (pss_cons (ps_expr (pe_bm PySem.F.plainAttrs_list PySem.F.slot_list_append PySem.F.type_list_append mt_append (pe_fld (pe_fld (pv 0) rfl) rfl) (pa_cons (pe_tup (pa_cons (pv 1) (pa_cons (pe_callTy call_list_of (by rfl) T.bList PyProof.Rows.boot_list (pa_cons (pv 2) pa_nil)) pa_nil))) pa_nil)))
    (pss_one (ps_ret (pe_lst (pa_cons (pe_op op_sub (pe_callB call_len_seq (by rfl) T.bLen PySem.boot_len (pa_cons (pe_fld (pe_fld (pv 0) rfl) rfl) pa_nil)) pe_int) pa_nil)))))), ?_⟩)
  · obtain ⟨d, h, la, ll, a, t, c, l, rfl, _⟩ := h
    rfl
  · obtain ⟨d, h, la, ll, a, t, c, l, rfl, hd, G, hl, hlen, k⟩ := h
    have hs : Pn09.step ⟨t⟩ (.look c l) = if t.looks.length = 4 then (⟨t⟩, Pn09.ok (-7)) else if c = 0 ∨ 1000 < c ∨ l.length ≠ t.states ∨ (l.any fun a => decide (3 ≤ a)) = true then (⟨t⟩, Pn09.ok (-1)) else (⟨{ t with looks := t.looks ++ [⟨c, l⟩] }⟩, Pn09.ok (t.looks.length : Nat)) := rfl
    unfold Stp at k
    rw [hs] at k
    have evh : ∀ (H1 : Hp) (σ : L2.St) (te : TE), Ex H H1 → Ev te σ H1 (.ref d) → Ev (tFld K te "house") σ H1 (.ref h) := fun H1 σ te e ht => ev_house T (hd.ex e) ht
    refine q_when (b := decide (t.looks.length = 4)) (et_is (et_test (ev_op (ev_lenLooks T hd.house (evh _ _ _ (Ex.refl _) (ev_var rfl))) ev_c (rv_eq rfl))) (dec_eqi _ 4)) (fun hb H1 e1 => ?_) (fun hb H1 e1 => ?_)
    · rw [if_pos (of_decide_eq_true hb)] at k
      exact ret_one rfl hd e1 k rfl
    · rw [if_neg (of_decide_eq_false hb)] at k
      refine q_when (b := !(decide (1 ≤ c) && decide (c ≤ 1000)) || (!decide (l.length = t.states) || !(l.all fun a => decide (a < 3)))) (et_or (et_not (et_B (ev_callV (ea_cons (ev_var rfl) ea_nil) fun H2 e2 Q2 E2 q2 => ⟨c, rfl, q2⟩))) (fun _ => et_or (et_is (et_test (ev_op (x := iv l.length) (ev_is (ev_len (ev_var rfl) (ex_l e1 hl)) (by rw [List.length_map]; rfl)) (ev_states T (hd.ex e1).house (evh _ _ _ e1 (ev_var rfl))) (rv_ne rfl))) (by rw [dec_iv])) (fun _ =>
        et_not (et_B (ev_cbL (lcN l (fun _ => true) (fun a => V.bl (decide (a < 3))) (ev_var rfl) (ex_l e1 hl) (by omega) (fun _ => rfl) (fun _ _ _ _ => et_yes) (fun a H3 e3 ha _ => ev_is (ev_op (ev_var rfl) ev_c (rv_isT (T.sS _) rfl rfl)) ?_)) (fun p H3 e3 h3 Q3 q3 => ?_)))))) (fun hb2 H2 e2 => ?_) (fun hb2 H2 e2 => ?_)
      · show V.bl (((0 : Int) == (a : Int)) || (((1 : Int) == (a : Int)) || (((2 : Int) == (a : Int)) || false))) = _
        congr 1
        match a with
        | 0 => rfl
        | 1 => rfl
        | 2 => rfl
        | n + 3 =>
          rw [decide_eq_false (by omega), beq_eq_false_iff_ne.mpr (by omega), beq_eq_false_iff_ne.mpr (by omega), beq_eq_false_iff_ne.mpr (by omega)]
          rfl
      · refine ⟨p, l.map fun a => decide (a < 3), rfl, sq_of (by rw [h3, filter_yes, List.map_map]; rfl), ?_⟩
        rw [List.all_map]
        exact q3
      · have : c = 0 ∨ 1000 < c ∨ l.length ≠ t.states ∨ (l.any fun a => decide (3 ≤ a)) = true := by
          rw [Bool.or_eq_true, Bool.not_eq_true', Bool.and_eq_false_iff, decide_eq_false_iff_not, decide_eq_false_iff_not, Bool.or_eq_true, Bool.not_eq_true', decide_eq_false_iff_not, Bool.not_eq_true'] at hb2
          rcases hb2 with (z | z) | (z | z)
          · left; omega
          · right; left; omega
          · right; right; left; exact z
          · right; right; right
            obtain ⟨x, hx, hx2⟩ := List.all_eq_false.mp z
            refine List.any_eq_true.mpr ⟨x, hx, decide_eq_true ?_⟩
            have : ¬ x < 3 := fun y => hx2 (decide_eq_true y)
            omega
        rw [if_pos this] at k
        exact ret_one rfl hd (e1.trans e2) k rfl
      · rw [Bool.or_eq_false_iff, Bool.not_eq_false', Bool.and_eq_true, decide_eq_true_iff, decide_eq_true_iff, Bool.or_eq_false_iff, Bool.not_eq_false', decide_eq_true_iff, Bool.not_eq_false'] at hb2
        obtain ⟨⟨hc1, hc2⟩, hst, hall⟩ := hb2
        rw [if_neg (by
          rintro (z | z | z | z)
          · omega
          · omega
          · exact z hst
          · obtain ⟨x, hx, hx2⟩ := List.any_eq_true.mp z
            have h1 := of_decide_eq_true hx2
            have h2 := of_decide_eq_true (List.all_eq_true.mp hall x hx)
            omega)] at k
        have e02 := e1.trans e2
        have hd3 := hd.ex e02
        obtain ⟨va, va1, va2, va3⟩ := hd3.house.looks
        have l4 := G.l4
        refine s_app2 (K := K) (ys := ivs l) (x := iv c) (D := { nx := _, rt := Q }) va1 (ev_looks T hd3.house (evh _ _ _ e02 (ev_var rfl))) (ev_var rfl) (el_list (ev_var rfl) (ex_l e02 hl)) (by omega) fun p q H4 fp fq e4 h4p h4q => ?_
        obtain ⟨n1, n2, n3, n4, n5⟩ := desk_ne hd
        have e04 := e02.trans e4
        have va4 := e4 _ _ va1
        have hd4 := hd3.ex e4
        have hD := look_put hd4 G va4 h4p h4q hst
        refine s_retL (xs := [V.int ((t.looks.length : Nat) : Int)]) (el_lst (ea_cons (ev_is (ev_op (ev_lenLooks T hD.house (ev_house T hD (ev_var rfl))) ev_c (rv_I0 (j := 1))) ?_) ea_nil) one_le) fun p2 H5 fp2 e5 h5 => ?_
        · congr 1
          show (((t.looks ++ [(⟨c, l⟩ : Pn09.Look)]).length : Nat) : Int) - 1 = _
          rw [List.length_append, List.length_singleton]
          omega
        · obtain ⟨fp3, _⟩ := free_upd fp2
          refine k H5 h la ll p2 (hD.ex e5) (fun b o hb hbn => ?_) (fun b hb => .inl hb) (fun f hf hfn r o => ?_) (fresh_back e04 fp3) h5
          · exact e5 _ _ (by rw [upd_ne (fun z => hbn (by rw [z]; exact List.mem_cons_of_mem _ (List.mem_cons_of_mem _ (List.mem_cons_of_mem _ List.mem_cons_self))))]; exact e04 _ _ hb)
          · obtain ⟨_, _, _, f4⟩ := not4 hfn
            have nn : ∀ {q : Addr}, H q = none → q ≠ f := fun hq z => hf (by rw [← z]; exact hq)
            have z := look_put ((r.ex e04) o) G (by rw [upd_ne (Ne.symm f4)]; exact va4) (by rw [upd_ne (nn (fresh_back e02 fp))]; exact h4p) (by rw [upd_ne (nn (fresh_back e02 fq))]; exact h4q) hst
            rw [upd_comm f4] at z
            exact z.ex (ex_upd e5)
theorem may_iff {t : Pn09.Task} {b : Nat} (h : (⟨t⟩ : Pn09.House).may b = true) : b < 2 ^ t.states ∧ b ≠ 0 := by
  have h' : (b != 0 && decide (b < 2 ^ t.states)) = true := h
  rw [Bool.and_eq_true, bne_iff_ne, decide_eq_true_iff] at h'
  exact ⟨h'.2, h'.1⟩
/-- is_somewhere's test -/
theorem et_some {σ : L2.St} {H H1 : Hp} {d h la ll : Addr} {t : Pn09.Task} {b : Nat} (hd : DeskAt C D H d h la ll t) (s5 : t.states ≤ 5) (e : Ex H H1) {ta tb : TE} (ha : Ev ta σ H1 (.ref d)) (hb : Ev tb σ H1 (iv b)) : EvT (tNot (tB (tMeth D "is_somewhere" (spSomewhere C D) [] C8.E0 ta (tCons tb tNil)))) σ H1 (!(⟨t⟩ : Pn09.House).may b) := by
  obtain ⟨dx, hdx⟩ := hd.desk
  exact et_not (et_B (ev_meth ha (e _ _ hdx) (dF_no (by decide +kernel)) (ea_cons hb ea_nil) fun H2 e2 Q1 E1 q1 => ⟨d, h, la, ll, t, b, rfl, hd.ex (e.trans e2), s5, q1⟩))
theorem scM7 : FnScope ["self", "where", "is_blind", "found"] ["self", "where", "is_blind"] (defScope (sM 7)) := ⟨rfl, rfl, rfl, by decide +kernel, rfl, by decide +kernel, by decide +kernel⟩
theorem c_planM (T : Txt K mg C D aS) (d : Mf K D "plan" "Desk.plan" 45 7 ["self", "where", "is_blind"]) (cS : Met P w K mg base 2 D "is_somewhere" (spSomewhere C D) []) (cB : Cal P w K mg base 42 "best_plan" (spBestPlan C) []) : Met P w K mg base 43 D "plan" (spPlanM C D) [] := by
  refine d.met scM7 (fun vs H Q E h => ?_) (fun f cdv A outer s H vs Q E hr h => ⟨_,
    pss_cons (ps_if (pt_not (pt_val (pe_mt cS hr (by decide) (pv 0) (pa_cons (pv 1) pa_nil)))) (pss_one (ps_ret (pe_lst (pa_cons (pe_num T.cW rfl) pa_nil)))) pss_nil)
    (pss_cons (ps_set (i := 3) scM7.nd rfl (Or.inl rfl) (pe_c cB hr (by decide) rfl (pa_cons (pe_fld (pv 0) rfl) (pa_cons (pv 1) (pa_cons (pv 2) pa_nil)))))
    (pss_cons (ps_if (pt_cmpR op_isN (pv 3) pe_non (nomark _)) (pss_one (ps_ret (pe_lst (pa_cons (pe_num T.cNO rfl) pa_nil)))) pss_nil)
    (pss_one (ps_ret (pv 3))))), ?_⟩)
  · obtain ⟨d, h, la, ll, t, b, lk, rfl, _⟩ := h
    rfl
  · obtain ⟨d, h, la, ll, t, b, lk, rfl, hd, G, hlen, k⟩ := h
    have hs : Pn09.step ⟨t⟩ (if lk = true then .plan b else .blind b) = if (⟨t⟩ : Pn09.House).may b = false then (⟨t⟩, Pn09.ok (-1)) else (⟨t⟩, match Pn09.at_ (t.costs lk) b with
        | none => Pn09.ok (-6)
        | some c => ⟨(c : Nat), U.plan t lk (t.costs lk) b⟩) := by
      cases lk <;> rfl
    unfold Stp at k
    rw [hs] at k hlen
    refine q_when (b := !(⟨t⟩ : Pn09.House).may b) (et_some hd G.s5 (Ex.refl _) (ev_var rfl) (ev_var rfl)) (fun hb H1 e1 => ?_) (fun hb H1 e1 => ?_)
    · rw [if_pos (by simpa using hb)] at k
      exact ret_one rfl hd e1 k rfl
    · have hm : (⟨t⟩ : Pn09.House).may b = true := by simpa using hb
      rw [if_neg (by rw [hm]; exact Bool.noConfusion)] at k hlen
      obtain ⟨hb1, hb0⟩ := may_iff hm
      have hd1 := hd.ex e1
      cases hv : Pn09.at_ (t.costs lk) b with
      | none =>
        rw [hv] at k
        refine q_asg (v := V.non) (ev_callV (ea_cons (ev_house T hd1 (ev_var rfl)) (ea_cons (ev_var rfl) (ea_cons (ev_var rfl) ea_nil))) fun H2 e2 Q2 E2 q2 => ⟨h, la, ll, t, b, lk, rfl, (hd1.ex e2).house, G, hb1, fun v z => (by rw [hv] at z; cases z), fun _ => q2, fun v z => by rw [hv] at z; cases z⟩) fun H2 e2 => ?_
        refine q_when (b := true) (et_test (ev_op (ev_var rfl) ev_c rv_isN)) (fun _ H3 e3 => ?_) (fun z => by cases z)
        exact ret_one rfl hd ((e1.trans e2).trans e3) k rfl
      | some v =>
        rw [hv] at k hlen
        have hlen' : (U.plan t lk (t.costs lk) b).length ≤ 1000000 := hlen
        refine q_asgL (xs := iv v :: ivs (U.plan t lk (t.costs lk) b)) (el_callV (ea_cons (ev_house T hd1 (ev_var rfl)) (ea_cons (ev_var rfl) (ea_cons (ev_var rfl) ea_nil))) fun H2 e2 Q2 E2 q2 => ⟨h, la, ll, t, b, lk, rfl, (hd1.ex e2).house, G, hb1, fun v _ => hlen', fun z => (by rw [hv] at z; cases z), fun v z => by rw [hv] at z; cases z; exact q2⟩) fun p H2 fp e2 h2 => ?_
        refine q_when (b := false) (et_test (ev_op (ev_var rfl) ev_c rv_isN)) (fun z => by cases z) (fun _ H3 e3 => ?_)
        refine s_ret (ev_var rfl) fun H4 e4 => (After.pure hd k rfl (xs := iv v :: ivs (U.plan t lk (t.costs lk) b)) ?_) p H4 (fresh_back e1 fp) (((e1.trans e2).trans e3).trans e4) ((e3.trans e4) _ _ h2)
        show _ = (((v : Int) :: (U.plan t lk (t.costs lk) b).map fun n : Nat => (n : Int))).map V.int
        rw [List.map_cons, nats_int]
        rfl
theorem scM8 : FnScope ["self", "where", "numbers", "found"] ["self", "where", "numbers"] (defScope (sM 8)) := ⟨rfl, rfl, rfl, by decide +kernel, rfl, by decide +kernel, by decide +kernel⟩
theorem c_judgeM (T : Txt K mg C D aS) (d : Mf K D "judge" "Desk.judge" 45 8 ["self", "where", "numbers"]) (cS : Met P w K mg base 2 D "is_somewhere" (spSomewhere C D) []) (cJ : Cal P w K mg base 7 "judged" (spJudged K C) []) : Met P w K mg base 8 D "judge" (spJudgeM K C D) [] := by
  refine d.met scM8 (fun vs H Q E h => ?_) (fun f cdv A outer s H vs Q E hr h => ⟨_,
    pss_cons (ps_if (pt_not (pt_val (pe_mt cS hr (by decide) (pv 0) (pa_cons (pv 1) pa_nil)))) (pss_one (ps_ret (pe_lst (pa_cons (pe_num T.cW rfl) pa_nil)))) pss_nil)
    (pss_cons (ps_set (i := 3) scM8.nd rfl (Or.inl rfl) (pe_c cJ hr (by decide) rfl (pa_cons (pe_fld (pv 0) rfl) (pa_cons (pv 1) (pa_cons (pv 2) pa_nil)))))
    (pss_cons (ps_if (pt_cmpR op_isN (pv 3) pe_non (nomark _)) (pss_one (ps_ret (pe_lst (pa_cons (pe_num T.cNP rfl) pa_nil)))) pss_nil)
    (pss_one (ps_ret (pv 3))))), ?_⟩)
  · obtain ⟨d, h, la, ll, a, t, b, l, rfl, _⟩ := h
    rfl
  · obtain ⟨d, h, la, ll, a, t, b, l, rfl, hd, G, hl, hlen, k⟩ := h
    have hs : Pn09.step ⟨t⟩ (.judge b l) = if (⟨t⟩ : Pn09.House).may b = false then (⟨t⟩, Pn09.ok (-1)) else match t.read (l.length + 1) b l with
        | some (w, []) => (⟨t⟩, match t.judge b w with
          | .works c => ⟨0, [c]⟩
          | .cant u => ⟨1, [u]⟩
          | .short u => ⟨2, [u]⟩)
        | _ => (⟨t⟩, Pn09.ok (-5)) := rfl
    unfold Stp at k
    rw [hs] at k
    refine q_when (b := !(⟨t⟩ : Pn09.House).may b) (et_some hd G.s5 (Ex.refl _) (ev_var rfl) (ev_var rfl)) (fun hb H1 e1 => ?_) (fun hb H1 e1 => ?_)
    · rw [if_pos (by simpa using hb)] at k
      exact ret_one rfl hd e1 k rfl
    · have hm : (⟨t⟩ : Pn09.House).may b = true := by simpa using hb
      rw [if_neg (by rw [hm]; exact Bool.noConfusion)] at k
      obtain ⟨hb1, hb0⟩ := may_iff hm
      have hd1 := hd.ex e1
      have no : judgeAns t b l = none → After C D H d h la ll t t (Pn09Neutral.out (Pn09.ok (-5))) Q := fun z => by
        unfold judgeAns at z
        cases hrd : t.read (l.length + 1) b l with
        | none => rw [hrd] at k; exact k
        | some q =>
          obtain ⟨w, r⟩ := q
          rw [hrd] at z k
          cases r with
          | nil => cases z
          | cons x r => exact k
      have yes : ∀ r, judgeAns t b l = some r → After C D H d h la ll t t (r.map fun n : Nat => (n : Int)) Q := fun r z => by
        unfold judgeAns at z
        cases hrd : t.read (l.length + 1) b l with
        | none => rw [hrd] at z; cases z
        | some q =>
          obtain ⟨w, r2⟩ := q
          rw [hrd] at z k
          cases r2 with
          | cons x r => cases z
          | nil =>
            cases hj : t.judge b w with
            | works c =>
              have z' : some (match t.judge b w with
                | .works c => [0, c]
                | .cant u => [1, u]
                | .short u => [2, u]) = some r := z
              have k' : After C D H d h la ll t t (Pn09Neutral.out (match t.judge b w with
                | .works c => ⟨0, [c]⟩
                | .cant u => ⟨1, [u]⟩
                | .short u => ⟨2, [u]⟩)) Q := k
              rw [hj] at z' k'
              cases z'
              exact k'
            | cant c =>
              have z' : some (match t.judge b w with
                | .works c => [0, c]
                | .cant u => [1, u]
                | .short u => [2, u]) = some r := z
              have k' : After C D H d h la ll t t (Pn09Neutral.out (match t.judge b w with
                | .works c => ⟨0, [c]⟩
                | .cant u => ⟨1, [u]⟩
                | .short u => ⟨2, [u]⟩)) Q := k
              rw [hj] at z' k'
              cases z'
              exact k'
            | short c =>
              have z' : some (match t.judge b w with
                | .works c => [0, c]
                | .cant u => [1, u]
                | .short u => [2, u]) = some r := z
              have k' : After C D H d h la ll t t (Pn09Neutral.out (match t.judge b w with
                | .works c => ⟨0, [c]⟩
                | .cant u => ⟨1, [u]⟩
                | .short u => ⟨2, [u]⟩)) Q := k
              rw [hj] at z' k'
              cases z'
              exact k'
      cases hv : judgeAns t b l with
      | none =>
        refine q_asg (v := V.non) (ev_callV (ea_cons (ev_house T hd1 (ev_var rfl)) (ea_cons (ev_var rfl) (ea_cons (ev_var rfl) ea_nil))) fun H2 e2 Q2 E2 q2 => ⟨h, la, ll, a, t, b, l, rfl, (hd1.ex e2).house, G, hb1, hb0, ex_l (e1.trans e2) hl, hlen, fun _ => q2, fun v z => by rw [hv] at z; cases z⟩) fun H2 e2 => ?_
        refine q_when (b := true) (et_test (ev_op (ev_var rfl) ev_c rv_isN)) (fun _ H3 e3 => ?_) (fun z => by cases z)
        exact ret_one rfl hd ((e1.trans e2).trans e3) (no hv) rfl
      | some r =>
        refine q_asgL (xs := ivs r) (el_callV (ea_cons (ev_house T hd1 (ev_var rfl)) (ea_cons (ev_var rfl) (ea_cons (ev_var rfl) ea_nil))) fun H2 e2 Q2 E2 q2 => ⟨h, la, ll, a, t, b, l, rfl, (hd1.ex e2).house, G, hb1, hb0, ex_l (e1.trans e2) hl, hlen, fun z => (by rw [hv] at z; cases z), fun v z => by rw [hv] at z; cases z; exact q2⟩) fun p H2 fp e2 h2 => ?_
        refine q_when (b := false) (et_test (ev_op (ev_var rfl) ev_c rv_isN)) (fun z => by cases z) (fun _ H3 e3 => ?_)
        exact s_ret (ev_var rfl) fun H4 e4 => (After.pure hd (yes r hv) rfl (xs := ivs r) (ivs_ints r)) p H4 (fresh_back e1 fp) (((e1.trans e2).trans e3).trans e4) ((e3.trans e4) _ _ h2)
theorem scM9 : FnScope ["self", "where", "acts", "here", "many", "act"] ["self", "where", "acts"] (defScope (sM 9)) := ⟨rfl, rfl, rfl, by decide +kernel, rfl, by decide +kernel, by decide +kernel⟩
theorem c_afterM (T : Txt K mg C D aS) (d : Mf K D "after" "Desk.after" 45 9 ["self", "where", "acts"]) (cS : Met P w K mg base 2 D "is_somewhere" (spSomewhere C D) []) (cC : Cal P w K mg base 3 "can_act" (spCan C) []) (cB : Cal P w K mg base 3 "behind_act" (spBehind C) []) : Met P w K mg base 4 D "after" (spAfterM K C D) [] := by
  refine d.met scM9 (fun vs H Q E h => ?_) (fun f cdv A outer s H vs Q E hr h => ⟨_,
    pss_cons (ps_if (pt_not (pt_val (pe_mt cS hr (by decide) (pv 0) (pa_cons (pv 1) pa_nil)))) (pss_one (ps_ret (pe_lst (pa_cons (pe_num T.cW rfl) pa_nil)))) pss_nil)
    (pss_cons (ps_set (i := 3) scM9.nd rfl (Or.inl rfl) (pv 1))
    (pss_cons (ps_for PassesOwn.never rfl (pi_enum (by rfl) T.bEnum (pa_cons (pv 2) pa_nil)) (pg_tup rfl (pgs_cons (pg_name (i := 4) scM9.nd rfl (Or.inl rfl)) (pgs_cons (pg_name (i := 5) scM9.nd rfl (Or.inl rfl)) pgs_nil)))
      (pss_cons (ps_if (pt_not (pt_val (pe_c cC hr (by decide) rfl (pa_cons (pe_fld (pv 0) rfl) (pa_cons (pv 3) (pa_cons (pv 5) pa_nil)))))) (pss_one (ps_ret (pe_lst (pa_cons (pv 4) (pa_cons (pv 3) pa_nil))))) pss_nil)
      (pss_one (ps_set (i := 3) scM9.nd rfl (Or.inl rfl) (pe_c cB hr (by decide) rfl (pa_cons (pe_fld (pv 0) rfl) (pa_cons (pv 3) (pa_cons (pv 5) pa_nil))))))))
    (pss_one (ps_ret (pe_lst (pa_cons (pe_callB call_len_seq (by rfl) T.bLen PySem.boot_len (pa_cons (pv 2) pa_nil)) (pa_cons (pv 3) pa_nil))))))), ?_⟩)
  · obtain ⟨d, h, la, ll, a, t, b, l, rfl, _⟩ := h
    rfl
  · obtain ⟨d, h, la, ll, a, t, b, l, rfl, hd, G, hl, hlen, k⟩ := h
    have two : ∀ {u v : V}, [u, v].length ≤ 100000 := by intro u v; show 2 ≤ 100000; decide
    have hs : Pn09.step ⟨t⟩ (.after b l) = if (⟨t⟩ : Pn09.House).may b = false then (⟨t⟩, Pn09.ok (-1)) else (⟨t⟩, ⟨((Pn09.far t 0 b l).1 : Nat), [(Pn09.far t 0 b l).2]⟩) := rfl
    unfold Stp at k
    rw [hs] at k
    refine q_when (b := !(⟨t⟩ : Pn09.House).may b) (et_some hd G.s5 (Ex.refl _) (ev_var rfl) (ev_var rfl)) (fun hb H1 e1 => ?_) (fun hb H1 e1 => ?_)
    · rw [if_pos (by simpa using hb)] at k
      exact ret_one rfl hd e1 k rfl
    · have hm : (⟨t⟩ : Pn09.House).may b = true := by simpa using hb
      rw [if_neg (by rw [hm]; exact Bool.noConfusion)] at k
      have fin : ∀ (n u : Nat) (p : Addr) (H2 : Hp), Pn09.far t 0 b l = (n, u) → H p = none → Ex H H2 → H2 p = some (.lst (ivs [n, u])) → Q (.ref p) H2 := fun n u p H2 hf fp e hp => by
        rw [hf] at k
        exact (After.pure hd k rfl (xs := ivs [n, u]) rfl) p H2 fp e hp
      refine q_asg (ev_var rfl) fun H2 e2 => ?_
      have e02 := e1.trans e2
      refine ⟨_, rfl, a, ivs l, rfl, ex_l e02 hl, for_it (D := { nx := _, rt := Q }) (walk_enum (xs := ivs l)) (fun i σ' H' => ∃ (here : Nat) (v4 v5 : Option V), σ' = [some (.ref d), some (iv b), some (.ref a), some (iv here), v4, v5] ∧ Ex H H' ∧ Pn09.far t 0 b l = Pn09.far t i here (l.drop i))
        ⟨b, none, none, rfl, e02, rfl⟩ (fun i σ' H' _ hP => ?_) (fun i x σ' H' H'' hi hP hy => ?_) (fun σ' H' hP => ?_)⟩
      · obtain ⟨_, _, _, _, e, _⟩ := hP
        exact ex_l e hl
      · obtain ⟨here, v4, v5, rfl, e, hf⟩ := hP
        obtain ⟨Tt, u, v, rfl, fT, rfl, hu, hv⟩ := hy
        have hu' : V.int ((i : Nat) : Int) = u := Option.some.inj hu
        have hv' : (ivs l)[i]? = some v := hv
        obtain ⟨n, hn, _, rfl⟩ := ivs_get hv'
        subst hu'
        have hi' : i < l.length := (List.getElem?_eq_some_iff.mp hn).1
        have hdrop : l.drop i = n :: l.drop (i + 1) := by
          rw [List.drop_eq_getElem_cons hi']
          congr 1
          exact (List.getElem?_eq_some_iff.mp hn).2
        rw [hdrop] at hf
        have eT : Ex H (upd H' Tt (.tup [iv i, iv n])) := e.trans (Ex.new fT)
        refine g_pair (s := (i, n)) ⟨Tt, rfl, upd_same⟩ ?_
        have hdT := hd.ex eT
        refine q_when (b := !t.can here n) (et_not (et_B (ev_callV (ea_cons (ev_house T hdT (ev_var rfl)) (ea_cons (ev_var rfl) (ea_cons (ev_var rfl) ea_nil))) fun H3 e3 Q3 E3 q3 => ⟨h, la, ll, t, here, n, rfl, (hdT.ex e3).house, G, q3⟩))) (fun hb2 H3 e3 => ?_) (fun hb2 H3 e3 => ?_)
        · refine s_retL (xs := ivs [i, here]) (el_lst (ea_cons (ev_var rfl) (ea_cons (ev_var rfl) ea_nil)) two) fun p H4 fp e4 h4 => fin i here p H4 ?_ (fresh_back (eT.trans e3) fp) ((eT.trans e3).trans e4) h4
          rw [hf, Pn09.far, if_neg (by simpa using hb2)]
        · refine s_asg (ev_callV (z := iv (t.then_ here n)) (ea_cons (ev_house T (hdT.ex e3) (ev_var rfl)) (ea_cons (ev_var rfl) (ea_cons (ev_var rfl) ea_nil))) fun H4 e4 Q4 E4 q4 => ⟨h, la, ll, t, here, n, rfl, ((hdT.ex e3).ex e4).house, G, q4⟩) fun H4 e4 => ⟨t.then_ here n, _, _, rfl, (eT.trans e3).trans e4, ?_⟩
          rw [hf, Pn09.far, if_pos (by simpa using hb2)]
      · obtain ⟨here, v4, v5, rfl, e, hf⟩ := hP
        rw [List.length_map, List.drop_length, Pn09.far] at hf
        refine s_retL (xs := ivs [l.length, here]) (el_lst (ea_cons (ev_is (ev_len (ev_var rfl) (ex_l e hl)) (by rw [List.length_map]; rfl)) (ea_cons (ev_var rfl) ea_nil)) two) fun p H4 fp e4 h4 => fin l.length here p H4 hf (fresh_back e fp) (e.trans e4) h4
end
end Un
set_option Elab.async false
set_option autoImplicit false
set_option maxRecDepth 100000
set_option maxHeartbeats 4000000
namespace Un
open PySem PySem.Spec PyProof.Rows L2 Evl
open C8 (Cal Met Mak pe_c pe_mk pe_mt)
theorem After.ex {C D : Addr} {H H1 : Hp} {d h la ll : Addr} {t t' : Pn09.Task} {ans : List Int} {Q : VK} (e : Ex H H1) (k : After C D H d h la ll t t' ans Q) : After C D H1 d h la ll t t' ans Q := fun H' h' la' ll' p hd kp fr rb fp hp =>
  k H' h' la' ll' p hd (fun b o hb hn => kp b o (e b o hb) hn) (fun b hb => (fr b hb).imp (fun z => z) (fun z => fresh_back e z)) (fun f hf hn r => rb f (fun z => hf (fresh_back e z)) hn (r.ex e)) (fresh_back e fp) hp
section
variable {K : PySem.W.Frag} {σ : L2.St} {H : Hp} {te ta tb tc : TE} {t : TA} {D : Ends}
theorem s_retMeth {C : Addr} {m : Str} {sp : Sp} {E : XK} {a dx : Addr} {fs : List (Str × V)} {vs : List V} (ha : Ev ta σ H (.ref a)) (ho : H a = some (.ins C dx fs)) (hl : fs.lookup m = none) (h : EvA t σ H vs) (k : ∀ H1, Ex H H1 → sp (.ref a :: vs) H1 D.rt E) : tRet (tMeth C m sp [] E ta t) D σ H :=
  ha H (Ex.refl _) _ fun H2 e2 => ⟨a, dx, fs, rfl, e2 _ _ ho, hl, h H2 e2 _ fun H3 e3 => by
    rw [List.append_nil]
    exact k H3 (e2.trans e3)⟩
theorem s_appB {l : Addr} {xs : List V} {v : V} (hl : H l = some (.lst xs)) (ha : Ev ta σ H (.ref l)) (h : Ev te σ H v) (hz : xs.length < sizeLine) (k : ∀ H1, Ex H H1 → D.nx σ (upd H1 l (.lst (xs ++ [v])))) : tDrop (tBM K "list" rAppend ta (tCons te tNil)) D σ H := ha H (Ex.refl H) _ fun H1 e1 =>
  ⟨Or.inl ⟨rfl, xs, sq_of (e1 l _ hl)⟩, h H1 e1 _ fun H2 e2 => ⟨l, xs, v, rfl, rfl, e2 l _ (e1 l _ hl), hz, k H2 (e1.trans e2)⟩⟩
theorem s_extV {l b : Addr} {xs zs : List V} (hl : H l = some (.lst xs)) (hb : H b = some (.lst zs)) (ha : Ev ta σ H (.ref l)) (h : Ev te σ H (.ref b)) (hz : xs.length + zs.length ≤ sizeLine) (k : ∀ H1, Ex H H1 → D.nx σ (upd H1 l (.lst (xs ++ zs)))) : tDrop (tBM K "list" rExtend ta (tCons te tNil)) D σ H := ha H (Ex.refl H) _ fun H1 e1 =>
  ⟨Or.inl ⟨rfl, xs, sq_of (e1 l _ hl)⟩, h H1 e1 _ fun H2 e2 => ⟨l, b, xs, zs, rfl, rfl, e2 l _ (e1 l _ hl), (e1.trans e2) _ _ hb, hz, k H2 (e1.trans e2)⟩⟩
/-- a pair of any values to two names -/
theorem g_two {i j : Nat} {p : Addr} {x y : V} {Q : L2.St → Hp → Prop} (hp : H p = some (.tup [x, y])) (q : Q ((σ.set i (some x)).set j (some y)) H) : gTup K 2 (gCons (gName i) (gCons (gName j) gNil)) (.ref p) σ H Q :=
  ⟨p, _, rfl, st_of hp, rfl, _, _, rfl, _, _, rfl, rfl, q⟩
end
theorem pe_mk0 {X : Cx} {k j : Nat} {C : Addr} {x : Str} {sp : Sp} {p pos : Pos} (c : Mak X.prog X.w X.K X.mg X.base k x C sp []) (hr : Room j X.A) (hk : k + 1 ≤ j) (hg : Gl X x) (hdb : (x == ("__debug__" : Str)) = false := by decide) : PE X (.Call (.Name x p) [] [] pos) (tMake C sp [] E0 tNil) := by
  obtain ⟨f, fd, ps, ds, M, F, hm, b, d⟩ := c.ex
  exact pe_make0 M F (hr.mono hk) hg hm b d pass0 hdb
/-! ### told, list_at, lists_at, answers -/
def spTold (C D : Addr) : Sp := fun vs H Q _ => ∃ (d h la ll o ls : Addr) (t : Pn09.Task) (x : U.Told), vs = [.ref d, iv x.p, .ref o, .ref ls] ∧ DeskAt C D H d h la ll t ∧ U.Good t ∧ H o = some (.lst (ivs x.own)) ∧ RowsAt H ls x.rows ∧ U.Fine x ∧ (Pn09.step ⟨t⟩ x.c).2.l.length ≤ 1000000 ∧ Stp C D H d h la ll t x.c Q
def spListAt (K : PySem.W.Frag) : Sp := fun vs H Q _ => ∃ (a : Addr) (cl : List Nat) (k n : Nat), vs = [.ref a, iv k] ∧ SqL K H a (ivs cl) ∧ cl[k]? = some n ∧ k + 1 + n ≤ cl.length ∧
  ∀ (p l : Addr) (H2 : Hp), H p = none → H l = none → Ex H H2 → H2 p = some (.tup [.ref l, iv (k + 1 + n)]) → H2 l = some (.lst (ivs ((cl.drop (k + 1)).take n))) → Q (.ref p) H2
def spListsAt (K : PySem.W.Frag) : Sp := fun vs H Q _ => ∃ (a : Addr) (pre post : List Nat) (rows : List (List Nat)), vs = [.ref a, iv pre.length] ∧ SqL K H a (ivs (pre ++ (rows.length :: (U.nrows rows ++ post)))) ∧ rows.length ≤ 1000 ∧
  ∀ (p ls : Addr) (H2 : Hp), H p = none → H ls = none → Ex H H2 → H2 p = some (.tup [.ref ls, iv (pre.length + 1 + (U.nrows rows).length)]) → RowsAt H2 ls rows → Q (.ref p) H2
def spAns (K : PySem.W.Frag) : Sp := fun vs H Q _ => ∃ (a : Addr) (ns : List Int), vs = [.ref a] ∧ SqL K H a (ns.map V.int) ∧ PyPn09.answers_asked ns = true ∧
  ∀ (H' : Hp) (p : Addr), H' p = some (.lst ((PyPn09.answers ns).map V.int)) → Q (.ref p) H'
theorem nrows_append (a b : List (List Nat)) : U.nrows (a ++ b) = U.nrows a ++ U.nrows b := by
  induction a with
  | nil => rfl
  | cons r a ih =>
    show r.length :: (r ++ U.nrows (a ++ b)) = (r.length :: (r ++ U.nrows a)) ++ U.nrows b
    rw [ih, List.cons_append, List.append_assoc]
theorem RowsAt.nil {H : Hp} {a : Addr} (h : H a = some (.lst [])) : RowsAt H a [] := ⟨[], h, rfl, fun i r z => by simp at z⟩
theorem RowsAt.push {H : Hp} {a l : Addr} {vs : List V} {rows : List (List Nat)} {r : List Nat} (x : RowsAt H a rows) (ha : H a = some (.lst vs)) (hl : H l = some (.lst (ivs r))) (hne : l ≠ a) : RowsAt (upd H a (.lst (vs ++ [.ref l]))) a (rows ++ [r]) := by
  obtain ⟨ws, h1, h2, h3⟩ := x
  rw [ha] at h1
  cases h1
  have off : ∀ q s, H q = some (.lst (ivs s)) → vs ≠ [] → q ≠ a := fun q s hq hv => ne_of hq ha (by
    intro z
    injection z with z
    cases hvs : vs with
    | nil => exact hv hvs
    | cons u us =>
      have h0 : 0 < rows.length := by
        rw [← h2, hvs]
        exact Nat.succ_pos _
      obtain ⟨q2, q3, _⟩ := h3 0 _ (List.getElem?_eq_getElem h0)
      rw [← z] at q3
      obtain ⟨n, _, _, q4⟩ := ivs_get q3
      unfold iv at q4
      cases q4)
  refine ⟨vs ++ [.ref l], upd_same, by rw [List.length_append, List.length_append, h2]; rfl, fun i s hs => ?_⟩
  by_cases hi : i < rows.length
  · rw [List.getElem?_append_left hi] at hs
    obtain ⟨q, q1, q2⟩ := h3 i s hs
    refine ⟨q, by rw [List.getElem?_append_left (by omega)]; exact q1, ?_⟩
    rw [upd_ne (off _ _ q2 (fun z => by rw [z] at q1; simp at q1))]
    exact q2
  · have ei : i = rows.length := by
      have := (List.getElem?_eq_some_iff.mp hs).1
      rw [List.length_append, List.length_singleton] at this
      omega
    subst ei
    rw [List.getElem?_append_right (Nat.le_refl _), Nat.sub_self] at hs
    have es : r = s := Option.some.inj hs
    subst es
    exact ⟨l, by rw [List.getElem?_append_right (by omega), h2, Nat.sub_self]; rfl, by rw [upd_ne hne]; exact hl⟩
section
variable {P : Program} {w : World} {K : PySem.W.Frag} {mg : Str → Option Value} {base : Heap} {C D aS : Addr}
theorem sc48 : FnScope ["calls", "at", "behind"] ["calls", "at"] (defScope (topS 48)) := ⟨rfl, rfl, rfl, by decide +kernel, rfl, by decide +kernel, by decide +kernel⟩
theorem c_listAt (d : Df K mg "list_at" 48 ["calls", "at"]) : Cal P w K mg base 1 "list_at" (spListAt K) [] := by
  refine d.cal sc48 (fun vs H Q E h => ?_) (fun f cdv A outer s H vs Q E hr h => ⟨_,
    pss_cons (ps_set (i := 2) sc48.nd rfl (Or.inl rfl) (pe_op op_add (pe_op op_add (pv 1) pe_int) (pe_ix ix_list (pv 0) (pv 1) (fun _ _ => rfl))))
    (pss_one (ps_ret (pe_tup (pa_cons (pe_slice sl_list (pv 0) (po_some (pe_op op_add (pv 1) pe_int)) (po_some (pv 2))) (pa_cons (pv 2) pa_nil))))), ?_⟩)
  · obtain ⟨a, cl, k, n, rfl, _⟩ := h
    rfl
  · obtain ⟨a, cl, k, n, rfl, hl, hn, hlen, q⟩ := h
    refine q_asg (v := iv (k + 1 + n)) (ev_op (x := iv (k + 1)) (ev_op (ev_var rfl) ev_c (rv_I0 (i := (k : Int)) (j := 1))) (ev_op (ev_var rfl) (ev_var rfl) (rv_ixL hl (at_iv (get_ivs hn)))) (rv_iI (by show V.int (((k + 1 : Nat) : Int) + (n : Int)) = V.int ((k + 1 + n : Nat) : Int); congr 1))) fun H1 e1 => ?_
    have L := el_sl (K := K) (σ := [some (V.ref a), some (iv k), some (iv (k + 1 + n))]) (te := tVar 0) (tl := tPart (tOp (rI0 fun i j => .int (i + j)) (tVar 1) (tC (.int 1)))) (th := tPart (tVar 2)) (H := H1) (lo := some ((k + 1 : Nat) : Int)) (hi := some ((k + 1 + n : Nat) : Int)) (a := a) (xs := ivs cl) (ev_var rfl) (eo_some (ev_op (ev_var rfl) ev_c (rv_I0 (i := (k : Int)) (j := 1)))) (eo_some (ev_var rfl)) (ex_l e1 hl)
    have hcut : cutV (ivs cl) (some ((k + 1 : Nat) : Int)) (some ((k + 1 + n : Nat) : Int)) = ivs ((cl.drop (k + 1)).take n) := by
      unfold cutV
      rw [HT.sIx_nat, HT.sIx_nat, List.length_map, Nat.min_eq_left (show k + 1 ≤ cl.length by omega), Nat.min_eq_left hlen, show k + 1 + n - (k + 1) = n by omega]
      unfold ivs
      rw [List.map_take, List.map_drop]
    rw [hcut] at L
    refine L H1 (Ex.refl _) _ fun l H2 fl e2 hl2 => ⟨_, rfl, (by show 2 ≤ sizeLine; decide), fun p fp => ?_⟩
    exact q p l _ (fresh_back (e1.trans e2) fp) (fresh_back e1 fl) ((e1.trans e2).trans (Ex.new fp)) upd_same (by rw [upd_ne (ne_of_none hl2 fp)]; exact hl2)
theorem sc49 : FnScope ["calls", "at", "found", "behind", "turn", "own"] ["calls", "at"] (defScope (topS 49)) := ⟨rfl, rfl, rfl, by decide +kernel, rfl, by decide +kernel, by decide +kernel⟩
theorem c_listsAt (T : Txt K mg C D aS) (d : Df K mg "lists_at" 49 ["calls", "at"]) (cL : Cal P w K mg base 1 "list_at" (spListAt K) []) : Cal P w K mg base 2 "lists_at" (spListsAt K) [] := by
  refine d.cal sc49 (fun vs H Q E h => ?_) (fun f cdv A outer s H vs Q E hr h => ⟨_,
    pss_cons (ps_set (i := 2) sc49.nd rfl (Or.inl rfl) (pe_lst pa_nil))
    (pss_cons (ps_set (i := 3) sc49.nd rfl (Or.inl rfl) (pe_op op_add (pv 1) pe_int))
    (pss_cons (ps_for PassesOwn.never rfl (pi_range1 rfl T.bRange (pa_cons (pe_ix ix_list (pv 0) (pv 1) (fun _ _ => rfl)) pa_nil)) (pg_name (i := 4) sc49.nd rfl (Or.inl rfl))
      (pss_cons (ps_asg (pe_c cL hr (by decide) rfl (pa_cons (pv 0) (pa_cons (pv 3) pa_nil))) (pg_tup rfl (pgs_cons (pg_name (i := 5) sc49.nd rfl (Or.inl rfl)) (pgs_cons (pg_name (i := 3) sc49.nd rfl (Or.inl rfl)) pgs_nil))))
      (pss_one (ps_expr (pe_bm PySem.F.plainAttrs_list PySem.F.slot_list_append PySem.F.type_list_append mt_append (pv 2) (pa_cons (pv 5) pa_nil))))))
    (pss_one (ps_ret (pe_tup (pa_cons (pv 2) (pa_cons (pv 3) pa_nil))))))), ?_⟩)
  · obtain ⟨a, pre, post, rows, rfl, _⟩ := h
    rfl
  · obtain ⟨a, pre, post, rows, rfl, hl, hlen, q⟩ := h
    generalize hcl : pre ++ (rows.length :: (U.nrows rows ++ post)) = cl at hl
    have h0 : cl[pre.length]? = some rows.length := by
      rw [← hcl, List.getElem?_append_right (Nat.le_refl _), Nat.sub_self]; rfl
    refine q_asgL (xs := []) (el_lst ea_nil (by decide)) fun f0 H1 ff e1 h1 => ?_
    refine q_asg (v := iv (pre.length + 1)) (ev_op (ev_var rfl) ev_c (rv_I0 (i := (pre.length : Int)) (j := 1))) fun H2 e2 => ?_
    have e02 := e1.trans e2
    refine q_forR1 (n := (rows.length : Int)) (ea_cons (ev_op (ev_var rfl) (ev_var rfl) (rv_ixL (ex_l e02 hl) (at_iv (get_ivs h0)))) ea_nil) ⟨by omega, by omega⟩
      (fun i σ' H' => ∃ (v4 v5 : Option V) (vs : List V), σ' = [some (.ref a), some (iv pre.length), some (.ref f0), some (iv (pre.length + 1 + (U.nrows (rows.take i)).length)), v4, v5] ∧ Ex H H' ∧ H' f0 = some (.lst vs) ∧ vs.length = i ∧ RowsAt H' f0 (rows.take i))
      (fun H3 e3 => ⟨none, none, [], rfl, e02.trans e3, (e2.trans e3) _ _ h1, rfl, RowsAt.nil ((e2.trans e3) _ _ h1)⟩) (fun i σ' H' hi hP => ?_) (fun σ' H' hP => ?_)
    · obtain ⟨v4, v5, vs, rfl, e, hf, hvl, hrows⟩ := hP
      have hi' : i < rows.length := by omega
      have hr0 : rows[i]? = some rows[i] := List.getElem?_eq_getElem hi'
      generalize rows[i] = r at hr0
      -- how the list stands
      have hsplit : rows = rows.take i ++ (r :: rows.drop (i + 1)) := by
        conv => lhs; rw [← List.take_append_drop i rows, List.drop_eq_getElem_cons hi']
        congr 2
        exact (List.getElem?_eq_some_iff.mp hr0).2
      have hcl2 : cl = (pre ++ (rows.length :: U.nrows (rows.take i))) ++ (r.length :: (r ++ (U.nrows (rows.drop (i + 1)) ++ post))) := by
        rw [← hcl]
        have en : U.nrows rows = U.nrows (rows.take i) ++ (r.length :: (r ++ U.nrows (rows.drop (i + 1)))) := by
          conv => lhs; rw [hsplit]
          rw [nrows_append]
          rfl
        rw [en]
        simp only [List.append_assoc, List.cons_append]
      have plen : (pre ++ (rows.length :: U.nrows (rows.take i))).length = pre.length + 1 + (U.nrows (rows.take i)).length := by
        rw [List.length_append, List.length_cons]; omega
      generalize hpp : pre ++ (rows.length :: U.nrows (rows.take i)) = pp at hcl2 plen
      have g1 : cl[pp.length]? = some r.length := by
        rw [hcl2, List.getElem?_append_right (Nat.le_refl _), Nat.sub_self]; rfl
      have g2 : pp.length + 1 + r.length ≤ cl.length := by
        rw [hcl2, List.length_append, List.length_cons, List.length_append]; omega
      have g3 : (cl.drop (pp.length + 1)).take r.length = r := by
        rw [hcl2, List.drop_append, List.drop_eq_nil_of_le (by omega), List.nil_append, show pp.length + 1 - pp.length = 1 by omega]
        show (r ++ _).take r.length = r
        exact List.take_left
      rw [← plen]
      refine ⟨_, rfl, _, rfl, a, cl, pp.length, r.length, rfl, ex_l e hl, g1, g2, fun p l H3 fp fl e3 h3 hl3 => ?_⟩
      rw [g3] at hl3
      refine g_two h3 ?_
      refine s_app (e3 _ _ hf) (ev_var rfl) (ev_var rfl) (by omega) fun H4 e4 => ?_
      have lne : l ≠ f0 := Ne.symm (ne_of_none hf fl)
      refine ⟨some (.int (i : Int)), some (.ref l), vs ++ [.ref l], ?_, Ex.mut ((e.trans e3).trans e4) ff, upd_same, by rw [List.length_append, hvl]; rfl, ?_⟩
      · rw [List.take_add_one, hr0, Option.toList_some, nrows_append, List.length_append, plen]
        show [_, _, _, some (iv (pre.length + 1 + (U.nrows (rows.take i)).length + 1 + r.length)), _, _] = [_, _, _, some (iv (pre.length + 1 + ((U.nrows (rows.take i)).length + (r.length :: (r ++ [])).length))), _, _]
        rw [List.append_nil, List.length_cons]
        congr 6
        omega
      · rw [List.take_add_one, hr0, Option.toList_some]
        exact (hrows.ex (e3.trans e4)).push ((e3.trans e4) _ _ hf) (e4 _ _ hl3) lne
    · obtain ⟨v4, v5, vs, rfl, e, hf, hvl, hrows⟩ := hP
      rw [Int.toNat_natCast, List.take_length] at hrows
      refine ⟨_, rfl, iv (pre.length + 1 + (U.nrows rows).length), ?_, (by show 2 ≤ sizeLine; decide), fun p fp => ?_⟩
      · show some (some (iv (pre.length + 1 + (U.nrows (rows.take ((rows.length : Int)).toNat)).length))) = _
        rw [Int.toNat_natCast, List.take_length]
      · exact q p f0 _ (fresh_back e fp) ff (e.trans (Ex.new fp)) upd_same (hrows.ex (Ex.new fp))
theorem sc47 : FnScope ["desk", "call", "own", "lists"] ["desk", "call", "own", "lists"] (defScope (topS 47)) := ⟨rfl, rfl, rfl, by decide +kernel, rfl, by decide +kernel, by decide +kernel⟩
theorem c_told (T : Txt K mg C D aS) (d : Df K mg "told" 47 ["desk", "call", "own", "lists"]) (c0 : Met P w K mg base 3 D "begins" (spBegins C D) []) (c1 : Met P w K mg base 2 D "add_act" (spAddAct C D) []) (c2 : Met P w K mg base 2 D "add_look" (spAddLook K C D) []) (c3 : Met P w K mg base 2 D "goal" (spGoal C D) [])
    (c4 : Met P w K mg base 43 D "plan" (spPlanM C D) []) (c6 : Met P w K mg base 8 D "judge" (spJudgeM K C D) []) (c7 : Met P w K mg base 4 D "after" (spAfterM K C D) []) : Cal P w K mg base 44 "told" (spTold C D) [] := by
  refine d.cal sc47 (fun vs H Q E h => ?_) (fun f cdv A outer s H vs Q E hr h => ⟨_,
    pss_cons (ps_if (pt_cmpR op_eq (pv 1) pe_int (nomark _)) (pss_one (ps_ret (pe_mt c0 hr (by decide) (pv 0) (pa_cons (pe_ix ix_list (pv 2) pe_int (fun _ _ => rfl)) (pa_cons (pe_ix ix_list (pv 2) pe_int (fun _ _ => rfl)) pa_nil))))) pss_nil)
    (pss_cons (ps_if (pt_cmpR op_eq (pv 1) pe_int (nomark _)) (pss_one (ps_ret (pe_mt c1 hr (by decide) (pv 0) (pa_cons (pe_ix ix_list (pv 2) pe_int (fun _ _ => rfl)) (pa_cons (pv 3) pa_nil))))) pss_nil)
    (pss_cons (ps_if (pt_cmpR op_eq (pv 1) pe_int (nomark _)) (pss_one (ps_ret (pe_mt c2 hr (by decide) (pv 0) (pa_cons (pe_ix ix_list (pv 2) pe_int (fun _ _ => rfl)) (pa_cons (pe_ix ix_list (pv 3) pe_int (fun _ _ => rfl)) pa_nil))))) pss_nil)
    (pss_cons (ps_if (pt_cmpR op_eq (pv 1) pe_int (nomark _)) (pss_one (ps_ret (pe_mt c3 hr (by decide) (pv 0) (pa_cons (pe_ix ix_list (pv 2) pe_int (fun _ _ => rfl)) pa_nil)))) pss_nil)
    (pss_cons (ps_if (PW.pt (pw_or (pt_cmpR op_eq (pv 1) pe_int (nomark _)) (pw_or1 (pt_cmpR op_eq (pv 1) pe_int (nomark _))))) (pss_one (ps_ret (pe_mt c4 hr (by decide) (pv 0) (pa_cons (pe_ix ix_list (pv 2) pe_int (fun _ _ => rfl)) (pa_cons (pe_cmpR op_eq (pv 1) pe_int (nomark _)) pa_nil))))) pss_nil)
    (pss_cons (ps_if (pt_cmpR op_eq (pv 1) pe_int (nomark _)) (pss_one (ps_ret (pe_mt c6 hr (by decide) (pv 0) (pa_cons (pe_ix ix_list (pv 2) pe_int (fun _ _ => rfl)) (pa_cons (pe_ix ix_list (pv 3) pe_int (fun _ _ => rfl)) pa_nil))))) pss_nil)
    (pss_one (ps_ret (pe_mt c7 hr (by decide) (pv 0) (pa_cons (pe_ix ix_list (pv 2) pe_int (fun _ _ => rfl)) (pa_cons (pe_ix ix_list (pv 3) pe_int (fun _ _ => rfl)) pa_nil)))))))))), ?_⟩)
  · obtain ⟨d, h, la, ll, o, ls, t, x, rfl, _⟩ := h
    rfl
  · obtain ⟨d, h, la, ll, o, ls, t, ⟨p, own, rows, c⟩, rfl, hd, G, ho, hrows, ⟨hsh, hm, hln⟩, hlen, k⟩ := h
    obtain ⟨dx, hdx⟩ := hd.desk
    have hsh : U.Shape p own rows c := hsh
    have hm : rows.length ≤ 1000 := hm
    have hln : ∀ r ∈ rows, r.length ≤ 1000 := hln
    -- a test of the call's number
    have tst : ∀ (b : Bool) (i : Int) (H1 : Hp), decide (iv p = V.int i) = b → EvT (tTest (tOp rEq (tVar 1) (tC (.int i)))) (start ["desk", "call", "own", "lists"] [.ref d, iv p, .ref o, .ref ls]) H1 b := fun b i H1 hb => et_is (et_test (ev_op (ev_var rfl) ev_c (rv_eq rfl))) hb
    have own0 : ∀ (i n : Nat) (H1 : Hp), own[i]? = some n → Ex H H1 → Ev (tOp (rIxL K) (tVar 2) (tC (.int (i : Int)))) (start ["desk", "call", "own", "lists"] [.ref d, iv p, .ref o, .ref ls]) H1 (iv n) := fun i n H1 hn e => ev_op (ev_var rfl) ev_c (rv_ixL (sq_of (e _ _ ho)) (at_iv (get_ivs hn)))
    have row0 : ∀ (r : List Nat), rows[0]? = some r → ∃ l, H l = some (.lst (ivs r)) ∧ ∀ H1, Ex H H1 → Ev (tOp (rIxL K) (tVar 3) (tC (.int 0))) (start ["desk", "call", "own", "lists"] [.ref d, iv p, .ref o, .ref ls]) H1 (.ref l) := fun r hr0 => by
      obtain ⟨vs, v1, v2, v3⟩ := id hrows
      obtain ⟨l, l1, l2⟩ := v3 0 r hr0
      exact ⟨l, l2, fun H1 e => ev_op (ev_var rfl) ev_c (rv_ixL (sq_of (e _ _ v1)) (at_iv (k := 0) l1))⟩
    cases hsh with
    | begins n g =>
      refine q_when (tst true 0 H rfl) (fun _ H1 e1 => ?_) (fun z => by cases z)
      exact s_retMeth (ev_var rfl) (e1 _ _ hdx) (dF_no (by decide +kernel)) (ea_cons (own0 0 n H1 rfl e1) (ea_cons (own0 1 g H1 rfl e1) ea_nil)) fun H2 e2 => ⟨d, h, la, ll, t, n, g, rfl, hd.ex (e1.trans e2), After.ex (e1.trans e2) k⟩
    | act c0' rows' =>
      refine q_when (tst false 0 H rfl) (fun z => by cases z) (fun _ H1 e1 => ?_)
      refine q_when (tst true 1 H1 rfl) (fun _ H2 e2 => ?_) (fun z => by cases z)
      have e02 := e1.trans e2
      exact s_retMeth (ev_var rfl) (e02 _ _ hdx) (dF_no (by decide +kernel)) (ea_cons (own0 0 _ H2 rfl e02) (ea_cons (ev_var rfl) ea_nil)) fun H3 e3 => ⟨d, h, la, ll, ls, t, _, rows, rfl, hd.ex (e02.trans e3), G, hrows.ex (e02.trans e3), hm, hln, After.ex (e02.trans e3) k⟩
    | look c0' l' =>
      obtain ⟨lr, lr1, lr2⟩ := row0 l' rfl
      refine q_when (tst false 0 H rfl) (fun z => by cases z) (fun _ H1 e1 => ?_)
      refine q_when (tst false 1 H1 rfl) (fun z => by cases z) (fun _ H2 e2 => ?_)
      refine q_when (tst true 2 H2 rfl) (fun _ H3 e3 => ?_) (fun z => by cases z)
      have e03 := (e1.trans e2).trans e3
      exact s_retMeth (ev_var rfl) (e03 _ _ hdx) (dF_no (by decide +kernel)) (ea_cons (own0 0 _ H3 rfl e03) (ea_cons (lr2 H3 e03) ea_nil)) fun H4 e4 => ⟨d, h, la, ll, lr, t, _, l', rfl, hd.ex (e03.trans e4), G, sq_of ((e03.trans e4) _ _ lr1), hln _ List.mem_cons_self, After.ex (e03.trans e4) k⟩
    | goal g =>
      refine q_when (tst false 0 H rfl) (fun z => by cases z) (fun _ H1 e1 => ?_)
      refine q_when (tst false 1 H1 rfl) (fun z => by cases z) (fun _ H2 e2 => ?_)
      refine q_when (tst false 2 H2 rfl) (fun z => by cases z) (fun _ H3 e3 => ?_)
      refine q_when (tst true 3 H3 rfl) (fun _ H4 e4 => ?_) (fun z => by cases z)
      have e04 := ((e1.trans e2).trans e3).trans e4
      exact s_retMeth (ev_var rfl) (e04 _ _ hdx) (dF_no (by decide +kernel)) (ea_cons (own0 0 _ H4 rfl e04) ea_nil) fun H5 e5 => ⟨d, h, la, ll, t, g, rfl, hd.ex (e04.trans e5), G, After.ex (e04.trans e5) k⟩
    | plan b =>
      refine q_when (tst false 0 H rfl) (fun z => by cases z) (fun _ H1 e1 => ?_)
      refine q_when (tst false 1 H1 rfl) (fun z => by cases z) (fun _ H2 e2 => ?_)
      refine q_when (tst false 2 H2 rfl) (fun z => by cases z) (fun _ H3 e3 => ?_)
      refine q_when (tst false 3 H3 rfl) (fun z => by cases z) (fun _ H4 e4 => ?_)
      refine q_when (b := true || false) (et_or (tst true 4 H4 rfl) (fun z => by cases z)) (fun _ H5 e5 => ?_) (fun z => by cases z)
      have e05 := (((e1.trans e2).trans e3).trans e4).trans e5
      exact s_retMeth (ev_var rfl) (e05 _ _ hdx) (dF_no (by decide +kernel)) (ea_cons (own0 0 _ H5 rfl e05) (ea_cons (ev_is (w := .bl false) (ev_op (ev_var rfl) ev_c (rv_eq rfl)) rfl) ea_nil)) fun H6 e6 => ⟨d, h, la, ll, t, b, true, rfl, hd.ex (e05.trans e6), G, hlen, After.ex (e05.trans e6) k⟩
    | blind b =>
      refine q_when (tst false 0 H rfl) (fun z => by cases z) (fun _ H1 e1 => ?_)
      refine q_when (tst false 1 H1 rfl) (fun z => by cases z) (fun _ H2 e2 => ?_)
      refine q_when (tst false 2 H2 rfl) (fun z => by cases z) (fun _ H3 e3 => ?_)
      refine q_when (tst false 3 H3 rfl) (fun z => by cases z) (fun _ H4 e4 => ?_)
      refine q_when (b := false || true) (et_or (tst false 4 H4 rfl) (fun _ => tst true 5 H4 rfl)) (fun _ H5 e5 => ?_) (fun z => by cases z)
      have e05 := (((e1.trans e2).trans e3).trans e4).trans e5
      exact s_retMeth (ev_var rfl) (e05 _ _ hdx) (dF_no (by decide +kernel)) (ea_cons (own0 0 _ H5 rfl e05) (ea_cons (ev_is (w := .bl true) (ev_op (ev_var rfl) ev_c (rv_eq rfl)) rfl) ea_nil)) fun H6 e6 => ⟨d, h, la, ll, t, b, false, rfl, hd.ex (e05.trans e6), G, hlen, After.ex (e05.trans e6) k⟩
    | judge b l' =>
      obtain ⟨lr, lr1, lr2⟩ := row0 l' rfl
      refine q_when (tst false 0 H rfl) (fun z => by cases z) (fun _ H1 e1 => ?_)
      refine q_when (tst false 1 H1 rfl) (fun z => by cases z) (fun _ H2 e2 => ?_)
      refine q_when (tst false 2 H2 rfl) (fun z => by cases z) (fun _ H3 e3 => ?_)
      refine q_when (tst false 3 H3 rfl) (fun z => by cases z) (fun _ H4 e4 => ?_)
      refine q_when (b := false || false) (et_or (tst false 4 H4 rfl) (fun _ => tst false 5 H4 rfl)) (fun z => by cases z) (fun _ H5 e5 => ?_)
      refine q_when (tst true 6 H5 rfl) (fun _ H6 e6 => ?_) (fun z => by cases z)
      have e06 := ((((e1.trans e2).trans e3).trans e4).trans e5).trans e6
      exact s_retMeth (ev_var rfl) (e06 _ _ hdx) (dF_no (by decide +kernel)) (ea_cons (own0 0 _ H6 rfl e06) (ea_cons (lr2 H6 e06) ea_nil)) fun H7 e7 => ⟨d, h, la, ll, lr, t, b, l', rfl, hd.ex (e06.trans e7), G, sq_of ((e06.trans e7) _ _ lr1), hln _ List.mem_cons_self, After.ex (e06.trans e7) k⟩
    | after b l' =>
      obtain ⟨lr, lr1, lr2⟩ := row0 l' rfl
      refine q_when (tst false 0 H rfl) (fun z => by cases z) (fun _ H1 e1 => ?_)
      refine q_when (tst false 1 H1 rfl) (fun z => by cases z) (fun _ H2 e2 => ?_)
      refine q_when (tst false 2 H2 rfl) (fun z => by cases z) (fun _ H3 e3 => ?_)
      refine q_when (tst false 3 H3 rfl) (fun z => by cases z) (fun _ H4 e4 => ?_)
      refine q_when (b := false || false) (et_or (tst false 4 H4 rfl) (fun _ => tst false 5 H4 rfl)) (fun z => by cases z) (fun _ H5 e5 => ?_)
      refine q_when (tst false 6 H5 rfl) (fun z => by cases z) (fun _ H6 e6 => ?_)
      have e06 := ((((e1.trans e2).trans e3).trans e4).trans e5).trans e6
      exact s_retMeth (ev_var rfl) (e06 _ _ hdx) (dF_no (by decide +kernel)) (ea_cons (own0 0 _ H6 rfl e06) (ea_cons (lr2 H6 e06) ea_nil)) fun H7 e7 => ⟨d, h, la, ll, lr, t, b, l', rfl, hd.ex (e06.trans e7), G, sq_of ((e06.trans e7) _ _ lr1), hln _ List.mem_cons_self, After.ex (e06.trans e7) k⟩
end
end Un
set_option Elab.async false
set_option autoImplicit false
set_option maxRecDepth 100000
set_option maxHeartbeats 4000000
namespace Un
open PySem PySem.Spec PyProof.Rows L2 Evl
open C8 (Cal Met Mak pe_c pe_mk pe_mt)
section
variable {K : PySem.W.Frag} {σ : L2.St} {H : Hp} {te ta tb tc : TE} {t : TA} {D : Ends} {tz : TS}
theorem q_callG {sp : Sp} {E : XK} {g : TG} {vs : List V} (h : EvA t σ H vs) (k : ∀ H1, Ex H H1 → sp vs H1 (fun v H2 => g v σ H2 (tz D)) E) : tSeq (tAsg (tCall sp [] E t) g) tz D σ H := h H (Ex.refl H) _ fun H1 e1 => by
  rw [List.append_nil]
  exact k H1 e1
theorem q_appB {l : Addr} {xs : List V} {v : V} (hl : H l = some (.lst xs)) (ha : Ev ta σ H (.ref l)) (h : Ev te σ H v) (hz : xs.length < sizeLine) (k : ∀ H1, Ex H H1 → tz D σ (upd H1 l (.lst (xs ++ [v])))) : tSeq (tDrop (tBM K "list" rAppend ta (tCons te tNil))) tz D σ H :=
  s_appB (D := { D with nx := tz D }) hl ha h hz k
end
theorem Rb.upd {C D : Addr} {H : Hp} {d h la ll f : Addr} {t : Pn09.Task} (r : Rb C D H d h la ll t f) (o1 : HO) : Rb C D (upd H f o1) d h la ll t f := fun o => by
  have e : L2.upd (L2.upd H f o1) f o = L2.upd H f o := by
    funext c
    by_cases z : c = f
    · subst z
      rw [upd_same, upd_same]
    · rw [upd_ne z, upd_ne z, upd_ne z]
  rw [e]
  exact r o
/-- where the loop over the calls stands -/
def AnsW (C D : Addr) (H : Hp) (a x f0 : Addr) (L : List U.Told) (m : Nat) (σ' : L2.St) (H' : Hp) : Prop :=
  ∃ (rest : List U.Told) (pre : List Nat) (F : List Int) (t : Pn09.Task) (h la ll : Addr) (v4 v5 v6 v7 v8 : Option V), m = rest.length ∧ σ' = [some (.ref a), some (.ref x), some (.ref f0), some (iv pre.length), v4, v5, v6, v7, v8] ∧
    U.nput L = pre ++ U.nput rest ∧ (∀ y ∈ rest, U.Fine y) ∧ DeskAt C D H' x h la ll t ∧ Rb C D H' x h la ll t f0 ∧ U.Good t ∧ Ex H H' ∧ (H h = none ∧ H la = none ∧ H ll = none) ∧ f0 ∉ [x, h, la, ll] ∧
    H' f0 = some (.lst (F.map V.int)) ∧ F ++ U.ansOf ⟨t⟩ rest = U.ansOf Pn09.init L ∧ U.mny ⟨t⟩ rest ≤ 1000000
section
variable {P : Program} {w : World} {K : PySem.W.Frag} {mg : Str → Option Value} {base : Heap} {C D aS : Addr}
theorem sc50 : FnScope ["calls", "desk", "found", "at", "call", "own", "behind", "lists", "more"] ["calls"] (defScope (topS 50)) := ⟨rfl, rfl, rfl, by decide +kernel, rfl, by decide +kernel, by decide +kernel⟩
theorem c_answers (T : Txt K mg C D aS) {f : Addr} {fd : FuncData} (F : Fun K "answers" "answers" (topS 50) f fd) (cD : Mak P w K mg base 3 "Desk" D (spDI C D) []) (cA : Cal P w K mg base 1 "list_at" (spListAt K) []) (cB : Cal P w K mg base 2 "lists_at" (spListsAt K) []) (cT : Cal P w K mg base 44 "told" (spTold C D) []) : FnOk P w K mg base CX0 45 f fd ["calls"] (spAns K) := by
  refine F.ok sc50 (fun vs H Q E h => ?_) (fun cdv A outer s H vs Q E hr h => ⟨_,
    pss_cons (ps_set (i := 1) sc50.nd rfl (Or.inl rfl) (pe_mk0 cD hr (by decide) rfl))
    (pss_cons (ps_set (i := 2) sc50.nd rfl (Or.inl rfl) (pe_lst pa_nil))
    (pss_cons (ps_set (i := 3) sc50.nd rfl (Or.inl rfl) pe_int)
    (pss_cons (ps_while PassesOwn.never (pt_cmpR op_lt (pv 3) (pe_callB call_len_seq (by rfl) T.bLen PySem.boot_len (pa_cons (pv 0) pa_nil)) (nomark _))
      (pss_cons (ps_set (i := 4) sc50.nd rfl (Or.inl rfl) (pe_ix ix_list (pv 0) (pv 3) (fun _ _ => rfl)))
      (pss_cons (ps_asg (pe_c cA hr (by decide) rfl (pa_cons (pv 0) (pa_cons (pe_op op_add (pv 3) pe_int) pa_nil))) (pg_tup rfl (pgs_cons (pg_name (i := 5) sc50.nd rfl (Or.inl rfl)) (pgs_cons (pg_name (i := 6) sc50.nd rfl (Or.inl rfl)) pgs_nil))))
      (pss_cons (ps_asg (pe_c cB hr (by decide) rfl (pa_cons (pv 0) (pa_cons (pv 6) pa_nil))) (pg_tup rfl (pgs_cons (pg_name (i := 7) sc50.nd rfl (Or.inl rfl)) (pgs_cons (pg_name (i := 3) sc50.nd rfl (Or.inl rfl)) pgs_nil))))
      (pss_cons (ps_set (i := 8) sc50.nd rfl (Or.inl rfl) (pe_c cT hr (by decide) rfl (pa_cons (pv 1) (pa_cons (pv 4) (pa_cons (pv 5) (pa_cons (pv 7) pa_nil))))))
      (pss_cons (ps_expr (pe_bm PySem.F.plainAttrs_list PySem.F.slot_list_append PySem.F.type_list_append mt_append (pv 2) (pa_cons (pe_callB call_len_seq (by rfl) T.bLen PySem.boot_len (pa_cons (pv 8) pa_nil)) pa_nil)))
      (pss_one (ps_expr (pe_bm PySem.F.plainAttrs_list PySem.F.slot_list_extend PySem.F.type_list_extend mt_extend (pv 2) (pa_cons (pv 8) pa_nil))))))))))
    (pss_one (ps_ret (pv 2)))))), ?_⟩)
  · obtain ⟨a, ns, rfl, _⟩ := h
    rfl
  · obtain ⟨a, ns, rfl, hl, hask, q⟩ := h
    obtain ⟨L, hfine, rfl, hans, hmny, hlong⟩ := U.parsed hask
    rw [hans] at q
    rw [show (U.cst (U.nput L)).map V.int = ivs (U.nput L) from nats_int _] at hl
    refine fun x dx nx nd _ => ⟨x, dx, rfl, upd_same, fun H1 h la ll hd fh fa fl kp => ⟨rfl, ?_⟩⟩
    have e1 : Ex H H1 := make_house nx nd kp
    have fh0 := free_made fh
    have fa0 := free_made fa
    have fl0 := free_made fl
    refine q_asgL (xs := []) (el_lst ea_nil (by decide)) fun f0 H2 ff e2 h2 => ?_
    refine q_asg (v := iv 0) ev_c fun H3 e3 => ?_
    have fne : ∀ b o, H1 b = some o → b ≠ f0 := fun b o hb => ne_of_none hb ff
    have hf0 : f0 ∉ [x, h, la, ll] := by
      obtain ⟨dxd, g1⟩ := hd.desk
      obtain ⟨dxh, g2⟩ := hd.house.ins
      obtain ⟨va, g3, _⟩ := hd.house.acts
      obtain ⟨vl, g4, _⟩ := hd.house.looks
      have n1 := fne _ _ g1
      have n2 := fne _ _ g2
      have n3 := fne _ _ g3
      have n4 := fne _ _ g4
      simp only [List.mem_cons, List.not_mem_nil, or_false, not_or]
      exact ⟨Ne.symm n1, Ne.symm n2, Ne.symm n3, Ne.symm n4⟩
    refine q_while (AnsW C D H a x f0 L) L.length ⟨L, [], [], ⟨1, 0, [], []⟩, h, la, ll, none, none, none, none, none, rfl, rfl, rfl, hfine, hd.ex (e2.trans e3), fun o => ?_, U.good_init, (e1.trans e2).trans e3, ⟨fh0, fa0, fl0⟩, hf0, e3 _ _ h2, rfl, hmny⟩ ?_
    · refine hd.ex fun b u hb => ?_
      rw [upd_ne (fne _ _ hb)]
      exact (e2.trans e3) _ _ hb
    have fx0 : H x = none := nx
    have ff0 : H f0 = none := fresh_back e1 ff
    clear hd hf0 fne h2 hmny hfine e3 ff e2
    rintro m σ' H' ⟨rest, pre, F, t, h, la, ll, v4, v5, v6, v7, v8, rfl, rfl, hcl, hfine, hd, hrb, G, e, ⟨fh, fa, fl⟩, hf0, hF, htot, hmny⟩
    have evl : Ev (tCB (rLenS K) (tCons (tVar 0) tNil)) [some (V.ref a), some (.ref x), some (.ref f0), some (iv pre.length), v4, v5, v6, v7, v8] H' (iv (U.nput L).length) := ev_is (ev_len (ev_var rfl) (ex_l e hl)) (by rw [List.length_map]; rfl)
    cases rest with
    | nil =>
      refine ⟨false, et_is (et_test (ev_op (ev_var rfl) evl (rv_iI rfl))) (decide_eq_false ?_), (fun z => by cases z), fun _ H4 e4 => ?_⟩
      · rw [hcl]
        show ¬ ((pre.length : Nat) : Int) < (((pre ++ []).length : Nat) : Int)
        rw [List.append_nil]
        omega
      · refine s_ret (ev_var rfl) fun H5 e5 => q H5 f0 ?_
        have : F = U.ansOf Pn09.init L := by
          rw [← htot]
          exact (List.append_nil F).symm
        rw [← this]
        exact (e4.trans e5) _ _ hF
    | cons y rest =>
      obtain ⟨p, own, rows, c⟩ := y
      have hcl' : U.nput L = pre ++ (p :: own.length :: (own ++ (rows.length :: (U.nrows rows ++ U.nput rest)))) := by
        rw [hcl]
        show pre ++ ((p :: own.length :: (own ++ (rows.length :: U.nrows rows))) ++ U.nput rest) = _
        simp only [List.append_assoc, List.cons_append]
      have hcl2 : U.nput L = (pre ++ (p :: own.length :: own)) ++ (rows.length :: (U.nrows rows ++ U.nput rest)) := by
        rw [hcl']
        simp only [List.append_assoc, List.cons_append]
      have hcl3 : U.nput L = (pre ++ (p :: own.length :: (own ++ (rows.length :: U.nrows rows)))) ++ U.nput rest := by
        rw [hcl']
        simp only [List.append_assoc, List.cons_append]
      have len2 : (pre ++ (p :: own.length :: own)).length = pre.length + 1 + 1 + own.length := by
        rw [List.length_append, List.length_cons, List.length_cons]; omega
      have len3 : (pre ++ (p :: own.length :: (own ++ (rows.length :: U.nrows rows)))).length = (pre ++ (p :: own.length :: own)).length + 1 + (U.nrows rows).length := by
        rw [len2, List.length_append, List.length_cons, List.length_cons, List.length_append, List.length_cons]; omega
      have g0 : (U.nput L)[pre.length]? = some p := by
        rw [hcl', List.getElem?_append_right (Nat.le_refl _), Nat.sub_self]; rfl
      have g1 : (U.nput L)[pre.length + 1]? = some own.length := by
        rw [hcl', List.getElem?_append_right (by omega), show pre.length + 1 - pre.length = 1 by omega]; rfl
      have g2 : pre.length + 1 + 1 + own.length ≤ (U.nput L).length := by
        rw [hcl2, List.length_append, len2]; omega
      have g3 : ((U.nput L).drop (pre.length + 1 + 1)).take own.length = own := by
        rw [hcl', List.drop_append, List.drop_eq_nil_of_le (by omega), List.nil_append, show pre.length + 1 + 1 - pre.length = 2 by omega]
        show (own ++ _).take own.length = own
        exact List.take_left
      have hl2 : SqL K H a (ivs ((pre ++ (p :: own.length :: own)) ++ (rows.length :: (U.nrows rows ++ U.nput rest)))) := by rw [← hcl2]; exact hl
      obtain ⟨fsh, fm, flg⟩ := hfine _ List.mem_cons_self
      have fm' : rows.length ≤ 1000 := fm
      refine ⟨true, et_is (et_test (ev_op (ev_var rfl) evl (rv_iI rfl))) (decide_eq_true ?_), (fun _ H4 e4 => ⟨AnsW C D H a x f0 L rest.length, fun σ2 H2 hw => ⟨rest.length, Nat.lt_succ_self _, hw⟩, ?_⟩), fun z => by cases z⟩
      · show ((pre.length : Nat) : Int) < (((U.nput L).length : Nat) : Int)
        omega
      have e04 := e.trans e4
      refine q_asg (v := iv p) (ev_op (ev_var rfl) (ev_var rfl) (rv_ixL (ex_l e04 hl) (at_iv (get_ivs g0)))) fun H5 e5 => ?_
      have e05 := e04.trans e5
      refine q_callG (vs := [.ref a, iv (pre.length + 1)]) (ea_cons (ev_var rfl) (ea_cons (ev_op (x := iv pre.length) (ev_var rfl) ev_c (rv_I0 (i := (pre.length : Int)) (j := 1))) ea_nil)) fun H6 e6 => ?_
      have e06 := e05.trans e6
      refine ⟨a, U.nput L, pre.length + 1, own.length, rfl, ex_l e06 hl, g1, g2, fun p1 l H7 _ _ e7 h7 hl7 => ?_⟩
      rw [g3] at hl7
      refine g_two h7 ?_
      have e07 := e06.trans e7
      refine q_callG (vs := [.ref a, iv (pre ++ (p :: own.length :: own)).length]) (ea_cons (ev_var rfl) (ea_cons (ev_var (by rw [len2]; rfl)) ea_nil)) fun H8 e8 => ?_
      have e08 := e07.trans e8
      refine ⟨a, pre ++ (p :: own.length :: own), U.nput rest, rows, rfl, ex_l e08 hl2, fm', fun p2 ls H9 _ _ e9 h9 hls => ?_⟩
      rw [← len3] at h9
      refine g_two h9 ?_
      have e09 := e08.trans e9
      have e49 : Ex H4 H9 := (((e5.trans e6).trans e7).trans e8).trans e9
      have e9' : Ex H' H9 := e4.trans e49
      have hstep : (Pn09Neutral.out (Pn09.step ⟨t⟩ c).2).length + U.mny (Pn09.step ⟨t⟩ c).1 rest ≤ 1000000 := hmny
      have hout : (Pn09Neutral.out (Pn09.step ⟨t⟩ c).2).length = (Pn09.step ⟨t⟩ c).2.l.length + 1 := by
        unfold Pn09Neutral.out
        simp
      have htot' : F ++ (((Pn09Neutral.out (Pn09.step ⟨t⟩ c).2).length : Int) :: (Pn09Neutral.out (Pn09.step ⟨t⟩ c).2 ++ U.ansOf (Pn09.step ⟨t⟩ c).1 rest)) = U.ansOf Pn09.init L := htot
      refine q_callG (vs := [.ref x, iv p, .ref l, .ref ls]) (ea_cons (ev_var rfl) (ea_cons (ev_var rfl) (ea_cons (ev_var rfl) (ea_cons (ev_var rfl) ea_nil)))) fun H10 e10 => ?_
      have e910 := e9'.trans e10
      have e010 := e09.trans e10
      refine ⟨x, h, la, ll, l, ls, t, ⟨p, own, rows, c⟩, rfl, hd.ex e910, G, ((e8.trans e9).trans e10) _ _ hl7, hls.ex e10, ⟨fsh, fm, flg⟩, by show (Pn09.step ⟨t⟩ c).2.l.length ≤ 1000000; omega, fun H11 h' la' ll' pp hd11 kp11 fr11 rb11 fpp hpp => ?_⟩
      have hF10 := e910 _ _ hF
      have hF11 := kp11 _ _ hF10 hf0
      have e011 : Ex H H11 := fun b o hb => kp11 b o (e010 b o hb) (by
        have nn : ∀ {q : Addr}, H q = none → b ≠ q := fun hq => ne_of_none hb hq
        simp only [List.mem_cons, List.not_mem_nil, or_false, not_or]
        exact ⟨nn fx0, nn fh, nn fa, nn fl⟩)
      have frn : ∀ b ∈ [h', la', ll'], H b = none ∧ f0 ≠ b := fun b hb => by
        obtain ⟨f1, f2, f3, f4⟩ := not4 hf0
        rcases fr11 b hb with z | z
        · simp only [List.mem_cons, List.not_mem_nil, or_false] at z
          rcases z with z | z | z
          · rw [z]; exact ⟨fh, f2⟩
          · rw [z]; exact ⟨fa, f3⟩
          · rw [z]; exact ⟨fl, f4⟩
        · exact ⟨fresh_back e010 z, ne_of_none hF10 z⟩
      have r11 := rb11 f0 (by rw [hF10]; exact Option.some_ne_none _) hf0 (hrb.ex e910)
      have hnpf : pp ≠ f0 := Ne.symm (ne_of_none hF10 fpp)
      generalize hA : Pn09Neutral.out (Pn09.step ⟨t⟩ c).2 = ans at *
      have hsz : F.length + (1 + ans.length) ≤ 10000000 := by
        have := hlong
        rw [← htot', List.length_append, List.length_cons, List.length_append] at this
        omega
      refine q_appB (K := K) (xs := F.map V.int) (v := V.int ((ans.length : Nat) : Int)) hF11 (ev_var rfl) (ev_is (ev_len (ev_var rfl) (sq_of hpp)) (by rw [List.length_map])) (by rw [List.length_map, sizeLine_eq]; omega) fun H12 e12 => ?_
      refine s_extV (K := K) (b := pp) (xs := F.map V.int ++ [V.int ((ans.length : Nat) : Int)]) (zs := ans.map V.int) upd_same (by rw [upd_ne hnpf]; exact e12 _ _ hpp) (ev_var rfl) (ev_var rfl) (by rw [List.length_append, List.length_map, List.length_map, List.length_singleton, sizeLine_eq]; omega) fun H13 e13 => ?_
      have r13 := ((r11.ex e12).upd (.lst (F.map V.int ++ [V.int ((ans.length : Nat) : Int)]))).ex e13
      refine ⟨rest, pre ++ (p :: own.length :: (own ++ (rows.length :: U.nrows rows))), F ++ ((ans.length : Nat) : Int) :: ans, (Pn09.step ⟨t⟩ c).1.task, h', la', ll', _, _, _, _, _, rfl, rfl, hcl3, fun z hz => hfine z (List.mem_cons_of_mem _ hz), r13 _, r13.upd _, U.step_good G c, ?_, ⟨(frn h' List.mem_cons_self).1, (frn la' (List.mem_cons_of_mem _ List.mem_cons_self)).1, (frn ll' (List.mem_cons_of_mem _ (List.mem_cons_of_mem _ List.mem_cons_self))).1⟩, ?_, ?_, ?_, ?_⟩
      · exact Ex.mut ((Ex.mut (e011.trans e12) ff0).trans e13) ff0
      · simp only [List.mem_cons, List.not_mem_nil, or_false, not_or]
        exact ⟨(not4 hf0).1, (frn h' List.mem_cons_self).2, (frn la' (List.mem_cons_of_mem _ List.mem_cons_self)).2, (frn ll' (List.mem_cons_of_mem _ (List.mem_cons_of_mem _ List.mem_cons_self))).2⟩
      · rw [upd_same, List.map_append, List.map_cons, List.append_assoc]
        rfl
      · rw [← htot', List.append_assoc]
        rfl
      · show U.mny (Pn09.step ⟨t⟩ c).1 rest ≤ 1000000
        omega
end
end Un
set_option Elab.async false
set_option autoImplicit false
set_option maxRecDepth 100000
set_option maxHeartbeats 0
namespace Un
open PySem PySem.Spec PyProof.Rows L2 Evl
open C8 (Cal Met Mak pe_c pe_mk pe_mt)
theorem absV_int {u : Value} {i : Int} (h : absV u = some (.int i)) : ∃ t, u = .int i t := by
  cases u <;> first | (cases h; done) | skip
  case int j t =>
    have : j = i := by
      have h' : some (V.int j) = some (V.int i) := h
      injection h' with h'
      injection h'
    subst this
    exact ⟨t, rfl⟩
theorem vals3 {v0 v1 v2 : Value} (r0 : absV v0 = some (.int 0)) (r1 : absV v1 = some (.int 1)) (r2 : absV v2 = some (.int 2)) : Vals [iv 0, iv 1, iv 2] [v0, v1, v2] := by
  obtain ⟨_, rfl⟩ := absV_int r0
  obtain ⟨_, rfl⟩ := absV_int r1
  obtain ⟨_, rfl⟩ := absV_int r2
  exact .cons ⟨_, rfl⟩ (.cons ⟨_, rfl⟩ (.cons ⟨_, rfl⟩ .nil))
theorem chain {P : Program} {w : World} {K : PySem.W.Frag} {mg : Str → Option Value} {base : Heap} {C D aS : Addr} (T : Txt K mg C D aS)
    (d3 : Df K mg "is_in" 3 ["k", "some"])
    (d4 : Df K mg "set_of" 4 ["states"])
    (d5 : Df K mg "members" 5 ["house", "where"])
    (d6 : Df K mg "is_as_wanted" 6 ["house", "where"])
    (d7 : Df K mg "can_act" 7 ["house", "where", "act"])
    (d8 : Df K mg "behind_act" 8 ["house", "where", "act"])
    (d9 : Df K mg "seen_by" 9 ["house", "look", "k"])
    (d10 : Df K mg "behind_look" 10 ["house", "where", "look"])
    (d15 : Df K mg "act_cost" 15 ["house", "costs", "where", "act"])
    (d16 : Df K mg "look_cost" 16 ["house", "costs", "where", "look"])
    (d17 : Df K mg "ways_from" 17 ["house", "costs", "where", "is_blind"])
    (d18 : Df K mg "best_cost" 18 ["house", "costs", "where", "is_blind"])
    (d19 : Df K mg "next_costs" 19 ["house", "costs", "is_blind"])
    (d20 : Df K mg "all_costs" 20 ["house", "is_blind"])
    (d21 : Df K mg "plan_from" 21 ["house", "costs", "where", "is_blind"])
    (d22 : Df K mg "best_plan" 22 ["house", "where", "is_blind"])
    (d26 : Df K mg "sets_behind" 26 ["house", "where", "number"])
    (d27 : Df K mg "walked" 27 ["house", "where", "numbers"])
    (d28 : Df K mg "is_there" 28 ["house", "where", "number"])
    (d29 : Df K mg "wrong_at" 29 ["house", "where", "number"])
    (d30 : Df K mg "first_wrong" 30 ["house", "steps"])
    (d31 : Df K mg "cost_of" 31 ["house", "number"])
    (d32 : Df K mg "worst_cost" 32 ["house", "steps"])
    (d33 : Df K mg "judged" 33 ["house", "where", "numbers"])
    (d43 : Df K mg "is_cost" 43 ["cost"])
    (d44 : Df K mg "is_row" 44 ["states", "row"])
    (d47 : Df K mg "told" 47 ["desk", "call", "own", "lists"])
    (d48 : Df K mg "list_at" 48 ["calls", "at"])
    (d49 : Df K mg "lists_at" 49 ["calls", "at"])
    (nC : Nf K mg C "House" "House.__init__" 2 ["self", "states", "wanted"])
    (nD : Nf K mg D "Desk" "Desk.__init__" 45 ["self"])
    (m1 : Mf K D "is_set" "Desk.is_set" 45 1 ["self", "some"])
    (m2 : Mf K D "is_somewhere" "Desk.is_somewhere" 45 2 ["self", "where"])
    (m3 : Mf K D "begins" "Desk.begins" 45 3 ["self", "states", "wanted"])
    (m4 : Mf K D "add_act" "Desk.add_act" 45 4 ["self", "cost", "leads"])
    (m5 : Mf K D "add_look" "Desk.add_look" 45 5 ["self", "cost", "seen"])
    (m6 : Mf K D "goal" "Desk.goal" 45 6 ["self", "wanted"])
    (m7 : Mf K D "plan" "Desk.plan" 45 7 ["self", "where", "is_blind"])
    (m8 : Mf K D "judge" "Desk.judge" 45 8 ["self", "where", "numbers"])
    (m9 : Mf K D "after" "Desk.after" 45 9 ["self", "where", "acts"])
    {f : Addr} {fd : FuncData} (F : Fun K "answers" "answers" (topS 50) f fd) : FnOk P w K mg base CX0 45 f fd ["calls"] (spAns K) := by
  have cIn : Cal P w K mg base 1 "is_in" spIsIn [] := c_isIn d3
  have cSet : Cal P w K mg base 1 "set_of" (spSetOf K) [] := c_setOf T d4
  have cMem : Cal P w K mg base 2 "members" (spMembers C) [] := c_members T d5 cIn
  have cWan : Cal P w K mg base 1 "is_as_wanted" (spWanted C) [] := c_wanted T d6
  have cCan : Cal P w K mg base 3 "can_act" (spCan C) [] := c_can T d7 cMem
  have cBeh : Cal P w K mg base 3 "behind_act" (spBehind C) [] := c_behind T d8 cMem
  have cSee : Cal P w K mg base 1 "seen_by" (spSeen C) [] := c_seen T d9
  have cBeL : Cal P w K mg base 3 "behind_look" (spBehindL C) [] := c_behindL T d10 cMem cSet cSee
  have cAC : Cal P w K mg base 4 "act_cost" (spActCost K C) [] := c_actCost T d15 cCan cBeh
  have cLC : Cal P w K mg base 4 "look_cost" (spLookCost K C) [] := c_lookCost T d16 cBeL
  have cWay : Cal P w K mg base 5 "ways_from" (spWays K C) [] := c_ways T d17 cAC cLC
  have cBes : Cal P w K mg base 6 "best_cost" (spBest K C) [] := c_best T d18 cWan cWay
  have cNex : Cal P w K mg base 7 "next_costs" (spNext K C) [] := c_next T d19 cBes
  have cAll : Cal P w K mg base 8 "all_costs" (spAll C) [] := c_all T d20 cNex
  have cPla : Cal P w K mg base 41 "plan_from" (spPlan K C 33) [] := c_plan T d21 cWan cWay cBeh cBeL 33
  have cBP : Cal P w K mg base 42 "best_plan" (spBestPlan C) [] := c_bestPlan T d22 cAll cPla
  have cSB : Cal P w K mg base 4 "sets_behind" (spSets C) [] := c_sets T d26 cBeh cBeL
  have cWal : Cal P w K mg base 5 "walked" (spWalked K C) [] := c_walked T d27 cSB
  have cThe : Cal P w K mg base 4 "is_there" (spThere C) [] := c_there T d28 cCan
  have cWro : Cal P w K mg base 5 "wrong_at" (spWrong C) [] := c_wrong T d29 cWan cThe
  have cFir : Cal P w K mg base 6 "first_wrong" (spFirst C) [] := c_first T d30 cWro
  have cCO : Cal P w K mg base 1 "cost_of" (spCostOf C) [] := c_costOf T d31
  have cWor : Cal P w K mg base 5 "worst_cost" (spWorst C) [] := c_worst T d32 cSB cCO
  have cJud : Cal P w K mg base 7 "judged" (spJudged K C) [] := c_judged T d33 cWal cFir cWor
  have cIC : Cal P w K mg base 1 "is_cost" spIsCost [] := c_isCost T d43
  have cIR : Cal P w K mg base 1 "is_row" (spIsRow K) [] := c_isRow T d44
  have cHI : Mak P w K mg base 1 "House" C (spHI C) [] := c_HI T nC
  have cDI : Mak P w K mg base 3 "Desk" D (spDI C D) [] := c_DI T nD cHI
  have e1 : Met P w K mg base 1 D "is_set" (spIsSet C D) [] := c_isSet T m1
  have e2 : Met P w K mg base 2 D "is_somewhere" (spSomewhere C D) [] := c_somewhere m2 e1
  have e3 : Met P w K mg base 3 D "begins" (spBegins C D) [] := c_begins T m3 cHI
  have e4 : Met P w K mg base 2 D "add_act" (spAddAct C D) [] := c_addAct T m4 cIC cIR cSet
  have e5 : Met P w K mg base 2 D "add_look" (spAddLook K C D) [] := c_addLook T m5 cIC
  have e6 : Met P w K mg base 2 D "goal" (spGoal C D) [] := c_goal T m6 e1
  have e7 : Met P w K mg base 43 D "plan" (spPlanM C D) [] := c_planM T m7 e2 cBP
  have e8 : Met P w K mg base 8 D "judge" (spJudgeM K C D) [] := c_judgeM T m8 e2 cJud
  have e9 : Met P w K mg base 4 D "after" (spAfterM K C D) [] := c_afterM T m9 e2 cCan cBeh
  have cTol : Cal P w K mg base 44 "told" (spTold C D) [] := c_told T d47 e3 e4 e5 e6 e7 e8 e9
  have cLA : Cal P w K mg base 1 "list_at" (spListAt K) [] := c_listAt d48
  have cLs : Cal P w K mg base 2 "lists_at" (spListsAt K) [] := c_listsAt T d49 cLA
  exact c_answers T F cDI cLA cLs cTol
theorem all_mk {P : Program} {w : World} {K : PySem.W.Frag} {h : Heap} {mg : Str → Option Value} {fa C D aS : Addr} (X : K.In h) (G : h.Ns mainGlobals mg) (hfa : mg "answers" = some (.ref fa))
    (aC : PySem.W.nsIn K mainGlobals "House" = some (some (.ref C)))
    (pgC : PySem.W.plainGet K C Str.empty = true) (hdC : PySem.W.hasDictIn K C = true) (poC : PySem.W.plainOver K C = true) (saC : PySem.W.findIn K (.ref C) "__setattr__" = some (some (.builtin "object.__setattr__"))) (mkC : PySem.W.makesIn K C = true) (kcC : PySem.W.keepIn K (.ref C) = true)
    (nS : PySem.W.findIn K (.ref C) "states" = some none)
    (nW : PySem.W.findIn K (.ref C) "wanted" = some none)
    (nA : PySem.W.findIn K (.ref C) "acts" = some none)
    (nL : PySem.W.findIn K (.ref C) "looks" = some none)
    {fCi : Addr}
    (iCi : PySem.W.findIn K (.ref C) "__init__" = some (some (.ref fCi))) (yCi : PySem.W.isFn K (.ref fCi) = true)
    {odCi anCi : Option Addr} {slCi : Array (Option Value)} {ocCi kVCi dcCi pmCi cdCi ctCi : Value}
    (lCi : K.lookup fCi = some ⟨ocCi, odCi, .func (PySem.W.fnOf "__init__" "House.__init__" (defArgs (inClass (topS 2) 0)) (defBody (inClass (topS 2) 0)) (defScope (inClass (topS 2) 0)) .none kVCi dcCi pmCi anCi cdCi ctCi), slCi⟩)
    (cCi : PySem.W.codeIn K cdCi "House.__init__" = true) (kCi : PySem.W.keepIn K (.ref fCi) = true)
    (aD : PySem.W.nsIn K mainGlobals "Desk" = some (some (.ref D)))
    (pgD : PySem.W.plainGet K D Str.empty = true) (hdD : PySem.W.hasDictIn K D = true) (poD : PySem.W.plainOver K D = true) (saD : PySem.W.findIn K (.ref D) "__setattr__" = some (some (.builtin "object.__setattr__"))) (mkD : PySem.W.makesIn K D = true) (kcD : PySem.W.keepIn K (.ref D) = true)
    (nH : PySem.W.findIn K (.ref D) "house" = some none)
    {fDi : Addr}
    (iDi : PySem.W.findIn K (.ref D) "__init__" = some (some (.ref fDi))) (yDi : PySem.W.isFn K (.ref fDi) = true)
    {odDi anDi : Option Addr} {slDi : Array (Option Value)} {ocDi kVDi dcDi pmDi cdDi ctDi : Value}
    (lDi : K.lookup fDi = some ⟨ocDi, odDi, .func (PySem.W.fnOf "__init__" "Desk.__init__" (defArgs (inClass (topS 45) 0)) (defBody (inClass (topS 45) 0)) (defScope (inClass (topS 45) 0)) .none kVDi dcDi pmDi anDi cdDi ctDi), slDi⟩)
    (cDi : PySem.W.codeIn K cdDi "Desk.__init__" = true) (kDi : PySem.W.keepIn K (.ref fDi) = true)
    {f3 : Addr}
    (a3 : PySem.W.nsIn K mainGlobals "is_in" = some (some (.ref f3)))
    {od3 an3 : Option Addr} {sl3 : Array (Option Value)} {oc3 kV3 dc3 pm3 cd3 ct3 : Value}
    (l3 : K.lookup f3 = some ⟨oc3, od3, .func (PySem.W.fnOf "is_in" "is_in" (defArgs (topS 3)) (defBody (topS 3)) (defScope (topS 3)) .none kV3 dc3 pm3 an3 cd3 ct3), sl3⟩)
    (c3 : PySem.W.codeIn K cd3 "is_in" = true) (k3 : PySem.W.keepIn K (.ref f3) = true)
    {f4 : Addr}
    (a4 : PySem.W.nsIn K mainGlobals "set_of" = some (some (.ref f4)))
    {od4 an4 : Option Addr} {sl4 : Array (Option Value)} {oc4 kV4 dc4 pm4 cd4 ct4 : Value}
    (l4 : K.lookup f4 = some ⟨oc4, od4, .func (PySem.W.fnOf "set_of" "set_of" (defArgs (topS 4)) (defBody (topS 4)) (defScope (topS 4)) .none kV4 dc4 pm4 an4 cd4 ct4), sl4⟩)
    (c4 : PySem.W.codeIn K cd4 "set_of" = true) (k4 : PySem.W.keepIn K (.ref f4) = true)
    {f5 : Addr}
    (a5 : PySem.W.nsIn K mainGlobals "members" = some (some (.ref f5)))
    {od5 an5 : Option Addr} {sl5 : Array (Option Value)} {oc5 kV5 dc5 pm5 cd5 ct5 : Value}
    (l5 : K.lookup f5 = some ⟨oc5, od5, .func (PySem.W.fnOf "members" "members" (defArgs (topS 5)) (defBody (topS 5)) (defScope (topS 5)) .none kV5 dc5 pm5 an5 cd5 ct5), sl5⟩)
    (c5 : PySem.W.codeIn K cd5 "members" = true) (k5 : PySem.W.keepIn K (.ref f5) = true)
    {f6 : Addr}
    (a6 : PySem.W.nsIn K mainGlobals "is_as_wanted" = some (some (.ref f6)))
    {od6 an6 : Option Addr} {sl6 : Array (Option Value)} {oc6 kV6 dc6 pm6 cd6 ct6 : Value}
    (l6 : K.lookup f6 = some ⟨oc6, od6, .func (PySem.W.fnOf "is_as_wanted" "is_as_wanted" (defArgs (topS 6)) (defBody (topS 6)) (defScope (topS 6)) .none kV6 dc6 pm6 an6 cd6 ct6), sl6⟩)
    (c6 : PySem.W.codeIn K cd6 "is_as_wanted" = true) (k6 : PySem.W.keepIn K (.ref f6) = true)
    {f7 : Addr}
    (a7 : PySem.W.nsIn K mainGlobals "can_act" = some (some (.ref f7)))
    {od7 an7 : Option Addr} {sl7 : Array (Option Value)} {oc7 kV7 dc7 pm7 cd7 ct7 : Value}
    (l7 : K.lookup f7 = some ⟨oc7, od7, .func (PySem.W.fnOf "can_act" "can_act" (defArgs (topS 7)) (defBody (topS 7)) (defScope (topS 7)) .none kV7 dc7 pm7 an7 cd7 ct7), sl7⟩)
    (c7 : PySem.W.codeIn K cd7 "can_act" = true) (k7 : PySem.W.keepIn K (.ref f7) = true)
    {f8 : Addr}
    (a8 : PySem.W.nsIn K mainGlobals "behind_act" = some (some (.ref f8)))
    {od8 an8 : Option Addr} {sl8 : Array (Option Value)} {oc8 kV8 dc8 pm8 cd8 ct8 : Value}
    (l8 : K.lookup f8 = some ⟨oc8, od8, .func (PySem.W.fnOf "behind_act" "behind_act" (defArgs (topS 8)) (defBody (topS 8)) (defScope (topS 8)) .none kV8 dc8 pm8 an8 cd8 ct8), sl8⟩)
    (c8 : PySem.W.codeIn K cd8 "behind_act" = true) (k8 : PySem.W.keepIn K (.ref f8) = true)
    {f9 : Addr}
    (a9 : PySem.W.nsIn K mainGlobals "seen_by" = some (some (.ref f9)))
    {od9 an9 : Option Addr} {sl9 : Array (Option Value)} {oc9 kV9 dc9 pm9 cd9 ct9 : Value}
    (l9 : K.lookup f9 = some ⟨oc9, od9, .func (PySem.W.fnOf "seen_by" "seen_by" (defArgs (topS 9)) (defBody (topS 9)) (defScope (topS 9)) .none kV9 dc9 pm9 an9 cd9 ct9), sl9⟩)
    (c9 : PySem.W.codeIn K cd9 "seen_by" = true) (k9 : PySem.W.keepIn K (.ref f9) = true)
    {f10 : Addr}
    (a10 : PySem.W.nsIn K mainGlobals "behind_look" = some (some (.ref f10)))
    {od10 an10 : Option Addr} {sl10 : Array (Option Value)} {oc10 kV10 dc10 pm10 cd10 ct10 : Value}
    (l10 : K.lookup f10 = some ⟨oc10, od10, .func (PySem.W.fnOf "behind_look" "behind_look" (defArgs (topS 10)) (defBody (topS 10)) (defScope (topS 10)) .none kV10 dc10 pm10 an10 cd10 ct10), sl10⟩)
    (c10 : PySem.W.codeIn K cd10 "behind_look" = true) (k10 : PySem.W.keepIn K (.ref f10) = true)
    {f15 : Addr}
    (a15 : PySem.W.nsIn K mainGlobals "act_cost" = some (some (.ref f15)))
    {od15 an15 : Option Addr} {sl15 : Array (Option Value)} {oc15 kV15 dc15 pm15 cd15 ct15 : Value}
    (l15 : K.lookup f15 = some ⟨oc15, od15, .func (PySem.W.fnOf "act_cost" "act_cost" (defArgs (topS 15)) (defBody (topS 15)) (defScope (topS 15)) .none kV15 dc15 pm15 an15 cd15 ct15), sl15⟩)
    (c15 : PySem.W.codeIn K cd15 "act_cost" = true) (k15 : PySem.W.keepIn K (.ref f15) = true)
    {f16 : Addr}
    (a16 : PySem.W.nsIn K mainGlobals "look_cost" = some (some (.ref f16)))
    {od16 an16 : Option Addr} {sl16 : Array (Option Value)} {oc16 kV16 dc16 pm16 cd16 ct16 : Value}
    (l16 : K.lookup f16 = some ⟨oc16, od16, .func (PySem.W.fnOf "look_cost" "look_cost" (defArgs (topS 16)) (defBody (topS 16)) (defScope (topS 16)) .none kV16 dc16 pm16 an16 cd16 ct16), sl16⟩)
    (c16 : PySem.W.codeIn K cd16 "look_cost" = true) (k16 : PySem.W.keepIn K (.ref f16) = true)
    {f17 : Addr}
    (a17 : PySem.W.nsIn K mainGlobals "ways_from" = some (some (.ref f17)))
    {od17 an17 : Option Addr} {sl17 : Array (Option Value)} {oc17 kV17 dc17 pm17 cd17 ct17 : Value}
    (l17 : K.lookup f17 = some ⟨oc17, od17, .func (PySem.W.fnOf "ways_from" "ways_from" (defArgs (topS 17)) (defBody (topS 17)) (defScope (topS 17)) .none kV17 dc17 pm17 an17 cd17 ct17), sl17⟩)
    (c17 : PySem.W.codeIn K cd17 "ways_from" = true) (k17 : PySem.W.keepIn K (.ref f17) = true)
    {f18 : Addr}
    (a18 : PySem.W.nsIn K mainGlobals "best_cost" = some (some (.ref f18)))
    {od18 an18 : Option Addr} {sl18 : Array (Option Value)} {oc18 kV18 dc18 pm18 cd18 ct18 : Value}
    (l18 : K.lookup f18 = some ⟨oc18, od18, .func (PySem.W.fnOf "best_cost" "best_cost" (defArgs (topS 18)) (defBody (topS 18)) (defScope (topS 18)) .none kV18 dc18 pm18 an18 cd18 ct18), sl18⟩)
    (c18 : PySem.W.codeIn K cd18 "best_cost" = true) (k18 : PySem.W.keepIn K (.ref f18) = true)
    {f19 : Addr}
    (a19 : PySem.W.nsIn K mainGlobals "next_costs" = some (some (.ref f19)))
    {od19 an19 : Option Addr} {sl19 : Array (Option Value)} {oc19 kV19 dc19 pm19 cd19 ct19 : Value}
    (l19 : K.lookup f19 = some ⟨oc19, od19, .func (PySem.W.fnOf "next_costs" "next_costs" (defArgs (topS 19)) (defBody (topS 19)) (defScope (topS 19)) .none kV19 dc19 pm19 an19 cd19 ct19), sl19⟩)
    (c19 : PySem.W.codeIn K cd19 "next_costs" = true) (k19 : PySem.W.keepIn K (.ref f19) = true)
    {f20 : Addr}
    (a20 : PySem.W.nsIn K mainGlobals "all_costs" = some (some (.ref f20)))
    {od20 an20 : Option Addr} {sl20 : Array (Option Value)} {oc20 kV20 dc20 pm20 cd20 ct20 : Value}
    (l20 : K.lookup f20 = some ⟨oc20, od20, .func (PySem.W.fnOf "all_costs" "all_costs" (defArgs (topS 20)) (defBody (topS 20)) (defScope (topS 20)) .none kV20 dc20 pm20 an20 cd20 ct20), sl20⟩)
    (c20 : PySem.W.codeIn K cd20 "all_costs" = true) (k20 : PySem.W.keepIn K (.ref f20) = true)
    {f21 : Addr}
    (a21 : PySem.W.nsIn K mainGlobals "plan_from" = some (some (.ref f21)))
    {od21 an21 : Option Addr} {sl21 : Array (Option Value)} {oc21 kV21 dc21 pm21 cd21 ct21 : Value}
    (l21 : K.lookup f21 = some ⟨oc21, od21, .func (PySem.W.fnOf "plan_from" "plan_from" (defArgs (topS 21)) (defBody (topS 21)) (defScope (topS 21)) .none kV21 dc21 pm21 an21 cd21 ct21), sl21⟩)
    (c21 : PySem.W.codeIn K cd21 "plan_from" = true) (k21 : PySem.W.keepIn K (.ref f21) = true)
    {f22 : Addr}
    (a22 : PySem.W.nsIn K mainGlobals "best_plan" = some (some (.ref f22)))
    {od22 an22 : Option Addr} {sl22 : Array (Option Value)} {oc22 kV22 dc22 pm22 cd22 ct22 : Value}
    (l22 : K.lookup f22 = some ⟨oc22, od22, .func (PySem.W.fnOf "best_plan" "best_plan" (defArgs (topS 22)) (defBody (topS 22)) (defScope (topS 22)) .none kV22 dc22 pm22 an22 cd22 ct22), sl22⟩)
    (c22 : PySem.W.codeIn K cd22 "best_plan" = true) (k22 : PySem.W.keepIn K (.ref f22) = true)
    {f26 : Addr}
    (a26 : PySem.W.nsIn K mainGlobals "sets_behind" = some (some (.ref f26)))
    {od26 an26 : Option Addr} {sl26 : Array (Option Value)} {oc26 kV26 dc26 pm26 cd26 ct26 : Value}
    (l26 : K.lookup f26 = some ⟨oc26, od26, .func (PySem.W.fnOf "sets_behind" "sets_behind" (defArgs (topS 26)) (defBody (topS 26)) (defScope (topS 26)) .none kV26 dc26 pm26 an26 cd26 ct26), sl26⟩)
    (c26 : PySem.W.codeIn K cd26 "sets_behind" = true) (k26 : PySem.W.keepIn K (.ref f26) = true)
    {f27 : Addr}
    (a27 : PySem.W.nsIn K mainGlobals "walked" = some (some (.ref f27)))
    {od27 an27 : Option Addr} {sl27 : Array (Option Value)} {oc27 kV27 dc27 pm27 cd27 ct27 : Value}
    (l27 : K.lookup f27 = some ⟨oc27, od27, .func (PySem.W.fnOf "walked" "walked" (defArgs (topS 27)) (defBody (topS 27)) (defScope (topS 27)) .none kV27 dc27 pm27 an27 cd27 ct27), sl27⟩)
    (c27 : PySem.W.codeIn K cd27 "walked" = true) (k27 : PySem.W.keepIn K (.ref f27) = true)
    {f28 : Addr}
    (a28 : PySem.W.nsIn K mainGlobals "is_there" = some (some (.ref f28)))
    {od28 an28 : Option Addr} {sl28 : Array (Option Value)} {oc28 kV28 dc28 pm28 cd28 ct28 : Value}
    (l28 : K.lookup f28 = some ⟨oc28, od28, .func (PySem.W.fnOf "is_there" "is_there" (defArgs (topS 28)) (defBody (topS 28)) (defScope (topS 28)) .none kV28 dc28 pm28 an28 cd28 ct28), sl28⟩)
    (c28 : PySem.W.codeIn K cd28 "is_there" = true) (k28 : PySem.W.keepIn K (.ref f28) = true)
    {f29 : Addr}
    (a29 : PySem.W.nsIn K mainGlobals "wrong_at" = some (some (.ref f29)))
    {od29 an29 : Option Addr} {sl29 : Array (Option Value)} {oc29 kV29 dc29 pm29 cd29 ct29 : Value}
    (l29 : K.lookup f29 = some ⟨oc29, od29, .func (PySem.W.fnOf "wrong_at" "wrong_at" (defArgs (topS 29)) (defBody (topS 29)) (defScope (topS 29)) .none kV29 dc29 pm29 an29 cd29 ct29), sl29⟩)
    (c29 : PySem.W.codeIn K cd29 "wrong_at" = true) (k29 : PySem.W.keepIn K (.ref f29) = true)
    {f30 : Addr}
    (a30 : PySem.W.nsIn K mainGlobals "first_wrong" = some (some (.ref f30)))
    {od30 an30 : Option Addr} {sl30 : Array (Option Value)} {oc30 kV30 dc30 pm30 cd30 ct30 : Value}
    (l30 : K.lookup f30 = some ⟨oc30, od30, .func (PySem.W.fnOf "first_wrong" "first_wrong" (defArgs (topS 30)) (defBody (topS 30)) (defScope (topS 30)) .none kV30 dc30 pm30 an30 cd30 ct30), sl30⟩)
    (c30 : PySem.W.codeIn K cd30 "first_wrong" = true) (k30 : PySem.W.keepIn K (.ref f30) = true)
    {f31 : Addr}
    (a31 : PySem.W.nsIn K mainGlobals "cost_of" = some (some (.ref f31)))
    {od31 an31 : Option Addr} {sl31 : Array (Option Value)} {oc31 kV31 dc31 pm31 cd31 ct31 : Value}
    (l31 : K.lookup f31 = some ⟨oc31, od31, .func (PySem.W.fnOf "cost_of" "cost_of" (defArgs (topS 31)) (defBody (topS 31)) (defScope (topS 31)) .none kV31 dc31 pm31 an31 cd31 ct31), sl31⟩)
    (c31 : PySem.W.codeIn K cd31 "cost_of" = true) (k31 : PySem.W.keepIn K (.ref f31) = true)
    {f32 : Addr}
    (a32 : PySem.W.nsIn K mainGlobals "worst_cost" = some (some (.ref f32)))
    {od32 an32 : Option Addr} {sl32 : Array (Option Value)} {oc32 kV32 dc32 pm32 cd32 ct32 : Value}
    (l32 : K.lookup f32 = some ⟨oc32, od32, .func (PySem.W.fnOf "worst_cost" "worst_cost" (defArgs (topS 32)) (defBody (topS 32)) (defScope (topS 32)) .none kV32 dc32 pm32 an32 cd32 ct32), sl32⟩)
    (c32 : PySem.W.codeIn K cd32 "worst_cost" = true) (k32 : PySem.W.keepIn K (.ref f32) = true)
    {f33 : Addr}
    (a33 : PySem.W.nsIn K mainGlobals "judged" = some (some (.ref f33)))
    {od33 an33 : Option Addr} {sl33 : Array (Option Value)} {oc33 kV33 dc33 pm33 cd33 ct33 : Value}
    (l33 : K.lookup f33 = some ⟨oc33, od33, .func (PySem.W.fnOf "judged" "judged" (defArgs (topS 33)) (defBody (topS 33)) (defScope (topS 33)) .none kV33 dc33 pm33 an33 cd33 ct33), sl33⟩)
    (c33 : PySem.W.codeIn K cd33 "judged" = true) (k33 : PySem.W.keepIn K (.ref f33) = true)
    {f43 : Addr}
    (a43 : PySem.W.nsIn K mainGlobals "is_cost" = some (some (.ref f43)))
    {od43 an43 : Option Addr} {sl43 : Array (Option Value)} {oc43 kV43 dc43 pm43 cd43 ct43 : Value}
    (l43 : K.lookup f43 = some ⟨oc43, od43, .func (PySem.W.fnOf "is_cost" "is_cost" (defArgs (topS 43)) (defBody (topS 43)) (defScope (topS 43)) .none kV43 dc43 pm43 an43 cd43 ct43), sl43⟩)
    (c43 : PySem.W.codeIn K cd43 "is_cost" = true) (k43 : PySem.W.keepIn K (.ref f43) = true)
    {f44 : Addr}
    (a44 : PySem.W.nsIn K mainGlobals "is_row" = some (some (.ref f44)))
    {od44 an44 : Option Addr} {sl44 : Array (Option Value)} {oc44 kV44 dc44 pm44 cd44 ct44 : Value}
    (l44 : K.lookup f44 = some ⟨oc44, od44, .func (PySem.W.fnOf "is_row" "is_row" (defArgs (topS 44)) (defBody (topS 44)) (defScope (topS 44)) .none kV44 dc44 pm44 an44 cd44 ct44), sl44⟩)
    (c44 : PySem.W.codeIn K cd44 "is_row" = true) (k44 : PySem.W.keepIn K (.ref f44) = true)
    {f47 : Addr}
    (a47 : PySem.W.nsIn K mainGlobals "told" = some (some (.ref f47)))
    {od47 an47 : Option Addr} {sl47 : Array (Option Value)} {oc47 kV47 dc47 pm47 cd47 ct47 : Value}
    (l47 : K.lookup f47 = some ⟨oc47, od47, .func (PySem.W.fnOf "told" "told" (defArgs (topS 47)) (defBody (topS 47)) (defScope (topS 47)) .none kV47 dc47 pm47 an47 cd47 ct47), sl47⟩)
    (c47 : PySem.W.codeIn K cd47 "told" = true) (k47 : PySem.W.keepIn K (.ref f47) = true)
    {f48 : Addr}
    (a48 : PySem.W.nsIn K mainGlobals "list_at" = some (some (.ref f48)))
    {od48 an48 : Option Addr} {sl48 : Array (Option Value)} {oc48 kV48 dc48 pm48 cd48 ct48 : Value}
    (l48 : K.lookup f48 = some ⟨oc48, od48, .func (PySem.W.fnOf "list_at" "list_at" (defArgs (topS 48)) (defBody (topS 48)) (defScope (topS 48)) .none kV48 dc48 pm48 an48 cd48 ct48), sl48⟩)
    (c48 : PySem.W.codeIn K cd48 "list_at" = true) (k48 : PySem.W.keepIn K (.ref f48) = true)
    {f49 : Addr}
    (a49 : PySem.W.nsIn K mainGlobals "lists_at" = some (some (.ref f49)))
    {od49 an49 : Option Addr} {sl49 : Array (Option Value)} {oc49 kV49 dc49 pm49 cd49 ct49 : Value}
    (l49 : K.lookup f49 = some ⟨oc49, od49, .func (PySem.W.fnOf "lists_at" "lists_at" (defArgs (topS 49)) (defBody (topS 49)) (defScope (topS 49)) .none kV49 dc49 pm49 an49 cd49 ct49), sl49⟩)
    (c49 : PySem.W.codeIn K cd49 "lists_at" = true) (k49 : PySem.W.keepIn K (.ref f49) = true)
    {f50 : Addr}
    (a50 : PySem.W.nsIn K mainGlobals "answers" = some (some (.ref f50)))
    {od50 an50 : Option Addr} {sl50 : Array (Option Value)} {oc50 kV50 dc50 pm50 cd50 ct50 : Value}
    (l50 : K.lookup f50 = some ⟨oc50, od50, .func (PySem.W.fnOf "answers" "answers" (defArgs (topS 50)) (defBody (topS 50)) (defScope (topS 50)) .none kV50 dc50 pm50 an50 cd50 ct50), sl50⟩)
    (c50 : PySem.W.codeIn K cd50 "answers" = true) (k50 : PySem.W.keepIn K (.ref f50) = true)
    {fm1 : Addr}
    (im1 : PySem.W.findIn K (.ref D) "is_set" = some (some (.ref fm1))) (ym1 : PySem.W.isFn K (.ref fm1) = true)
    {odm1 anm1 : Option Addr} {slm1 : Array (Option Value)} {ocm1 kVm1 dcm1 pmm1 cdm1 ctm1 : Value}
    (lm1 : K.lookup fm1 = some ⟨ocm1, odm1, .func (PySem.W.fnOf "is_set" "Desk.is_set" (defArgs (inClass (topS 45) 1)) (defBody (inClass (topS 45) 1)) (defScope (inClass (topS 45) 1)) .none kVm1 dcm1 pmm1 anm1 cdm1 ctm1), slm1⟩)
    (cm1 : PySem.W.codeIn K cdm1 "Desk.is_set" = true) (km1 : PySem.W.keepIn K (.ref fm1) = true)
    {fm2 : Addr}
    (im2 : PySem.W.findIn K (.ref D) "is_somewhere" = some (some (.ref fm2))) (ym2 : PySem.W.isFn K (.ref fm2) = true)
    {odm2 anm2 : Option Addr} {slm2 : Array (Option Value)} {ocm2 kVm2 dcm2 pmm2 cdm2 ctm2 : Value}
    (lm2 : K.lookup fm2 = some ⟨ocm2, odm2, .func (PySem.W.fnOf "is_somewhere" "Desk.is_somewhere" (defArgs (inClass (topS 45) 2)) (defBody (inClass (topS 45) 2)) (defScope (inClass (topS 45) 2)) .none kVm2 dcm2 pmm2 anm2 cdm2 ctm2), slm2⟩)
    (cm2 : PySem.W.codeIn K cdm2 "Desk.is_somewhere" = true) (km2 : PySem.W.keepIn K (.ref fm2) = true)
    {fm3 : Addr}
    (im3 : PySem.W.findIn K (.ref D) "begins" = some (some (.ref fm3))) (ym3 : PySem.W.isFn K (.ref fm3) = true)
    {odm3 anm3 : Option Addr} {slm3 : Array (Option Value)} {ocm3 kVm3 dcm3 pmm3 cdm3 ctm3 : Value}
    (lm3 : K.lookup fm3 = some ⟨ocm3, odm3, .func (PySem.W.fnOf "begins" "Desk.begins" (defArgs (inClass (topS 45) 3)) (defBody (inClass (topS 45) 3)) (defScope (inClass (topS 45) 3)) .none kVm3 dcm3 pmm3 anm3 cdm3 ctm3), slm3⟩)
    (cm3 : PySem.W.codeIn K cdm3 "Desk.begins" = true) (km3 : PySem.W.keepIn K (.ref fm3) = true)
    {fm4 : Addr}
    (im4 : PySem.W.findIn K (.ref D) "add_act" = some (some (.ref fm4))) (ym4 : PySem.W.isFn K (.ref fm4) = true)
    {odm4 anm4 : Option Addr} {slm4 : Array (Option Value)} {ocm4 kVm4 dcm4 pmm4 cdm4 ctm4 : Value}
    (lm4 : K.lookup fm4 = some ⟨ocm4, odm4, .func (PySem.W.fnOf "add_act" "Desk.add_act" (defArgs (inClass (topS 45) 4)) (defBody (inClass (topS 45) 4)) (defScope (inClass (topS 45) 4)) .none kVm4 dcm4 pmm4 anm4 cdm4 ctm4), slm4⟩)
    (cm4 : PySem.W.codeIn K cdm4 "Desk.add_act" = true) (km4 : PySem.W.keepIn K (.ref fm4) = true)
    {fm5 : Addr}
    (im5 : PySem.W.findIn K (.ref D) "add_look" = some (some (.ref fm5))) (ym5 : PySem.W.isFn K (.ref fm5) = true)
    {odm5 anm5 : Option Addr} {slm5 : Array (Option Value)} {ocm5 kVm5 dcm5 pmm5 cdm5 ctm5 : Value}
    (lm5 : K.lookup fm5 = some ⟨ocm5, odm5, .func (PySem.W.fnOf "add_look" "Desk.add_look" (defArgs (inClass (topS 45) 5)) (defBody (inClass (topS 45) 5)) (defScope (inClass (topS 45) 5)) .none kVm5 dcm5 pmm5 anm5 cdm5 ctm5), slm5⟩)
    (cm5 : PySem.W.codeIn K cdm5 "Desk.add_look" = true) (km5 : PySem.W.keepIn K (.ref fm5) = true)
    {fm6 : Addr}
    (im6 : PySem.W.findIn K (.ref D) "goal" = some (some (.ref fm6))) (ym6 : PySem.W.isFn K (.ref fm6) = true)
    {odm6 anm6 : Option Addr} {slm6 : Array (Option Value)} {ocm6 kVm6 dcm6 pmm6 cdm6 ctm6 : Value}
    (lm6 : K.lookup fm6 = some ⟨ocm6, odm6, .func (PySem.W.fnOf "goal" "Desk.goal" (defArgs (inClass (topS 45) 6)) (defBody (inClass (topS 45) 6)) (defScope (inClass (topS 45) 6)) .none kVm6 dcm6 pmm6 anm6 cdm6 ctm6), slm6⟩)
    (cm6 : PySem.W.codeIn K cdm6 "Desk.goal" = true) (km6 : PySem.W.keepIn K (.ref fm6) = true)
    {fm7 : Addr}
    (im7 : PySem.W.findIn K (.ref D) "plan" = some (some (.ref fm7))) (ym7 : PySem.W.isFn K (.ref fm7) = true)
    {odm7 anm7 : Option Addr} {slm7 : Array (Option Value)} {ocm7 kVm7 dcm7 pmm7 cdm7 ctm7 : Value}
    (lm7 : K.lookup fm7 = some ⟨ocm7, odm7, .func (PySem.W.fnOf "plan" "Desk.plan" (defArgs (inClass (topS 45) 7)) (defBody (inClass (topS 45) 7)) (defScope (inClass (topS 45) 7)) .none kVm7 dcm7 pmm7 anm7 cdm7 ctm7), slm7⟩)
    (cm7 : PySem.W.codeIn K cdm7 "Desk.plan" = true) (km7 : PySem.W.keepIn K (.ref fm7) = true)
    {fm8 : Addr}
    (im8 : PySem.W.findIn K (.ref D) "judge" = some (some (.ref fm8))) (ym8 : PySem.W.isFn K (.ref fm8) = true)
    {odm8 anm8 : Option Addr} {slm8 : Array (Option Value)} {ocm8 kVm8 dcm8 pmm8 cdm8 ctm8 : Value}
    (lm8 : K.lookup fm8 = some ⟨ocm8, odm8, .func (PySem.W.fnOf "judge" "Desk.judge" (defArgs (inClass (topS 45) 8)) (defBody (inClass (topS 45) 8)) (defScope (inClass (topS 45) 8)) .none kVm8 dcm8 pmm8 anm8 cdm8 ctm8), slm8⟩)
    (cm8 : PySem.W.codeIn K cdm8 "Desk.judge" = true) (km8 : PySem.W.keepIn K (.ref fm8) = true)
    {fm9 : Addr}
    (im9 : PySem.W.findIn K (.ref D) "after" = some (some (.ref fm9))) (ym9 : PySem.W.isFn K (.ref fm9) = true)
    {odm9 anm9 : Option Addr} {slm9 : Array (Option Value)} {ocm9 kVm9 dcm9 pmm9 cdm9 ctm9 : Value}
    (lm9 : K.lookup fm9 = some ⟨ocm9, odm9, .func (PySem.W.fnOf "after" "Desk.after" (defArgs (inClass (topS 45) 9)) (defBody (inClass (topS 45) 9)) (defScope (inClass (topS 45) 9)) .none kVm9 dcm9 pmm9 anm9 cdm9 ctm9), slm9⟩)
    (cm9 : PySem.W.codeIn K cdm9 "Desk.after" = true) (km9 : PySem.W.keepIn K (.ref fm9) = true)
    (aS0 : PySem.W.nsIn K mainGlobals "SIGHTS" = some (some (.ref aS)))
    {odS : Option Addr} {slS : Array (Option Value)} {nS0 : Nat} {v0 v1 v2 : Value}
    (lS0 : K.lookup aS = some ⟨.type "tuple", odS, .seq #[v0, v1, v2] nS0, slS⟩) (r0 : absV v0 = some (.int 0)) (r1 : absV v1 = some (.int 1)) (r2 : absV v2 = some (.int 2))
    (bLen : PySem.W.nsIn K mainGlobals "len" = some none)
    (bSum : PySem.W.nsIn K mainGlobals "sum" = some none)
    (bRange : PySem.W.nsIn K mainGlobals "range" = some none)
    (bAll : PySem.W.nsIn K mainGlobals "all" = some none)
    (bMax : PySem.W.nsIn K mainGlobals "max" = some none)
    (bMin : PySem.W.nsIn K mainGlobals "min" = some none)
    (bZip : PySem.W.nsIn K mainGlobals "zip" = some none)
    (bList : PySem.W.nsIn K mainGlobals "list" = some none)
    (bEnum : PySem.W.nsIn K mainGlobals "enumerate" = some none)
    {ucDONE : Value}
    (cDONE : PySem.W.nsIn K mainGlobals "DONE" = some (some ucDONE)) (wcDONE : absV ucDONE = some (.int 0))
    {ucFA : Value}
    (cFA : PySem.W.nsIn K mainGlobals "FIRST_ACT" = some (some ucFA)) (wcFA : absV ucFA = some (.int 1))
    {ucFL : Value}
    (cFL : PySem.W.nsIn K mainGlobals "FIRST_LOOK" = some (some ucFL)) (wcFL : absV ucFL = some (.int 100))
    {ucND : Value}
    (cND : PySem.W.nsIn K mainGlobals "NOT_DONE" = some (some ucND)) (wcND : absV ucND = some (.int 1))
    {ucNW : Value}
    (cNW : PySem.W.nsIn K mainGlobals "NOT_WANTED" = some (some ucNW)) (wcNW : absV ucNW = some (.int 2))
    {ucW : Value}
    (cW : PySem.W.nsIn K mainGlobals "WRONG" = some (some ucW)) (wcW : absV ucW = some (.int (-1)))
    {ucNP : Value}
    (cNP : PySem.W.nsIn K mainGlobals "NO_PLAN" = some (some ucNP)) (wcNP : absV ucNP = some (.int (-5)))
    {ucNO : Value}
    (cNO : PySem.W.nsIn K mainGlobals "NONE_WORKS" = some (some ucNO)) (wcNO : absV ucNO = some (.int (-6)))
    {ucTM : Value}
    (cTM : PySem.W.nsIn K mainGlobals "TOO_MANY" = some (some ucTM)) (wcTM : absV ucTM = some (.int (-7)))
    {ucMS : Value}
    (cMS : PySem.W.nsIn K mainGlobals "MOST_STATES" = some (some ucMS)) (wcMS : absV ucMS = some (.int 5))
    {ucMA : Value}
    (cMA : PySem.W.nsIn K mainGlobals "MOST_ACTS" = some (some ucMA)) (wcMA : absV ucMA = some (.int 6))
    {ucML : Value}
    (cML : PySem.W.nsIn K mainGlobals "MOST_LOOKS" = some (some ucML)) (wcML : absV ucML = some (.int 4))
    {ucMC : Value}
    (cMC : PySem.W.nsIn K mainGlobals "MOST_COST" = some (some ucMC)) (wcMC : absV ucMC = some (.int 1000))
    : ∃ fd : FuncData, (∀ (s : Shared) (us : List Value), us.length = (["calls"] : List Str).length → BindsTo s fd ⟨us, []⟩ ((["calls"] : List Str).zip us)) ∧ ∀ base : Heap, K.In base → base.Ns mainGlobals mg → FnOk P w K mg base CX0 60 fa fd ["calls"] (spAns K) := by
  have e := hfa.symm.trans (PySem.W.mg_of X G a50)
  cases e
  have int_of : ∀ {u : Value} {i : Int}, absV u = some (.int i) → ∃ t, u = .int i t := fun {u i} h => absV_int h
  have T : Txt K mg C D aS := {
    clC := ⟨pgC, hdC, poC, saC⟩
    clD := ⟨pgD, hdD, poD, saD⟩
    nS := nS
    nW := nW
    nA := nA
    nL := nL
    nH := nH
    gS := PySem.W.mg_of X G aS0
    sS := fun _ => Or.inr ⟨_, _, _, lS0, rfl, rfl, (by show 3 ≤ sizeLine; decide), vals3 r0 r1 r2⟩
    bLen := PySem.W.mg_none_of X G bLen
    bSum := PySem.W.mg_none_of X G bSum
    bRange := PySem.W.mg_none_of X G bRange
    bAll := PySem.W.mg_none_of X G bAll
    bMax := PySem.W.mg_none_of X G bMax
    bMin := PySem.W.mg_none_of X G bMin
    bZip := PySem.W.mg_none_of X G bZip
    bList := PySem.W.mg_none_of X G bList
    bEnum := PySem.W.mg_none_of X G bEnum
    cDONE := by obtain ⟨z, hz⟩ := int_of wcDONE; exact ⟨z, by rw [← hz]; exact PySem.W.mg_of X G cDONE⟩
    cFA := by obtain ⟨z, hz⟩ := int_of wcFA; exact ⟨z, by rw [← hz]; exact PySem.W.mg_of X G cFA⟩
    cFL := by obtain ⟨z, hz⟩ := int_of wcFL; exact ⟨z, by rw [← hz]; exact PySem.W.mg_of X G cFL⟩
    cND := by obtain ⟨z, hz⟩ := int_of wcND; exact ⟨z, by rw [← hz]; exact PySem.W.mg_of X G cND⟩
    cNW := by obtain ⟨z, hz⟩ := int_of wcNW; exact ⟨z, by rw [← hz]; exact PySem.W.mg_of X G cNW⟩
    cW := by obtain ⟨z, hz⟩ := int_of wcW; exact ⟨z, by rw [← hz]; exact PySem.W.mg_of X G cW⟩
    cNP := by obtain ⟨z, hz⟩ := int_of wcNP; exact ⟨z, by rw [← hz]; exact PySem.W.mg_of X G cNP⟩
    cNO := by obtain ⟨z, hz⟩ := int_of wcNO; exact ⟨z, by rw [← hz]; exact PySem.W.mg_of X G cNO⟩
    cTM := by obtain ⟨z, hz⟩ := int_of wcTM; exact ⟨z, by rw [← hz]; exact PySem.W.mg_of X G cTM⟩
    cMS := by obtain ⟨z, hz⟩ := int_of wcMS; exact ⟨z, by rw [← hz]; exact PySem.W.mg_of X G cMS⟩
    cMA := by obtain ⟨z, hz⟩ := int_of wcMA; exact ⟨z, by rw [← hz]; exact PySem.W.mg_of X G cMA⟩
    cML := by obtain ⟨z, hz⟩ := int_of wcML; exact ⟨z, by rw [← hz]; exact PySem.W.mg_of X G cML⟩
    cMC := by obtain ⟨z, hz⟩ := int_of wcMC; exact ⟨z, by rw [← hz]; exact PySem.W.mg_of X G cMC⟩
  }
  have FCi := fun_mk (st := inClass (topS 2) 0) lCi cCi kCi
  have bCi := FCi.binds (ps := ["self", "states", "wanted"]) fun _ _ _ _ _ _ us hl => match us, hl with | [_, _, _], _ => rfl
  have NC : Nf K mg C "House" "House.__init__" 2 ["self", "states", "wanted"] := ⟨_, _, FCi, bCi, ⟨mkC, iCi, yCi, kcC⟩, PySem.W.mg_of X G aC⟩
  have FDi := fun_mk (st := inClass (topS 45) 0) lDi cDi kDi
  have bDi := FDi.binds (ps := ["self"]) fun _ _ _ _ _ _ us hl => match us, hl with | [_], _ => rfl
  have ND : Nf K mg D "Desk" "Desk.__init__" 45 ["self"] := ⟨_, _, FDi, bDi, ⟨mkD, iDi, yDi, kcD⟩, PySem.W.mg_of X G aD⟩
  have F3 := fun_mk (st := topS 3) l3 c3 k3
  have b3 := F3.binds (ps := ["k", "some"]) fun _ _ _ _ _ _ us hl => match us, hl with | [_, _], _ => rfl
  have D3 : Df K mg "is_in" 3 ["k", "some"] := ⟨_, _, F3, b3, PySem.W.mg_of X G a3⟩
  have F4 := fun_mk (st := topS 4) l4 c4 k4
  have b4 := F4.binds (ps := ["states"]) fun _ _ _ _ _ _ us hl => match us, hl with | [_], _ => rfl
  have D4 : Df K mg "set_of" 4 ["states"] := ⟨_, _, F4, b4, PySem.W.mg_of X G a4⟩
  have F5 := fun_mk (st := topS 5) l5 c5 k5
  have b5 := F5.binds (ps := ["house", "where"]) fun _ _ _ _ _ _ us hl => match us, hl with | [_, _], _ => rfl
  have D5 : Df K mg "members" 5 ["house", "where"] := ⟨_, _, F5, b5, PySem.W.mg_of X G a5⟩
  have F6 := fun_mk (st := topS 6) l6 c6 k6
  have b6 := F6.binds (ps := ["house", "where"]) fun _ _ _ _ _ _ us hl => match us, hl with | [_, _], _ => rfl
  have D6 : Df K mg "is_as_wanted" 6 ["house", "where"] := ⟨_, _, F6, b6, PySem.W.mg_of X G a6⟩
  have F7 := fun_mk (st := topS 7) l7 c7 k7
  have b7 := F7.binds (ps := ["house", "where", "act"]) fun _ _ _ _ _ _ us hl => match us, hl with | [_, _, _], _ => rfl
  have D7 : Df K mg "can_act" 7 ["house", "where", "act"] := ⟨_, _, F7, b7, PySem.W.mg_of X G a7⟩
  have F8 := fun_mk (st := topS 8) l8 c8 k8
  have b8 := F8.binds (ps := ["house", "where", "act"]) fun _ _ _ _ _ _ us hl => match us, hl with | [_, _, _], _ => rfl
  have D8 : Df K mg "behind_act" 8 ["house", "where", "act"] := ⟨_, _, F8, b8, PySem.W.mg_of X G a8⟩
  have F9 := fun_mk (st := topS 9) l9 c9 k9
  have b9 := F9.binds (ps := ["house", "look", "k"]) fun _ _ _ _ _ _ us hl => match us, hl with | [_, _, _], _ => rfl
  have D9 : Df K mg "seen_by" 9 ["house", "look", "k"] := ⟨_, _, F9, b9, PySem.W.mg_of X G a9⟩
  have F10 := fun_mk (st := topS 10) l10 c10 k10
  have b10 := F10.binds (ps := ["house", "where", "look"]) fun _ _ _ _ _ _ us hl => match us, hl with | [_, _, _], _ => rfl
  have D10 : Df K mg "behind_look" 10 ["house", "where", "look"] := ⟨_, _, F10, b10, PySem.W.mg_of X G a10⟩
  have F15 := fun_mk (st := topS 15) l15 c15 k15
  have b15 := F15.binds (ps := ["house", "costs", "where", "act"]) fun _ _ _ _ _ _ us hl => match us, hl with | [_, _, _, _], _ => rfl
  have D15 : Df K mg "act_cost" 15 ["house", "costs", "where", "act"] := ⟨_, _, F15, b15, PySem.W.mg_of X G a15⟩
  have F16 := fun_mk (st := topS 16) l16 c16 k16
  have b16 := F16.binds (ps := ["house", "costs", "where", "look"]) fun _ _ _ _ _ _ us hl => match us, hl with | [_, _, _, _], _ => rfl
  have D16 : Df K mg "look_cost" 16 ["house", "costs", "where", "look"] := ⟨_, _, F16, b16, PySem.W.mg_of X G a16⟩
  have F17 := fun_mk (st := topS 17) l17 c17 k17
  have b17 := F17.binds (ps := ["house", "costs", "where", "is_blind"]) fun _ _ _ _ _ _ us hl => match us, hl with | [_, _, _, _], _ => rfl
  have D17 : Df K mg "ways_from" 17 ["house", "costs", "where", "is_blind"] := ⟨_, _, F17, b17, PySem.W.mg_of X G a17⟩
  have F18 := fun_mk (st := topS 18) l18 c18 k18
  have b18 := F18.binds (ps := ["house", "costs", "where", "is_blind"]) fun _ _ _ _ _ _ us hl => match us, hl with | [_, _, _, _], _ => rfl
  have D18 : Df K mg "best_cost" 18 ["house", "costs", "where", "is_blind"] := ⟨_, _, F18, b18, PySem.W.mg_of X G a18⟩
  have F19 := fun_mk (st := topS 19) l19 c19 k19
  have b19 := F19.binds (ps := ["house", "costs", "is_blind"]) fun _ _ _ _ _ _ us hl => match us, hl with | [_, _, _], _ => rfl
  have D19 : Df K mg "next_costs" 19 ["house", "costs", "is_blind"] := ⟨_, _, F19, b19, PySem.W.mg_of X G a19⟩
  have F20 := fun_mk (st := topS 20) l20 c20 k20
  have b20 := F20.binds (ps := ["house", "is_blind"]) fun _ _ _ _ _ _ us hl => match us, hl with | [_, _], _ => rfl
  have D20 : Df K mg "all_costs" 20 ["house", "is_blind"] := ⟨_, _, F20, b20, PySem.W.mg_of X G a20⟩
  have F21 := fun_mk (st := topS 21) l21 c21 k21
  have b21 := F21.binds (ps := ["house", "costs", "where", "is_blind"]) fun _ _ _ _ _ _ us hl => match us, hl with | [_, _, _, _], _ => rfl
  have D21 : Df K mg "plan_from" 21 ["house", "costs", "where", "is_blind"] := ⟨_, _, F21, b21, PySem.W.mg_of X G a21⟩
  have F22 := fun_mk (st := topS 22) l22 c22 k22
  have b22 := F22.binds (ps := ["house", "where", "is_blind"]) fun _ _ _ _ _ _ us hl => match us, hl with | [_, _, _], _ => rfl
  have D22 : Df K mg "best_plan" 22 ["house", "where", "is_blind"] := ⟨_, _, F22, b22, PySem.W.mg_of X G a22⟩
  have F26 := fun_mk (st := topS 26) l26 c26 k26
  have b26 := F26.binds (ps := ["house", "where", "number"]) fun _ _ _ _ _ _ us hl => match us, hl with | [_, _, _], _ => rfl
  have D26 : Df K mg "sets_behind" 26 ["house", "where", "number"] := ⟨_, _, F26, b26, PySem.W.mg_of X G a26⟩
  have F27 := fun_mk (st := topS 27) l27 c27 k27
  have b27 := F27.binds (ps := ["house", "where", "numbers"]) fun _ _ _ _ _ _ us hl => match us, hl with | [_, _, _], _ => rfl
  have D27 : Df K mg "walked" 27 ["house", "where", "numbers"] := ⟨_, _, F27, b27, PySem.W.mg_of X G a27⟩
  have F28 := fun_mk (st := topS 28) l28 c28 k28
  have b28 := F28.binds (ps := ["house", "where", "number"]) fun _ _ _ _ _ _ us hl => match us, hl with | [_, _, _], _ => rfl
  have D28 : Df K mg "is_there" 28 ["house", "where", "number"] := ⟨_, _, F28, b28, PySem.W.mg_of X G a28⟩
  have F29 := fun_mk (st := topS 29) l29 c29 k29
  have b29 := F29.binds (ps := ["house", "where", "number"]) fun _ _ _ _ _ _ us hl => match us, hl with | [_, _, _], _ => rfl
  have D29 : Df K mg "wrong_at" 29 ["house", "where", "number"] := ⟨_, _, F29, b29, PySem.W.mg_of X G a29⟩
  have F30 := fun_mk (st := topS 30) l30 c30 k30
  have b30 := F30.binds (ps := ["house", "steps"]) fun _ _ _ _ _ _ us hl => match us, hl with | [_, _], _ => rfl
  have D30 : Df K mg "first_wrong" 30 ["house", "steps"] := ⟨_, _, F30, b30, PySem.W.mg_of X G a30⟩
  have F31 := fun_mk (st := topS 31) l31 c31 k31
  have b31 := F31.binds (ps := ["house", "number"]) fun _ _ _ _ _ _ us hl => match us, hl with | [_, _], _ => rfl
  have D31 : Df K mg "cost_of" 31 ["house", "number"] := ⟨_, _, F31, b31, PySem.W.mg_of X G a31⟩
  have F32 := fun_mk (st := topS 32) l32 c32 k32
  have b32 := F32.binds (ps := ["house", "steps"]) fun _ _ _ _ _ _ us hl => match us, hl with | [_, _], _ => rfl
  have D32 : Df K mg "worst_cost" 32 ["house", "steps"] := ⟨_, _, F32, b32, PySem.W.mg_of X G a32⟩
  have F33 := fun_mk (st := topS 33) l33 c33 k33
  have b33 := F33.binds (ps := ["house", "where", "numbers"]) fun _ _ _ _ _ _ us hl => match us, hl with | [_, _, _], _ => rfl
  have D33 : Df K mg "judged" 33 ["house", "where", "numbers"] := ⟨_, _, F33, b33, PySem.W.mg_of X G a33⟩
  have F43 := fun_mk (st := topS 43) l43 c43 k43
  have b43 := F43.binds (ps := ["cost"]) fun _ _ _ _ _ _ us hl => match us, hl with | [_], _ => rfl
  have D43 : Df K mg "is_cost" 43 ["cost"] := ⟨_, _, F43, b43, PySem.W.mg_of X G a43⟩
  have F44 := fun_mk (st := topS 44) l44 c44 k44
  have b44 := F44.binds (ps := ["states", "row"]) fun _ _ _ _ _ _ us hl => match us, hl with | [_, _], _ => rfl
  have D44 : Df K mg "is_row" 44 ["states", "row"] := ⟨_, _, F44, b44, PySem.W.mg_of X G a44⟩
  have F47 := fun_mk (st := topS 47) l47 c47 k47
  have b47 := F47.binds (ps := ["desk", "call", "own", "lists"]) fun _ _ _ _ _ _ us hl => match us, hl with | [_, _, _, _], _ => rfl
  have D47 : Df K mg "told" 47 ["desk", "call", "own", "lists"] := ⟨_, _, F47, b47, PySem.W.mg_of X G a47⟩
  have F48 := fun_mk (st := topS 48) l48 c48 k48
  have b48 := F48.binds (ps := ["calls", "at"]) fun _ _ _ _ _ _ us hl => match us, hl with | [_, _], _ => rfl
  have D48 : Df K mg "list_at" 48 ["calls", "at"] := ⟨_, _, F48, b48, PySem.W.mg_of X G a48⟩
  have F49 := fun_mk (st := topS 49) l49 c49 k49
  have b49 := F49.binds (ps := ["calls", "at"]) fun _ _ _ _ _ _ us hl => match us, hl with | [_, _], _ => rfl
  have D49 : Df K mg "lists_at" 49 ["calls", "at"] := ⟨_, _, F49, b49, PySem.W.mg_of X G a49⟩
  have Fm1 := fun_mk (st := inClass (topS 45) 1) lm1 cm1 km1
  have bm1 := Fm1.binds (ps := ["self", "some"]) fun _ _ _ _ _ _ us hl => match us, hl with | [_, _], _ => rfl
  have M1 : Mf K D "is_set" "Desk.is_set" 45 1 ["self", "some"] := ⟨_, _, Fm1, bm1, T.clD, ⟨im1, ym1, km1⟩⟩
  have Fm2 := fun_mk (st := inClass (topS 45) 2) lm2 cm2 km2
  have bm2 := Fm2.binds (ps := ["self", "where"]) fun _ _ _ _ _ _ us hl => match us, hl with | [_, _], _ => rfl
  have M2 : Mf K D "is_somewhere" "Desk.is_somewhere" 45 2 ["self", "where"] := ⟨_, _, Fm2, bm2, T.clD, ⟨im2, ym2, km2⟩⟩
  have Fm3 := fun_mk (st := inClass (topS 45) 3) lm3 cm3 km3
  have bm3 := Fm3.binds (ps := ["self", "states", "wanted"]) fun _ _ _ _ _ _ us hl => match us, hl with | [_, _, _], _ => rfl
  have M3 : Mf K D "begins" "Desk.begins" 45 3 ["self", "states", "wanted"] := ⟨_, _, Fm3, bm3, T.clD, ⟨im3, ym3, km3⟩⟩
  have Fm4 := fun_mk (st := inClass (topS 45) 4) lm4 cm4 km4
  have bm4 := Fm4.binds (ps := ["self", "cost", "leads"]) fun _ _ _ _ _ _ us hl => match us, hl with | [_, _, _], _ => rfl
  have M4 : Mf K D "add_act" "Desk.add_act" 45 4 ["self", "cost", "leads"] := ⟨_, _, Fm4, bm4, T.clD, ⟨im4, ym4, km4⟩⟩
  have Fm5 := fun_mk (st := inClass (topS 45) 5) lm5 cm5 km5
  have bm5 := Fm5.binds (ps := ["self", "cost", "seen"]) fun _ _ _ _ _ _ us hl => match us, hl with | [_, _, _], _ => rfl
  have M5 : Mf K D "add_look" "Desk.add_look" 45 5 ["self", "cost", "seen"] := ⟨_, _, Fm5, bm5, T.clD, ⟨im5, ym5, km5⟩⟩
  have Fm6 := fun_mk (st := inClass (topS 45) 6) lm6 cm6 km6
  have bm6 := Fm6.binds (ps := ["self", "wanted"]) fun _ _ _ _ _ _ us hl => match us, hl with | [_, _], _ => rfl
  have M6 : Mf K D "goal" "Desk.goal" 45 6 ["self", "wanted"] := ⟨_, _, Fm6, bm6, T.clD, ⟨im6, ym6, km6⟩⟩
  have Fm7 := fun_mk (st := inClass (topS 45) 7) lm7 cm7 km7
  have bm7 := Fm7.binds (ps := ["self", "where", "is_blind"]) fun _ _ _ _ _ _ us hl => match us, hl with | [_, _, _], _ => rfl
  have M7 : Mf K D "plan" "Desk.plan" 45 7 ["self", "where", "is_blind"] := ⟨_, _, Fm7, bm7, T.clD, ⟨im7, ym7, km7⟩⟩
  have Fm8 := fun_mk (st := inClass (topS 45) 8) lm8 cm8 km8
  have bm8 := Fm8.binds (ps := ["self", "where", "numbers"]) fun _ _ _ _ _ _ us hl => match us, hl with | [_, _, _], _ => rfl
  have M8 : Mf K D "judge" "Desk.judge" 45 8 ["self", "where", "numbers"] := ⟨_, _, Fm8, bm8, T.clD, ⟨im8, ym8, km8⟩⟩
  have Fm9 := fun_mk (st := inClass (topS 45) 9) lm9 cm9 km9
  have bm9 := Fm9.binds (ps := ["self", "where", "acts"]) fun _ _ _ _ _ _ us hl => match us, hl with | [_, _, _], _ => rfl
  have M9 : Mf K D "after" "Desk.after" 45 9 ["self", "where", "acts"] := ⟨_, _, Fm9, bm9, T.clD, ⟨im9, ym9, km9⟩⟩
  have F50 := fun_mk (st := topS 50) l50 c50 k50
  exact ⟨_, fun s us hu => match us, hu with | [_], _ => .of_eq rfl, fun base _ _ => (chain T D3 D4 D5 D6 D7 D8 D9 D10 D15 D16 D17 D18 D19 D20 D21 D22 D26 D27 D28 D29 D30 D31 D32 D33 D43 D44 D47 D48 D49 NC ND M1 M2 M3 M4 M5 M6 M7 M8 M9 F50).mono (by decide)⟩
end Un
open PySem PySem.W PyProof.Rows
open PySem.W (Codec)
set_option maxRecDepth 100000 in
set_option maxHeartbeats 0 in
theorem PySem.Challenge.cw_unseenplan_s01_answers_holds : PySem.Challenge.rw_unseenplan_s01_answers.Holds := by
  w_on; k_headS; (case hw => exact ⟨[.list [.int 3, .int 1, .int 0, .int 0]], by decide +kernel, by decide +kernel⟩)
  k_fillS
  refine L2.walk_specK (r := PySem.Challenge.rw_unseenplan_s01_answers) (k := 60) (CX := L2.CX0) (ps := ["calls"]) (sp := Un.spAns) (by decide +kernel) rfl rfl ⟨rfl, by decide, by decide⟩ (fun w h Y => PySem.W.kIn_of Y) ?F ?S (fun _ _ _ _ z => z)
  case F =>
    intro w mg fa h Y KX G hmg
    refine' Un.all_mk KX G hmg ?aC ?pgC ?hdC ?poC ?saC ?mkC ?kcC ?nS ?nW ?nA ?nL ?iCi ?yCi ?lCi ?cCi ?kCi ?aD ?pgD ?hdD ?poD ?saD ?mkD ?kcD ?nH ?iDi ?yDi ?lDi ?cDi ?kDi ?a3 ?l3 ?c3 ?k3 ?a4 ?l4 ?c4 ?k4 ?a5 ?l5 ?c5 ?k5 ?a6 ?l6 ?c6 ?k6 ?a7 ?l7 ?c7 ?k7 ?a8 ?l8 ?c8 ?k8 ?a9 ?l9 ?c9 ?k9 ?a10 ?l10 ?c10 ?k10 ?a15 ?l15 ?c15 ?k15 ?a16 ?l16 ?c16 ?k16 ?a17 ?l17 ?c17 ?k17 ?a18 ?l18 ?c18 ?k18 ?a19 ?l19 ?c19 ?k19 ?a20 ?l20 ?c20 ?k20 ?a21 ?l21 ?c21 ?k21 ?a22 ?l22 ?c22 ?k22 ?a26 ?l26 ?c26 ?k26 ?a27 ?l27 ?c27 ?k27 ?a28 ?l28 ?c28 ?k28 ?a29 ?l29 ?c29 ?k29 ?a30 ?l30 ?c30 ?k30 ?a31 ?l31 ?c31 ?k31 ?a32 ?l32 ?c32 ?k32 ?a33 ?l33 ?c33 ?k33 ?a43 ?l43 ?c43 ?k43 ?a44 ?l44 ?c44 ?k44 ?a47 ?l47 ?c47 ?k47 ?a48 ?l48 ?c48 ?k48 ?a49 ?l49 ?c49 ?k49 ?a50 ?l50 ?c50 ?k50 ?im1 ?ym1 ?lm1 ?cm1 ?km1 ?im2 ?ym2 ?lm2 ?cm2 ?km2 ?im3 ?ym3 ?lm3 ?cm3 ?km3 ?im4 ?ym4 ?lm4 ?cm4 ?km4 ?im5 ?ym5 ?lm5 ?cm5 ?km5 ?im6 ?ym6 ?lm6 ?cm6 ?km6 ?im7 ?ym7 ?lm7 ?cm7 ?km7 ?im8 ?ym8 ?lm8 ?cm8 ?km8 ?im9 ?ym9 ?lm9 ?cm9 ?km9 ?aS0 ?lS0 ?r0 ?r1 ?r2 ?bLen ?bSum ?bRange ?bAll ?bMax ?bMin ?bZip ?bList ?bEnum ?cDONE ?wcDONE ?cFA ?wcFA ?cFL ?wcFL ?cND ?wcND ?cNW ?wcNW ?cW ?wcW ?cNP ?wcNP ?cNO ?wcNO ?cTM ?wcTM ?cMS ?wcMS ?cMA ?wcMA ?cML ?wcML ?cMC ?wcMC
    (case aC => k_is)
    (case pgC => k_is)
    (case hdC => k_is)
    (case poC => k_is)
    (case saC => k_is)
    (case mkC => k_is)
    (case kcC => k_is)
    (case nS => k_is)
    (case nW => k_is)
    (case nA => k_is)
    (case nL => k_is)
    (case iCi => k_is)
    (case yCi => k_is)
    (case lCi => k_is)
    (case cCi => k_is)
    (case kCi => k_is)
    (case aD => k_is)
    (case pgD => k_is)
    (case hdD => k_is)
    (case poD => k_is)
    (case saD => k_is)
    (case mkD => k_is)
    (case kcD => k_is)
    (case nH => k_is)
    (case iDi => k_is)
    (case yDi => k_is)
    (case lDi => k_is)
    (case cDi => k_is)
    (case kDi => k_is)
    (case a3 => k_is)
    (case l3 => k_is)
    (case c3 => k_is)
    (case k3 => k_is)
    (case a4 => k_is)
    (case l4 => k_is)
    (case c4 => k_is)
    (case k4 => k_is)
    (case a5 => k_is)
    (case l5 => k_is)
    (case c5 => k_is)
    (case k5 => k_is)
    (case a6 => k_is)
    (case l6 => k_is)
    (case c6 => k_is)
    (case k6 => k_is)
    (case a7 => k_is)
    (case l7 => k_is)
    (case c7 => k_is)
    (case k7 => k_is)
    (case a8 => k_is)
    (case l8 => k_is)
    (case c8 => k_is)
    (case k8 => k_is)
    (case a9 => k_is)
    (case l9 => k_is)
    (case c9 => k_is)
    (case k9 => k_is)
    (case a10 => k_is)
    (case l10 => k_is)
    (case c10 => k_is)
    (case k10 => k_is)
    (case a15 => k_is)
    (case l15 => k_is)
    (case c15 => k_is)
    (case k15 => k_is)
    (case a16 => k_is)
    (case l16 => k_is)
    (case c16 => k_is)
    (case k16 => k_is)
    (case a17 => k_is)
    (case l17 => k_is)
    (case c17 => k_is)
    (case k17 => k_is)
    (case a18 => k_is)
    (case l18 => k_is)
    (case c18 => k_is)
    (case k18 => k_is)
    (case a19 => k_is)
    (case l19 => k_is)
    (case c19 => k_is)
    (case k19 => k_is)
    (case a20 => k_is)
    (case l20 => k_is)
    (case c20 => k_is)
    (case k20 => k_is)
    (case a21 => k_is)
    (case l21 => k_is)
    (case c21 => k_is)
    (case k21 => k_is)
    (case a22 => k_is)
    (case l22 => k_is)
    (case c22 => k_is)
    (case k22 => k_is)
    (case a26 => k_is)
    (case l26 => k_is)
    (case c26 => k_is)
    (case k26 => k_is)
    (case a27 => k_is)
    (case l27 => k_is)
    (case c27 => k_is)
    (case k27 => k_is)
    (case a28 => k_is)
    (case l28 => k_is)
    (case c28 => k_is)
    (case k28 => k_is)
    (case a29 => k_is)
    (case l29 => k_is)
    (case c29 => k_is)
    (case k29 => k_is)
    (case a30 => k_is)
    (case l30 => k_is)
    (case c30 => k_is)
    (case k30 => k_is)
    (case a31 => k_is)
    (case l31 => k_is)
    (case c31 => k_is)
    (case k31 => k_is)
    (case a32 => k_is)
    (case l32 => k_is)
    (case c32 => k_is)
    (case k32 => k_is)
    (case a33 => k_is)
    (case l33 => k_is)
    (case c33 => k_is)
    (case k33 => k_is)
    (case a43 => k_is)
    (case l43 => k_is)
    (case c43 => k_is)
    (case k43 => k_is)
    (case a44 => k_is)
    (case l44 => k_is)
    (case c44 => k_is)
    (case k44 => k_is)
    (case a47 => k_is)
    (case l47 => k_is)
    (case c47 => k_is)
    (case k47 => k_is)
    (case a48 => k_is)
    (case l48 => k_is)
    (case c48 => k_is)
    (case k48 => k_is)
    (case a49 => k_is)
    (case l49 => k_is)
    (case c49 => k_is)
    (case k49 => k_is)
    (case a50 => k_is)
    (case l50 => k_is)
    (case c50 => k_is)
    (case k50 => k_is)
    (case im1 => k_is)
    (case ym1 => k_is)
    (case lm1 => k_is)
    (case cm1 => k_is)
    (case km1 => k_is)
    (case im2 => k_is)
    (case ym2 => k_is)
    (case lm2 => k_is)
    (case cm2 => k_is)
    (case km2 => k_is)
    (case im3 => k_is)
    (case ym3 => k_is)
    (case lm3 => k_is)
    (case cm3 => k_is)
    (case km3 => k_is)
    (case im4 => k_is)
    (case ym4 => k_is)
    (case lm4 => k_is)
    (case cm4 => k_is)
    (case km4 => k_is)
    (case im5 => k_is)
    (case ym5 => k_is)
    (case lm5 => k_is)
    (case cm5 => k_is)
    (case km5 => k_is)
    (case im6 => k_is)
    (case ym6 => k_is)
    (case lm6 => k_is)
    (case cm6 => k_is)
    (case km6 => k_is)
    (case im7 => k_is)
    (case ym7 => k_is)
    (case lm7 => k_is)
    (case cm7 => k_is)
    (case km7 => k_is)
    (case im8 => k_is)
    (case ym8 => k_is)
    (case lm8 => k_is)
    (case cm8 => k_is)
    (case km8 => k_is)
    (case im9 => k_is)
    (case ym9 => k_is)
    (case lm9 => k_is)
    (case cm9 => k_is)
    (case km9 => k_is)
    (case aS0 => k_is)
    (case lS0 => k_is)
    (case r0 => rfl)
    (case r1 => rfl)
    (case r2 => rfl)
    (case bLen => k_is)
    (case bSum => k_is)
    (case bRange => k_is)
    (case bAll => k_is)
    (case bMax => k_is)
    (case bMin => k_is)
    (case bZip => k_is)
    (case bList => k_is)
    (case bEnum => k_is)
    (case cDONE => k_is)
    (case wcDONE => rfl)
    (case cFA => k_is)
    (case wcFA => rfl)
    (case cFL => k_is)
    (case wcFL => rfl)
    (case cND => k_is)
    (case wcND => rfl)
    (case cNW => k_is)
    (case wcNW => rfl)
    (case cW => k_is)
    (case wcW => rfl)
    (case cNP => k_is)
    (case wcNP => rfl)
    (case cNO => k_is)
    (case wcNO => rfl)
    (case cTM => k_is)
    (case wcTM => rfl)
    (case cMS => k_is)
    (case wcMS => rfl)
    (case cMA => k_is)
    (case wcMA => rfl)
    (case cML => k_is)
    (case wcML => rfl)
    (case cMC => k_is)
    (case wcMC => rfl)
  case S =>
    intro K H xs a hO hwi hask hx
    cases hx with
    | cons h1 h2 =>
      cases h2
      cases h1 with
      | lst hs ha =>
        have e := L2.ints_dw a.1 _ ha
        subst e
        exact ⟨_, a.1, rfl, hs, hask, fun H' p hp => .lst (L2.SqL.of hp) (L2.dw_ints _)⟩
