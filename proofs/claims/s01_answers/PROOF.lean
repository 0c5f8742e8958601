import PyProof.Rows.All
import Wide.All
import OpenK.AllK
import Wide.FinOn
import Open.SpecLaws
import KE.OsGo
import HandS.ForSpec
import HandS.Comp
import HandS.Iter
import HandS.Evl
import PySem.Challenge.RW_heatcascades_s01_answers
set_option Elab.async false
set_option maxRecDepth 100000
set_option maxHeartbeats 2000000
set_option linter.unusedVariables false
namespace HC
open Kqk3

/-- a network as the program keeps one -/
structure Ok (n : Network) : Prop where
  g1 : 1 ≤ n.gradeCount
  g12 : n.gradeCount ≤ 12
  u8 : n.users.length ≤ 8
  us : ∀ u ∈ n.users, u.returned < u.supply ∧ u.supply ≤ n.gradeCount ∧ u.value ≤ 100

theorem mem_lt {n : Network} {m i : Nat} (h : i ∈ members n m) : i < n.users.length := by
  have := (List.mem_filter.mp h).1
  exact List.mem_range.mp this
theorem members_le (n : Network) (m : Nat) : (members n m).length ≤ n.users.length := by
  have h := List.length_filter_le (fun i => decide (m / 2 ^ i % 2 = 1)) (List.range n.users.length)
  rw [List.length_range] at h
  exact h
theorem user_at {n : Network} {i : Nat} {u : User} (h : n.users[i]? = some u) : user n i = u := by
  show n.users.getD i ⟨1, 0, 0⟩ = u
  rw [List.getD_eq_getElem?_getD, h]; rfl
theorem user_get {n : Network} {i : Nat} (h : i < n.users.length) : n.users[i]? = some (user n i) := by
  rw [List.getElem?_eq_getElem h, user_at (List.getElem?_eq_getElem h)]
theorem user_mem {n : Network} {i : Nat} (h : i < n.users.length) : user n i ∈ n.users := List.mem_of_getElem? (user_get h)

/-! ### sums -/
theorem foldl_add (l : List Nat) : ∀ a : Nat, l.foldl (fun x y => x + y) a = a + l.foldl (fun x y => x + y) 0 := by
  induction l with
  | nil => intro a; rfl
  | cons x r ih =>
    intro a
    show r.foldl (fun x y => x + y) (a + x) = a + r.foldl (fun x y => x + y) (0 + x)
    rw [ih (a + x), ih (0 + x)]
    omega
theorem sum_nil : Kqk3.sum [] = 0 := rfl
theorem sum_cons (x : Nat) (r : List Nat) : Kqk3.sum (x :: r) = x + Kqk3.sum r := by
  show r.foldl (fun x y => x + y) (0 + x) = x + r.foldl (fun x y => x + y) 0
  rw [foldl_add r (0 + x)]
  omega
theorem sum_app (a b : List Nat) : Kqk3.sum (a ++ b) = Kqk3.sum a + Kqk3.sum b := by
  induction a with
  | nil => show Kqk3.sum b = Kqk3.sum [] + Kqk3.sum b; rw [sum_nil]; omega
  | cons x r ih =>
    show Kqk3.sum (x :: (r ++ b)) = _
    rw [sum_cons, sum_cons, ih]
    omega
theorem sum_one (x : Nat) : Kqk3.sum [x] = x := by rw [sum_cons, sum_nil]; omega
theorem sum_is (l : List Nat) : ((Kqk3.sum l : Nat) : Int) = (l.map fun (x : Nat) => (x : Int)).sum := by
  induction l with
  | nil => rfl
  | cons x r ih =>
    rw [sum_cons, List.map_cons, List.sum_cons, ← ih]
    omega

/-! ### the peak -/
theorem foldl_max_ge (l : List Nat) : ∀ a : Nat, a ≤ l.foldl max a := by
  induction l with
  | nil => intro a; exact Nat.le_refl _
  | cons x r ih => intro a; exact Nat.le_trans (Nat.le_max_left a x) (ih (max a x))
theorem foldl_max_mem (l : List Nat) : ∀ a : Nat, ∀ x ∈ l, x ≤ l.foldl max a := by
  induction l with
  | nil => intro a x h; cases h
  | cons y r ih =>
    intro a x h
    rcases List.mem_cons.mp h with e | m
    · subst e; exact Nat.le_trans (Nat.le_max_right a x) (foldl_max_ge r (max a x))
    · exact ih (max a y) x m
theorem foldl_max_le (l : List Nat) (b : Nat) (hb : ∀ x ∈ l, x ≤ b) : ∀ a : Nat, a ≤ b → l.foldl max a ≤ b := by
  induction l with
  | nil => intro a h; exact h
  | cons y r ih =>
    intro a h
    exact ih (fun x hx => hb x (List.mem_cons_of_mem _ hx)) (max a y) (Nat.max_le.mpr ⟨h, hb y (List.mem_cons_self ..)⟩)
/-- what max gives is the fold -/
theorem max_is {l : List Nat} {m : Nat} (h : m ∈ l) (hle : ∀ x ∈ l, x ≤ m) : l.foldl max 0 = m :=
  Nat.le_antisymm (foldl_max_le l m hle 0 (Nat.zero_le _)) (foldl_max_mem l 0 m h)
def loads (n : Network) (m : Nat) : List Nat := (List.range n.gradeCount).map fun i => load n m (i + 1)
theorem peak_is {n : Network} {m p : Nat} (h : p ∈ loads n m) (hle : ∀ x ∈ loads n m, x ≤ p) : peakLoad n m = p := max_is h hle
theorem loads_len (n : Network) (m : Nat) : (loads n m).length = n.gradeCount := by
  unfold loads; rw [List.length_map, List.length_range]
theorem loads_at {n : Network} {m i : Nat} (h : i < n.gradeCount) : (loads n m)[i]? = some (load n m (i + 1)) := by
  unfold loads; rw [List.getElem?_map, List.getElem?_range h]; rfl
/-- the first place of the peak -/
def firstAt (p : Nat) : List Nat → Nat
  | [] => 0
  | x :: r => if x = p then 0 else firstAt p r + 1
def peakPlace (n : Network) (m : Nat) : Nat := firstAt (peakLoad n m) (loads n m)
theorem firstAt_is {p : Nat} : ∀ {l : List Nat} {i : Nat}, l[i]? = some p → (∀ j, j < i → l[j]? ≠ some p) → firstAt p l = i
  | [], i, h, _ => by simp at h
  | x :: r, 0, h, _ => by
    have e : x = p := Option.some.inj h
    unfold firstAt; rw [if_pos e]
  | x :: r, i + 1, h, hj => by
    have e : ¬ x = p := fun e => hj 0 (Nat.zero_lt_succ _) (congrArg some e)
    unfold firstAt; rw [if_neg e]
    have := firstAt_is (l := r) (i := i) h fun j q => hj (j + 1) (Nat.succ_lt_succ q)
    omega
theorem find_first {f : Nat → Nat} {p : Nat} : ∀ (k a : Nat), (∃ i, i < k ∧ f (a + i) = p) → (List.range' a k).find? (fun i => f i == p) = some (a + firstAt p ((List.range' a k).map f))
  | 0, a, h => by obtain ⟨i, h, _⟩ := h; omega
  | k + 1, a, h => by
    rw [List.range'_succ, List.find?_cons, List.map_cons]
    by_cases e : f a = p
    · rw [e]; simp only [beq_self_eq_true, firstAt, if_true]; rfl
    · have e' : (f a == p) = false := by simpa using e
      rw [e']
      unfold firstAt; rw [if_neg e]
      obtain ⟨i, hi, hp⟩ := h
      have hi0 : i ≠ 0 := fun z => e (by rw [z] at hp; exact hp)
      rw [find_first k (a + 1) ⟨i - 1, by omega, by rw [show a + 1 + (i - 1) = a + i by omega]; exact hp⟩]
      show some (a + 1 + _) = some (a + (_ + 1))
      congr 1; omega
theorem peak_reached {n : Network} (m : Nat) (h : 1 ≤ n.gradeCount) : ∃ i, i < n.gradeCount ∧ load n m (i + 1) = peakLoad n m := by
  have key : ∀ (l : List Nat) (a : Nat), l.foldl max a = a ∨ l.foldl max a ∈ l := by
    intro l
    induction l with
    | nil => intro a; exact .inl rfl
    | cons x r ih =>
      intro a
      rcases ih (max a x) with e | e
      · show r.foldl max (max a x) = a ∨ r.foldl max (max a x) ∈ x :: r
        rw [e]
        by_cases q : a ≤ x
        · right; rw [Nat.max_eq_right q]; exact List.mem_cons_self ..
        · left; exact Nat.max_eq_left (by omega)
      · right; exact List.mem_cons_of_mem _ e
  rcases key (loads n m) 0 with e | e
  · refine ⟨0, h, ?_⟩
    have e' : peakLoad n m = 0 := e
    have := foldl_max_mem (loads n m) 0 _ (List.mem_of_getElem? (loads_at (m := m) (i := 0) h))
    have e2 : (loads n m).foldl max 0 = 0 := e
    rw [e2] at this
    omega
  · obtain ⟨i, hi, q⟩ := List.mem_map.mp e
    exact ⟨i, List.mem_range.mp hi, q⟩
theorem peakGrade_is {n : Network} (h : 1 ≤ n.gradeCount) : peakGradeOf n = some (peakPlace n (allUsersSet n) + 1) := by
  unfold peakGradeOf
  obtain ⟨i, hi, e⟩ := peak_reached (n := n) (allUsersSet n) h
  have := find_first (f := fun i => load n (allUsersSet n) (i + 1)) (p := peakLoad n (allUsersSet n)) n.gradeCount 0 ⟨i, hi, by rw [Nat.zero_add]; exact e⟩
  rw [List.range_eq_range']
  rw [this]
  show some (0 + firstAt _ _ + 1) = _
  rw [Nat.zero_add]
  unfold peakPlace loads
  rw [List.range_eq_range']

/-! ### the best set -/
def better (n : Network) (k best set : Nat) : Nat := if peakLoad n set ≤ k ∧ valueOf n best < valueOf n set then set else best
def bestTo (n : Network) (k i : Nat) : Nat := (List.range i).foldl (better n k) 0
theorem best_is (n : Network) (k : Nat) : bestSet n k = bestTo n k (2 ^ n.users.length) := rfl
theorem bestTo_succ (n : Network) (k i : Nat) : bestTo n k (i + 1) = better n k (bestTo n k i) i := by
  unfold bestTo; rw [List.range_succ, List.foldl_append]; rfl
theorem members_zero (n : Network) : members n 0 = [] := by
  unfold members
  rw [List.filter_eq_nil_iff]
  intro i _
  simp
theorem peak_zero (n : Network) : peakLoad n 0 = 0 := by
  unfold peakLoad
  apply Nat.le_antisymm _ (Nat.zero_le _)
  apply foldl_max_le _ 0 _ 0 (Nat.le_refl _)
  intro x hx
  obtain ⟨i, _, e⟩ := List.mem_map.mp hx
  rw [← e]
  unfold load
  rw [members_zero]
  exact Nat.le_refl 0
theorem value_zero (n : Network) : valueOf n 0 = 0 := by
  unfold valueOf; rw [members_zero]; rfl
theorem bestTo_ok (n : Network) (k : Nat) : ∀ i, peakLoad n (bestTo n k i) ≤ k ∧ (bestTo n k i = 0 ∨ bestTo n k i < i) ∧ ∀ s, s < i → peakLoad n s ≤ k → valueOf n s ≤ valueOf n (bestTo n k i)
  | 0 => ⟨by show peakLoad n 0 ≤ k; rw [peak_zero]; exact Nat.zero_le _, .inl rfl, fun s h => by omega⟩
  | i + 1 => by
    obtain ⟨h1, h2, h3⟩ := bestTo_ok n k i
    rw [bestTo_succ]
    unfold better
    split
    · rename_i c
      refine ⟨c.1, .inr (Nat.lt_succ_self _), fun s hs hp => ?_⟩
      by_cases e : s = i
      · rw [e]; exact Nat.le_refl _
      · have := h3 s (by omega) hp; omega
    · rename_i c
      refine ⟨h1, by omega, fun s hs hp => ?_⟩
      by_cases e : s = i
      · subst e
        have : ¬ (valueOf n (bestTo n k s) < valueOf n s) := fun q => c ⟨hp, q⟩
        omega
      · exact h3 s (by omega) hp
theorem best_peak (n : Network) (k : Nat) : peakLoad n (bestSet n k) ≤ k := (bestTo_ok n k _).1
theorem best_lt (n : Network) (k : Nat) : bestSet n k < 2 ^ n.users.length := by
  have := (bestTo_ok n k (2 ^ n.users.length)).2.1
  have h : 0 < 2 ^ n.users.length := Nat.two_pow_pos _
  rw [best_is]; omega
theorem best_max {n : Network} {k s : Nat} (hs : s < 2 ^ n.users.length) (hp : peakLoad n s ≤ k) : valueOf n s ≤ valueOf n (bestSet n k) := (bestTo_ok n k _).2.2 s hs hp
theorem best_mono (n : Network) {j k : Nat} (h : j ≤ k) : valueOf n (bestSet n j) ≤ valueOf n (bestSet n k) :=
  best_max (best_lt n j) (Nat.le_trans (best_peak n j) h)

/-! ### one user less -/
theorem mask_of (p : Nat → Bool) : ∀ k : Nat, ∃ m, m < 2 ^ k ∧ ∀ j, j < k → Nat.testBit m j = p j
  | 0 => ⟨0, by decide, fun j h => by omega⟩
  | k + 1 => by
    obtain ⟨m, hm, h⟩ := mask_of p k
    cases e : p k with
    | false =>
      refine ⟨m, by rw [Nat.pow_succ]; omega, fun j hj => ?_⟩
      by_cases q : j = k
      · subst q; rw [e]; exact Nat.testBit_lt_two_pow hm
      · exact h j (by omega)
    | true =>
      refine ⟨2 ^ k + m, by rw [Nat.pow_succ]; omega, fun j hj => ?_⟩
      by_cases q : j = k
      · subst q; rw [e, Nat.testBit_two_pow_add_eq, Nat.testBit_lt_two_pow hm]; rfl
      · rw [Nat.testBit_two_pow_add_gt (by omega)]; exact h j (by omega)
theorem bit_is (m i : Nat) : decide (m / 2 ^ i % 2 = 1) = Nat.testBit m i := (Nat.testBit_eq_decide_div_mod_eq).symm
theorem members_bit (n : Network) (m : Nat) : members n m = (List.range n.users.length).filter fun i => Nat.testBit m i := by
  unfold members allUsers
  apply List.filter_congr
  intro i _
  exact bit_is m i
def skip (i j : Nat) : Nat := if j < i then j else j + 1
theorem filter_skip {p q : Nat → Bool} {i : Nat} (hi : p i = false) (hl : ∀ j, p (skip i j) = q j) : ∀ d, (List.range (i + d + 1)).filter p = ((List.range (i + d)).filter q).map (skip i)
  | 0 => by
    rw [Nat.add_zero, List.range_succ, List.filter_append]
    have e : [i].filter p = [] := by rw [List.filter_cons, if_neg (by rw [hi]; decide)]; rfl
    rw [e, List.append_nil]
    have e2 : (List.range i).filter p = (List.range i).filter q := by
      apply List.filter_congr
      intro j hj
      have := hl j
      unfold skip at this
      rw [if_pos (List.mem_range.mp hj)] at this
      exact this
    rw [e2]
    symm
    refine Eq.trans (List.map_congr_left (g := fun x => x) fun x hx => ?_) (List.map_id' _)
    have := List.mem_range.mp (List.mem_filter.mp hx).1
    unfold skip; rw [if_pos (show x < i from this)]
  | d + 1 => by
    have ih := filter_skip hi hl d
    show (List.range (i + d + 1 + 1)).filter p = ((List.range (i + d + 1)).filter q).map (skip i)
    rw [List.range_succ, List.filter_append, ih, List.range_succ, List.filter_append, List.map_append]
    congr 1
    have e : p (i + d + 1) = q (i + d) := by
      have := hl (i + d)
      unfold skip at this
      rw [if_neg (by omega)] at this
      exact this
    rw [List.filter_cons, List.filter_cons, e]
    split
    · show [i + d + 1] = [skip i (i + d)]
      unfold skip; rw [if_neg (by omega)]
    · rfl
theorem user_skip {n : Network} {i : Nat} (j : Nat) : user { n with users := n.users.eraseIdx i } j = user n (skip i j) := by
  show (n.users.eraseIdx i).getD j ⟨1, 0, 0⟩ = n.users.getD (skip i j) ⟨1, 0, 0⟩
  rw [List.getD_eq_getElem?_getD, List.getD_eq_getElem?_getD, List.getElem?_eraseIdx]
  unfold skip
  by_cases h : j < i
  · rw [if_pos h, if_pos h]
  · rw [if_neg h, if_neg h]
theorem rest_set {n : Network} {i m : Nat} (hi : i < n.users.length) :
    ∃ s, s < 2 ^ n.users.length ∧ members n s = (members { n with users := n.users.eraseIdx i } m).map (skip i) := by
  obtain ⟨s, hs, hb⟩ := mask_of (fun j => if j < i then Nat.testBit m j else if j = i then false else Nat.testBit m (j - 1)) n.users.length
  refine ⟨s, hs, ?_⟩
  have hlen : (n.users.eraseIdx i).length = n.users.length - 1 := by rw [List.length_eraseIdx, if_pos hi]
  rw [members_bit, members_bit]
  show _ = ((List.range (n.users.eraseIdx i).length).filter _).map _
  rw [hlen]
  have e : (List.range n.users.length).filter (fun j => Nat.testBit s j) = (List.range n.users.length).filter (fun j => if j < i then Nat.testBit m j else if j = i then false else Nat.testBit m (j - 1)) := by
    apply List.filter_congr
    intro j hj
    exact hb j (List.mem_range.mp hj)
  rw [e]
  have key := filter_skip (p := fun j => if j < i then Nat.testBit m j else if j = i then false else Nat.testBit m (j - 1)) (q := fun j => Nat.testBit m j) (i := i)
    (by rw [if_neg (by omega), if_pos rfl])
    (fun j => by
      unfold skip
      by_cases h : j < i
      · rw [if_pos h, if_pos h]
      · rw [if_neg h, if_neg (by omega), if_neg (by omega)]; rfl) (n.users.length - 1 - i)
  rw [show i + (n.users.length - 1 - i) + 1 = n.users.length by omega, show i + (n.users.length - 1 - i) = n.users.length - 1 by omega] at key
  exact key
theorem rest_best {n : Network} {i k : Nat} (hi : i < n.users.length) :
    valueOf { n with users := n.users.eraseIdx i } (bestSet { n with users := n.users.eraseIdx i } k) ≤ valueOf n (bestSet n k) := by
  obtain ⟨s, hs, e⟩ := rest_set (n := n) (m := bestSet { n with users := n.users.eraseIdx i } k) hi
  have hv : valueOf n s = valueOf { n with users := n.users.eraseIdx i } (bestSet { n with users := n.users.eraseIdx i } k) := by
    unfold valueOf
    rw [e, List.map_map]
    congr 1
    apply List.map_congr_left
    intro j _
    show (user n (skip i j)).value = _
    rw [user_skip]
  have hp : peakLoad n s = peakLoad { n with users := n.users.eraseIdx i } (bestSet { n with users := n.users.eraseIdx i } k) := by
    unfold peakLoad
    congr 1
    apply List.map_congr_left
    intro g _
    unfold load
    rw [e, List.filter_map, List.length_map]
    congr 1
    apply List.filter_congr
    intro j _
    simp only [Function.comp, user_skip]
  rw [← hv]
  exact best_max hs (by rw [hp]; exact best_peak _ k)

/-! ### masks -/
theorem all_bit {k i : Nat} (h : i < k) : (2 ^ k - 1) / 2 ^ i % 2 = 1 := by
  have := Nat.testBit_two_pow_sub_one k i
  rw [← bit_is] at this
  simpa [h] using this
theorem members_all (n : Network) : members n (allUsersSet n) = List.range n.users.length := by
  unfold members allUsers allUsersSet
  rw [List.filter_eq_self]
  intro i hi
  exact decide_eq_true (all_bit (List.mem_range.mp hi))
theorem all_lt (n : Network) : allUsersSet n < 2 ^ n.users.length := by
  have h : 0 < 2 ^ n.users.length := Nat.two_pow_pos _
  unfold allUsersSet; omega
theorem pow_le {k : Nat} (h : k ≤ 8) : 2 ^ k ≤ 256 := Nat.pow_le_pow_right (by decide) h
theorem peakUsers_is {n : Network} (h : 1 ≤ n.gradeCount) : peakUsersOf n = (members n (allUsersSet n)).filter fun i => occupies (user n i) (peakPlace n (allUsersSet n) + 1) := by
  unfold peakUsersOf
  rw [peakGrade_is h, members_all]
  rfl

/-! ### the order of the cascade assignment -/
def atGrade (n : Network) (m g : Nat) : List Nat := (members n m).filter fun i => (user n i).supply == g
theorem atGrade_nil {n : Network} (ok : Ok n) {m g : Nat} (h : g = 0 ∨ n.gradeCount < g) : atGrade n m g = [] := by
  unfold atGrade
  rw [List.filter_eq_nil_iff]
  intro i hi
  have := ok.us _ (user_mem (mem_lt hi))
  intro e
  have : (user n i).supply = g := by simpa using e
  omega
theorem flat_up {F : Nat → List Nat} {c : Nat} (h : ∀ g, c < g → F g = []) : ∀ d, (List.range (c + d + 1)).reverse.flatMap F = (List.range (c + 1)).reverse.flatMap F
  | 0 => rfl
  | d + 1 => by
    rw [show c + (d + 1) + 1 = (c + d + 1) + 1 by omega, List.range_succ, List.reverse_append]
    show F (c + d + 1) ++ (List.range (c + d + 1)).reverse.flatMap F = _
    rw [h _ (by omega), List.nil_append, flat_up h d]
theorem bySupply_is {n : Network} (ok : Ok n) (m : Nat) : bySupply n m = (List.range 12).flatMap fun s => atGrade n m (12 - s) := by
  have e := flat_up (F := atGrade n m) (c := n.gradeCount) (fun g h => atGrade_nil ok (.inr h)) (12 - n.gradeCount)
  rw [show n.gradeCount + (12 - n.gradeCount) + 1 = 13 by have := ok.g12; omega] at e
  show (List.range (n.gradeCount + 1)).reverse.flatMap (atGrade n m) = _
  rw [← e]
  show atGrade n m 12 ++ (atGrade n m 11 ++ (atGrade n m 10 ++ (atGrade n m 9 ++ (atGrade n m 8 ++ (atGrade n m 7 ++ (atGrade n m 6 ++ (atGrade n m 5 ++ (atGrade n m 4 ++ (atGrade n m 3 ++ (atGrade n m 2 ++ (atGrade n m 1 ++ (atGrade n m 0 ++ [])))))))))))) = _
  rw [atGrade_nil ok (.inl rfl)]
  rfl
theorem bySupply_lt {n : Network} {m i : Nat} (h : i ∈ bySupply n m) : i < n.users.length := by
  unfold bySupply at h
  obtain ⟨g, _, hg⟩ := List.mem_flatMap.mp h
  exact mem_lt (List.mem_filter.mp hg).1

/-! ### the assignment, one user more -/
abbrev Cas := List Nat × Nat
def put (n : Network) (cs : List Cas) (i : Nat) : List Cas := match cs.findIdx? fun c => decide ((user n i).supply ≤ c.2) with
  | none => cs ++ [([i], (user n i).returned)]
  | some k => cs.set k ((cs.getD k ([], 0)).1 ++ [i], (user n i).returned)
theorem assign_fold (n : Network) : ∀ (l : List Nat) (cs : List Cas), assign n l cs = l.foldl (put n) cs
  | [], _ => rfl
  | i :: r, cs => by
    show assign n (i :: r) cs = r.foldl (put n) (put n cs i)
    rw [← assign_fold n r (put n cs i)]
    unfold put
    rw [assign]
    cases cs.findIdx? fun c => decide ((user n i).supply ≤ c.2) with
    | none => rfl
    | some k => rfl
/-- a cascade's grade is the return grade of its last user; it is not empty, its users are there -/
def Good (n : Network) (c : Cas) : Prop := ∃ a i, c.1 = a ++ [i] ∧ i < n.users.length ∧ c.2 = (user n i).returned
def casSum (cs : List Cas) : Nat := (cs.map fun c => c.1.length).sum
theorem put_good {n : Network} {cs : List Cas} {i : Nat} (h : ∀ c ∈ cs, Good n c) (hi : i < n.users.length) : ∀ c ∈ put n cs i, Good n c := by
  intro c hc
  unfold put at hc
  split at hc
  · rcases List.mem_append.mp hc with m | m
    · exact h c m
    · rw [List.mem_singleton] at m
      subst m
      exact ⟨[], i, rfl, hi, rfl⟩
  · rcases List.mem_or_eq_of_mem_set hc with m | m
    · exact h c m
    · subst m
      exact ⟨_, i, rfl, hi, rfl⟩
theorem put_len {n : Network} {cs : List Cas} {i : Nat} : (put n cs i).length ≤ cs.length + 1 := by
  unfold put
  split
  · simp
  · simp
theorem put_each {n : Network} {cs : List Cas} {i b : Nat} (h : ∀ c ∈ cs, c.1.length ≤ b) (hb : 1 ≤ b + 1) : ∀ c ∈ put n cs i, c.1.length ≤ b + 1 := by
  intro c hc
  unfold put at hc
  split at hc
  · rcases List.mem_append.mp hc with m | m
    · have := h c m; omega
    · rw [List.mem_singleton] at m
      subst m
      show [i].length ≤ b + 1
      rw [List.length_singleton]; omega
  · rename_i k e
    rcases List.mem_or_eq_of_mem_set hc with m | m
    · have := h c m; omega
    · subst m
      have hk : k < cs.length := by
        have := List.findIdx?_eq_some_iff_findIdx_eq.mp e
        exact this.1
      have := h cs[k] (List.getElem_mem hk)
      rw [List.getD_eq_getElem?_getD, List.getElem?_eq_getElem hk]
      show (cs[k].1 ++ [i]).length ≤ b + 1
      rw [List.length_append, List.length_singleton]; omega
def casTo (n : Network) (l : List Nat) : List Cas := l.foldl (put n) []
theorem casTo_snoc (n : Network) (l : List Nat) (i : Nat) : casTo n (l ++ [i]) = put n (casTo n l) i := by
  unfold casTo; rw [List.foldl_append]; rfl
theorem cascades_is (n : Network) (m : Nat) : cascades n m = (casTo n (bySupply n m)).map fun c => c.1 := by
  unfold cascades casTo; rw [assign_fold]

/-! ### prices -/
theorem getD_sum : ∀ (ps : List Nat), Kqk3.sum ((List.range ps.length).map fun g => ps.getD g 0) = Kqk3.sum ps := by
  intro ps
  congr 1
  apply List.ext_getElem?
  intro i
  rw [List.getElem?_map]
  by_cases h : i < ps.length
  · rw [List.getElem?_range h, List.getElem?_eq_getElem h]
    show some (ps.getD i 0) = _
    rw [List.getD_eq_getElem?_getD, List.getElem?_eq_getElem h]; rfl
  · rw [List.getElem?_eq_none (by rw [List.length_range]; omega), List.getElem?_eq_none (by omega)]; rfl
/-- the cost so far: the grades r+1 .. r+j -/
def costTo (ps : List Nat) (r j : Nat) : Nat := Kqk3.sum ((List.range j).map fun i => ps.getD (r + i) 0)
theorem costTo_succ (ps : List Nat) (r j : Nat) : costTo ps r (j + 1) = costTo ps r j + ps.getD (r + j) 0 := by
  unfold costTo
  rw [List.range_succ, List.map_append, sum_app]
  show _ + Kqk3.sum [ps.getD (r + j) 0] = _
  rw [sum_one]
theorem cost_aux (f : Nat → Nat) (r s : Nat) : ∀ k, Kqk3.sum ((List.range k).map fun g => if g + 1 ≤ s ∧ r < g + 1 then f g else 0) = Kqk3.sum ((List.range (min k s - r)).map fun i => f (r + i))
  | 0 => by rw [Nat.zero_min, Nat.zero_sub]; rfl
  | k + 1 => by
    rw [List.range_succ, List.map_append, sum_app, cost_aux f r s k]
    show _ + Kqk3.sum [if k + 1 ≤ s ∧ r < k + 1 then f k else 0] = _
    rw [sum_one]
    by_cases c : k + 1 ≤ s ∧ r < k + 1
    · rw [if_pos c, show min (k + 1) s - r = (min k s - r) + 1 by omega, List.range_succ, List.map_append, sum_app]
      show _ = _ + Kqk3.sum [f (r + (min k s - r))]
      rw [sum_one, show r + (min k s - r) = k by omega]
    · rw [if_neg c, show min (k + 1) s - r = min k s - r by omega]; omega
theorem cost_is {n : Network} (ps : List Nat) {i : Nat} (hs : (user n i).supply ≤ n.gradeCount) : cost n ps i = costTo ps (user n i).returned ((user n i).supply - (user n i).returned) := by
  unfold cost costTo
  rw [cost_aux (fun g => ps.getD g 0), Nat.min_eq_right hs]
def boundTo (n : Network) (k : Nat) (ps : List Nat) (j : Nat) : Nat := k * Kqk3.sum ps + Kqk3.sum ((List.range j).map fun i => (user n i).value - cost n ps i)
theorem boundTo_succ (n : Network) (k : Nat) (ps : List Nat) (j : Nat) : boundTo n k ps (j + 1) = boundTo n k ps j + ((user n j).value - cost n ps j) := by
  unfold boundTo
  rw [List.range_succ, List.map_append, sum_app]
  show _ + (_ + Kqk3.sum [(user n j).value - cost n ps j]) = _
  rw [sum_one]; omega
theorem bound_is {n : Network} {k : Nat} {ps : List Nat} (h : ps.length = n.gradeCount) : dualBound n k ps = boundTo n k ps n.users.length := by
  unfold dualBound boundTo
  rw [← h, getD_sum]; rfl
def valTo (n : Network) (l : List Nat) : Nat := Kqk3.sum (l.map fun i => (user n i).value)
theorem valTo_snoc (n : Network) (l : List Nat) (i : Nat) : valTo n (l ++ [i]) = valTo n l + (user n i).value := by
  unfold valTo
  rw [List.map_append, sum_app]
  show _ + Kqk3.sum [(user n i).value] = _
  rw [sum_one]
theorem value_is (n : Network) (m : Nat) : valueOf n m = valTo n (members n m) := rfl
theorem take_more {α : Type} : ∀ {l : List α} {i : Nat} {x : α}, l[i]? = some x → l.take (i + 1) = l.take i ++ [x]
  | [], i, x, h => by simp at h
  | a :: l, 0, x, h => by
    have e : a = x := Option.some.inj h
    subst e
    rfl
  | a :: l, i + 1, x, h => by
    have ih := take_more (l := l) (i := i) (x := x) h
    show a :: l.take (i + 1) = a :: l.take i ++ [x]
    rw [ih]
    rfl
end HC

/-! ### short words over the hand layer -/
namespace HC
open PySem PySem.Spec PyProof.Rows L2 Evl

/-- a def of the text, as callers see it -/
structure DefAt (P : Program) (w : World) (K : PySem.W.Frag) (mg : Str → Option Value) (base : Heap) (x : Str) (k : Nat) (ps : List Str) (sp : Sp) : Prop where
  ex : ∃ (f : Addr) (fd : FuncData), FnOk P w K mg base CX0 k f fd ps sp ∧ mg x = some (.ref f) ∧ PySem.W.keepIn K (.ref f) = true ∧ Binds K fd ps []
structure MethAt (P : Program) (w : World) (K : PySem.W.Frag) (mg : Str → Option Value) (base : Heap) (C : Addr) (m : Str) (k : Nat) (ps : List Str) (sp : Sp) : Prop where
  ex : ∃ (f : Addr) (fd : FuncData), FnOk P w K mg base CX0 k f fd ps sp ∧ Meth K C m f ∧ Binds K fd ps []
section
variable {X : Cx} {x : Str} {k : Nat} {ps : List Str} {sp : Sp} {e : Expr} {es : List Expr} {t : TA} {p pos : Pos}
theorem pe_def (D : DefAt X.prog X.w X.K X.mg X.base x k ps sp) (hr : Room k X.A) (hg : Gl X x) (ha : PA X (e :: es) t) (hdb : (x == ("__debug__" : Str)) = false := by decide)
    (he : starEach (e :: es) X.env = (false, eval e X.env) :: starEach es X.env := by rfl) (hpl : (backTo pos (starEach es X.env)).any (·.1) = false := by rfl) : PE X (.Call (.Name x p) (e :: es) [] pos) (tCall sp [] E0 t) := by
  obtain ⟨f, fd, F, hm, hk, hb⟩ := D.ex
  exact pe_call F hr hg hm hk hb .nil pass0 ha hdb he hpl
theorem pe_k {n : Int} (hg : Gl X x) (h : ∃ t, X.mg x = some (.int n t)) (hd : (x == ("__debug__" : Str)) = false := by decide) : PE X (.Name x pos) (tC (.int n)) := by
  obtain ⟨t, h⟩ := h
  exact pe_glob hg h ⟨t, rfl⟩ hd
theorem pe_t {a : Addr} (hg : Gl X x) (h : X.mg x = some (.ref a)) (hd : (x == ("__debug__" : Str)) = false := by decide) : PE X (.Name x pos) (tC (.ref a)) := pe_glob (v := .ref a) hg h rfl hd
theorem cr_len : CallR X (.builtin "len") (rLenS X.K) := call_len_seq
theorem cr_max2 (hc : X.calm = true) : CallR X (.builtin "max") rMax2 := call_max2 hc
end

/-! ### what evaluates to what, further -/
section
variable {K : PySem.W.Frag} {σ : L2.St} {H H' : Hp} {ta tb tc te : TE} {x y z v : V} {r r' : R2} {D : Ends} {tu tz : TS}
theorem ev_fld {a C dx : Addr} {fs : List (Str × V)} {f : Str} (h : Ev ta σ H (.ref a)) (hH : H a = some (.ins C dx fs)) (cl : Cls K C) (na : NoAttr K C f) (hl : fs.lookup f = some v) : Ev (tFld K ta f) σ H v := fun H1 e Q q =>
  h H1 e _ fun H2 e2 => ⟨a, C, dx, fs, v, rfl, (e.trans e2) a _ hH, cl, na, hl, q H2 e2⟩
theorem ev_chain {a b : Bool} (h1 : Ev ta σ H x) (h2 : Ev tb σ H y) (hr : RV r x y H (.bl a)) (h3 : a = true → Ev tc σ H v) (hr' : a = true → RV r' y v H (.bl b)) : Ev (tChain r r' ta tb tc) σ H (.bl (a && b)) := fun H1 e Q q =>
  h1 H1 e _ fun H2 e2 => h2 H2 (e.trans e2) _ fun H3 e3 => hr H3 ((e.trans e2).trans e3) _ fun H4 e4 => ⟨a, rfl, by
    cases a with
    | true =>
      show tc σ H4 fun w H5 => r' y w H5 Q
      refine h3 rfl H4 (((e.trans e2).trans e3).trans e4) _ fun H5 e5 => hr' rfl H5 ((((e.trans e2).trans e3).trans e4).trans e5) Q fun H6 e6 => q H6 ?_
      exact (((e2.trans e3).trans e4).trans e5).trans e6
    | false =>
      show Q (.bl false) H4
      exact q H4 ((e2.trans e3).trans e4)⟩
theorem ev_sum {p : Addr} {ns : List Int} (ha : Ev ta σ H (.ref p)) (h : SqL K H p (ns.map V.int)) : Ev (tCB (rSum K) (tCons ta tNil)) σ H (.int ns.sum) := fun H1 e Q q =>
  ha H1 e _ fun H2 e2 => ⟨p, ns, rfl, ex_l (e.trans e2) h, q H2 e2⟩
theorem ev_maxN {ns : List Int} {m : Int} (ha : EvL ta σ H (ns.map V.int)) (h0 : 0 < ns.length) (hm : ∀ k, k ∈ ns → (∀ y, y ∈ ns → y ≤ k) → k = m) : Ev (tCB (rMax K) (tCons ta tNil)) σ H (.int m) := fun H1 e Q q =>
  ha H1 e _ fun p H2 _ e2 h2 => ⟨p, ns, rfl, sq_of h2, h0, fun k k1 k2 => by rw [hm k k1 k2]; exact q H2 e2⟩
theorem ev_max {p : Addr} {ns : List Int} {m : Int} (ha : Ev ta σ H (.ref p)) (h : SqL K H p (ns.map V.int)) (h0 : 0 < ns.length) (hm : ∀ k, k ∈ ns → (∀ y, y ∈ ns → y ≤ k) → k = m) : Ev (tCB (rMax K) (tCons ta tNil)) σ H (.int m) := fun H1 e Q q =>
  ha H1 e _ fun H2 e2 => ⟨p, ns, rfl, ex_l (e.trans e2) h, h0, fun k k1 k2 => by rw [hm k k1 k2]; exact q H2 e2⟩
/-- a list and a new list, one behind the other -/
theorem el_cat {p : Addr} {xs ys : List V} (ha : Ev ta σ H (.ref p)) (hp : H p = some (.lst xs)) (hb : EvL tb σ H ys) (hz : xs.length + ys.length ≤ 100000) : EvL (tOp rCat ta tb) σ H (xs ++ ys) := fun H1 e Q q =>
  ha H1 e _ fun H2 e2 => hb H2 (e.trans e2) _ fun b H3 hb3 e3 h3 => ⟨p, b, xs, ys, rfl, rfl, ((e.trans e2).trans e3) p _ hp, h3, sz_of hz, fun n hn => q n _ (fresh_back (e2.trans e3) hn) ((e2.trans e3).trans (Ex.new hn)) upd_same⟩
theorem el_catNL {p : Addr} {xs ys : List V} (ha : EvL ta σ H xs) (hb : Ev tb σ H (.ref p)) (hp : H p = some (.lst ys)) (hz : xs.length + ys.length ≤ 100000) : EvL (tOp rCat ta tb) σ H (xs ++ ys) := fun H1 e Q q =>
  ha H1 e _ fun b H2 _ e2 h2 => hb H2 (e.trans e2) _ fun H3 e3 => ⟨b, p, xs, ys, rfl, rfl, e3 b _ h2, ((e.trans e2).trans e3) p _ hp, sz_of hz, fun n hn => q n _ (fresh_back (e2.trans e3) hn) ((e2.trans e3).trans (Ex.new hn)) upd_same⟩
/-- a, b, c = t -/
theorem q_tup3 {i j k : Nat} {p : Addr} (h : Ev te σ H (.ref p)) (ht : SqT K H p [x, y, z]) (kk : ∀ H1, Ex H H1 → tz D (((σ.set i (some x)).set j (some y)).set k (some z)) H1) :
    tSeq (tAsg te (gTup K 3 (gCons (gName i) (gCons (gName j) (gCons (gName k) gNil))))) tz D σ H :=
  h H (Ex.refl H) _ fun H1 e => ⟨p, [x, y, z], rfl, ex_t e ht, rfl, _, _, rfl, _, _, rfl, _, _, rfl, rfl, kk H1 e⟩
theorem g_tup3 {i j k : Nat} {p : Addr} {Q : L2.St → Hp → Prop} (ht : SqT K H p [x, y, z]) (kk : Q (((σ.set i (some x)).set j (some y)).set k (some z)) H) :
    gTup K 3 (gCons (gName i) (gCons (gName j) (gCons (gName k) gNil))) (.ref p) σ H Q := ⟨p, [x, y, z], rfl, ht, rfl, _, _, rfl, _, _, rfl, _, _, rfl, rfl, kk⟩
/-- for i, x in enumerate(xs) -/
theorem q_forE {a : Addr} {xs : List V} {tl : TE} {i j : Nat} (h : Ev tl σ H (.ref a)) (hx : SqL K H a xs) (Pv : Nat → L2.St → Hp → Prop) (h0 : ∀ H1, Ex H H1 → Pv 0 σ H1) (hl : ∀ n σ' H', Pv n σ' H' → SqL K H' a xs) (hm : ∀ n σ' H' H2, Pv n σ' H' → Ex H' H2 → Pv n σ' H2)
    (hs : ∀ n x σ' H', xs[n]? = some x → Pv n σ' H' → tu { D with nx := Pv (n + 1), ct := Pv (n + 1), bk := tz D } ((σ'.set i (some (.int ((n : Nat) : Int)))).set j (some x)) H') (hd : ∀ σ' H', Pv xs.length σ' H' → tz D σ' H') :
    tSeq (tFor (iEnum K (tCons tl tNil)) (gTup K 2 (gCons (gName i) (gCons (gName j) gNil))) tu) tz D σ H := by
  refine h H (Ex.refl H) _ fun H1 e => ⟨a, xs, rfl, ex_l e hx, ?_⟩
  refine ⟨fun i m σ H => m = xs.length - i ∧ i ≤ xs.length ∧ Pv i σ H, ⟨xs.length, by simp, Nat.zero_le _, h0 H1 e⟩, ?_⟩
  rintro n m σ' H' ⟨rfl, hi, p⟩
  have q := hl n σ' H' p
  by_cases hlt : n < xs.length
  · refine .inr ⟨⟨xs, xs[n], q, by simp [hlt]⟩, Pv (n + 1), fun σ' H' p' => ⟨xs.length - (n + 1), by omega, rfl, hlt, p'⟩, fun v H2 yy => ?_⟩
    obtain ⟨T, x, rfl, hT, rfl, hx'⟩ := yy
    refine ⟨T, [.int ((n : Nat) : Int), x], rfl, st_of upd_same, rfl, _, _, rfl, _, _, rfl, rfl, ?_⟩
    exact hs n x σ' _ (hx' xs q) (hm n σ' H' _ p (Ex.new hT))
  · have e : n = xs.length := by omega
    subst e
    exact .inl ⟨⟨xs, q, Nat.le_refl _⟩, hd σ' H' p⟩
/-- [x for i, x in enumerate(xs) if ..] -/
theorem el_lcE {a : Addr} {xs : List V} {tl : TE} {i j : Nat} {t : TT} {vs : List Nat} (f : Nat → Bool) (v : Nat → V) (h : Ev tl σ H (.ref a)) (hx : SqL K H a xs) (hz : xs.length ≤ 40000) (hw : ∀ x y, wipe (((wipe σ vs).set i (some x)).set j (some y)) vs = wipe σ vs)
    (ht : ∀ (n : Nat) (x : V) H1, Ex H H1 → xs[n]? = some x → EvT t (((wipe σ vs).set i (some (.int ((n : Nat) : Int)))).set j (some x)) H1 (f n)) (he : ∀ (n : Nat) (x : V) H1, Ex H H1 → xs[n]? = some x → f n = true → Ev te (((wipe σ vs).set i (some (.int ((n : Nat) : Int)))).set j (some x)) H1 (v n)) :
    EvL (tLc (iEnum K (tCons tl tNil)) (gTup K 2 (gCons (gName i) (gCons (gName j) gNil))) t te vs) σ H (given xs.length f v) := fun H0 e Q q => h H0 e _ fun H1 e1 => ⟨a, xs, rfl, ex_l (e.trans e1) hx, fun Dl hD => by
  refine ⟨fun i m H' => m = xs.length - i ∧ i ≤ xs.length ∧ Cw H1 f v Dl i H', ⟨xs.length, by simp, Nat.zero_le _, hD, Ex.new hD, upd_same⟩, ?_⟩
  rintro n m H' ⟨rfl, hi, p⟩
  have sq := ex_l ((e.trans e1).trans p.2.1) hx
  by_cases hlt : n < xs.length
  · refine .inr ⟨⟨xs, xs[n], sq, by simp [hlt]⟩, Cw H1 f v Dl (n + 1), fun H' p' => ⟨xs.length - (n + 1), by omega, rfl, hlt, p'⟩, fun u H2 yy => ?_⟩
    obtain ⟨T, x, rfl, hT, rfl, hx'⟩ := yy
    have p2 : Cw H1 f v Dl n (upd H' T (.tup [.int ((n : Nat) : Int), x])) := ⟨p.1, p.2.1.trans (Ex.new hT), Ex.new hT _ _ p.2.2⟩
    refine ⟨T, [.int ((n : Nat) : Int), x], rfl, st_of upd_same, rfl, _, _, rfl, _, _, rfl, rfl, hw _ _, ?_⟩
    exact cw_turn p2 (by omega) (ht n x H1 (e.trans e1) (hx' xs sq)) fun hf => he n x H1 (e.trans e1) (hx' xs sq) hf
  · have en : n = xs.length := by omega
    subst en
    exact .inl ⟨⟨xs, sq, Nat.le_refl _⟩, q Dl H' (fresh_back e1 p.1) (e1.trans p.2.1) p.2.2⟩⟩
/-- [e for i in range(lo, n)] -/
theorem el_lcR2 {ta : TA} {t : TT} {j : Nat} {vs : List Nat} {lo n : Int} (f : Nat → Bool) (v : Nat → V) (h : EvA ta σ H [.int lo, .int n]) (hn : 0 ≤ lo ∧ lo ≤ 40000 ∧ -40000 ≤ n ∧ n ≤ 40000) (hw : ∀ x, wipe ((wipe σ vs).set j (some x)) vs = wipe σ vs)
    (ht : ∀ (i : Nat) H1, Ex H H1 → lo + (i : Int) < n → EvT t ((wipe σ vs).set j (some (.int (lo + (i : Int))))) H1 (f i)) (he : ∀ (i : Nat) H1, Ex H H1 → lo + (i : Int) < n → f i = true → Ev te ((wipe σ vs).set j (some (.int (lo + (i : Int))))) H1 (v i)) :
    EvL (tLc (iRng2 ta) (gName j) t te vs) σ H (given (n - lo).toNat f v) := fun H0 e Q q => h H0 e _ fun H1 e1 => ⟨lo, n, rfl, ⟨by omega, by omega, by omega, by omega⟩, fun Dl hD =>
  lc_range (lo := lo) (n := (n - lo).toNat) (Cw H1 f v Dl) ⟨hD, Ex.new hD, upd_same⟩ (fun i H' hi p => ⟨hw _, cw_turn p (by omega) (ht i H1 (e.trans e1) (by omega)) (fun hf => he i H1 (e.trans e1) (by omega) hf)⟩) (fun H' p => q Dl H' (fresh_back e1 p.1) (e1.trans p.2.1) p.2.2)⟩
theorem et_yes : EvT tYes σ H true := fun H1 _ _ q => q H1 (Ex.refl H1)
theorem rv_int {g : Int → Int → V} {i j : Int} {z : V} (h : g i j = z) : RV (rI0 g) (.int i) (.int j) H z := by
  subst h
  exact rv_I0
theorem rv_intC {c : Int → Int → Prop} {g : Int → Int → V} {i j : Int} {z : V} (hc : c i j) (h : g i j = z) : RV (rI c g) (.int i) (.int j) H z := by
  subst h
  exact rv_I hc
theorem rv_eqI {i j : Int} {b : Bool} (h : decide (i = j) = b) : RV rEq (.int i) (.int j) H (.bl b) := by
  have e : decide (V.int i = V.int j) = b := by
    rw [← h]
    by_cases q : i = j
    · subst q; simp
    · simp [q]
  rw [← e]
  exact rv_eq rfl
theorem rv_neI {i j : Int} {b : Bool} (h : (!decide (i = j)) = b) : RV rNe (.int i) (.int j) H (.bl b) := by
  have e : (!decide (V.int i = V.int j)) = b := by
    rw [← h]
    by_cases q : i = j
    · subst q; simp
    · simp [q]
  rw [← e]
  exact rv_ne rfl
end
/-- how a promise that hands back a value, a new list, is used -/
def SpOf (Pre : List V → Hp → V → Prop) : Sp := fun vs H Q _ => ∃ z, Pre vs H z ∧ RetV z H Q
def SpOfL (Pre : List V → Hp → List V → Prop) : Sp := fun vs H Q _ => ∃ xs, Pre vs H xs ∧ RetL xs H Q
theorem spv {Pre : List V → Hp → V → Prop} {vs : List V} {H : Hp} {z : V} (h : ∀ H1, Ex H H1 → Pre vs H1 z) : SpV (SpOf Pre) (vs ++ []) H z := by
  rw [List.append_nil]
  exact fun H1 e Q q _ => ⟨z, h H1 e, fun H2 e2 => q H2 e2⟩
theorem spl {Pre : List V → Hp → List V → Prop} {vs : List V} {H : Hp} {xs : List V} (h : ∀ H1, Ex H H1 → Pre vs H1 xs) : SpL (SpOfL Pre) (vs ++ []) H xs := by
  rw [List.append_nil]
  exact fun H1 e Q q _ => ⟨xs, h H1 e, fun p H2 hp e2 h2 => q p H2 hp e2 h2⟩
end HC

/-! ### the text by places, the data, the promises -/
namespace HC
open PySem PySem.Spec PyProof.Rows L2 Evl
def top (i : Nat) : Stmt := PySem.Challenge.pw_heatcascades_s01_answers.main.body.getD i (.Pass ⟨0, 0, 0, 0⟩)
def worths : List V := [.int 1, .int 2, .int 4, .int 8, .int 16, .int 32, .int 64, .int 128, .int 256]
def argcs : List V := [.int 1, .int 3, .int 1, .int 0, .int 2, .int 1, .int 0, .int 0, .int 0, .int 1, .int 2, .int 1, .int 1, .int 1, .int 2, .int 0, .int 1, .int 1, .int 2, .int 0]
/-- what the top has written, but for the defs -/
structure Txt (K : PySem.W.Frag) (mg : Str → Option Value) (C aW aA : Addr) : Prop where
  cl : Cls K C
  nG : NoAttr K C "grade_count"
  nU : NoAttr K C "users"
  n_len : mg "len" = none
  n_range : mg "range" = none
  n_max : mg "max" = none
  n_sum : mg "sum" = none
  n_enumerate : mg "enumerate" = none
  k_NO_NETWORK : ∃ t, mg "NO_NETWORK" = some (.int (-11) t)
  k_NO_USER : ∃ t, mg "NO_USER" = some (.int (-2) t)
  k_BAD_RANGE : ∃ t, mg "BAD_RANGE" = some (.int (-22) t)
  k_FULL : ∃ t, mg "FULL" = some (.int (-28) t)
  k_MOST_GRADES : ∃ t, mg "MOST_GRADES" = some (.int 12 t)
  k_MOST_USERS : ∃ t, mg "MOST_USERS" = some (.int 8 t)
  k_MOST_VALUE : ∃ t, mg "MOST_VALUE" = some (.int 100 t)
  k_MOST_CASCADES : ∃ t, mg "MOST_CASCADES" = some (.int 8 t)
  k_MOST_PRICE : ∃ t, mg "MOST_PRICE" = some (.int 1000 t)
  k_DUAL_BOUND : ∃ t, mg "DUAL_BOUND" = some (.int 16 t)
  k_PROVES_OPTIMALITY : ∃ t, mg "PROVES_OPTIMALITY" = some (.int 17 t)
  g_WORTHS : mg "WORTHS" = some (.ref aW)
  t_W : ∀ H, SqT K H aW worths
  g_ARGUMENTS : mg "ARGUMENTS" = some (.ref aA)
  t_A : ∀ H, SqT K H aA argcs
/-- whole numbers as values -/
def ni (l : List Nat) : List V := l.map fun (n : Nat) => V.int ((n : Nat) : Int)
theorem ni_len (l : List Nat) : (ni l).length = l.length := List.length_map ..
theorem ni_at {l : List Nat} {i : Nat} {v : V} (h : (ni l)[i]? = some v) : ∃ n : Nat, l[i]? = some n ∧ v = .int ((n : Nat) : Int) := by
  unfold ni at h
  rw [List.getElem?_map] at h
  cases e : l[i]? with
  | none => rw [e] at h; cases h
  | some n => rw [e] at h; exact ⟨n, rfl, (Option.some.inj h).symm⟩
theorem ni_ints (l : List Nat) : ni l = (l.map fun (n : Nat) => ((n : Nat) : Int)).map V.int := by
  unfold ni; rw [List.map_map]; rfl
theorem ni_app (a b : List Nat) : ni (a ++ b) = ni a ++ ni b := List.map_append ..
/-- a user's tuple -/
def uv (u : Kqk3.User) : List V := [.int ((u.supply : Nat) : Int), .int ((u.returned : Nat) : Int), .int ((u.value : Nat) : Int)]
structure UsersAs (H : Hp) (a : Addr) (as : List Addr) (us : List Kqk3.User) : Prop where
  lst : H a = some (.lst (as.map V.ref))
  len : as.length = us.length
  at_ : ∀ (i : Nat) (u : Kqk3.User), us[i]? = some u → ∃ p, as[i]? = some p ∧ H p = some (.tup (uv u))
def UsersAt (H : Hp) (a : Addr) (us : List Kqk3.User) : Prop := ∃ as : List Addr, UsersAs H a as us
theorem UsersAs.mono {H H' : Hp} {a : Addr} {as : List Addr} {us : List Kqk3.User} (e : Ex H H') (h : UsersAs H a as us) : UsersAs H' a as us :=
  ⟨e _ _ h.lst, h.len, fun i u hu => by obtain ⟨p, hp, ht⟩ := h.at_ i u hu; exact ⟨p, hp, e _ _ ht⟩⟩
theorem UsersAt.mono {H H' : Hp} {a : Addr} {us : List Kqk3.User} (e : Ex H H') (h : UsersAt H a us) : UsersAt H' a us := by
  obtain ⟨as, h⟩ := h; exact ⟨as, h.mono e⟩
theorem atI_nat' {xs : List V} {i : Nat} {v : V} (h : xs[i]? = some v) : atI xs ((i : Nat) : Int) = some v := atI_nat h
section
variable {K : PySem.W.Frag} {mg : Str → Option Value} {C aW aA : Addr} {σ : L2.St} {H : Hp} {ta tb te : TE}
/-- len(users) -/
theorem ev_lenU {a : Addr} {us : List Kqk3.User} (ha : Ev ta σ H (.ref a)) (h : UsersAt H a us) : Ev (tCB (rLenS K) (tCons ta tNil)) σ H (.int ((us.length : Nat) : Int)) := by
  obtain ⟨as, h⟩ := h
  have e := ev_len (K := K) ha (sq_of h.lst)
  rw [List.length_map, h.len] at e
  exact e
/-- users[i] -/
theorem ev_userAt {a : Addr} {n : Kqk3.Network} {i : Nat} (ha : Ev ta σ H (.ref a)) (hb : Ev tb σ H (.int ((i : Nat) : Int))) (h : UsersAt H a n.users) (hi : i < n.users.length) :
    ∃ p, Ev (tOp (rIxL K) ta tb) σ H (.ref p) ∧ H p = some (.tup (uv (Kqk3.user n i))) := by
  obtain ⟨as, h⟩ := h
  obtain ⟨p, hp, ht⟩ := h.at_ i _ (user_get hi)
  exact ⟨p, ev_op ha hb (rv_ixL (sq_of h.lst) (atI_nat' (by rw [List.getElem?_map, hp]; rfl))), ht⟩
theorem ev_supply {p : Addr} {u : Kqk3.User} (h : Ev ta σ H (.ref p)) (ht : H p = some (.tup (uv u))) : Ev (tOp (rIxT K) ta (tC (.int 0))) σ H (.int ((u.supply : Nat) : Int)) :=
  ev_op h ev_c (rv_ixT (st_of ht) (atI_nat' (i := 0) rfl))
theorem ev_value {p : Addr} {u : Kqk3.User} (h : Ev ta σ H (.ref p)) (ht : H p = some (.tup (uv u))) : Ev (tOp (rIxT K) ta (tC (.int 2))) σ H (.int ((u.value : Nat) : Int)) :=
  ev_op h ev_c (rv_ixT (st_of ht) (atI_nat' (i := 2) rfl))
theorem worth_at : ∀ {i : Nat}, i ≤ 8 → worths[i]? = some (.int ((2 ^ i : Nat) : Int))
  | 0, _ => rfl | 1, _ => rfl | 2, _ => rfl | 3, _ => rfl | 4, _ => rfl | 5, _ => rfl | 6, _ => rfl | 7, _ => rfl | 8, _ => rfl
  | i + 9, h => absurd h (by omega)
/-- WORTHS[i] -/
theorem ev_worth {i : Nat} (T : Txt K mg C aW aA) (hb : Ev tb σ H (.int ((i : Nat) : Int))) (hi : i ≤ 8) : Ev (tOp (rIxT K) (tC (.ref aW)) tb) σ H (.int ((2 ^ i : Nat) : Int)) :=
  ev_op ev_c hb (rv_ixT (T.t_W H) (atI_nat' (worth_at hi)))
end
/-! ### promises: users, sets of them -/
def pOccupies : List V → Hp → V → Prop := fun vs H z => ∃ (a : Addr) (u : Kqk3.User) (g : Nat), vs = [.ref a, .int ((g : Nat) : Int)] ∧ H a = some (.tup (uv u)) ∧ z = .bl (Kqk3.occupies u g)
def pFollows : List V → Hp → V → Prop := fun vs H z => ∃ (a b : Addr) (u v : Kqk3.User), vs = [.ref a, .ref b] ∧ H a = some (.tup (uv u)) ∧ H b = some (.tup (uv v)) ∧ z = .bl (decide (v.supply ≤ u.returned))
def pWithout : List V → Hp → List V → Prop := fun vs H xs => ∃ (a : Addr) (as : List Addr) (k : Nat), vs = [.ref a, .int ((k : Nat) : Int)] ∧ H a = some (.lst (as.map V.ref)) ∧ as.length ≤ 8 ∧ xs = (as.eraseIdx k).map V.ref
def pFull : List V → Hp → V → Prop := fun vs H z => ∃ (a : Addr) (n : Kqk3.Network), vs = [.ref a] ∧ UsersAt H a n.users ∧ n.users.length ≤ 8 ∧ z = .int ((Kqk3.allUsersSet n : Nat) : Int)
def pIsMask : List V → Hp → V → Prop := fun vs H z => ∃ (a : Addr) (n : Kqk3.Network) (m : Nat), vs = [.ref a, .int ((m : Nat) : Int)] ∧ UsersAt H a n.users ∧ n.users.length ≤ 8 ∧ z = .bl (Kqk3.isSet n m)
def pContains : List V → Hp → V → Prop := fun vs H z => ∃ m i : Nat, vs = [.int ((m : Nat) : Int), .int ((i : Nat) : Int)] ∧ i ≤ 8 ∧ z = .bl (decide (m / 2 ^ i % 2 = 1))
def pNumbers : List V → Hp → List V → Prop := fun vs H xs => ∃ (a : Addr) (n : Kqk3.Network) (m : Nat), vs = [.ref a, .int ((m : Nat) : Int)] ∧ UsersAt H a n.users ∧ n.users.length ≤ 8 ∧ xs = ni (Kqk3.members n m)
def pValue : List V → Hp → V → Prop := fun vs H z => ∃ (a : Addr) (n : Kqk3.Network) (m : Nat), vs = [.ref a, .int ((m : Nat) : Int)] ∧ UsersAt H a n.users ∧ n.users.length ≤ 8 ∧ z = .int ((Kqk3.valueOf n m : Nat) : Int)
section
variable {P : Program} {w : World} {K : PySem.W.Frag} {mg : Str → Option Value} {base : Heap} {f C aW aA : Addr} {fd : FuncData}
abbrev s_occupies : Stmt := top 11
theorem sc_occupies : FnScope ["user", "grade", "supply_grade", "return_grade", "value"] ["user", "grade"] (defScope s_occupies) := ⟨rfl, rfl, rfl, by decide +kernel, rfl, by decide +kernel, by decide +kernel⟩
theorem ok_occupies (F : Fun K "occupies" "occupies" s_occupies f fd) : FnOk P w K mg base CX0 1 f fd ["user", "grade"] (SpOf pOccupies) := by
  refine F.ok sc_occupies (fun vs H Q E h => ?_) (fun cdv A outer s H vs Q E hr h => ?_)
  · obtain ⟨z, ⟨a, u, g, rfl, _⟩, _⟩ := h
    rfl
  · obtain ⟨z, ⟨a, u, g, rfl, ha, rfl⟩, k⟩ := h
    refine ⟨_, (pss_cons (ps_asg (pv 0) (pg_tup rfl (pgs_cons (pg_name (i := 2) sc_occupies.nd rfl (Or.inl rfl)) (pgs_cons (pg_name (i := 3) sc_occupies.nd rfl (Or.inl rfl)) (pgs_cons (pg_name (i := 4) sc_occupies.nd rfl (Or.inl rfl)) pgs_nil))))) (pss_one (ps_ret (pe_chain op_lt op_le (pv 3) (pv 1) (pv 2))))), ?_⟩
    refine q_tup3 (ev_var rfl) (st_of ha) fun H1 e1 => ?_
    refine s_ret (v := .bl (decide (u.returned < g) && decide (g ≤ u.supply))) (ev_chain (ev_var rfl) (ev_var rfl) (rv_int (by simp)) (fun _ => ev_var rfl) (fun _ => rv_int (by simp))) fun H2 e2 => ?_
    have e : Kqk3.occupies u g = (decide (u.returned < g) && decide (g ≤ u.supply)) := by
      unfold Kqk3.occupies; rw [Bool.and_comm]
    rw [← e]
    exact k H2 (e1.trans e2)
abbrev s_follows : Stmt := top 12
theorem sc_follows : FnScope ["user", "later", "supply_grade", "return_grade", "value"] ["user", "later"] (defScope s_follows) := ⟨rfl, rfl, rfl, by decide +kernel, rfl, by decide +kernel, by decide +kernel⟩
theorem ok_follows (F : Fun K "follows" "follows" s_follows f fd) : FnOk P w K mg base CX0 1 f fd ["user", "later"] (SpOf pFollows) := by
  refine F.ok sc_follows (fun vs H Q E h => ?_) (fun cdv A outer s H vs Q E hr h => ?_)
  · obtain ⟨z, ⟨a, b, u, v, rfl, _⟩, _⟩ := h
    rfl
  · obtain ⟨z, ⟨a, b, u, v, rfl, ha, hb, rfl⟩, k⟩ := h
    refine ⟨_, (pss_cons (ps_asg (pv 0) (pg_tup rfl (pgs_cons (pg_name (i := 2) sc_follows.nd rfl (Or.inl rfl)) (pgs_cons (pg_name (i := 3) sc_follows.nd rfl (Or.inl rfl)) (pgs_cons (pg_name (i := 4) sc_follows.nd rfl (Or.inl rfl)) pgs_nil))))) (pss_one (ps_ret (pe_cmpR op_le (pe_ix ix_tup (pv 1) pe_int (fun _ _ => rfl)) (pv 3) (nomark _))))), ?_⟩
    refine q_tup3 (ev_var rfl) (st_of ha) fun H1 e1 => ?_
    refine s_ret (v := .bl (decide (v.supply ≤ u.returned))) (ev_op (ev_supply (ev_var rfl) (e1 _ _ hb)) (ev_var rfl) (rv_int (by simp))) fun H2 e2 => ?_
    exact k H2 (e1.trans e2)
abbrev s_without : Stmt := top 13
theorem sc_without : FnScope ["users", "number", "place", "user"] ["users", "number"] (defScope s_without) := ⟨rfl, rfl, rfl, by decide +kernel, rfl, by decide +kernel, by decide +kernel⟩
theorem given_erase (as : List Addr) (k : Nat) : given (as.map V.ref).length (fun i => !decide (((i : Nat) : Int) = ((k : Nat) : Int))) (fun i => V.ref (as.getD i 0)) = (as.eraseIdx k).map V.ref := by
  rw [List.length_map]
  unfold given
  induction as generalizing k with
  | nil => rfl
  | cons a r ih =>
    rw [List.length_cons, List.range_succ_eq_map, List.filter_cons]
    cases k with
    | zero =>
      rw [if_neg (by simp)]
      rw [List.filter_map, List.map_map, List.eraseIdx_cons_zero]
      rw [List.filter_eq_self.mpr (by intro i _; simp [Function.comp]; omega)]
      apply List.ext_getElem?
      intro i
      rw [List.getElem?_map, List.getElem?_map]
      by_cases h : i < r.length
      · rw [List.getElem?_range h, List.getElem?_eq_getElem h]
        simp [Function.comp, h]
      · rw [List.getElem?_eq_none (by rw [List.length_range]; omega), List.getElem?_eq_none (by omega)]; rfl
    | succ k =>
      rw [if_pos (by simp; omega)]
      rw [List.eraseIdx_cons_succ, List.map_cons, List.map_cons, List.filter_map, List.map_map, ← ih k]
      congr 1
      congr 1
      apply List.filter_congr
      intro i _
      simp [Function.comp]
theorem ok_without (F : Fun K "without" "without" s_without f fd) (T : Txt K mg C aW aA) : FnOk P w K mg base CX0 1 f fd ["users", "number"] (SpOfL pWithout) := by
  refine F.ok sc_without (fun vs H Q E h => ?_) (fun cdv A outer s H vs Q E hr h => ?_)
  · obtain ⟨z, ⟨a, as, kk, rfl, _⟩, _⟩ := h
    rfl
  · obtain ⟨z, ⟨a, as, kk, rfl, ha, h8, rfl⟩, k⟩ := h
    refine ⟨_, (pss_one (ps_ret (pe_lc (own := [("place", 2), ("user", 3)]) (g := (gTup K 2 (gCons (gName 2) (gCons (gName 3) gNil)))) (tt := (tTest (tOp rNe (tVar 2) (tVar 1)))) (te := (tVar 3)) rfl sc_without.nd (pi_enum rfl T.n_enumerate (pa_cons (pv 0) pa_nil)) (blkOk_by (N := ["users", "number", "place", "user"]) (sc := defScope s_without) (by decide +kernel)) (fun _ _ _ _ _ => (pg_tup rfl (pgs_cons (pg_name (i := 2) sc_without.nd rfl (Or.inl rfl)) (pgs_cons (pg_name (i := 3) sc_without.nd rfl (Or.inl rfl)) pgs_nil)))) (fun _ _ _ _ _ => (pts_one (pt_cmpR op_ne (pv 2) (pv 1) (nomark _)))) (fun _ _ _ _ _ => (pv 3))))), ?_⟩
    refine s_retL (el_lcE (K := K) (a := a) (xs := as.map V.ref) (fun i => !decide (((i : Nat) : Int) = ((kk : Nat) : Int))) (fun i => V.ref (as.getD i 0)) (ev_var rfl) (sq_of ha) (by rw [List.length_map]; omega) (fun _ _ => rfl)
      (fun n x H1 e1 hx => et_test (ev_op (ev_var rfl) (ev_var rfl) (rv_neI rfl))) (fun n x H1 e1 hx _ => ?_)) fun p H1 hp e1 h1 => ?_
    · refine ev_is (ev_var rfl) ?_
      rw [List.getElem?_map] at hx
      cases e : as[n]? with
      | none => rw [e] at hx; cases hx
      | some y =>
        rw [e] at hx
        rw [List.getD_eq_getElem?_getD, e]
        exact (Option.some.inj hx).symm
    · rw [given_erase] at h1
      exact k p H1 hp e1 h1
abbrev s_full_mask : Stmt := top 14
theorem sc_full_mask : FnScope ["users"] ["users"] (defScope s_full_mask) := ⟨rfl, rfl, rfl, by decide +kernel, rfl, by decide +kernel, by decide +kernel⟩
theorem ok_full_mask (F : Fun K "full_mask" "full_mask" s_full_mask f fd) (T : Txt K mg C aW aA) : FnOk P w K mg base CX0 1 f fd ["users"] (SpOf pFull) := by
  refine F.ok sc_full_mask (fun vs H Q E h => ?_) (fun cdv A outer s H vs Q E hr h => ?_)
  · obtain ⟨z, ⟨a, n, rfl, _⟩, _⟩ := h
    rfl
  · obtain ⟨z, ⟨a, n, rfl, ha, h8, rfl⟩, k⟩ := h
    refine ⟨_, (pss_one (ps_ret (pe_op op_sub (pe_ix ix_tup (pe_t rfl T.g_WORTHS) (pe_callB cr_len (by rfl) T.n_len PySem.boot_len (pa_cons (pv 0) pa_nil)) (fun _ _ => rfl)) pe_int))), ?_⟩
    refine s_ret (ev_op (ev_worth T (ev_lenU (ev_var rfl) ha) h8) ev_c (rv_int (z := .int ((Kqk3.allUsersSet n : Nat) : Int)) ?_)) k
    have h : 0 < 2 ^ n.users.length := Nat.two_pow_pos _
    unfold Kqk3.allUsersSet
    congr 1
    omega
abbrev s_is_mask : Stmt := top 15
theorem sc_is_mask : FnScope ["users", "mask"] ["users", "mask"] (defScope s_is_mask) := ⟨rfl, rfl, rfl, by decide +kernel, rfl, by decide +kernel, by decide +kernel⟩
theorem ok_is_mask (F : Fun K "is_mask" "is_mask" s_is_mask f fd) (T : Txt K mg C aW aA) : FnOk P w K mg base CX0 1 f fd ["users", "mask"] (SpOf pIsMask) := by
  refine F.ok sc_is_mask (fun vs H Q E h => ?_) (fun cdv A outer s H vs Q E hr h => ?_)
  · obtain ⟨z, ⟨a, n, m, rfl, _⟩, _⟩ := h
    rfl
  · obtain ⟨z, ⟨a, n, m, rfl, ha, h8, rfl⟩, k⟩ := h
    refine ⟨_, (pss_one (ps_ret (pe_cmpR op_lt (pv 1) (pe_ix ix_tup (pe_t rfl T.g_WORTHS) (pe_callB cr_len (by rfl) T.n_len PySem.boot_len (pa_cons (pv 0) pa_nil)) (fun _ _ => rfl)) (nomark _)))), ?_⟩
    refine s_ret (ev_op (ev_var rfl) (ev_worth T (ev_lenU (ev_var rfl) ha) h8) (rv_int (z := .bl (Kqk3.isSet n m)) ?_)) k
    unfold Kqk3.isSet
    congr 1
    exact decide_eq_decide.mpr Int.ofNat_lt
abbrev s_contains : Stmt := top 16
theorem sc_contains : FnScope ["mask", "number"] ["mask", "number"] (defScope s_contains) := ⟨rfl, rfl, rfl, by decide +kernel, rfl, by decide +kernel, by decide +kernel⟩
theorem ok_contains (F : Fun K "contains" "contains" s_contains f fd) (T : Txt K mg C aW aA) : FnOk P w K mg base CX0 1 f fd ["mask", "number"] (SpOf pContains) := by
  refine F.ok sc_contains (fun vs H Q E h => ?_) (fun cdv A outer s H vs Q E hr h => ?_)
  · obtain ⟨z, ⟨m, i, rfl, _⟩, _⟩ := h
    rfl
  · obtain ⟨z, ⟨m, i, rfl, h8, rfl⟩, k⟩ := h
    refine ⟨_, (pss_one (ps_ret (pe_cmpR op_eq (pe_op op_modN (pe_op op_fdivN (pv 0) (pe_ix ix_tup (pe_t rfl T.g_WORTHS) (pv 1) (fun _ _ => rfl))) pe_int) pe_int (nomark _)))), ?_⟩
    have hp : 0 < 2 ^ i := Nat.two_pow_pos _
    have hl := pow_le h8
    refine s_ret (ev_op (ev_op (ev_op (ev_var rfl) (ev_worth T (ev_var rfl) h8) (rv_intC (z := .int ((m / 2 ^ i : Nat) : Int)) ?_ ?_)) ev_c (rv_intC (z := .int ((m / 2 ^ i % 2 : Nat) : Int)) ?_ ?_)) ev_c (rv_eqI ?_)) k
    · exact ⟨by omega, by omega⟩
    · congr 1
      rw [Int.fdiv_eq_ediv_of_nonneg _ (by omega)]; rfl
    · show (2 : Int) ≠ 0
      decide
    · congr 1
      rw [Int.fmod_eq_emod_of_nonneg _ (by decide)]; rfl
    · apply decide_eq_decide.mpr
      omega
abbrev s_numbers_in : Stmt := top 17
theorem sc_numbers_in : FnScope ["users", "mask", "number"] ["users", "mask"] (defScope s_numbers_in) := ⟨rfl, rfl, rfl, by decide +kernel, rfl, by decide +kernel, by decide +kernel⟩
theorem given_nums (n : Kqk3.Network) (m : Nat) : given ((n.users.length : Nat) : Int).toNat (fun i => decide (m / 2 ^ i % 2 = 1)) (fun i => V.int ((i : Nat) : Int)) = ni (Kqk3.members n m) := rfl
theorem ok_numbers_in (F : Fun K "numbers_in" "numbers_in" s_numbers_in f fd) (T : Txt K mg C aW aA) (D_contains : DefAt P w K mg base "contains" 1 ["mask", "number"] (SpOf pContains)) : FnOk P w K mg base CX0 2 f fd ["users", "mask"] (SpOfL pNumbers) := by
  refine F.ok sc_numbers_in (fun vs H Q E h => ?_) (fun cdv A outer s H vs Q E hr h => ?_)
  · obtain ⟨z, ⟨a, n, m, rfl, _⟩, _⟩ := h
    rfl
  · obtain ⟨z, ⟨a, n, m, rfl, ha, h8, rfl⟩, k⟩ := h
    refine ⟨_, (pss_one (ps_ret (pe_lc (own := [("number", 2)]) (g := (gName 2)) (tt := (tB (tCall _ [] E0 (tCons (tVar 1) (tCons (tVar 2) tNil))))) (te := (tVar 2)) rfl sc_numbers_in.nd (pi_range1 rfl T.n_range (pa_cons (pe_callB cr_len (by rfl) T.n_len PySem.boot_len (pa_cons (pv 0) pa_nil)) pa_nil)) (blkOk_by (N := ["users", "mask", "number"]) (sc := defScope s_numbers_in) (by decide +kernel)) (fun _ _ _ _ _ => (pg_name (i := 2) sc_numbers_in.nd rfl (Or.inl rfl))) (fun _ _ _ _ _ => (pts_one (pt_val (pe_def D_contains (hr.mono (by decide)) rfl (pa_cons (pv 1) (pa_cons (pv 2) pa_nil)))))) (fun _ _ _ _ _ => (pv 2))))), ?_⟩
    refine s_retL (el_lcR1 (n := ((n.users.length : Nat) : Int)) (fun i => decide (m / 2 ^ i % 2 = 1)) (fun i => V.int ((i : Nat) : Int)) (ea_cons (ev_lenU (ev_var rfl) ha) ea_nil) (by omega) (fun _ => rfl)
      (fun i H1 e1 hi => et_B (ev_call (ea_cons (ev_var rfl) (ea_cons (ev_var rfl) ea_nil)) (spv fun H2 e2 => ⟨m, i, rfl, by omega, rfl⟩))) (fun i H1 e1 hi _ => ev_var rfl)) fun p H1 hp e1 h1 => ?_
    rw [given_nums] at h1
    exact k p H1 hp e1 h1
end
end HC

/-! ### loads -/
namespace HC
open PySem PySem.Spec PyProof.Rows L2 Evl
def pOccupants : List V → Hp → List V → Prop := fun vs H xs => ∃ (a : Addr) (n : Kqk3.Network) (m g : Nat), vs = [.ref a, .int ((m : Nat) : Int), .int ((g : Nat) : Int)] ∧ UsersAt H a n.users ∧ n.users.length ≤ 8 ∧ xs = ni ((Kqk3.members n m).filter fun i => Kqk3.occupies (Kqk3.user n i) g)
def pLoad : List V → Hp → V → Prop := fun vs H z => ∃ (a : Addr) (n : Kqk3.Network) (m g : Nat), vs = [.ref a, .int ((m : Nat) : Int), .int ((g : Nat) : Int)] ∧ UsersAt H a n.users ∧ n.users.length ≤ 8 ∧ z = .int ((Kqk3.load n m g : Nat) : Int)
def pLoads : List V → Hp → List V → Prop := fun vs H xs => ∃ (a : Addr) (n : Kqk3.Network) (m : Nat), vs = [.ref a, .int ((m : Nat) : Int), .int ((n.gradeCount : Nat) : Int)] ∧ UsersAt H a n.users ∧ n.users.length ≤ 8 ∧ n.gradeCount ≤ 12 ∧ xs = ni (loads n m)
def pPeak : List V → Hp → V → Prop := fun vs H z => ∃ (a : Addr) (n : Kqk3.Network) (m : Nat), vs = [.ref a, .int ((m : Nat) : Int), .int ((n.gradeCount : Nat) : Int)] ∧ UsersAt H a n.users ∧ n.users.length ≤ 8 ∧ 1 ≤ n.gradeCount ∧ n.gradeCount ≤ 12 ∧ z = .int ((Kqk3.peakLoad n m : Nat) : Int)
def pPeakGrade : List V → Hp → V → Prop := fun vs H z => ∃ (a : Addr) (n : Kqk3.Network) (m : Nat), vs = [.ref a, .int ((m : Nat) : Int), .int ((n.gradeCount : Nat) : Int)] ∧ UsersAt H a n.users ∧ n.users.length ≤ 8 ∧ 1 ≤ n.gradeCount ∧ n.gradeCount ≤ 12 ∧ z = .int ((peakPlace n m + 1 : Nat) : Int)
section
variable {P : Program} {w : World} {K : PySem.W.Frag} {mg : Str → Option Value} {base : Heap} {f C aW aA : Addr} {fd : FuncData}
abbrev s_value_in : Stmt := top 18
theorem sc_value_in : FnScope ["users", "mask", "found", "number"] ["users", "mask"] (defScope s_value_in) := ⟨rfl, rfl, rfl, by decide +kernel, rfl, by decide +kernel, by decide +kernel⟩
theorem ok_value_in (F : Fun K "value_in" "value_in" s_value_in f fd) (D_numbers_in : DefAt P w K mg base "numbers_in" 2 ["users", "mask"] (SpOfL pNumbers)) : FnOk P w K mg base CX0 3 f fd ["users", "mask"] (SpOf pValue) := by
  refine F.ok sc_value_in (fun vs H Q E h => ?_) (fun cdv A outer s H vs Q E hr h => ?_)
  · obtain ⟨z, ⟨a, n, m, rfl, _⟩, _⟩ := h
    rfl
  · obtain ⟨z, ⟨a, n, m, rfl, ha, h8, rfl⟩, k⟩ := h
    refine ⟨_, (pss_cons (ps_set (i := 2) sc_value_in.nd rfl (Or.inl rfl) pe_int) (pss_cons (ps_for PassesOwn.never rfl (pi_list (pe_def D_numbers_in (hr.mono (by decide)) rfl (pa_cons (pv 0) (pa_cons (pv 1) pa_nil)))) (pg_name (i := 3) sc_value_in.nd rfl (Or.inl rfl)) (pss_one (ps_aug (i := 2) sc_value_in.nd rfl (Or.inl rfl) (pe_ix ix_tup (pe_ix ix_list (pv 0) (pv 3) (fun _ _ => rfl)) pe_int (fun _ _ => rfl)) ip_add))) (pss_one (ps_ret (pv 2))))), ?_⟩
    refine q_asg (v := .int 0) ev_c fun H1 e1 => ?_
    refine q_forNLn (xs := ni (Kqk3.members n m)) (el_call (ea_cons (ev_var rfl) (ea_cons (ev_var rfl) ea_nil)) (spl fun H2 e2 => ⟨a, n, m, rfl, (ha.mono e1).mono e2, h8, rfl⟩))
      (fun p i σ H' => Ex H1 H' ∧ H' p = some (.lst (ni (Kqk3.members n m))) ∧ ∃ v, σ = [some (.ref a), some (.int ((m : Nat) : Int)), some (.int ((valTo n ((Kqk3.members n m).take i) : Nat) : Int)), v])
      (fun p H2 hp e2 h2 => ⟨e2, h2, none, rfl⟩) (fun p i σ H' _ h => sq_of h.2.1) ?_ ?_
    · rintro p i x σ H' hx ⟨e2, h2, v, rfl⟩
      obtain ⟨j, hj, rfl⟩ := ni_at hx
      have hlt := mem_lt (List.mem_of_getElem? hj)
      obtain ⟨q, hq, ht⟩ := ev_userAt (K := K) (σ := [some (.ref a), some (.int ((m : Nat) : Int)), some (.int ((valTo n ((Kqk3.members n m).take i) : Nat) : Int)), some (.int ((j : Nat) : Int))]) (ta := tVar 0) (tb := tVar 3) (i := j) (ev_var rfl) (ev_var rfl) ((ha.mono e1).mono e2) hlt
      refine s_aug rfl (ev_value hq ht) fun H3 e3 => ?_
      refine ⟨e2.trans e3, e3 _ _ h2, some (.int ((j : Nat) : Int)), ?_⟩
      rw [take_more hj, valTo_snoc]
      rfl
    · rintro p σ H' ⟨e2, h2, v, rfl⟩
      refine s_ret (ev_var rfl) fun H3 e3 => ?_
      rw [ni_len, List.take_length]
      exact k H3 ((e1.trans e2).trans e3)
abbrev s_occupants : Stmt := top 22
theorem sc_occupants : FnScope ["users", "mask", "grade", "number"] ["users", "mask", "grade"] (defScope s_occupants) := ⟨rfl, rfl, rfl, by decide +kernel, rfl, by decide +kernel, by decide +kernel⟩
theorem given_filter {l : List Nat} (f : Nat → Bool) : given l.length (fun i => f (l.getD i 0)) (fun i => V.int ((l.getD i 0 : Nat) : Int)) = ni (l.filter f) := by
  unfold given ni
  have e : (List.range l.length).map (fun i => l.getD i 0) = l := by
    apply List.ext_getElem?
    intro i
    rw [List.getElem?_map]
    by_cases h : i < l.length
    · rw [List.getElem?_range h]; simp [h]
    · rw [List.getElem?_eq_none (by rw [List.length_range]; omega), List.getElem?_eq_none (by omega)]; rfl
  have e2 := congrArg (fun t => (t.filter f).map fun (n : Nat) => V.int ((n : Nat) : Int)) e
  rw [← e2]
  show _ = (((List.range l.length).map (fun i => l.getD i 0)).filter f).map _
  rw [List.filter_map, List.map_map]
  rfl
theorem ok_occupants (F : Fun K "occupants" "occupants" s_occupants f fd) (D_numbers_in : DefAt P w K mg base "numbers_in" 2 ["users", "mask"] (SpOfL pNumbers)) (D_occupies : DefAt P w K mg base "occupies" 1 ["user", "grade"] (SpOf pOccupies)) : FnOk P w K mg base CX0 3 f fd ["users", "mask", "grade"] (SpOfL pOccupants) := by
  refine F.ok sc_occupants (fun vs H Q E h => ?_) (fun cdv A outer s H vs Q E hr h => ?_)
  · obtain ⟨z, ⟨a, n, m, g, rfl, _⟩, _⟩ := h
    rfl
  · obtain ⟨z, ⟨a, n, m, g, rfl, ha, h8, rfl⟩, k⟩ := h
    refine ⟨_, (pss_one (ps_ret (pe_lc (own := [("number", 3)]) (g := (gName 3)) (tt := (tB (tCall _ [] E0 (tCons (tOp (rIxL K) (tVar 0) (tVar 3)) (tCons (tVar 2) tNil))))) (te := (tVar 3)) rfl sc_occupants.nd (pi_list (pe_def D_numbers_in (hr.mono (by decide)) rfl (pa_cons (pv 0) (pa_cons (pv 1) pa_nil)))) (blkOk_by (N := ["users", "mask", "grade", "number"]) (sc := defScope s_occupants) (by decide +kernel)) (fun _ _ _ _ _ => (pg_name (i := 3) sc_occupants.nd rfl (Or.inl rfl))) (fun _ _ _ _ _ => (pts_one (pt_val (pe_def D_occupies (hr.mono (by decide)) rfl (pa_cons (pe_ix ix_list (pv 0) (pv 3) (fun _ _ => rfl)) (pa_cons (pv 2) pa_nil)))))) (fun _ _ _ _ _ => (pv 3))))), ?_⟩
    refine s_retL (el_lcNL (xs := ni (Kqk3.members n m)) (fun i => Kqk3.occupies (Kqk3.user n ((Kqk3.members n m).getD i 0)) g) (fun i => V.int (((Kqk3.members n m).getD i 0 : Nat) : Int))
      (el_call (ea_cons (ev_var rfl) (ea_cons (ev_var rfl) ea_nil)) (spl fun H2 e2 => ⟨a, n, m, rfl, ha.mono e2, h8, rfl⟩)) (by rw [ni_len]; have := members_le n m; omega) (fun _ => rfl) (fun i x H1 e1 hx => ?_) (fun i x H1 e1 hx _ => ?_)) fun p H1 hp e1 h1 => ?_
    · obtain ⟨j, hj, rfl⟩ := ni_at hx
      have hlt := mem_lt (List.mem_of_getElem? hj)
      have ej : (Kqk3.members n m).getD i 0 = j := by rw [List.getD_eq_getElem?_getD, hj]; rfl
      rw [ej]
      obtain ⟨q, hq, ht⟩ := ev_userAt (K := K) (σ := [some (.ref a), some (.int ((m : Nat) : Int)), some (.int ((g : Nat) : Int)), some (.int ((j : Nat) : Int))]) (ta := tVar 0) (tb := tVar 3) (i := j) (ev_var rfl) (ev_var rfl) (ha.mono e1) hlt
      exact et_B (ev_call (ea_cons hq (ea_cons (ev_var rfl) ea_nil)) (spv fun H2 e2 => ⟨q, _, g, rfl, e2 _ _ ht, rfl⟩))
    · obtain ⟨j, hj, rfl⟩ := ni_at hx
      have ej : (Kqk3.members n m).getD i 0 = j := by rw [List.getD_eq_getElem?_getD, hj]; rfl
      rw [ej]
      exact ev_var rfl
    · rw [ni_len, given_filter (fun j => Kqk3.occupies (Kqk3.user n j) g)] at h1
      exact k p H1 hp e1 h1
abbrev s_load_in : Stmt := top 23
theorem sc_load_in : FnScope ["users", "mask", "grade"] ["users", "mask", "grade"] (defScope s_load_in) := ⟨rfl, rfl, rfl, by decide +kernel, rfl, by decide +kernel, by decide +kernel⟩
theorem ok_load_in (F : Fun K "load_in" "load_in" s_load_in f fd) (T : Txt K mg C aW aA) (D_occupants : DefAt P w K mg base "occupants" 3 ["users", "mask", "grade"] (SpOfL pOccupants)) : FnOk P w K mg base CX0 4 f fd ["users", "mask", "grade"] (SpOf pLoad) := by
  refine F.ok sc_load_in (fun vs H Q E h => ?_) (fun cdv A outer s H vs Q E hr h => ?_)
  · obtain ⟨z, ⟨a, n, m, g, rfl, _⟩, _⟩ := h
    rfl
  · obtain ⟨z, ⟨a, n, m, g, rfl, ha, h8, rfl⟩, k⟩ := h
    refine ⟨_, (pss_one (ps_ret (pe_callB cr_len (by rfl) T.n_len PySem.boot_len (pa_cons (pe_def D_occupants (hr.mono (by decide)) rfl (pa_cons (pv 0) (pa_cons (pv 1) (pa_cons (pv 2) pa_nil)))) pa_nil)))), ?_⟩
    refine s_ret (ev_is (ev_lenN (xs := ni ((Kqk3.members n m).filter fun i => Kqk3.occupies (Kqk3.user n i) g)) (el_call (ea_cons (ev_var rfl) (ea_cons (ev_var rfl) (ea_cons (ev_var rfl) ea_nil))) (spl fun H2 e2 => ⟨a, n, m, g, rfl, ha.mono e2, h8, rfl⟩))) ?_) k
    rw [ni_len]
    rfl
abbrev s_loads_in : Stmt := top 24
theorem sc_loads_in : FnScope ["users", "mask", "grade_count", "grade"] ["users", "mask", "grade_count"] (defScope s_loads_in) := ⟨rfl, rfl, rfl, by decide +kernel, rfl, by decide +kernel, by decide +kernel⟩
theorem given_loads (n : Kqk3.Network) (m : Nat) : given (((n.gradeCount : Nat) : Int) + 1 - 1).toNat (fun _ => true) (fun i => V.int ((Kqk3.load n m (i + 1) : Nat) : Int)) = ni (loads n m) := by
  unfold given loads ni
  rw [List.filter_eq_self.mpr (fun _ _ => rfl), List.map_map, show (((n.gradeCount : Nat) : Int) + 1 - 1).toNat = n.gradeCount by omega]
  rfl
theorem ok_loads_in (F : Fun K "loads_in" "loads_in" s_loads_in f fd) (T : Txt K mg C aW aA) (D_load_in : DefAt P w K mg base "load_in" 4 ["users", "mask", "grade"] (SpOf pLoad)) : FnOk P w K mg base CX0 5 f fd ["users", "mask", "grade_count"] (SpOfL pLoads) := by
  refine F.ok sc_loads_in (fun vs H Q E h => ?_) (fun cdv A outer s H vs Q E hr h => ?_)
  · obtain ⟨z, ⟨a, n, m, rfl, _⟩, _⟩ := h
    rfl
  · obtain ⟨z, ⟨a, n, m, rfl, ha, h8, h12, rfl⟩, k⟩ := h
    refine ⟨_, (pss_one (ps_ret (pe_lc (own := [("grade", 3)]) (g := (gName 3)) (tt := tYes) (te := (tCall _ [] E0 (tCons (tVar 0) (tCons (tVar 1) (tCons (tVar 3) tNil))))) rfl sc_loads_in.nd (pi_range2 rfl T.n_range (pa_cons pe_int (pa_cons (pe_op op_add (pv 2) pe_int) pa_nil))) (blkOk_by (N := ["users", "mask", "grade_count", "grade"]) (sc := defScope s_loads_in) (by decide +kernel)) (fun _ _ _ _ _ => (pg_name (i := 3) sc_loads_in.nd rfl (Or.inl rfl))) (fun _ _ _ _ _ => pts_nil) (fun _ _ _ _ _ => (pe_def D_load_in (hr.mono (by decide)) rfl (pa_cons (pv 0) (pa_cons (pv 1) (pa_cons (pv 3) pa_nil)))))))), ?_⟩
    refine s_retL (el_lcR2 (lo := 1) (n := ((n.gradeCount : Nat) : Int) + 1) (fun _ => true) (fun i => V.int ((Kqk3.load n m (i + 1) : Nat) : Int)) (ea_cons ev_c (ea_cons (ev_op (ev_var rfl) ev_c (rv_int rfl)) ea_nil)) (by omega) (fun _ => rfl)
      (fun i H1 e1 hi => et_yes) (fun i H1 e1 hi _ => ev_call (ea_cons (ev_var rfl) (ea_cons (ev_var rfl) (ea_cons (ev_var rfl) ea_nil))) (spv fun H2 e2 => ⟨a, n, m, i + 1, ?_, ((ha.mono e1).mono e2), h8, rfl⟩))) fun p H1 hp e1 h1 => ?_
    · rw [show (1 : Int) + ((i : Nat) : Int) = ((i + 1 : Nat) : Int) by omega]
    · rw [given_loads] at h1
      exact k p H1 hp e1 h1
abbrev s_peak_in : Stmt := top 25
theorem sc_peak_in : FnScope ["users", "mask", "grade_count"] ["users", "mask", "grade_count"] (defScope s_peak_in) := ⟨rfl, rfl, rfl, by decide +kernel, rfl, by decide +kernel, by decide +kernel⟩
theorem peak_int {n : Kqk3.Network} {m : Nat} (k : Int) (h1 : k ∈ (loads n m).map fun (x : Nat) => ((x : Nat) : Int)) (h2 : ∀ y, y ∈ ((loads n m).map fun (x : Nat) => ((x : Nat) : Int)) → y ≤ k) : k = ((Kqk3.peakLoad n m : Nat) : Int) := by
  obtain ⟨p, hp, rfl⟩ := List.mem_map.mp h1
  rw [peak_is hp fun x hx => by have := h2 _ (List.mem_map.mpr ⟨x, hx, rfl⟩); omega]
theorem ok_peak_in (F : Fun K "peak_in" "peak_in" s_peak_in f fd) (T : Txt K mg C aW aA) (D_loads_in : DefAt P w K mg base "loads_in" 5 ["users", "mask", "grade_count"] (SpOfL pLoads)) : FnOk P w K mg base CX0 6 f fd ["users", "mask", "grade_count"] (SpOf pPeak) := by
  refine F.ok sc_peak_in (fun vs H Q E h => ?_) (fun cdv A outer s H vs Q E hr h => ?_)
  · obtain ⟨z, ⟨a, n, m, rfl, _⟩, _⟩ := h
    rfl
  · obtain ⟨z, ⟨a, n, m, rfl, ha, h8, h1, h12, rfl⟩, k⟩ := h
    refine ⟨_, (pss_one (ps_ret (pe_callB (cr_max rfl) (by rfl) T.n_max (by decide +kernel) (pa_cons (pe_def D_loads_in (hr.mono (by decide)) rfl (pa_cons (pv 0) (pa_cons (pv 1) (pa_cons (pv 2) pa_nil)))) pa_nil)))), ?_⟩
    refine s_ret (ev_maxN (ns := (loads n m).map fun (x : Nat) => ((x : Nat) : Int)) (el_call (ea_cons (ev_var rfl) (ea_cons (ev_var rfl) (ea_cons (ev_var rfl) ea_nil))) (spl fun H2 e2 => ⟨a, n, m, rfl, ha.mono e2, h8, h12, (ni_ints _).symm⟩)) ?_ peak_int) k
    rw [List.length_map, loads_len]; omega
abbrev s_peak_grade_in : Stmt := top 26
theorem sc_peak_grade_in : FnScope ["users", "mask", "grade_count", "loads", "peak", "place", "load"] ["users", "mask", "grade_count"] (defScope s_peak_grade_in) := ⟨rfl, rfl, rfl, by decide +kernel, rfl, by decide +kernel, by decide +kernel⟩
theorem ok_peak_grade_in (F : Fun K "peak_grade_in" "peak_grade_in" s_peak_grade_in f fd) (T : Txt K mg C aW aA) (D_loads_in : DefAt P w K mg base "loads_in" 5 ["users", "mask", "grade_count"] (SpOfL pLoads)) : FnOk P w K mg base CX0 6 f fd ["users", "mask", "grade_count"] (SpOf pPeakGrade) := by
  refine F.ok sc_peak_grade_in (fun vs H Q E h => ?_) (fun cdv A outer s H vs Q E hr h => ?_)
  · obtain ⟨z, ⟨a, n, m, rfl, _⟩, _⟩ := h
    rfl
  · obtain ⟨z, ⟨a, n, m, rfl, ha, h8, h1, h12, rfl⟩, k⟩ := h
    refine ⟨_, (pss_cons (ps_set (i := 3) sc_peak_grade_in.nd rfl (Or.inl rfl) (pe_def D_loads_in (hr.mono (by decide)) rfl (pa_cons (pv 0) (pa_cons (pv 1) (pa_cons (pv 2) pa_nil))))) (pss_cons (ps_set (i := 4) sc_peak_grade_in.nd rfl (Or.inl rfl) (pe_callB (cr_max rfl) (by rfl) T.n_max (by decide +kernel) (pa_cons (pv 3) pa_nil))) (pss_cons (ps_for PassesOwn.never rfl (pi_enum rfl T.n_enumerate (pa_cons (pv 3) pa_nil)) (pg_tup rfl (pgs_cons (pg_name (i := 5) sc_peak_grade_in.nd rfl (Or.inl rfl)) (pgs_cons (pg_name (i := 6) sc_peak_grade_in.nd rfl (Or.inl rfl)) pgs_nil))) (pss_one (ps_if (pt_cmpR op_eq (pv 6) (pv 4) (nomark _)) (pss_one (ps_ret (pe_op op_add (pv 5) pe_int))) pss_nil))) (pss_one (ps_ret pe_int))))), ?_⟩
    refine q_asgL (xs := ni (loads n m)) (el_call (ea_cons (ev_var rfl) (ea_cons (ev_var rfl) (ea_cons (ev_var rfl) ea_nil))) (spl fun H2 e2 => ⟨a, n, m, rfl, ha.mono e2, h8, h12, rfl⟩)) fun p H1 hp e1 hl => ?_
    refine q_asg (v := .int ((Kqk3.peakLoad n m : Nat) : Int)) (ev_max (ns := (loads n m).map fun (x : Nat) => ((x : Nat) : Int)) (ev_var rfl) (by rw [← ni_ints]; exact sq_of hl) (by rw [List.length_map, loads_len]; omega) peak_int) fun H2 e2 => ?_
    refine q_forE (a := p) (xs := ni (loads n m)) (ev_var rfl) (sq_of (e2 _ _ hl))
      (fun i σ H' => Ex H2 H' ∧ (∀ j, j < i → (loads n m)[j]? ≠ some (Kqk3.peakLoad n m)) ∧ ∃ v1 v2, σ = [some (.ref a), some (.int ((m : Nat) : Int)), some (.int ((n.gradeCount : Nat) : Int)), some (.ref p), some (.int ((Kqk3.peakLoad n m : Nat) : Int)), v1, v2])
      (fun H3 e3 => ⟨e3, fun j hj => absurd hj (by omega), none, none, rfl⟩) (fun i σ H' h => sq_of (h.1 _ _ (e2 _ _ hl))) (fun i σ H' H3 h e => ⟨h.1.trans e, h.2.1, h.2.2⟩) ?_ ?_
    · rintro i x σ H' hx ⟨e3, hj, v1, v2, rfl⟩
      obtain ⟨y, hy, rfl⟩ := ni_at hx
      refine s_when (b := decide (y = Kqk3.peakLoad n m)) (et_test (ev_op (ev_var rfl) (ev_var rfl) (rv_eqI (decide_eq_decide.mpr Int.ofNat_inj)))) (fun hb H4 e4 => ?_) (fun hb H4 e4 => ?_)
      · have ey : y = Kqk3.peakLoad n m := of_decide_eq_true hb
        refine s_ret (ev_op (ev_var rfl) ev_c (rv_int (z := .int ((peakPlace n m + 1 : Nat) : Int)) ?_)) fun H5 e5 => k H5 ((((e1.trans e2).trans e3).trans e4).trans e5)
        have : peakPlace n m = i := firstAt_is (by rw [hy, ey]) hj
        rw [this]; rfl
      · refine ⟨e3.trans e4, fun j hj' => ?_, _, _, rfl⟩
        by_cases q : j = i
        · subst q
          rw [hy]
          intro e
          exact of_decide_eq_false hb (Option.some.inj e)
        · exact hj j (by omega)
    · rintro σ H' ⟨e3, hj, v1, v2, rfl⟩
      exfalso
      obtain ⟨i, hi, e⟩ := peak_reached (n := n) m h1
      rw [ni_len, loads_len] at hj
      exact hj i hi (by rw [loads_at hi, e])
end
end HC

/-! ### best sets, prices, cascades -/
namespace HC
open PySem PySem.Spec PyProof.Rows L2 Evl
def pBest : List V → Hp → V → Prop := fun vs H z => ∃ (a : Addr) (n : Kqk3.Network) (c : Nat), vs = [.ref a, .int ((n.gradeCount : Nat) : Int), .int ((c : Nat) : Int)] ∧ UsersAt H a n.users ∧ n.users.length ≤ 8 ∧ 1 ≤ n.gradeCount ∧ n.gradeCount ≤ 12 ∧ z = .int ((Kqk3.bestSet n c : Nat) : Int)
def pBestV : List V → Hp → V → Prop := fun vs H z => ∃ (a : Addr) (n : Kqk3.Network) (c : Nat), vs = [.ref a, .int ((n.gradeCount : Nat) : Int), .int ((c : Nat) : Int)] ∧ UsersAt H a n.users ∧ n.users.length ≤ 8 ∧ 1 ≤ n.gradeCount ∧ n.gradeCount ≤ 12 ∧ z = .int ((Kqk3.valueOf n (Kqk3.bestSet n c) : Nat) : Int)
def pArePrices : List V → Hp → V → Prop := fun vs H z => ∃ (a : Addr) (n : Kqk3.Network) (ps : List Nat), vs = [.ref a, .int ((n.gradeCount : Nat) : Int)] ∧ H a = some (.lst (ni ps)) ∧ z = .bl (Kqk3.arePrices n ps)
def pCost : List V → Hp → V → Prop := fun vs H z => ∃ (a b : Addr) (u : Kqk3.User) (ps : List Nat), vs = [.ref a, .ref b] ∧ H a = some (.tup (uv u)) ∧ H b = some (.lst (ni ps)) ∧ u.returned < u.supply ∧ u.supply ≤ ps.length ∧ ps.length ≤ 12 ∧ z = .int ((costTo ps u.returned (u.supply - u.returned) : Nat) : Int)
def pBound : List V → Hp → V → Prop := fun vs H z => ∃ (a b : Addr) (n : Kqk3.Network) (c : Nat) (ps : List Nat), vs = [.ref a, .int ((c : Nat) : Int), .ref b] ∧ UsersAt H a n.users ∧ Ok n ∧ H b = some (.lst (ni ps)) ∧ ps.length = n.gradeCount ∧ c ≤ 8 ∧ z = .int ((Kqk3.dualBound n c ps : Nat) : Int)
section
variable {P : Program} {w : World} {K : PySem.W.Frag} {mg : Str → Option Value} {base : Heap} {f C aW aA : Addr} {fd : FuncData}
abbrev s_best_mask : Stmt := top 28
theorem sc_best_mask : FnScope ["users", "grade_count", "cascade_count", "best", "greatest", "mask", "value"] ["users", "grade_count", "cascade_count"] (defScope s_best_mask) := ⟨rfl, rfl, rfl, by decide +kernel, rfl, by decide +kernel, by decide +kernel⟩
theorem ok_best_mask (F : Fun K "best_mask" "best_mask" s_best_mask f fd) (T : Txt K mg C aW aA) (D_value_in : DefAt P w K mg base "value_in" 3 ["users", "mask"] (SpOf pValue)) (D_peak_in : DefAt P w K mg base "peak_in" 6 ["users", "mask", "grade_count"] (SpOf pPeak)) : FnOk P w K mg base CX0 7 f fd ["users", "grade_count", "cascade_count"] (SpOf pBest) := by
  refine F.ok sc_best_mask (fun vs H Q E h => ?_) (fun cdv A outer s H vs Q E hr h => ?_)
  · obtain ⟨z, ⟨a, n, c, rfl, _⟩, _⟩ := h
    rfl
  · obtain ⟨z, ⟨a, n, c, rfl, ha, h8, h1, h12, rfl⟩, k⟩ := h
    refine ⟨_, (pss_cons (ps_set (i := 3) sc_best_mask.nd rfl (Or.inl rfl) pe_int) (pss_cons (ps_set (i := 4) sc_best_mask.nd rfl (Or.inl rfl) pe_int) (pss_cons (ps_for PassesOwn.never rfl (pi_range1 rfl T.n_range (pa_cons (pe_ix ix_tup (pe_t rfl T.g_WORTHS) (pe_callB cr_len (by rfl) T.n_len PySem.boot_len (pa_cons (pv 0) pa_nil)) (fun _ _ => rfl)) pa_nil)) (pg_name (i := 5) sc_best_mask.nd rfl (Or.inl rfl)) (pss_cons (ps_set (i := 6) sc_best_mask.nd rfl (Or.inl rfl) (pe_def D_value_in (hr.mono (by decide)) rfl (pa_cons (pv 0) (pa_cons (pv 5) pa_nil)))) (pss_one (ps_if (PW.pt (pw_and (pt_cmpR op_gt (pv 6) (pv 4) (nomark _)) (pw_and1 (pt_cmpR op_le (pe_def D_peak_in (hr.mono (by decide)) rfl (pa_cons (pv 0) (pa_cons (pv 5) (pa_cons (pv 1) pa_nil)))) (pv 2) (nomark _))))) (pss_cons (ps_set (i := 3) sc_best_mask.nd rfl (Or.inl rfl) (pv 5)) (pss_one (ps_set (i := 4) sc_best_mask.nd rfl (Or.inl rfl) (pv 6)))) pss_nil)))) (pss_one (ps_ret (pv 3)))))), ?_⟩
    have hp : 0 < 2 ^ n.users.length := Nat.two_pow_pos _
    have hl := pow_le h8
    refine q_asg (v := .int 0) ev_c fun H1 e1 => ?_
    refine q_asg (v := .int 0) ev_c fun H2 e2 => ?_
    refine q_forR1 (n := ((2 ^ n.users.length : Nat) : Int)) (ea_cons (ev_worth T (ev_lenU (ev_var rfl) (ha.mono (e1.trans e2))) h8) ea_nil) (by omega)
      (fun i σ H' => Ex H H' ∧ ∃ v1 v2, σ = [some (.ref a), some (.int ((n.gradeCount : Nat) : Int)), some (.int ((c : Nat) : Int)), some (.int ((bestTo n c i : Nat) : Int)), some (.int ((Kqk3.valueOf n (bestTo n c i) : Nat) : Int)), v1, v2])
      (fun H3 e3 => ⟨(e1.trans e2).trans e3, none, none, ?_⟩) ?_ ?_
    · have e : Kqk3.valueOf n (bestTo n c 0) = 0 := value_zero n
      rw [e]; rfl
    · rintro i σ H' hi ⟨e3, v1, v2, rfl⟩
      refine q_asg (v := .int ((Kqk3.valueOf n i : Nat) : Int)) (ev_call (ea_cons (ev_var rfl) (ea_cons (ev_var rfl) ea_nil)) (spv fun H4 e4 => ⟨a, n, i, rfl, (ha.mono e3).mono e4, h8, rfl⟩)) fun H4 e4 => ?_
      refine s_when (b := decide (Kqk3.valueOf n (bestTo n c i) < Kqk3.valueOf n i) && decide (Kqk3.peakLoad n i ≤ c))
        (et_and (et_test (ev_op (ev_var rfl) (ev_var rfl) (rv_int (congrArg V.bl (decide_eq_decide.mpr Int.ofNat_lt)))))
          (fun _ => et_test (ev_op (ev_call (z := .int ((Kqk3.peakLoad n i : Nat) : Int)) (ea_cons (ev_var rfl) (ea_cons (ev_var rfl) (ea_cons (ev_var rfl) ea_nil))) (spv fun H5 e5 => ⟨a, n, i, rfl, ((ha.mono e3).mono e4).mono e5, h8, h1, h12, rfl⟩)) (ev_var rfl) (rv_int (congrArg V.bl (decide_eq_decide.mpr Int.ofNat_le))))))
        (fun hb H5 e5 => ?_) (fun hb H5 e5 => ?_)
      · rw [Bool.and_eq_true, decide_eq_true_iff, decide_eq_true_iff] at hb
        refine q_asg (ev_var rfl) fun H6 e6 => ?_
        refine s_asg (ev_var rfl) fun H7 e7 => ?_
        refine ⟨(((e3.trans e4).trans e5).trans e6).trans e7, some (.int ((i : Nat) : Int)), some (.int ((Kqk3.valueOf n i : Nat) : Int)), ?_⟩
        rw [bestTo_succ]
        unfold better
        rw [if_pos ⟨hb.2, hb.1⟩]
        rfl
      · have hb' : ¬ (Kqk3.peakLoad n i ≤ c ∧ Kqk3.valueOf n (bestTo n c i) < Kqk3.valueOf n i) := fun q => by
          rw [decide_eq_true q.1, decide_eq_true q.2] at hb
          cases hb
        refine ⟨(e3.trans e4).trans e5, some (.int ((i : Nat) : Int)), some (.int ((Kqk3.valueOf n i : Nat) : Int)), ?_⟩
        rw [bestTo_succ]
        unfold better
        rw [if_neg hb']
        rfl
    · rintro σ H' ⟨e3, v1, v2, rfl⟩
      exact s_ret (ev_var rfl) fun H4 e4 => k H4 (e3.trans e4)
abbrev s_best_value : Stmt := top 29
theorem sc_best_value : FnScope ["users", "grade_count", "cascade_count"] ["users", "grade_count", "cascade_count"] (defScope s_best_value) := ⟨rfl, rfl, rfl, by decide +kernel, rfl, by decide +kernel, by decide +kernel⟩
theorem ok_best_value (F : Fun K "best_value" "best_value" s_best_value f fd) (D_value_in : DefAt P w K mg base "value_in" 3 ["users", "mask"] (SpOf pValue)) (D_best_mask : DefAt P w K mg base "best_mask" 7 ["users", "grade_count", "cascade_count"] (SpOf pBest)) : FnOk P w K mg base CX0 8 f fd ["users", "grade_count", "cascade_count"] (SpOf pBestV) := by
  refine F.ok sc_best_value (fun vs H Q E h => ?_) (fun cdv A outer s H vs Q E hr h => ?_)
  · obtain ⟨z, ⟨a, n, c, rfl, _⟩, _⟩ := h
    rfl
  · obtain ⟨z, ⟨a, n, c, rfl, ha, h8, h1, h12, rfl⟩, k⟩ := h
    refine ⟨_, (pss_one (ps_ret (pe_def D_value_in (hr.mono (by decide)) rfl (pa_cons (pv 0) (pa_cons (pe_def D_best_mask (hr.mono (by decide)) rfl (pa_cons (pv 0) (pa_cons (pv 1) (pa_cons (pv 2) pa_nil)))) pa_nil))))), ?_⟩
    exact s_ret (ev_call (ea_cons (ev_var rfl) (ea_cons (ev_call (ea_cons (ev_var rfl) (ea_cons (ev_var rfl) (ea_cons (ev_var rfl) ea_nil))) (spv fun H1 e1 => ⟨a, n, c, rfl, ha.mono e1, h8, h1, h12, rfl⟩)) ea_nil)) (spv fun H1 e1 => ⟨a, n, Kqk3.bestSet n c, rfl, ha.mono e1, h8, rfl⟩)) k
abbrev s_are_prices : Stmt := top 30
theorem sc_are_prices : FnScope ["prices", "grade_count", "price"] ["prices", "grade_count"] (defScope s_are_prices) := ⟨rfl, rfl, rfl, by decide +kernel, rfl, by decide +kernel, by decide +kernel⟩
theorem ok_are_prices (F : Fun K "are_prices" "are_prices" s_are_prices f fd) (T : Txt K mg C aW aA) : FnOk P w K mg base CX0 1 f fd ["prices", "grade_count"] (SpOf pArePrices) := by
  refine F.ok sc_are_prices (fun vs H Q E h => ?_) (fun cdv A outer s H vs Q E hr h => ?_)
  · obtain ⟨z, ⟨a, n, ps, rfl, _⟩, _⟩ := h
    rfl
  · obtain ⟨z, ⟨a, n, ps, rfl, ha, rfl⟩, k⟩ := h
    refine ⟨_, (pss_cons (ps_if (pt_cmpR op_ne (pe_callB cr_len (by rfl) T.n_len PySem.boot_len (pa_cons (pv 0) pa_nil)) (pv 1) (nomark _)) (pss_one (ps_ret pe_bl)) pss_nil) (pss_cons (ps_for PassesOwn.never rfl (pi_list (pv 0)) (pg_name (i := 2) sc_are_prices.nd rfl (Or.inl rfl)) (pss_one (ps_if (pt_cmpR op_gt (pv 2) (pe_k rfl T.k_MOST_PRICE) (nomark _)) (pss_one (ps_ret pe_bl)) pss_nil))) (pss_one (ps_ret pe_bl)))), ?_⟩
    refine q_when (b := !decide (ps.length = n.gradeCount)) (et_test (ev_op (ev_len (ev_var rfl) (sq_of ha)) (ev_var rfl) (rv_neI (by rw [ni_len]; exact congrArg (!·) (decide_eq_decide.mpr Int.ofNat_inj))))) (fun hb H1 e1 => ?_) (fun hb H1 e1 => ?_)
    · refine s_ret (v := .bl false) ev_c fun H2 e2 => ?_
      have e : Kqk3.arePrices n ps = false := by
        unfold Kqk3.arePrices
        have : ¬ ps.length = n.gradeCount := by simpa using hb
        simp [this]
      rw [← e]
      exact k H2 (e1.trans e2)
    · have hlen : ps.length = n.gradeCount := by simpa using hb
      refine q_forLn (a := a) (xs := ni ps) (ev_var rfl) (sq_of (e1 _ _ ha)) (fun i σ H' => Ex H H' ∧ (∀ j, j < i → ∀ y, ps[j]? = some y → y ≤ 1000) ∧ ∃ v, σ = [some (.ref a), some (.int ((n.gradeCount : Nat) : Int)), v])
        (fun H2 e2 => ⟨e1.trans e2, fun j hj => absurd hj (by omega), none, rfl⟩) (fun i σ H' _ h => sq_of (h.1 _ _ ha)) ?_ ?_
      · rintro i x σ H' hx ⟨e2, hj, v, rfl⟩
        obtain ⟨y, hy, rfl⟩ := ni_at hx
        refine s_when (b := decide (1000 < y)) (et_test (ev_op (ev_var rfl) ev_c (rv_int (congrArg V.bl (decide_eq_decide.mpr (by omega)))))) (fun hb H3 e3 => ?_) (fun hb H3 e3 => ?_)
        · refine s_ret (v := .bl false) ev_c fun H4 e4 => ?_
          have e : Kqk3.arePrices n ps = false := by
            unfold Kqk3.arePrices
            rw [Bool.and_eq_false_iff]
            right
            rw [List.all_eq_false]
            exact ⟨y, List.mem_of_getElem? hy, by have := of_decide_eq_true hb; simp; omega⟩
          rw [← e]
          exact k H4 ((e2.trans e3).trans e4)
        · refine ⟨e2.trans e3, fun j hj' z hz => ?_, some (.int ((y : Nat) : Int)), rfl⟩
          by_cases q : j = i
          · subst q
            rw [hy] at hz
            have := of_decide_eq_false hb
            have := Option.some.inj hz
            omega
          · exact hj j (by omega) z hz
      · rintro σ H' ⟨e2, hj, v, rfl⟩
        refine s_ret (v := .bl true) ev_c fun H3 e3 => ?_
        have e : Kqk3.arePrices n ps = true := by
          unfold Kqk3.arePrices
          rw [hlen, Bool.and_eq_true]
          refine ⟨beq_self_eq_true _, ?_⟩
          rw [List.all_eq_true]
          intro y hy
          obtain ⟨i, hi, hiy⟩ := List.mem_iff_getElem.mp hy
          have := hj i (by rw [ni_len]; exact hi) y (by rw [List.getElem?_eq_getElem hi, hiy])
          exact decide_eq_true this
        rw [← e]
        exact k H3 (e2.trans e3)
abbrev s_cost_of : Stmt := top 31
theorem sc_cost_of : FnScope ["user", "prices", "supply_grade", "return_grade", "value", "found", "grade"] ["user", "prices"] (defScope s_cost_of) := ⟨rfl, rfl, rfl, by decide +kernel, rfl, by decide +kernel, by decide +kernel⟩
theorem ok_cost_of (F : Fun K "cost_of" "cost_of" s_cost_of f fd) (T : Txt K mg C aW aA) : FnOk P w K mg base CX0 1 f fd ["user", "prices"] (SpOf pCost) := by
  refine F.ok sc_cost_of (fun vs H Q E h => ?_) (fun cdv A outer s H vs Q E hr h => ?_)
  · obtain ⟨z, ⟨a, b, u, ps, rfl, _⟩, _⟩ := h
    rfl
  · obtain ⟨z, ⟨a, b, u, ps, rfl, ha, hb, h1, h2, h12, rfl⟩, k⟩ := h
    refine ⟨_, (pss_cons (ps_asg (pv 0) (pg_tup rfl (pgs_cons (pg_name (i := 2) sc_cost_of.nd rfl (Or.inl rfl)) (pgs_cons (pg_name (i := 3) sc_cost_of.nd rfl (Or.inl rfl)) (pgs_cons (pg_name (i := 4) sc_cost_of.nd rfl (Or.inl rfl)) pgs_nil))))) (pss_cons (ps_set (i := 5) sc_cost_of.nd rfl (Or.inl rfl) pe_int) (pss_cons (ps_for PassesOwn.never rfl (pi_range2 rfl T.n_range (pa_cons (pe_op op_add (pv 3) pe_int) (pa_cons (pe_op op_add (pv 2) pe_int) pa_nil))) (pg_name (i := 6) sc_cost_of.nd rfl (Or.inl rfl)) (pss_one (ps_aug (i := 5) sc_cost_of.nd rfl (Or.inl rfl) (pe_ix ix_list (pv 1) (pe_op op_sub (pv 6) pe_int) (fun _ _ => rfl)) ip_add))) (pss_one (ps_ret (pv 5)))))), ?_⟩
    refine q_tup3 (ev_var rfl) (st_of ha) fun H1 e1 => ?_
    refine q_asg (v := .int 0) ev_c fun H2 e2 => ?_
    refine q_forR2 (lo := ((u.returned : Nat) : Int) + 1) (n := ((u.supply : Nat) : Int) + 1) (ea_cons (ev_op (ev_var rfl) ev_c (rv_int rfl)) (ea_cons (ev_op (ev_var rfl) ev_c (rv_int rfl)) ea_nil)) (by omega)
      (fun i σ H' => Ex H H' ∧ ∃ v, σ = [some (.ref a), some (.ref b), some (.int ((u.supply : Nat) : Int)), some (.int ((u.returned : Nat) : Int)), some (.int ((u.value : Nat) : Int)), some (.int ((costTo ps u.returned i : Nat) : Int)), v])
      (fun H3 e3 => ⟨(e1.trans e2).trans e3, none, rfl⟩) ?_ ?_
    · rintro i σ H' hi ⟨e3, v, rfl⟩
      refine s_aug (f := fun i j => i + j) (b := ((ps.getD (u.returned + i) 0 : Nat) : Int)) rfl (ev_op (ev_var rfl) (ev_op (ev_var rfl) ev_c (rv_int (z := .int ((u.returned + i : Nat) : Int)) (congrArg V.int (by omega)))) (rv_ixL (sq_of (e3 _ _ hb)) (atI_nat' ?_))) fun H4 e4 => ?_
      · have hlt : u.returned + i < ps.length := by omega
        unfold ni
        rw [List.getElem?_map, List.getElem?_eq_getElem hlt, List.getD_eq_getElem?_getD, List.getElem?_eq_getElem hlt]
        rfl
      · refine ⟨e3.trans e4, some (.int (((u.returned : Nat) : Int) + 1 + (i : Int))), ?_⟩
        rw [costTo_succ]
        rfl
    · rintro σ H' ⟨e3, v, rfl⟩
      refine s_ret (ev_var rfl) fun H4 e4 => ?_
      have e : (((u.supply : Nat) : Int) + 1 - (((u.returned : Nat) : Int) + 1)).toNat = u.supply - u.returned := by omega
      rw [e]
      exact k H4 (e3.trans e4)
abbrev s_bound_of : Stmt := top 32
theorem sc_bound_of : FnScope ["users", "cascade_count", "prices", "found", "user"] ["users", "cascade_count", "prices"] (defScope s_bound_of) := ⟨rfl, rfl, rfl, by decide +kernel, rfl, by decide +kernel, by decide +kernel⟩
theorem ok_bound_of (F : Fun K "bound_of" "bound_of" s_bound_of f fd) (T : Txt K mg C aW aA) (D_cost_of : DefAt P w K mg base "cost_of" 1 ["user", "prices"] (SpOf pCost)) : FnOk P w K mg base CX0 2 f fd ["users", "cascade_count", "prices"] (SpOf pBound) := by
  refine F.ok sc_bound_of (fun vs H Q E h => ?_) (fun cdv A outer s H vs Q E hr h => ?_)
  · obtain ⟨z, ⟨a, b, n, c, ps, rfl, _⟩, _⟩ := h
    rfl
  · obtain ⟨z, ⟨a, b, n, c, ps, rfl, ⟨as, ha⟩, ok, hb, hlen, hc, rfl⟩, k⟩ := h
    refine ⟨_, (pss_cons (ps_set (i := 3) sc_bound_of.nd rfl (Or.inl rfl) (pe_op op_mul (pv 1) (pe_callB (cr_sum rfl) (by rfl) T.n_sum (by decide +kernel) (pa_cons (pv 2) pa_nil)))) (pss_cons (ps_for PassesOwn.never rfl (pi_list (pv 0)) (pg_name (i := 4) sc_bound_of.nd rfl (Or.inl rfl)) (pss_one (ps_aug (i := 3) sc_bound_of.nd rfl (Or.inl rfl) (pe_callB (cr_max2 rfl) (by rfl) T.n_max (by decide +kernel) (pa_cons pe_int (pa_cons (pe_op op_sub (pe_ix ix_tup (pv 4) pe_int (fun _ _ => rfl)) (pe_def D_cost_of (hr.mono (by decide)) rfl (pa_cons (pv 4) (pa_cons (pv 2) pa_nil)))) pa_nil))) ip_add))) (pss_one (ps_ret (pv 3))))), ?_⟩
    have h12 := ok.g12
    refine q_asg (v := .int ((boundTo n c ps 0 : Nat) : Int)) (ev_op (ev_var rfl) (ev_sum (ns := ps.map fun (x : Nat) => ((x : Nat) : Int)) (ev_var rfl) (by rw [← ni_ints]; exact sq_of hb)) (rv_intC (Or.inl ⟨by omega, by omega⟩) ?_)) fun H1 e1 => ?_
    · rw [← sum_is]
      congr 1
    refine q_forLn (a := a) (xs := as.map V.ref) (ev_var rfl) (sq_of (e1 _ _ ha.lst)) (fun i σ H' => Ex H H' ∧ ∃ v, σ = [some (.ref a), some (.int ((c : Nat) : Int)), some (.ref b), some (.int ((boundTo n c ps i : Nat) : Int)), v])
      (fun H2 e2 => ⟨e1.trans e2, none, rfl⟩) (fun i σ H' _ h => sq_of (h.1 _ _ ha.lst)) ?_ ?_
    · rintro i x σ H' hx ⟨e2, v, rfl⟩
      have hi : i < n.users.length := by
        have := (List.getElem?_eq_some_iff.mp hx).1
        rw [List.length_map, ha.len] at this
        exact this
      obtain ⟨p, hp, ht⟩ := ha.at_ i _ (user_get hi)
      have ex : x = V.ref p := by
        rw [List.getElem?_map, hp] at hx
        exact (Option.some.inj hx).symm
      subst ex
      have hu := ok.us _ (user_mem hi)
      refine s_aug (f := fun i j => i + j) (b := (((Kqk3.user n i).value - Kqk3.cost n ps i : Nat) : Int)) rfl (ev_is (ev_max2 ev_c (ev_op (ev_value (ev_var rfl) (e2 _ _ ht)) (ev_call (ea_cons (ev_var rfl) (ea_cons (ev_var rfl) ea_nil)) (spv fun H3 e3 => ⟨p, b, Kqk3.user n i, ps, rfl, (e2.trans e3) _ _ ht, (e2.trans e3) _ _ hb, hu.1, by omega, by omega, rfl⟩)) (rv_int rfl))) ?_) fun H3 e3 => ?_
      · congr 1
        rw [cost_is ps hu.2.1]
        split <;> omega
      · refine ⟨e2.trans e3, some (.ref p), ?_⟩
        rw [boundTo_succ]
        rfl
    · rintro σ H' ⟨e2, v, rfl⟩
      refine s_ret (ev_var rfl) fun H3 e3 => ?_
      rw [List.length_map, ha.len, ← bound_is hlen]
      exact k H3 (e2.trans e3)
end
end HC

/-! ### cascades -/
namespace HC
open PySem PySem.Spec PyProof.Rows L2 Evl
theorem flat_le {F : Nat → List Nat} {b : Nat} (h : ∀ s, (F s).length ≤ b) : ∀ k, ((List.range k).flatMap F).length ≤ k * b
  | 0 => Nat.zero_le _
  | k + 1 => by
    rw [List.range_succ, List.flatMap_append, List.length_append, Nat.succ_mul]
    have := flat_le h k
    have e : ([k].flatMap F).length = (F k).length := by simp
    have := h k
    omega
theorem atGrade_le (n : Kqk3.Network) (m g : Nat) : (atGrade n m g).length ≤ n.users.length := Nat.le_trans (List.length_filter_le _ _) (members_le n m)
theorem flat_succ {F : Nat → List Nat} (k : Nat) : (List.range (k + 1)).flatMap F = (List.range k).flatMap F ++ F k := by
  rw [List.range_succ, List.flatMap_append]
  simp
theorem bySupply_le {n : Kqk3.Network} (ok : Ok n) (m : Nat) : (Kqk3.bySupply n m).length ≤ 96 := by
  rw [bySupply_is ok]
  have := flat_le (F := fun s => atGrade n m (12 - s)) (b := 8) (fun s => Nat.le_trans (atGrade_le n m _) ok.u8) 12
  omega
def gradeTo (n : Kqk3.Network) (m g i : Nat) : List Nat := ((Kqk3.members n m).take i).filter fun j => (Kqk3.user n j).supply == g
theorem gradeTo_all (n : Kqk3.Network) (m g : Nat) : gradeTo n m g (Kqk3.members n m).length = atGrade n m g := by
  unfold gradeTo atGrade; rw [List.take_length]
theorem gradeTo_le (n : Kqk3.Network) (m g i : Nat) : (gradeTo n m g i).length ≤ n.users.length :=
  Nat.le_trans (List.length_filter_le _ _) (Nat.le_trans (by rw [List.length_take]; omega) (members_le n m))
theorem gradeTo_yes {n : Kqk3.Network} {m g i j : Nat} (h : (Kqk3.members n m)[i]? = some j) (e : (Kqk3.user n j).supply = g) : gradeTo n m g (i + 1) = gradeTo n m g i ++ [j] := by
  unfold gradeTo
  rw [take_more h, List.filter_append, List.filter_cons, if_pos (by simpa using e)]; rfl
theorem gradeTo_no {n : Kqk3.Network} {m g i j : Nat} (h : (Kqk3.members n m)[i]? = some j) (e : ¬ (Kqk3.user n j).supply = g) : gradeTo n m g (i + 1) = gradeTo n m g i := by
  unfold gradeTo
  rw [take_more h, List.filter_append, List.filter_cons, if_neg (by simpa using e), List.filter_nil, List.append_nil]
def pBySupply : List V → Hp → List V → Prop := fun vs H xs => ∃ (a : Addr) (n : Kqk3.Network) (m : Nat), vs = [.ref a, .int ((m : Nat) : Int)] ∧ UsersAt H a n.users ∧ Ok n ∧ xs = ni (Kqk3.bySupply n m)
/-- the cascades cs lie at qs, which the list at c holds -/
structure CasAs (H : Hp) (c : Addr) (qs : List Addr) (cs : List Cas) : Prop where
  lst : H c = some (.lst (qs.map V.ref))
  len : qs.length = cs.length
  at_ : ∀ (i : Nat) (x : Cas), cs[i]? = some x → ∃ q, qs[i]? = some q ∧ H q = some (.lst (ni x.1))
theorem CasAs.mono {H H' : Hp} {c : Addr} {qs : List Addr} {cs : List Cas} (e : Ex H H') (h : CasAs H c qs cs) : CasAs H' c qs cs :=
  ⟨e _ _ h.lst, h.len, fun i u hu => by obtain ⟨p, hp, ht⟩ := h.at_ i u hu; exact ⟨p, hp, e _ _ ht⟩⟩
def placeOf (n : Kqk3.Network) (cs : List Cas) (i : Nat) : Nat := (cs.findIdx? fun c => decide ((Kqk3.user n i).supply ≤ c.2)).getD cs.length
def pPlaceFor : List V → Hp → V → Prop := fun vs H z => ∃ (a c : Addr) (n : Kqk3.Network) (qs : List Addr) (cs : List Cas) (i : Nat), vs = [.ref a, .ref c, .int ((i : Nat) : Int)] ∧ UsersAt H a n.users ∧ CasAs H c qs cs ∧ (∀ x ∈ cs, Good n x) ∧ i < n.users.length ∧ z = .int ((placeOf n cs i : Nat) : Int)
/-- cascades_of's: a list of new lists -/
def RetC (cs : List Cas) (H : Hp) (Q : VK) : Prop := ∀ p qs H2, H p = none → Ex H H2 → CasAs H2 p qs cs → Q (.ref p) H2
def spCascades : Sp := fun vs H Q _ => ∃ (a : Addr) (n : Kqk3.Network) (m : Nat), vs = [.ref a, .int ((m : Nat) : Int)] ∧ UsersAt H a n.users ∧ Ok n ∧ RetC (casTo n (Kqk3.bySupply n m)) H Q
section
variable {P : Program} {w : World} {K : PySem.W.Frag} {mg : Str → Option Value} {base : Heap} {f C aW aA : Addr} {fd : FuncData}
abbrev s_by_supply : Stmt := top 34
theorem sc_by_supply : FnScope ["users", "mask", "found", "numbers", "step", "grade", "number"] ["users", "mask"] (defScope s_by_supply) := ⟨rfl, rfl, rfl, by decide +kernel, rfl, by decide +kernel, by decide +kernel⟩
theorem ok_by_supply (F : Fun K "by_supply" "by_supply" s_by_supply f fd) (T : Txt K mg C aW aA) (D_numbers_in : DefAt P w K mg base "numbers_in" 2 ["users", "mask"] (SpOfL pNumbers)) : FnOk P w K mg base CX0 3 f fd ["users", "mask"] (SpOfL pBySupply) := by
  refine F.ok sc_by_supply (fun vs H Q E h => ?_) (fun cdv A outer s H vs Q E hr h => ?_)
  · obtain ⟨z, ⟨a, n, m, rfl, _⟩, _⟩ := h
    rfl
  · obtain ⟨z, ⟨a, n, m, rfl, ha, ok, rfl⟩, k⟩ := h
    refine ⟨_, (pss_cons (ps_set (i := 2) sc_by_supply.nd rfl (Or.inl rfl) (pe_lst pa_nil)) (pss_cons (ps_set (i := 3) sc_by_supply.nd rfl (Or.inl rfl) (pe_def D_numbers_in (hr.mono (by decide)) rfl (pa_cons (pv 0) (pa_cons (pv 1) pa_nil)))) (pss_cons (ps_for PassesOwn.never rfl (pi_range1 rfl T.n_range (pa_cons (pe_k rfl T.k_MOST_GRADES) pa_nil)) (pg_name (i := 4) sc_by_supply.nd rfl (Or.inl rfl)) (pss_cons (ps_set (i := 5) sc_by_supply.nd rfl (Or.inl rfl) (pe_op op_sub (pe_k rfl T.k_MOST_GRADES) (pv 4))) (pss_one (ps_for PassesOwn.never rfl (pi_list (pv 3)) (pg_name (i := 6) sc_by_supply.nd rfl (Or.inl rfl)) (pss_one (ps_if (pt_cmpR op_eq (pe_ix ix_tup (pe_ix ix_list (pv 0) (pv 6) (fun _ _ => rfl)) pe_int (fun _ _ => rfl)) (pv 5) (nomark _)) (pss_one (ps_expr (pe_bm PySem.F.plainAttrs_list PySem.F.slot_list_append PySem.F.type_list_append mt_append (pv 2) (pa_cons (pv 6) pa_nil)))) pss_nil)))))) (pss_one (ps_ret (pv 2)))))), ?_⟩
    have h8 := ok.u8
    have hm8 := members_le n m
    refine q_asgL (xs := []) (el_lst ea_nil (by decide)) fun fo H1 hfo e1 hf1 => ?_
    refine q_asgL (xs := ni (Kqk3.members n m)) (el_call (ea_cons (ev_var rfl) (ea_cons (ev_var rfl) ea_nil)) (spl fun H2 e2 => ⟨a, n, m, rfl, (ha.mono e1).mono e2, h8, rfl⟩)) fun nu H2 hnu e2 hn2 => ?_
    have hne : nu ≠ fo := fun e => by rw [e, hf1] at hnu; cases hnu
    refine q_forR1 (n := 12) (ea_cons ev_c ea_nil) (by decide)
      (fun i σ H' => Ex H H' ∧ H' nu = some (.lst (ni (Kqk3.members n m))) ∧ H' fo = some (.lst (ni ((List.range i).flatMap fun s => atGrade n m (12 - s)))) ∧ ∃ v1 v2 v3, σ = [some (.ref a), some (.int ((m : Nat) : Int)), some (.ref fo), some (.ref nu), v1, v2, v3])
      (fun H3 e3 => ⟨(e1.trans e2).trans e3, e3 _ _ hn2, e3 _ _ (e2 _ _ hf1), none, none, none, rfl⟩) ?_ ?_
    · rintro i σ H' hi ⟨e3, hn3, hf3, v1, v2, v3, rfl⟩
      refine q_asg (v := .int ((12 - i : Nat) : Int)) (ev_op ev_c (ev_var rfl) (rv_int (congrArg V.int (by omega)))) fun H4 e4 => ?_
      refine s_forLn (a := nu) (xs := ni (Kqk3.members n m)) (ev_var rfl) (sq_of (e4 _ _ hn3))
        (fun j σ H' => Ex H H' ∧ H' nu = some (.lst (ni (Kqk3.members n m))) ∧ H' fo = some (.lst (ni ((List.range i).flatMap (fun s => atGrade n m (12 - s)) ++ gradeTo n m (12 - i) j))) ∧ ∃ v3, σ = [some (.ref a), some (.int ((m : Nat) : Int)), some (.ref fo), some (.ref nu), some (.int ((i : Nat) : Int)), some (.int ((12 - i : Nat) : Int)), v3])
        (fun H5 e5 => ⟨(e3.trans e4).trans e5, e5 _ _ (e4 _ _ hn3), ?_, v3, rfl⟩) (fun j σ H' _ h => sq_of h.2.1) ?_ ?_
      · have e : gradeTo n m (12 - i) 0 = [] := rfl
        rw [e, List.append_nil]
        exact e5 _ _ (e4 _ _ hf3)
      · rintro j x σ H5 hx ⟨e5, hn5, hf5, v3, rfl⟩
        obtain ⟨y, hy, rfl⟩ := ni_at hx
        have hlt := mem_lt (List.mem_of_getElem? hy)
        obtain ⟨q, hq, ht⟩ := ev_userAt (K := K) (σ := [some (.ref a), some (.int ((m : Nat) : Int)), some (.ref fo), some (.ref nu), some (.int ((i : Nat) : Int)), some (.int ((12 - i : Nat) : Int)), some (.int ((y : Nat) : Int))]) (ta := tVar 0) (tb := tVar 6) (i := y) (ev_var rfl) (ev_var rfl) (ha.mono e5) hlt
        refine s_when (b := decide ((Kqk3.user n y).supply = 12 - i)) (et_test (ev_op (ev_supply hq ht) (ev_var rfl) (rv_eqI (decide_eq_decide.mpr Int.ofNat_inj)))) (fun hb H6 e6 => ?_) (fun hb H6 e6 => ?_)
        · have es := of_decide_eq_true hb
          refine s_app (l := fo) (e6 _ _ hf5) (ev_var rfl) (ev_var rfl) ?_ fun H7 e7 => ?_
          · rw [ni_len, List.length_append]
            have := flat_le (F := fun s => atGrade n m (12 - s)) (b := 8) (fun s => Nat.le_trans (atGrade_le n m _) h8) i
            have := gradeTo_le n m (12 - i) j
            have : (i : Int) < 12 := hi
            omega
          · refine ⟨((e5.trans e6).trans e7).mut hfo, ?_, ?_, some (.int ((y : Nat) : Int)), rfl⟩
            · rw [upd_ne hne]
              exact e7 _ _ (e6 _ _ hn5)
            · rw [upd_same, gradeTo_yes hy es, ← List.append_assoc, ni_app _ [y]]
              rfl
        · refine ⟨e5.trans e6, e6 _ _ hn5, ?_, some (.int ((y : Nat) : Int)), rfl⟩
          rw [gradeTo_no hy (of_decide_eq_false hb)]
          exact e6 _ _ hf5
      · rintro σ H5 ⟨e5, hn5, hf5, v3, rfl⟩
        refine ⟨e5, hn5, ?_, _, _, _, rfl⟩
        rw [flat_succ, ← gradeTo_all]
        rw [ni_len] at hf5
        exact hf5
    · rintro σ H' ⟨e3, hn3, hf3, v1, v2, v3, rfl⟩
      refine s_ret (ev_var rfl) fun H4 e4 => ?_
      refine k fo H4 hfo (e3.trans e4) ?_
      rw [bySupply_is ok]
      exact e4 _ _ hf3
abbrev s_place_for : Stmt := top 35
theorem sc_place_for : FnScope ["users", "cascades", "number", "place", "cascade"] ["users", "cascades", "number"] (defScope s_place_for) := ⟨rfl, rfl, rfl, by decide +kernel, rfl, by decide +kernel, by decide +kernel⟩
theorem placeOf_is {n : Kqk3.Network} {cs : List Cas} {i j : Nat} {c : Cas} (h : cs[j]? = some c) (hc : (Kqk3.user n i).supply ≤ c.2) (hj : ∀ k, k < j → ∀ c, cs[k]? = some c → ¬ (Kqk3.user n i).supply ≤ c.2) : placeOf n cs i = j := by
  unfold placeOf
  obtain ⟨hlt, hg⟩ := List.getElem?_eq_some_iff.mp h
  have e : (cs.findIdx? fun c => decide ((Kqk3.user n i).supply ≤ c.2)) = some j := by
    rw [List.findIdx?_eq_some_iff_getElem]
    refine ⟨hlt, by rw [hg]; exact decide_eq_true hc, fun k hk => ?_⟩
    have := hj k hk cs[k] (List.getElem?_eq_getElem _)
    simpa using this
  rw [e]; rfl
theorem placeOf_none {n : Kqk3.Network} {cs : List Cas} {i : Nat} (hj : ∀ k, k < cs.length → ∀ c, cs[k]? = some c → ¬ (Kqk3.user n i).supply ≤ c.2) : placeOf n cs i = cs.length := by
  unfold placeOf
  have e : (cs.findIdx? fun c => decide ((Kqk3.user n i).supply ≤ c.2)) = none := by
    rw [List.findIdx?_eq_none_iff]
    intro c hc
    obtain ⟨k, hk, e⟩ := List.mem_iff_getElem.mp hc
    exact decide_eq_false (hj k hk c (by rw [List.getElem?_eq_getElem hk, e]))
  rw [e]; rfl
theorem last_at {xs : List V} {x : V} : atI (xs ++ [x]) (-1) = some x := by
  unfold atI ixN
  rw [if_neg (by decide), if_pos (by rw [List.length_append, List.length_singleton]; omega)]
  show (xs ++ [x])[(-1 + ((xs ++ [x]).length : Int)).toNat]? = some x
  rw [List.length_append, List.length_singleton, show (-1 + ((xs.length + 1 : Nat) : Int)).toNat = xs.length by omega]
  simp
theorem ok_place_for (F : Fun K "place_for" "place_for" s_place_for f fd) (T : Txt K mg C aW aA) (D_follows : DefAt P w K mg base "follows" 1 ["user", "later"] (SpOf pFollows)) : FnOk P w K mg base CX0 2 f fd ["users", "cascades", "number"] (SpOf pPlaceFor) := by
  refine F.ok sc_place_for (fun vs H Q E h => ?_) (fun cdv A outer s H vs Q E hr h => ?_)
  · obtain ⟨z, ⟨a, c, n, qs, cs, i, rfl, _⟩, _⟩ := h
    rfl
  · obtain ⟨z, ⟨a, c, n, qs, cs, i, rfl, ha, hc, hg, hi, rfl⟩, k⟩ := h
    refine ⟨_, (pss_cons (ps_for PassesOwn.never rfl (pi_enum rfl T.n_enumerate (pa_cons (pv 1) pa_nil)) (pg_tup rfl (pgs_cons (pg_name (i := 3) sc_place_for.nd rfl (Or.inl rfl)) (pgs_cons (pg_name (i := 4) sc_place_for.nd rfl (Or.inl rfl)) pgs_nil))) (pss_one (ps_if (pt_val (pe_def D_follows (hr.mono (by decide)) rfl (pa_cons (pe_ix ix_list (pv 0) (pe_ix ix_list (pv 4) (pe_un un_neg pe_int) (fun _ _ => rfl)) (fun _ _ => rfl)) (pa_cons (pe_ix ix_list (pv 0) (pv 2) (fun _ _ => rfl)) pa_nil)))) (pss_one (ps_ret (pv 3))) pss_nil))) (pss_one (ps_ret (pe_callB cr_len (by rfl) T.n_len PySem.boot_len (pa_cons (pv 1) pa_nil))))), ?_⟩
    refine q_forE (a := c) (xs := qs.map V.ref) (ev_var rfl) (sq_of hc.lst)
      (fun j σ H' => Ex H H' ∧ (∀ k, k < j → ∀ c, cs[k]? = some c → ¬ (Kqk3.user n i).supply ≤ c.2) ∧ ∃ v1 v2, σ = [some (.ref a), some (.ref c), some (.int ((i : Nat) : Int)), v1, v2])
      (fun H1 e1 => ⟨e1, fun k hk => absurd hk (by omega), none, none, rfl⟩) (fun j σ H' h => sq_of (h.1 _ _ hc.lst)) (fun j σ H' H3 h e => ⟨h.1.trans e, h.2.1, h.2.2⟩) ?_ ?_
    · rintro j x σ H' hx ⟨e1, hk, v1, v2, rfl⟩
      have hj : j < cs.length := by
        have := (List.getElem?_eq_some_iff.mp hx).1
        rw [List.length_map, hc.len] at this
        exact this
      obtain ⟨q, hq, hl⟩ := hc.at_ j _ (List.getElem?_eq_getElem hj)
      have ex : x = V.ref q := by
        rw [List.getElem?_map, hq] at hx
        exact (Option.some.inj hx).symm
      subst ex
      obtain ⟨l, y, hly, hy, hret⟩ := hg _ (List.getElem_mem hj)
      obtain ⟨q1, hq1, ht1⟩ := ev_userAt (K := K) (σ := [some (.ref a), some (.ref c), some (.int ((i : Nat) : Int)), some (.int ((j : Nat) : Int)), some (.ref q)]) (ta := tVar 0) (tb := tOp (rIxL K) (tVar 4) (tUn (rU fun i => .int (-i)) (tC (.int 1)))) (i := y) (ev_var rfl)
        (ev_op (ev_var rfl) (ev_un ev_c ru_neg) (rv_ixL (sq_of (e1 _ _ hl)) (by rw [hly, ni_app]; exact last_at))) (ha.mono e1) hy
      obtain ⟨q2, hq2, ht2⟩ := ev_userAt (K := K) (σ := [some (.ref a), some (.ref c), some (.int ((i : Nat) : Int)), some (.int ((j : Nat) : Int)), some (.ref q)]) (ta := tVar 0) (tb := tVar 2) (i := i) (ev_var rfl) (ev_var rfl) (ha.mono e1) hi
      refine s_when (b := decide ((Kqk3.user n i).supply ≤ (Kqk3.user n y).returned)) (et_B (ev_call (ea_cons hq1 (ea_cons hq2 ea_nil)) (spv fun H2 e2 => ⟨q1, q2, _, _, rfl, e2 _ _ ht1, e2 _ _ ht2, rfl⟩))) (fun hb H3 e3 => ?_) (fun hb H3 e3 => ?_)
      · refine s_ret (ev_var rfl) fun H4 e4 => ?_
        have e := placeOf_is (n := n) (i := i) (List.getElem?_eq_getElem hj) (by rw [hret]; exact of_decide_eq_true hb) hk
        rw [← e] at *
        exact k H4 ((e1.trans e3).trans e4)
      · refine ⟨e1.trans e3, fun k' hk' c' hc' => ?_, _, _, rfl⟩
        by_cases e : k' = j
        · subst e
          rw [List.getElem?_eq_getElem hj] at hc'
          rw [← Option.some.inj hc', hret]
          exact of_decide_eq_false hb
        · exact hk k' (by omega) c' hc'
    · rintro σ H' ⟨e1, hk, v1, v2, rfl⟩
      rw [List.length_map, hc.len] at hk
      refine s_ret (ev_is (ev_len (ev_var rfl) (sq_of (e1 _ _ hc.lst))) ?_) fun H4 e4 => k H4 (e1.trans e4)
      rw [List.length_map, hc.len, placeOf_none hk]
abbrev s_cascades_of : Stmt := top 36
theorem sc_cascades_of : FnScope ["users", "mask", "found", "number", "place"] ["users", "mask"] (defScope s_cascades_of) := ⟨rfl, rfl, rfl, by decide +kernel, rfl, by decide +kernel, by decide +kernel⟩
theorem put_none {n : Kqk3.Network} {cs : List Cas} {i : Nat} (h : placeOf n cs i = cs.length) : put n cs i = cs ++ [([i], (Kqk3.user n i).returned)] := by
  unfold placeOf at h
  unfold put
  cases e : (cs.findIdx? fun c => decide ((Kqk3.user n i).supply ≤ c.2)) with
  | none => rfl
  | some k =>
    rw [e] at h
    have := (List.findIdx?_eq_some_iff_getElem.mp e).1
    have h : k = cs.length := h
    omega
theorem put_some {n : Kqk3.Network} {cs : List Cas} {i : Nat} (h : ¬ placeOf n cs i = cs.length) : placeOf n cs i < cs.length ∧ put n cs i = cs.set (placeOf n cs i) ((cs.getD (placeOf n cs i) ([], 0)).1 ++ [i], (Kqk3.user n i).returned) := by
  unfold placeOf at h ⊢
  unfold put
  cases e : (cs.findIdx? fun c => decide ((Kqk3.user n i).supply ≤ c.2)) with
  | none => rw [e] at h; exact absurd rfl h
  | some k => exact ⟨(List.findIdx?_eq_some_iff_getElem.mp e).1, rfl⟩
theorem ok_cascades_of (F : Fun K "cascades_of" "cascades_of" s_cascades_of f fd) (T : Txt K mg C aW aA) (D_by_supply : DefAt P w K mg base "by_supply" 3 ["users", "mask"] (SpOfL pBySupply)) (D_place_for : DefAt P w K mg base "place_for" 2 ["users", "cascades", "number"] (SpOf pPlaceFor)) : FnOk P w K mg base CX0 4 f fd ["users", "mask"] spCascades := by
  refine F.ok sc_cascades_of (fun vs H Q E h => ?_) (fun cdv A outer s H vs Q E hr h => ?_)
  · obtain ⟨a, n, m, rfl, _⟩ := h
    rfl
  · obtain ⟨a, n, m, rfl, ha, ok, k⟩ := h
    refine ⟨_, (pss_cons (ps_set (i := 2) sc_cascades_of.nd rfl (Or.inl rfl) (pe_lst pa_nil)) (pss_cons (ps_for PassesOwn.never rfl (pi_list (pe_def D_by_supply (hr.mono (by decide)) rfl (pa_cons (pv 0) (pa_cons (pv 1) pa_nil)))) (pg_name (i := 3) sc_cascades_of.nd rfl (Or.inl rfl)) (pss_cons (ps_set (i := 4) sc_cascades_of.nd rfl (Or.inl rfl) (pe_def D_place_for (hr.mono (by decide)) rfl (pa_cons (pv 0) (pa_cons (pv 2) (pa_cons (pv 3) pa_nil))))) (pss_one (ps_if (pt_cmpR op_eq (pv 4) (pe_callB cr_len (by rfl) T.n_len PySem.boot_len (pa_cons (pv 2) pa_nil)) (nomark _)) (pss_one (ps_expr (pe_bm PySem.F.plainAttrs_list PySem.F.slot_list_append PySem.F.type_list_append mt_append (pv 2) (pa_cons (pe_lst (pa_cons (pv 3) pa_nil)) pa_nil)))) (pss_one (ps_expr (pe_bm PySem.F.plainAttrs_list PySem.F.slot_list_append PySem.F.type_list_append mt_append (pe_ix ix_list (pv 2) (pv 4) (fun _ _ => rfl)) (pa_cons (pv 3) pa_nil)))))))) (pss_one (ps_ret (pv 2))))), ?_⟩
    refine q_asgL (xs := []) (el_lst ea_nil (by decide)) fun fo H1 hfo e1 hf1 => ?_
    refine q_forNLn (xs := ni (Kqk3.bySupply n m)) (el_call (ea_cons (ev_var rfl) (ea_cons (ev_var rfl) ea_nil)) (spl fun H2 e2 => ⟨a, n, m, rfl, (ha.mono e1).mono e2, ok, rfl⟩))
      (fun p i σ H' => Ex H H' ∧ H' p = some (.lst (ni (Kqk3.bySupply n m))) ∧ p ≠ fo ∧ H p = none ∧ (∃ qs : List Addr, CasAs H' fo qs (casTo n ((Kqk3.bySupply n m).take i)) ∧ qs.Nodup ∧ fo ∉ qs ∧ p ∉ qs ∧ ∀ q ∈ qs, H q = none) ∧ (casTo n ((Kqk3.bySupply n m).take i)).length ≤ i ∧ (∀ c ∈ casTo n ((Kqk3.bySupply n m).take i), Good n c) ∧ (∀ c ∈ casTo n ((Kqk3.bySupply n m).take i), c.1.length ≤ i) ∧
        ∃ v1 v2, σ = [some (.ref a), some (.int ((m : Nat) : Int)), some (.ref fo), v1, v2])
      (fun p H2 hp e2 h2 => ⟨e1.trans e2, h2, (fun e => by rw [e, hf1] at hp; cases hp), fresh_back e1 hp, ⟨[], ⟨e2 _ _ hf1, rfl, fun i x hx => by simp [casTo] at hx⟩, List.nodup_nil, by simp, by simp, by simp⟩, Nat.le_refl _, fun c hc => by simp [casTo] at hc, fun c hc => by simp [casTo] at hc, none, none, rfl⟩)
      (fun p i σ H' _ h => sq_of h.2.1) ?_ ?_
    · rintro p i x σ H' hx ⟨e2, hp2, hpf, hpn, ⟨qs, hcs, nd, hfq, hpq, hqn⟩, hlen, hgood, heach, v1, v2, rfl⟩
      obtain ⟨y, hy, rfl⟩ := ni_at hx
      have hlt := bySupply_lt (List.mem_of_getElem? hy)
      have hi : i < 96 := Nat.lt_of_lt_of_le (List.getElem?_eq_some_iff.mp hy).1 (bySupply_le ok m)
      have enew : casTo n ((Kqk3.bySupply n m).take (i + 1)) = put n (casTo n ((Kqk3.bySupply n m).take i)) y := by rw [take_more hy, casTo_snoc]
      rw [enew]
      generalize casTo n ((Kqk3.bySupply n m).take i) = cs at *
      have hlen' : (put n cs y).length ≤ i + 1 := Nat.le_trans put_len (by omega)
      have hgood' := put_good hgood hlt
      have heach' := put_each (n := n) (i := y) heach (by omega)
      refine q_asg (v := .int ((placeOf n cs y : Nat) : Int)) (ev_call (ea_cons (ev_var rfl) (ea_cons (ev_var rfl) (ea_cons (ev_var rfl) ea_nil))) (spv fun H3 e3 => ⟨a, fo, n, qs, cs, y, rfl, (ha.mono e2).mono e3, hcs.mono e3, hgood, hlt, rfl⟩)) fun H3 e3 => ?_
      refine s_if (b := decide (placeOf n cs y = cs.length)) (et_test (ev_op (ev_var rfl) (ev_len (ev_var rfl) (sq_of (e3 _ _ hcs.lst))) (rv_eqI (by rw [List.length_map, hcs.len]; exact decide_eq_decide.mpr Int.ofNat_inj)))) (fun hb H4 e4 => ?_) (fun hb H4 e4 => ?_)
      · have hpl := of_decide_eq_true hb
        refine s_appL (l := fo) (ys := ni [y]) (e4 _ _ (e3 _ _ hcs.lst)) (ev_var rfl) (el_lst (ea_cons (ev_var rfl) ea_nil) (by decide : 1 ≤ 100000)) (by rw [List.length_map, hcs.len]; omega) fun q H5 hq e5 h5 => ?_
        have hq3 : H' q = none := fresh_back (e3.trans e4) hq
        have hqH : H q = none := fresh_back e2 hq3
        have e25 := (e3.trans e4).trans e5
        have hqf : q ≠ fo := fun e => by rw [e, hcs.lst] at hq3; cases hq3
        have hqp : q ≠ p := fun e => by rw [e, hp2] at hq3; cases hq3
        have hqq : q ∉ qs := fun hm => by
          obtain ⟨j, hj, e⟩ := List.mem_iff_getElem.mp hm
          obtain ⟨q', hq', hl⟩ := hcs.at_ j _ (List.getElem?_eq_getElem (by rw [← hcs.len]; exact hj))
          rw [List.getElem?_eq_getElem hj, e] at hq'
          rw [← Option.some.inj hq', hq3] at hl
          cases hl
        refine ⟨(e2.trans e25).mut hfo, by rw [upd_ne hpf]; exact e25 _ _ hp2, hpf, hpn, ⟨qs ++ [q], ⟨by rw [upd_same, List.map_append]; rfl, ?_, fun j x hx => ?_⟩, ?_, ?_, ?_, ?_⟩, hlen', hgood', heach', _, _, rfl⟩
        · rw [put_none hpl, List.length_append, List.length_append, hcs.len]; rfl
        · rw [put_none hpl] at hx
          by_cases hj : j < cs.length
          · rw [List.getElem?_append_left hj] at hx
            obtain ⟨q', hq', hl⟩ := hcs.at_ j x hx
            refine ⟨q', by rw [List.getElem?_append_left (by rw [hcs.len]; exact hj)]; exact hq', ?_⟩
            rw [upd_ne (fun e => hfq (by rw [← e]; exact List.mem_of_getElem? hq'))]
            exact e25 _ _ hl
          · have hj' : j = cs.length := by
              have := (List.getElem?_eq_some_iff.mp hx).1
              rw [List.length_append, List.length_singleton] at this
              omega
            subst hj'
            rw [List.getElem?_append_right (Nat.le_refl _), Nat.sub_self] at hx
            have ex := Option.some.inj hx
            refine ⟨q, by rw [List.getElem?_append_right (by rw [hcs.len]; exact Nat.le_refl _), hcs.len, Nat.sub_self]; rfl, ?_⟩
            rw [upd_ne hqf, ← ex]
            exact h5
        · exact List.nodup_append.mpr ⟨nd, by simp, fun z hz t ht => by rw [List.mem_singleton] at ht; subst ht; exact fun e => hqq (by rw [← e]; exact hz)⟩
        · simp only [List.mem_append, List.mem_singleton, not_or]; exact ⟨hfq, fun e => hqf e.symm⟩
        · simp only [List.mem_append, List.mem_singleton, not_or]; exact ⟨hpq, fun e => hqp e.symm⟩
        · intro z hz
          rcases List.mem_append.mp hz with m1 | m1
          · exact hqn z m1
          · rw [List.mem_singleton] at m1; rw [m1]; exact hqH
      · obtain ⟨hpl, epl⟩ := put_some (of_decide_eq_false hb)
        rw [epl] at hlen' hgood' heach' ⊢
        generalize placeOf n cs y = pl at *
        obtain ⟨q, hq, hl⟩ := hcs.at_ pl _ (List.getElem?_eq_getElem hpl)
        have hqm : q ∈ qs := List.mem_of_getElem? hq
        have e24 := e3.trans e4
        have hget : cs.getD pl ([], 0) = cs[pl] := by rw [List.getD_eq_getElem?_getD, List.getElem?_eq_getElem hpl]; rfl
        refine s_app (l := q) (xs := ni cs[pl].1) (e24 _ _ hl) (ev_op (ev_var rfl) (ev_var rfl) (rv_ixL (sq_of (e24 _ _ hcs.lst)) (atI_nat' (by rw [List.getElem?_map, hq]; rfl)))) (ev_var rfl) (by rw [ni_len]; have := heach _ (List.getElem_mem hpl); omega) fun H5 e5 => ?_
        have e25 := e24.trans e5
        refine ⟨(e2.trans e25).mut (hqn q hqm), by rw [upd_ne (fun e => hpq (by rw [e]; exact hqm))]; exact e25 _ _ hp2, hpf, hpn, ⟨qs, ⟨by rw [upd_ne (fun e => hfq (by rw [e]; exact hqm))]; exact e25 _ _ hcs.lst, by rw [List.length_set]; exact hcs.len, fun j x hx => ?_⟩, nd, hfq, hpq, hqn⟩, hlen', hgood', heach', _, _, rfl⟩
        by_cases hj : j = pl
        · subst hj
          rw [List.getElem?_set_self hpl] at hx
          have ex := Option.some.inj hx
          refine ⟨q, hq, ?_⟩
          rw [upd_same, ← ex, hget, ni_app]
          rfl
        · rw [List.getElem?_set_ne (fun e => hj e.symm)] at hx
          obtain ⟨q', hq', hl'⟩ := hcs.at_ j x hx
          refine ⟨q', hq', ?_⟩
          rw [upd_ne (fun e => hj (nd_ix nd hq' (by rw [e]; exact hq)))]
          exact e25 _ _ hl'
    · rintro p σ H' ⟨e2, hp2, hpf, hpn, ⟨qs, hcs, nd, hfq, hpq, hqn⟩, hlen, hgood, heach, v1, v2, rfl⟩
      refine s_ret (ev_var rfl) fun H3 e3 => ?_
      rw [ni_len, List.take_length] at hcs
      exact k fo qs H3 hfo (e2.trans e3) (hcs.mono e3)
end
end HC

/-! ### the network's object -/
namespace HC
open PySem PySem.Spec PyProof.Rows L2 Evl
def nf (g : Nat) (l : Addr) : List (Str × V) := [("grade_count", .int ((g : Nat) : Int)), ("users", .ref l)]
theorem lk_here {k : Str} {v : V} {r : List (Str × V)} : List.lookup k ((k, v) :: r) = some v := by
  have e : (k == k) = true := beq_self_eq_true k
  simp only [List.lookup, e]
theorem lk_past {k g : Str} {v : V} {r : List (Str × V)} (h : (k == g) = false) : List.lookup k ((g, v) :: r) = List.lookup k r := by
  simp only [List.lookup, h]
theorem put_here {f : Str} {v x : V} {r : List (Str × V)} : putF f v ((f, x) :: r) = (f, v) :: r := if_pos rfl
theorem put_past {f g : Str} {v x : V} {r : List (Str × V)} (h : ¬ g = f) : putF f v ((g, x) :: r) = (g, x) :: putF f v r := if_neg h
theorem nf_g (g : Nat) (l : Addr) : (nf g l).lookup ("grade_count" : Str) = some (.int ((g : Nat) : Int)) := lk_here
theorem nf_u (g : Nat) (l : Addr) : (nf g l).lookup ("users" : Str) = some (.ref l) := (lk_past (by decide +kernel)).trans lk_here
theorem nf_no {m : Str} (g : Nat) (l : Addr) (h1 : (m == ("grade_count" : Str)) = false) (h2 : (m == ("users" : Str)) = false) : (nf g l).lookup m = none := (lk_past h1).trans ((lk_past h2).trans rfl)
theorem nf_putG (g g' : Nat) (l : Addr) : putF "grade_count" (.int ((g' : Nat) : Int)) (nf g l) = nf g' l := put_here
theorem nf_putU (g : Nat) (l l' : Addr) : putF "users" (.ref l') (nf g l) = nf g l' := (put_past (by decide +kernel)).trans (congrArg _ put_here)
theorem nf_new (l : Addr) : putF "users" (.ref l) (putF "grade_count" (.int 0) []) = nf 0 l := (put_past (by decide +kernel)).trans rfl
structure NetAt (C : Addr) (H : Hp) (a l : Addr) (n : Kqk3.Network) : Prop where
  ins : ∃ dx, H a = some (.ins C dx (nf n.gradeCount l))
  us : UsersAt H l n.users
theorem NetAt.mono {C : Addr} {H H' : Hp} {a l : Addr} {n : Kqk3.Network} (e : Ex H H') (h : NetAt C H a l n) : NetAt C H' a l n := ⟨by obtain ⟨dx, h⟩ := h.ins; exact ⟨dx, e _ _ h⟩, h.us.mono e⟩
theorem NetAt.ne {C : Addr} {H : Hp} {a l : Addr} {n : Kqk3.Network} (h : NetAt C H a l n) : l ≠ a := fun e => by
  obtain ⟨dx, h1⟩ := h.ins
  obtain ⟨as, h2⟩ := h.us
  have := h2.lst
  rw [e, h1] at this
  cases this
theorem UsersAs.erase {H H' : Hp} {l l' : Addr} {as : List Addr} {us : List Kqk3.User} (hu : UsersAs H l as us) (g : Nat) (h : H' l' = some (.lst ((as.eraseIdx g).map V.ref))) (k : ∀ p z, H p = some (.tup z) → H' p = some (.tup z)) : UsersAs H' l' (as.eraseIdx g) (us.eraseIdx g) :=
  ⟨h, by rw [List.length_eraseIdx, List.length_eraseIdx, hu.len], fun i x hx => by
    rw [List.getElem?_eraseIdx] at hx ⊢
    by_cases hlt : i < g
    · rw [if_pos hlt] at hx ⊢
      obtain ⟨p, hp, ht⟩ := hu.at_ i x hx
      exact ⟨p, hp, k _ _ ht⟩
    · rw [if_neg hlt] at hx ⊢
      obtain ⟨p, hp, ht⟩ := hu.at_ (i + 1) x hx
      exact ⟨p, hp, k _ _ ht⟩⟩
/-- all but the network's object and its list stand -/
def Fr (H H' : Hp) (a l : Addr) : Prop := ∀ b o, H b = some o → b ≠ a → b ≠ l → H' b = some o
theorem exfr {H H' : Hp} (e : Ex H H') (a l : Addr) : Fr H H' a l := fun b o h _ _ => e b o h
theorem Fr.ex {H0 H H' : Hp} {a l : Addr} (e : Ex H0 H) (f : Fr H H' a l) : Fr H0 H' a l := fun b o h h1 h2 => f b o (e b o h) h1 h2
theorem Fr.then {H H1 H' : Hp} {a l : Addr} (f : Fr H H1 a l) (e : Ex H1 H') : Fr H H' a l := fun b o h h1 h2 => e b o (f b o h h1 h2)
/-- free before, where only those two changed -/
theorem Fr.nw {H H' : Hp} {a l p : Addr} (f : Fr H H' a l) (h : H' p = none) : Fr H H' a l ∧ ∀ b o, H b = some o → b ≠ a → b ≠ l → b ≠ p := ⟨f, fun b o hb h1 h2 => ne_of_none (f b o hb h1 h2) h⟩
def rep (s : Option Kqk3.Network) : Kqk3.Network := s.getD ⟨0, []⟩
/-- what is answered, as the list's items -/
def ans (s : Option Kqk3.Network) (q : Kqk3.Request) : List V := (Kqk3Neutral.fields (Kqk3.step s q).2).map V.int
/-- none of what stands, but perhaps those two -/
def Nw (H : Hp) (a l p : Addr) : Prop := ∀ b o, H b = some o → b ≠ a → b ≠ l → b ≠ p
/-- the ends of an operation that may change the network -/
def Res (C : Addr) (H : Hp) (a l : Addr) (s : Option Kqk3.Network) (q : Kqk3.Request) (Q : VK) : Prop := ∀ p H' l', Fr H H' a l → (l' = l ∨ H l' = none) → Nw H a l p → H' p = some (.lst (ans s q)) → NetAt C H' a l' (rep (Kqk3.step s q).1) → Q (.ref p) H'
theorem Res.at {C : Addr} {H H1 : Hp} {a l : Addr} {s : Option Kqk3.Network} {q : Kqk3.Request} {Q : VK} (k : Res C H a l s q Q) (e : Ex H H1) : Res C H1 a l s q Q :=
  fun p H' l' f hl hp h1 h2 => k p H' l' (f.ex e) (hl.imp id (fresh_back e)) (fun b o h => hp b o (e b o h)) h1 h2
/-- an operation that changes nothing -/
theorem Res.pure {C : Addr} {H : Hp} {a l : Addr} {s : Option Kqk3.Network} {q : Kqk3.Request} {Q : VK} (k : Res C H a l s q Q) (hN : NetAt C H a l (rep s)) (e : (Kqk3.step s q).1 = s) : RetL (ans s q) H Q :=
  fun p H2 hp e2 h2 => k p H2 l (exfr e2 a l) (.inl rfl) (fun b o hb _ _ => ne_of_none hb hp) h2 (by rw [e]; exact hN.mono e2)
theorem retl {xs ys : List V} {H H1 : Hp} {Q : VK} (k : RetL xs H Q) (e : Ex H H1) (h : xs = ys) : RetL ys H1 Q := by
  subst h
  exact fun p H2 hp e2 h2 => k.go e hp e2 h2
section
variable {K : PySem.W.Frag} {mg : Str → Option Value} {C aW aA : Addr} {σ : L2.St} {H : Hp} {ta tb te : TE} {D : Ends} {tz : TS}
theorem ev_gc {a l : Addr} {n : Kqk3.Network} (T : Txt K mg C aW aA) (hN : NetAt C H a l n) (h : Ev ta σ H (.ref a)) : Ev (tFld K ta "grade_count") σ H (.int ((n.gradeCount : Nat) : Int)) := by
  obtain ⟨dx, hi⟩ := hN.ins
  exact ev_fld h hi T.cl T.nG (nf_g _ _)
theorem ev_us {a l : Addr} {n : Kqk3.Network} (T : Txt K mg C aW aA) (hN : NetAt C H a l n) (h : Ev ta σ H (.ref a)) : Ev (tFld K ta "users") σ H (.ref l) := by
  obtain ⟨dx, hi⟩ := hN.ins
  exact ev_fld h hi T.cl T.nU (nf_u _ _)
theorem s_retCall {sp : Sp} {E : XK} {ta : TA} {vs : List V} (h : EvA ta σ H vs) (k : ∀ H1, Ex H H1 → sp (vs ++ []) H1 D.rt E) : tRet (tCall sp [] E ta) D σ H := h H (Ex.refl H) _ k
theorem q_meth {sp : Sp} {E : XK} {m : Str} {te : TE} {ta : TA} {vs : List V} {a l : Addr} {n : Kqk3.Network} (hN : NetAt C H a l n) (ho : Ev te σ H (.ref a)) (hm1 : (m == ("grade_count" : Str)) = false) (hm2 : (m == ("users" : Str)) = false) (h : EvA ta σ H vs)
    (k : ∀ H1, Ex H H1 → sp (.ref a :: (vs ++ [])) H1 (fun _ H2 => tz D σ H2) E) : tSeq (tDrop (tMeth C m sp [] E te ta)) tz D σ H := ho H (Ex.refl H) _ fun H1 e1 => by
  obtain ⟨dx, hi⟩ := hN.ins
  exact ⟨a, dx, _, rfl, e1 _ _ hi, nf_no _ _ hm1 hm2, h H1 e1 _ fun H2 e2 => k H2 (e1.trans e2)⟩
theorem s_setLU {l : Addr} {xs vs : List V} {j : Nat} (hl : H l = some (.lst xs)) (h : EvU te σ H vs) (ho : Ev ta σ H (.ref l)) (hi : Ev tb σ H (.int (j : Int))) (hj : j < xs.length) (k : ∀ p H1, H p = none → Ex H H1 → H1 p = some (.tup vs) → D.nx σ (upd H1 l (.lst (xs.set j (.ref p))))) :
    tAsg te (gSub ta tb rSetL) D σ H := h H (Ex.refl H) _ fun p H1 hp e1 h1 => ho H1 e1 _ fun H2 e2 => hi H2 (e1.trans e2) _ fun H3 e3 =>
  ⟨l, xs, (j : Int), j, rfl, rfl, ((e1.trans e2).trans e3) l _ hl, ixN_nat hj, k p H3 hp ((e1.trans e2).trans e3) (e3 _ _ (e2 _ _ h1))⟩
end
def spInit (C : Addr) : Sp := fun vs H Q _ => ∃ (p dx : Addr), vs = [.ref p] ∧ H p = some (.ins C dx []) ∧ ∀ H' l, (∀ b o, H b = some o → b ≠ p → H' b = some o) → H l = none → NetAt C H' p l ⟨0, []⟩ → Q .non H'
def spBegin (C : Addr) : Sp := fun vs H Q _ => ∃ (a l : Addr) (n : Kqk3.Network) (g : Nat), vs = [.ref a, .int ((g : Nat) : Int)] ∧ NetAt C H a l n ∧ ∀ H' l', Fr H H' a l → H l' = none → NetAt C H' a l' ⟨g, []⟩ → Q .non H'
def spEnter (C : Addr) : Sp := fun vs H Q _ => ∃ (a l b : Addr) (n : Kqk3.Network) (u : Kqk3.User), vs = [.ref a, .ref b] ∧ NetAt C H a l n ∧ n.users.length < 8 ∧ H b = some (.tup (uv u)) ∧ ∀ H' l', Fr H H' a l → H l' = none → NetAt C H' a l' { n with users := n.users ++ [u] } → Q .non H'
def spLeave (C : Addr) : Sp := fun vs H Q _ => ∃ (a l : Addr) (n : Kqk3.Network) (k : Nat), vs = [.ref a, .int ((k : Nat) : Int)] ∧ NetAt C H a l n ∧ n.users.length ≤ 8 ∧ ∀ H' l', Fr H H' a l → H l' = none → NetAt C H' a l' { n with users := n.users.eraseIdx k } → Q .non H'
def spRevalue (C : Addr) : Sp := fun vs H Q _ => ∃ (a l : Addr) (n : Kqk3.Network) (k v : Nat), vs = [.ref a, .int ((k : Nat) : Int), .int ((v : Nat) : Int)] ∧ NetAt C H a l n ∧ k < n.users.length ∧ ∀ H', Fr H H' a l → NetAt C H' a l { n with users := n.users.set k { Kqk3.user n k with value := v } } → Q .non H'
def pHas (C : Addr) : List V → Hp → V → Prop := fun vs H z => ∃ (a l : Addr) (n : Kqk3.Network) (i : Nat), vs = [.ref a, .int ((i : Nat) : Int)] ∧ NetAt C H a l n ∧ z = .bl (decide (i < n.users.length))
section
variable {P : Program} {w : World} {K : PySem.W.Frag} {mg : Str → Option Value} {base : Heap} {f C aW aA : Addr} {fd : FuncData}
abbrev s_Network_init : Stmt := inClass (top 20) 0
theorem sc_Network_init : FnScope ["self"] ["self"] (defScope s_Network_init) := ⟨rfl, rfl, rfl, by decide +kernel, rfl, by decide +kernel, by decide +kernel⟩
theorem ok_init (F : Fun K "__init__" "Network.__init__" s_Network_init f fd) (T : Txt K mg C aW aA) : FnOk P w K mg base CX0 1 f fd ["self"] (spInit C) := by
  refine F.ok sc_Network_init (fun vs H Q E h => ?_) (fun cdv A outer s H vs Q E hr h => ?_)
  · obtain ⟨p, dx, rfl, _⟩ := h
    rfl
  · obtain ⟨p, dx, rfl, hp, k⟩ := h
    refine ⟨_, (pss_cons (ps_fld (pv 0) pe_int rfl) (pss_one (ps_fld (pv 0) (pe_lst pa_nil) rfl))), ?_⟩
    refine ⟨_, rfl, p, C, dx, [], rfl, hp, T.cl, T.nG, (by show 0 < 1000; decide), ?_⟩
    refine ⟨Nat.zero_le _, fun l hl => ?_⟩
    have hlp : l ≠ p := fun e => by rw [e, upd_same] at hl; cases hl
    have hl0 : H l = none := by rw [upd_ne hlp] at hl; exact hl
    refine ⟨_, rfl, p, C, dx, _, rfl, by rw [upd_ne hlp.symm]; exact upd_same, T.cl, T.nU, (by show 1 < 1000; decide), ?_⟩
    refine k _ l (fun b o hb hn => ?_) hl0 ⟨⟨dx, ?_⟩, [], ?_⟩
    · have hbl : b ≠ l := fun e => by rw [e, hl0] at hb; cases hb
      rw [upd_ne hn, upd_ne hbl, upd_ne hn]
      exact hb
    · rw [upd_same, nf_new]
    · exact ⟨by rw [upd_ne hlp]; exact upd_same, rfl, fun i u hu => by simp at hu⟩
abbrev s_Network_begin : Stmt := inClass (top 20) 1
theorem sc_Network_begin : FnScope ["self", "grade_count"] ["self", "grade_count"] (defScope s_Network_begin) := ⟨rfl, rfl, rfl, by decide +kernel, rfl, by decide +kernel, by decide +kernel⟩
theorem ok_begin (F : Fun K "begin" "Network.begin" s_Network_begin f fd) (T : Txt K mg C aW aA) : FnOk P w K mg base CX0 1 f fd ["self", "grade_count"] (spBegin C) := by
  refine F.ok sc_Network_begin (fun vs H Q E h => ?_) (fun cdv A outer s H vs Q E hr h => ?_)
  · obtain ⟨a, l, n, g, rfl, _⟩ := h
    rfl
  · obtain ⟨a, l, n, g, rfl, ⟨⟨dx, hi⟩, hu⟩, k⟩ := h
    refine ⟨_, (pss_cons (ps_fld (pv 0) (pv 1) rfl) (pss_one (ps_fld (pv 0) (pe_lst pa_nil) rfl))), ?_⟩
    refine ⟨_, rfl, _, rfl, a, C, dx, _, rfl, hi, T.cl, T.nG, (by show 2 < 1000; decide), ?_⟩
    refine ⟨Nat.zero_le _, fun l' hl => ?_⟩
    have hlp : l' ≠ a := fun e => by rw [e, upd_same] at hl; cases hl
    have hl0 : H l' = none := by rw [upd_ne hlp] at hl; exact hl
    refine ⟨_, rfl, a, C, dx, _, rfl, by rw [upd_ne hlp.symm]; exact upd_same, T.cl, T.nU, (by show 2 < 1000; decide), ?_⟩
    refine k _ l' (fun b o hb hn _ => ?_) hl0 ⟨⟨dx, ?_⟩, [], ?_⟩
    · have hbl : b ≠ l' := fun e => by rw [e, hl0] at hb; cases hb
      rw [upd_ne hn, upd_ne hbl, upd_ne hn]
      exact hb
    · rw [upd_same, nf_putG, nf_putU]
    · exact ⟨by rw [upd_ne hlp]; exact upd_same, rfl, fun i u hu => by simp at hu⟩
abbrev s_Network_enter : Stmt := inClass (top 20) 2
theorem sc_Network_enter : FnScope ["self", "user"] ["self", "user"] (defScope s_Network_enter) := ⟨rfl, rfl, rfl, by decide +kernel, rfl, by decide +kernel, by decide +kernel⟩
theorem ok_enter (F : Fun K "enter" "Network.enter" s_Network_enter f fd) (T : Txt K mg C aW aA) : FnOk P w K mg base CX0 1 f fd ["self", "user"] (spEnter C) := by
  refine F.ok sc_Network_enter (fun vs H Q E h => ?_) (fun cdv A outer s H vs Q E hr h => ?_)
  · obtain ⟨a, l, b, n, u, rfl, _⟩ := h
    rfl
  · obtain ⟨a, l, b, n, u, rfl, hN, h8, hb, k⟩ := h
    obtain ⟨dx, hi⟩ := hN.ins
    obtain ⟨as, hu⟩ := hN.us
    refine ⟨_, (pss_one (ps_fld (pv 0) (pe_op op_cat (pe_fld (pv 0) rfl) (pe_lst (pa_cons (pv 1) pa_nil))) rfl)), ?_⟩
    refine el_cat (xs := as.map V.ref) (ys := [.ref b]) (ev_us T hN (ev_var rfl)) hu.lst (el_lst (ea_cons (ev_var rfl) ea_nil) (by decide : 1 ≤ 100000)) (by rw [List.length_map, hu.len]; show _ + 1 ≤ 100000; omega) H (Ex.refl H) _ fun l' H1 hl e1 h1 => ?_
    refine ⟨_, rfl, a, C, dx, _, rfl, e1 _ _ hi, T.cl, T.nU, (by show 2 < 1000; decide), ?_⟩
    have hla : l' ≠ a := fun e => by rw [e, hi] at hl; cases hl
    refine k _ l' (fun b o hb hn _ => by rw [upd_ne hn]; exact e1 _ _ hb) hl ⟨⟨dx, by rw [upd_same, nf_putU]⟩, as ++ [b], by rw [upd_ne hla, h1, List.map_append]; rfl, by rw [List.length_append, List.length_append, hu.len]; rfl, fun i x hx => ?_⟩
    by_cases hlt : i < n.users.length
    · rw [List.getElem?_append_left hlt] at hx
      obtain ⟨p, hp, ht⟩ := hu.at_ i x hx
      refine ⟨p, by rw [List.getElem?_append_left (by rw [hu.len]; exact hlt)]; exact hp, ?_⟩
      rw [upd_ne (fun e => by rw [e, hi] at ht; cases ht)]
      exact e1 _ _ ht
    · have hj : i = n.users.length := by
        have := (List.getElem?_eq_some_iff.mp hx).1
        rw [List.length_append, List.length_singleton] at this
        omega
      subst hj
      rw [List.getElem?_append_right (Nat.le_refl _), Nat.sub_self] at hx
      have ex := Option.some.inj hx
      refine ⟨b, by rw [List.getElem?_append_right (by rw [hu.len]; exact Nat.le_refl _), hu.len, Nat.sub_self]; rfl, ?_⟩
      rw [upd_ne (fun e => by rw [e, hi] at hb; cases hb), ← ex]
      exact e1 _ _ hb
abbrev s_Network_leave : Stmt := inClass (top 20) 3
theorem sc_Network_leave : FnScope ["self", "number"] ["self", "number"] (defScope s_Network_leave) := ⟨rfl, rfl, rfl, by decide +kernel, rfl, by decide +kernel, by decide +kernel⟩
theorem ok_leave (F : Fun K "leave" "Network.leave" s_Network_leave f fd) (T : Txt K mg C aW aA) (D_without : DefAt P w K mg base "without" 1 ["users", "number"] (SpOfL pWithout)) : FnOk P w K mg base CX0 2 f fd ["self", "number"] (spLeave C) := by
  refine F.ok sc_Network_leave (fun vs H Q E h => ?_) (fun cdv A outer s H vs Q E hr h => ?_)
  · obtain ⟨a, l, n, g, rfl, _⟩ := h
    rfl
  · obtain ⟨a, l, n, g, rfl, hN, h8, k⟩ := h
    obtain ⟨dx, hi⟩ := hN.ins
    obtain ⟨as, hu⟩ := hN.us
    refine ⟨_, (pss_one (ps_fld (pv 0) (pe_def D_without (hr.mono (by decide)) rfl (pa_cons (pe_fld (pv 0) rfl) (pa_cons (pv 1) pa_nil))) rfl)), ?_⟩
    refine el_call (xs := (as.eraseIdx g).map V.ref) (ea_cons (ev_us T hN (ev_var rfl)) (ea_cons (ev_var rfl) ea_nil)) (spl fun H1 e1 => ⟨l, as, g, rfl, e1 _ _ hu.lst, by rw [hu.len]; exact h8, rfl⟩) H (Ex.refl H) _ fun l' H1 hl e1 h1 => ?_
    refine ⟨_, rfl, a, C, dx, _, rfl, e1 _ _ hi, T.cl, T.nU, (by show 2 < 1000; decide), ?_⟩
    have hla : l' ≠ a := fun e => by rw [e, hi] at hl; cases hl
    exact k _ l' (fun b o hb hn _ => by rw [upd_ne hn]; exact e1 _ _ hb) hl ⟨⟨dx, by rw [upd_same, nf_putU]⟩, as.eraseIdx g, hu.erase g (by rw [upd_ne hla, h1]) fun p z hz => by rw [upd_ne (fun e => by rw [e, hi] at hz; cases hz)]; exact e1 _ _ hz⟩
abbrev s_Network_revalue : Stmt := inClass (top 20) 4
theorem sc_Network_revalue : FnScope ["self", "number", "value", "supply_grade", "return_grade", "before"] ["self", "number", "value"] (defScope s_Network_revalue) := ⟨rfl, rfl, rfl, by decide +kernel, rfl, by decide +kernel, by decide +kernel⟩
theorem ok_revalue (F : Fun K "revalue" "Network.revalue" s_Network_revalue f fd) (T : Txt K mg C aW aA) : FnOk P w K mg base CX0 1 f fd ["self", "number", "value"] (spRevalue C) := by
  refine F.ok sc_Network_revalue (fun vs H Q E h => ?_) (fun cdv A outer s H vs Q E hr h => ?_)
  · obtain ⟨a, l, n, i, v, rfl, _⟩ := h
    rfl
  · obtain ⟨a, l, n, i, v, rfl, hN, hlt, k⟩ := h
    refine ⟨_, (pss_cons (ps_asg (pe_ix ix_list (pe_fld (pv 0) rfl) (pv 1) (fun _ _ => rfl)) (pg_tup rfl (pgs_cons (pg_name (i := 3) sc_Network_revalue.nd rfl (Or.inl rfl)) (pgs_cons (pg_name (i := 4) sc_Network_revalue.nd rfl (Or.inl rfl)) (pgs_cons (pg_name (i := 5) sc_Network_revalue.nd rfl (Or.inl rfl)) pgs_nil))))) (pss_one (ps_asg (pe_tup (pa_cons (pv 3) (pa_cons (pv 4) (pa_cons (pv 2) pa_nil)))) (pg_sub (pe_fld (pv 0) rfl) (pv 1) set_list)))), ?_⟩
    obtain ⟨q, hq, ht⟩ := ev_userAt (K := K) (σ := start ["self", "number", "value", "supply_grade", "return_grade", "before"] [.ref a, .int ((i : Nat) : Int), .int ((v : Nat) : Int)]) (ta := tFld K (tVar 0) "users") (tb := tVar 1) (i := i) (ev_us T hN (ev_var rfl)) (ev_var rfl) hN.us hlt
    refine q_tup3 hq (st_of ht) fun H1 e1 => ?_
    have hN1 := hN.mono e1
    obtain ⟨dx, hi⟩ := hN1.ins
    obtain ⟨as, hu⟩ := hN1.us
    refine s_setLU (vs := uv { Kqk3.user n i with value := v }) (j := i) hu.lst (eu_tup (ea_cons (ev_var rfl) (ea_cons (ev_var rfl) (ea_cons (ev_var rfl) ea_nil))) (by decide : 3 ≤ 100000)) (ev_us T hN1 (ev_var rfl)) (ev_var rfl) (by rw [List.length_map, hu.len]; exact hlt) fun p H2 hp e2 h2 => ?_
    have hla := hN1.ne
    refine k _ (fun b o hb _ hn => by rw [upd_ne hn]; exact e2 _ _ (e1 _ _ hb)) ⟨⟨dx, by rw [upd_ne hla.symm]; exact e2 _ _ hi⟩, as.set i p, by rw [upd_same, List.map_set], by rw [List.length_set, List.length_set, hu.len], fun j x hx => ?_⟩
    have hx : (n.users.set i { Kqk3.user n i with value := v })[j]? = some x := hx
    by_cases hj : j = i
    · subst hj
      rw [List.getElem?_set_self hlt] at hx
      have ex := Option.some.inj hx
      refine ⟨p, List.getElem?_set_self (by rw [hu.len]; exact hlt), ?_⟩
      rw [upd_ne (fun e => by rw [e, hu.lst] at hp; cases hp), ← ex]
      exact h2
    · rw [List.getElem?_set_ne (fun e => hj e.symm)] at hx
      obtain ⟨p', hp', ht'⟩ := hu.at_ j x hx
      refine ⟨p', by rw [List.getElem?_set_ne (fun e => hj e.symm)]; exact hp', ?_⟩
      rw [upd_ne (fun e => by rw [e, hu.lst] at ht'; cases ht')]
      exact e2 _ _ ht'
abbrev s_has_user : Stmt := top 38
theorem sc_has_user : FnScope ["network", "number"] ["network", "number"] (defScope s_has_user) := ⟨rfl, rfl, rfl, by decide +kernel, rfl, by decide +kernel, by decide +kernel⟩
theorem ok_has_user (F : Fun K "has_user" "has_user" s_has_user f fd) (T : Txt K mg C aW aA) : FnOk P w K mg base CX0 1 f fd ["network", "number"] (SpOf (pHas C)) := by
  refine F.ok sc_has_user (fun vs H Q E h => ?_) (fun cdv A outer s H vs Q E hr h => ?_)
  · obtain ⟨z, ⟨a, l, n, i, rfl, _⟩, _⟩ := h
    rfl
  · obtain ⟨z, ⟨a, l, n, i, rfl, hN, rfl⟩, k⟩ := h
    refine ⟨_, (pss_one (ps_ret (pe_cmpR op_lt (pv 1) (pe_callB cr_len (by rfl) T.n_len PySem.boot_len (pa_cons (pe_fld (pv 0) rfl) pa_nil)) (nomark _)))), ?_⟩
    exact s_ret (ev_op (ev_var rfl) (ev_lenU (ev_us T hN (ev_var rfl)) hN.us) (rv_int (congrArg V.bl (decide_eq_decide.mpr Int.ofNat_lt)))) k
end
end HC

/-! ### the operations that change the network -/
namespace HC
open PySem PySem.Spec PyProof.Rows L2 Evl
theorem st_create (s : Option Kqk3.Network) (g : Nat) : Kqk3.step s (.create g) = if g < 1 ∨ 12 < g then (s, .value (-22)) else (some ⟨g, []⟩, .value 0) := by
  cases s <;> rfl
theorem st_add (n : Kqk3.Network) (a b v : Nat) : Kqk3.step (some n) (.addUser a b v) = if a ≤ b ∨ n.gradeCount < a ∨ 100 < v then (some n, .value (-22)) else if 8 ≤ n.users.length then (some n, .value (-28)) else (some { n with users := n.users ++ [⟨a, b, v⟩] }, .value n.users.length) := rfl
theorem st_remove (n : Kqk3.Network) (i : Nat) : Kqk3.step (some n) (.removeUser i) = if n.users.length ≤ i then (some n, .value (-2)) else (some { n with users := n.users.eraseIdx i }, .value (n.users.length - 1 : Nat)) := rfl
theorem st_set (n : Kqk3.Network) (i v : Nat) : Kqk3.step (some n) (.setValue i v) = if n.users.length ≤ i then (some n, .value (-2)) else if 100 < v then (some n, .value (-22)) else (some { n with users := n.users.set i { Kqk3.user n i with value := v } }, .value (Kqk3.user n i).value) := rfl
theorem ans_of {s s' : Option Kqk3.Network} {q : Kqk3.Request} {v : Int} (h : Kqk3.step s q = (s', .value v)) : ans s q = [.int v] := by
  unfold ans; rw [h]; rfl
theorem fst_of {s s' : Option Kqk3.Network} {q : Kqk3.Request} {v : Kqk3.Result} (h : Kqk3.step s q = (s', v)) : (Kqk3.step s q).1 = s' := by rw [h]
def spCreate (C : Addr) : Sp := fun vs H Q _ => ∃ (a l : Addr) (s : Option Kqk3.Network) (g : Nat), vs = [.ref a, .int ((g : Nat) : Int)] ∧ NetAt C H a l (rep s) ∧ Res C H a l s (.create g) Q
def spAdd (C : Addr) : Sp := fun vs H Q _ => ∃ (a l : Addr) (n : Kqk3.Network) (x y v : Nat), vs = [.ref a, .int ((x : Nat) : Int), .int ((y : Nat) : Int), .int ((v : Nat) : Int)] ∧ NetAt C H a l n ∧ Ok n ∧ Res C H a l (some n) (.addUser x y v) Q
def spRemove (C : Addr) : Sp := fun vs H Q _ => ∃ (a l : Addr) (n : Kqk3.Network) (i : Nat), vs = [.ref a, .int ((i : Nat) : Int)] ∧ NetAt C H a l n ∧ Ok n ∧ Res C H a l (some n) (.removeUser i) Q
def spSet (C : Addr) : Sp := fun vs H Q _ => ∃ (a l : Addr) (n : Kqk3.Network) (i v : Nat), vs = [.ref a, .int ((i : Nat) : Int), .int ((v : Nat) : Int)] ∧ NetAt C H a l n ∧ Ok n ∧ Res C H a l (some n) (.setValue i v) Q
def pList (C : Addr) : List V → Hp → List V → Prop := fun vs H xs => ∃ (a l : Addr) (n : Kqk3.Network), vs = [.ref a] ∧ NetAt C H a l n ∧ Ok n ∧ xs = ans (some n) .listUsers
/-- the end of an operation that changed the network: its answer's list is new -/
theorem Res.go {C : Addr} {H H1 H2 : Hp} {a l l' p : Addr} {s s' : Option Kqk3.Network} {q : Kqk3.Request} {v : Int} {Q : VK} (k : Res C H a l s q Q) (h : Kqk3.step s q = (s', .value v)) (f : Fr H H1 a l) (hl : l' = l ∨ H l' = none) (hN : NetAt C H1 a l' (rep s'))
    (hp : H1 p = none) (e : Ex H1 H2) (h2 : H2 p = some (.lst [.int v])) : Q (.ref p) H2 :=
  k p H2 l' (f.then e) hl (f.nw hp).2 (by rw [ans_of h]; exact h2) (by rw [fst_of h]; exact hN.mono e)
section
variable {P : Program} {w : World} {K : PySem.W.Frag} {mg : Str → Option Value} {base : Heap} {f C aW aA : Addr} {fd : FuncData}
abbrev s_create : Stmt := top 39
theorem sc_create : FnScope ["network", "grade_count"] ["network", "grade_count"] (defScope s_create) := ⟨rfl, rfl, rfl, by decide +kernel, rfl, by decide +kernel, by decide +kernel⟩
theorem ok_create (F : Fun K "create" "create" s_create f fd) (T : Txt K mg C aW aA) (D_begin : MethAt P w K mg base C "begin" 1 ["self", "grade_count"] (spBegin C)) : FnOk P w K mg base CX0 2 f fd ["network", "grade_count"] (spCreate C) := by
  refine F.ok sc_create (fun vs H Q E h => ?_) (fun cdv A outer s H vs Q E hr h => ?_)
  · obtain ⟨a, l, s, g, rfl, _⟩ := h
    rfl
  · obtain ⟨a, l, s, g, rfl, hN, k⟩ := h
    obtain ⟨fM, fdM, FM, mM, bM⟩ := D_begin.ex
    refine ⟨_, (pss_cons (ps_if (PW.pt (pw_or (pt_cmpR op_lt (pv 1) pe_int (nomark _)) (pw_or1 (pt_cmpR op_gt (pv 1) (pe_k rfl T.k_MOST_GRADES) (nomark _))))) (pss_one (ps_ret (pe_lst (pa_cons (pe_k rfl T.k_BAD_RANGE) pa_nil)))) pss_nil) (pss_cons (ps_expr (pe_meth (pv 0) T.cl mM FM (hr.mono (by decide)) bM .nil pass0 (pa_cons (pv 1) pa_nil))) (pss_one (ps_ret (pe_lst (pa_cons pe_int pa_nil)))))), ?_⟩
    refine q_when (b := decide (g < 1) || decide (12 < g)) (et_or (et_test (ev_op (ev_var rfl) ev_c (rv_int (congrArg V.bl (decide_eq_decide.mpr (by omega)))))) (fun _ => et_test (ev_op (ev_var rfl) ev_c (rv_int (congrArg V.bl (decide_eq_decide.mpr (by omega))))))) (fun hb H1 e1 => ?_) (fun hb H1 e1 => ?_)
    · have hb : g < 1 ∨ 12 < g := by simpa using hb
      have e := st_create s g
      rw [if_pos hb] at e
      exact s_retL (el_lst (ea_cons ev_c ea_nil) (by decide : 1 ≤ 100000)) (retl (k.pure hN (fst_of e)) e1 (ans_of e))
    · have hb : ¬ (g < 1 ∨ 12 < g) := by simpa using hb
      have e := st_create s g
      rw [if_neg hb] at e
      refine q_meth (hN.mono e1) (ev_var rfl) (by decide +kernel) (by decide +kernel) (ea_cons (ev_var rfl) ea_nil) fun H2 e2 => ?_
      refine ⟨a, l, rep s, g, rfl, (hN.mono e1).mono e2, fun H3 l' f3 hl h3 => ?_⟩
      refine s_retL (el_lst (ea_cons ev_c ea_nil) (by decide : 1 ≤ 100000)) fun p H4 hp e4 h4 => ?_
      exact k.go e (f3.ex (e1.trans e2)) (.inr (fresh_back (e1.trans e2) hl)) h3 hp e4 h4
abbrev s_add_user : Stmt := top 40
theorem sc_add_user : FnScope ["network", "supply_grade", "return_grade", "value"] ["network", "supply_grade", "return_grade", "value"] (defScope s_add_user) := ⟨rfl, rfl, rfl, by decide +kernel, rfl, by decide +kernel, by decide +kernel⟩
theorem ok_add_user (F : Fun K "add_user" "add_user" s_add_user f fd) (T : Txt K mg C aW aA) (D_enter : MethAt P w K mg base C "enter" 1 ["self", "user"] (spEnter C)) : FnOk P w K mg base CX0 2 f fd ["network", "supply_grade", "return_grade", "value"] (spAdd C) := by
  refine F.ok sc_add_user (fun vs H Q E h => ?_) (fun cdv A outer s H vs Q E hr h => ?_)
  · obtain ⟨a, l, n, x, y, v, rfl, _⟩ := h
    rfl
  · obtain ⟨a, l, n, x, y, v, rfl, hN, ok, k⟩ := h
    obtain ⟨fM, fdM, FM, mM, bM⟩ := D_enter.ex
    refine ⟨_, (pss_cons (ps_if (PW.pt (pw_or (pt_cmpR op_le (pv 1) (pv 2) (nomark _)) (pw_or (pt_cmpR op_gt (pv 1) (pe_fld (pv 0) rfl) (nomark _)) (pw_or1 (pt_cmpR op_gt (pv 3) (pe_k rfl T.k_MOST_VALUE) (nomark _)))))) (pss_one (ps_ret (pe_lst (pa_cons (pe_k rfl T.k_BAD_RANGE) pa_nil)))) pss_nil) (pss_cons (ps_if (pt_cmpR op_ge (pe_callB cr_len (by rfl) T.n_len PySem.boot_len (pa_cons (pe_fld (pv 0) rfl) pa_nil)) (pe_k rfl T.k_MOST_USERS) (nomark _)) (pss_one (ps_ret (pe_lst (pa_cons (pe_k rfl T.k_FULL) pa_nil)))) pss_nil) (pss_cons (ps_expr (pe_meth (pv 0) T.cl mM FM (hr.mono (by decide)) bM .nil pass0 (pa_cons (pe_tup (pa_cons (pv 1) (pa_cons (pv 2) (pa_cons (pv 3) pa_nil)))) pa_nil))) (pss_one (ps_ret (pe_lst (pa_cons (pe_op op_sub (pe_callB cr_len (by rfl) T.n_len PySem.boot_len (pa_cons (pe_fld (pv 0) rfl) pa_nil)) pe_int) pa_nil))))))), ?_⟩
    refine q_when (b := decide (x ≤ y) || (decide (n.gradeCount < x) || decide (100 < v))) (et_or (et_test (ev_op (ev_var rfl) (ev_var rfl) (rv_int (congrArg V.bl (decide_eq_decide.mpr (by omega))))))
      (fun _ => et_or (et_test (ev_op (ev_var rfl) (ev_gc T hN (ev_var rfl)) (rv_int (congrArg V.bl (decide_eq_decide.mpr (by omega)))))) (fun _ => et_test (ev_op (ev_var rfl) ev_c (rv_int (congrArg V.bl (decide_eq_decide.mpr (by omega)))))))) (fun hb H1 e1 => ?_) (fun hb H1 e1 => ?_)
    · have hb : x ≤ y ∨ n.gradeCount < x ∨ 100 < v := by simpa using hb
      have e := st_add n x y v
      rw [if_pos hb] at e
      exact s_retL (el_lst (ea_cons ev_c ea_nil) (by decide : 1 ≤ 100000)) (retl (k.pure hN (fst_of e)) e1 (ans_of e))
    · have hb : ¬ (x ≤ y ∨ n.gradeCount < x ∨ 100 < v) := by
        simp only [Bool.or_eq_false_iff, decide_eq_false_iff_not] at hb
        omega
      refine q_when (b := decide (8 ≤ n.users.length)) (et_test (ev_op (ev_lenU (ev_us T (hN.mono e1) (ev_var rfl)) (hN.mono e1).us) ev_c (rv_int (congrArg V.bl (decide_eq_decide.mpr (by omega)))))) (fun hc H2 e2 => ?_) (fun hc H2 e2 => ?_)
      · have e := st_add n x y v
        rw [if_neg hb, if_pos (of_decide_eq_true hc)] at e
        exact s_retL (el_lst (ea_cons ev_c ea_nil) (by decide : 1 ≤ 100000)) (retl (k.pure hN (fst_of e)) (e1.trans e2) (ans_of e))
      · have hc := of_decide_eq_false hc
        have e := st_add n x y v
        rw [if_neg hb, if_neg hc] at e
        have hN2 := hN.mono (e1.trans e2)
        obtain ⟨dx, hi⟩ := hN2.ins
        refine ⟨_, rfl, a, dx, _, rfl, hi, nf_no _ _ (by decide +kernel) (by decide +kernel), ?_⟩
        refine eu_tup (vs := uv ⟨x, y, v⟩) (ea_cons (ev_var rfl) (ea_cons (ev_var rfl) (ea_cons (ev_var rfl) ea_nil))) (by decide : 3 ≤ 100000) H2 (Ex.refl H2) _ fun t H3 ht e3 h3 => ?_
        refine ⟨a, l, t, n, ⟨x, y, v⟩, rfl, hN2.mono e3, by omega, h3, fun H4 l' f4 hl h4 => ?_⟩
        have e13 := (e1.trans e2).trans e3
        refine s_retL (el_lst (ea_cons (ev_op (ev_lenU (ev_us T h4 (ev_var rfl)) h4.us) ev_c (rv_int (z := .int ((n.users.length : Nat) : Int)) (congrArg V.int ?_))) ea_nil) (by decide : 1 ≤ 100000)) fun p H5 hp e5 h5 => ?_
        · show (((n.users ++ [(⟨x, y, v⟩ : Kqk3.User)]).length : Nat) : Int) - 1 = _
          rw [List.length_append, List.length_singleton]
          omega
        · exact k.go e (f4.ex e13) (.inr (fresh_back e13 hl)) h4 hp e5 h5
abbrev s_remove_user : Stmt := top 41
theorem sc_remove_user : FnScope ["network", "number"] ["network", "number"] (defScope s_remove_user) := ⟨rfl, rfl, rfl, by decide +kernel, rfl, by decide +kernel, by decide +kernel⟩
theorem ok_remove_user (F : Fun K "remove_user" "remove_user" s_remove_user f fd) (T : Txt K mg C aW aA) (D_leave : MethAt P w K mg base C "leave" 2 ["self", "number"] (spLeave C)) (D_has_user : DefAt P w K mg base "has_user" 1 ["network", "number"] (SpOf (pHas C))) : FnOk P w K mg base CX0 3 f fd ["network", "number"] (spRemove C) := by
  refine F.ok sc_remove_user (fun vs H Q E h => ?_) (fun cdv A outer s H vs Q E hr h => ?_)
  · obtain ⟨a, l, n, i, rfl, _⟩ := h
    rfl
  · obtain ⟨a, l, n, i, rfl, hN, ok, k⟩ := h
    obtain ⟨fM, fdM, FM, mM, bM⟩ := D_leave.ex
    refine ⟨_, (pss_cons (ps_if (pt_not (pt_val (pe_def D_has_user (hr.mono (by decide)) rfl (pa_cons (pv 0) (pa_cons (pv 1) pa_nil))))) (pss_one (ps_ret (pe_lst (pa_cons (pe_k rfl T.k_NO_USER) pa_nil)))) pss_nil) (pss_cons (ps_expr (pe_meth (pv 0) T.cl mM FM (hr.mono (by decide)) bM .nil pass0 (pa_cons (pv 1) pa_nil))) (pss_one (ps_ret (pe_lst (pa_cons (pe_callB cr_len (by rfl) T.n_len PySem.boot_len (pa_cons (pe_fld (pv 0) rfl) pa_nil)) pa_nil)))))), ?_⟩
    refine q_when (b := !decide (i < n.users.length)) (et_not (et_B (ev_call (ea_cons (ev_var rfl) (ea_cons (ev_var rfl) ea_nil)) (spv fun H1 e1 => ⟨a, l, n, i, rfl, hN.mono e1, rfl⟩)))) (fun hb H1 e1 => ?_) (fun hb H1 e1 => ?_)
    · have hb : n.users.length ≤ i := by simpa using hb
      have e := st_remove n i
      rw [if_pos hb] at e
      exact s_retL (el_lst (ea_cons ev_c ea_nil) (by decide : 1 ≤ 100000)) (retl (k.pure hN (fst_of e)) e1 (ans_of e))
    · have hb : i < n.users.length := by simpa using hb
      have e := st_remove n i
      rw [if_neg (by omega)] at e
      refine q_meth (hN.mono e1) (ev_var rfl) (by decide +kernel) (by decide +kernel) (ea_cons (ev_var rfl) ea_nil) fun H2 e2 => ?_
      refine ⟨a, l, n, i, rfl, (hN.mono e1).mono e2, ok.u8, fun H3 l' f3 hl h3 => ?_⟩
      have e12 := e1.trans e2
      refine s_retL (el_lst (ea_cons (ev_is (w := .int ((n.users.length - 1 : Nat) : Int)) (ev_lenU (ev_us T h3 (ev_var rfl)) h3.us) ?_) ea_nil) (by decide : 1 ≤ 100000)) fun p H4 hp e4 h4 => ?_
      · show V.int (((n.users.eraseIdx i).length : Nat) : Int) = _
        rw [List.length_eraseIdx, if_pos hb]
      · exact k.go e (f3.ex e12) (.inr (fresh_back e12 hl)) h3 hp e4 h4
abbrev s_set_value : Stmt := top 43
theorem sc_set_value : FnScope ["network", "number", "value", "previous"] ["network", "number", "value"] (defScope s_set_value) := ⟨rfl, rfl, rfl, by decide +kernel, rfl, by decide +kernel, by decide +kernel⟩
theorem ok_set_value (F : Fun K "set_value" "set_value" s_set_value f fd) (T : Txt K mg C aW aA) (D_revalue : MethAt P w K mg base C "revalue" 1 ["self", "number", "value"] (spRevalue C)) (D_has_user : DefAt P w K mg base "has_user" 1 ["network", "number"] (SpOf (pHas C))) : FnOk P w K mg base CX0 2 f fd ["network", "number", "value"] (spSet C) := by
  refine F.ok sc_set_value (fun vs H Q E h => ?_) (fun cdv A outer s H vs Q E hr h => ?_)
  · obtain ⟨a, l, n, i, v, rfl, _⟩ := h
    rfl
  · obtain ⟨a, l, n, i, v, rfl, hN, ok, k⟩ := h
    obtain ⟨fM, fdM, FM, mM, bM⟩ := D_revalue.ex
    refine ⟨_, (pss_cons (ps_if (pt_not (pt_val (pe_def D_has_user (hr.mono (by decide)) rfl (pa_cons (pv 0) (pa_cons (pv 1) pa_nil))))) (pss_one (ps_ret (pe_lst (pa_cons (pe_k rfl T.k_NO_USER) pa_nil)))) pss_nil) (pss_cons (ps_if (pt_cmpR op_gt (pv 2) (pe_k rfl T.k_MOST_VALUE) (nomark _)) (pss_one (ps_ret (pe_lst (pa_cons (pe_k rfl T.k_BAD_RANGE) pa_nil)))) pss_nil) (pss_cons (ps_set (i := 3) sc_set_value.nd rfl (Or.inl rfl) (pe_ix ix_tup (pe_ix ix_list (pe_fld (pv 0) rfl) (pv 1) (fun _ _ => rfl)) pe_int (fun _ _ => rfl))) (pss_cons (ps_expr (pe_meth (pv 0) T.cl mM FM (hr.mono (by decide)) bM .nil pass0 (pa_cons (pv 1) (pa_cons (pv 2) pa_nil)))) (pss_one (ps_ret (pe_lst (pa_cons (pv 3) pa_nil)))))))), ?_⟩
    refine q_when (b := !decide (i < n.users.length)) (et_not (et_B (ev_call (ea_cons (ev_var rfl) (ea_cons (ev_var rfl) ea_nil)) (spv fun H1 e1 => ⟨a, l, n, i, rfl, hN.mono e1, rfl⟩)))) (fun hb H1 e1 => ?_) (fun hb H1 e1 => ?_)
    · have hb : n.users.length ≤ i := by simpa using hb
      have e := st_set n i v
      rw [if_pos hb] at e
      exact s_retL (el_lst (ea_cons ev_c ea_nil) (by decide : 1 ≤ 100000)) (retl (k.pure hN (fst_of e)) e1 (ans_of e))
    · have hb : i < n.users.length := by simpa using hb
      refine q_when (b := decide (100 < v)) (et_test (ev_op (ev_var rfl) ev_c (rv_int (congrArg V.bl (decide_eq_decide.mpr (by omega)))))) (fun hc H2 e2 => ?_) (fun hc H2 e2 => ?_)
      · have e := st_set n i v
        rw [if_neg (by omega), if_pos (of_decide_eq_true hc)] at e
        exact s_retL (el_lst (ea_cons ev_c ea_nil) (by decide : 1 ≤ 100000)) (retl (k.pure hN (fst_of e)) (e1.trans e2) (ans_of e))
      · have hc := of_decide_eq_false hc
        have e := st_set n i v
        rw [if_neg (by omega), if_neg hc] at e
        have hN2 := hN.mono (e1.trans e2)
        obtain ⟨q, hq, ht⟩ := ev_userAt (K := K) (σ := start ["network", "number", "value", "previous"] [.ref a, .int ((i : Nat) : Int), .int ((v : Nat) : Int)]) (ta := tFld K (tVar 0) "users") (tb := tVar 1) (i := i) (ev_us T hN2 (ev_var rfl)) (ev_var rfl) hN2.us hb
        refine q_asg (ev_value hq ht) fun H3 e3 => ?_
        refine q_meth (hN2.mono e3) (ev_var rfl) (by decide +kernel) (by decide +kernel) (ea_cons (ev_var rfl) (ea_cons (ev_var rfl) ea_nil)) fun H4 e4 => ?_
        refine ⟨a, l, n, i, v, rfl, (hN2.mono e3).mono e4, hb, fun H5 f5 h5 => ?_⟩
        have e14 := ((e1.trans e2).trans e3).trans e4
        refine s_retL (el_lst (ea_cons (ev_var rfl) ea_nil) (by decide : 1 ≤ 100000)) fun p H6 hp e6 h6 => ?_
        exact k.go e (f5.ex e14) (.inl rfl) h5 hp e6 h6
abbrev s_list_users : Stmt := top 42
theorem sc_list_users : FnScope ["network", "found", "supply_grade", "return_grade", "value"] ["network"] (defScope s_list_users) := ⟨rfl, rfl, rfl, by decide +kernel, rfl, by decide +kernel, by decide +kernel⟩
def lu (n : Kqk3.Network) (i : Nat) : List V := V.int ((n.users.length : Nat) : Int) :: (n.users.take i).flatMap uv
theorem lu_len (n : Kqk3.Network) (i : Nat) : (lu n i).length ≤ 1 + 3 * n.users.length := by
  unfold lu
  rw [List.length_cons]
  have h : ∀ us : List Kqk3.User, (us.flatMap uv).length = 3 * us.length := by
    intro us
    induction us with
    | nil => rfl
    | cons u r ih => rw [List.flatMap_cons, List.length_append, ih, List.length_cons]; show 3 + _ = _; omega
  rw [h, List.length_take]
  omega
theorem lu_succ {n : Kqk3.Network} {i : Nat} {u : Kqk3.User} (h : n.users[i]? = some u) : lu n (i + 1) = lu n i ++ uv u := by
  unfold lu
  rw [take_more h, List.flatMap_append, List.cons_append]
  simp
theorem lu_all (n : Kqk3.Network) : lu n n.users.length = ans (some n) .listUsers := by
  unfold lu
  rw [List.take_length]
  show _ = V.int _ :: List.map V.int (Kqk3.ints (n.users.flatMap fun u => [u.supply, u.returned, u.value]))
  congr 1
  unfold Kqk3.ints
  induction n.users with
  | nil => rfl
  | cons u r ih => rw [List.flatMap_cons, List.flatMap_cons, List.map_append, List.map_append, ih]; rfl
theorem ok_list_users (F : Fun K "list_users" "list_users" s_list_users f fd) (T : Txt K mg C aW aA) : FnOk P w K mg base CX0 1 f fd ["network"] (SpOfL (pList C)) := by
  refine F.ok sc_list_users (fun vs H Q E h => ?_) (fun cdv A outer s H vs Q E hr h => ?_)
  · obtain ⟨z, ⟨a, l, n, rfl, _⟩, _⟩ := h
    rfl
  · obtain ⟨z, ⟨a, l, n, rfl, hN, ok, rfl⟩, k⟩ := h
    refine ⟨_, (pss_cons (ps_set (i := 1) sc_list_users.nd rfl (Or.inl rfl) (pe_lst (pa_cons (pe_callB cr_len (by rfl) T.n_len PySem.boot_len (pa_cons (pe_fld (pv 0) rfl) pa_nil)) pa_nil))) (pss_cons (ps_for PassesOwn.never rfl (pi_list (pe_fld (pv 0) rfl)) (pg_tup rfl (pgs_cons (pg_name (i := 2) sc_list_users.nd rfl (Or.inl rfl)) (pgs_cons (pg_name (i := 3) sc_list_users.nd rfl (Or.inl rfl)) (pgs_cons (pg_name (i := 4) sc_list_users.nd rfl (Or.inl rfl)) pgs_nil)))) (pss_one (ps_set (i := 1) sc_list_users.nd rfl (Or.inl rfl) (pe_op op_cat (pv 1) (pe_lst (pa_cons (pv 2) (pa_cons (pv 3) (pa_cons (pv 4) pa_nil)))))))) (pss_one (ps_ret (pv 1))))), ?_⟩
    have h8 := ok.u8
    refine q_asgL (xs := lu n 0) (el_lst (ea_cons (ev_lenU (ev_us T hN (ev_var rfl)) hN.us) ea_nil) (by decide : 1 ≤ 100000)) fun fo H1 hfo e1 hf1 => ?_
    have hN1 := hN.mono e1
    obtain ⟨as, hu⟩ := hN1.us
    refine q_forL (a := l) (xs := as.map V.ref) (ev_us T hN1 (ev_var rfl)) (sq_of hu.lst)
      (fun i σ H' => Ex H H' ∧ Ex H1 H' ∧ ∃ fo v1 v2 v3, H fo = none ∧ H' fo = some (.lst (lu n i)) ∧ σ = [some (.ref a), some (.ref fo), v1, v2, v3])
      (fun H2 e2 => ⟨e1.trans e2, e2, fo, none, none, none, hfo, e2 _ _ hf1, rfl⟩) (fun i σ H' _ h => sq_of (h.2.1 _ _ hu.lst)) ?_ ?_
    · rintro i x σ H' hx ⟨e2, e2', fo, v1, v2, v3, hfo, hf2, rfl⟩
      have hi : i < n.users.length := by
        have := (List.getElem?_eq_some_iff.mp hx).1
        rw [List.length_map, hu.len] at this
        exact this
      have hget : n.users[i]? = some (Kqk3.user n i) := user_get hi
      obtain ⟨p, hp, ht⟩ := hu.at_ i _ hget
      have ex : x = V.ref p := by
        rw [List.getElem?_map, hp] at hx
        exact (Option.some.inj hx).symm
      subst ex
      refine g_tup3 (st_of (e2' _ _ ht)) ?_
      refine s_asgL (el_cat (ev_var rfl) hf2 (ys := uv (Kqk3.user n i)) (el_lst (ea_cons (ev_var rfl) (ea_cons (ev_var rfl) (ea_cons (ev_var rfl) ea_nil))) (by decide : 3 ≤ 100000)) (by have := lu_len n i; show _ + 3 ≤ 100000; omega)) fun q H3 hq e3 h3 => ?_
      refine ⟨e2.trans e3, e2'.trans e3, q, _, _, _, fresh_back e2 hq, ?_, rfl⟩
      rw [lu_succ hget]
      exact h3
    · rintro σ H' ⟨e2, e2', fo, v1, v2, v3, hfo, hf2, rfl⟩
      refine s_ret (ev_var rfl) fun H3 e3 => ?_
      refine k fo H3 hfo (e2.trans e3) ?_
      rw [← lu_all]
      rw [List.length_map, hu.len] at hf2
      exact e3 _ _ hf2
end
end HC

/-! ### the operations that tell -/
namespace HC
open PySem PySem.Spec PyProof.Rows L2 Evl
/-- a list of new lists is handed back -/
def EvC (te : TE) (σ : L2.St) (H : Hp) (cs : List Cas) : Prop := ∀ H1, Ex H H1 → ∀ Q : VK, (∀ p qs H2, H1 p = none → Ex H1 H2 → CasAs H2 p qs cs → Q (.ref p) H2) → te σ H1 Q
section
variable {K : PySem.W.Frag} {σ : L2.St} {H : Hp} {ta : TA} {te : TE} {D : Ends} {tz : TS}
theorem ec_call {a : Addr} {n : Kqk3.Network} {m : Nat} (h : EvA ta σ H [.ref a, .int ((m : Nat) : Int)]) (ha : UsersAt H a n.users) (ok : Ok n) : EvC (tCall spCascades [] E0 ta) σ H (casTo n (Kqk3.bySupply n m)) := fun H1 e Q q =>
  h H1 e _ fun H2 e2 => ⟨a, n, m, rfl, ha.mono (e.trans e2), ok, fun p qs H3 hp e3 h3 => q p qs H3 (fresh_back e2 hp) (e2.trans e3) h3⟩
theorem ev_lenC {cs : List Cas} (h : EvC te σ H cs) : Ev (tCB (rLenS K) (tCons te tNil)) σ H (.int ((cs.length : Nat) : Int)) := fun H1 e Q q =>
  h H1 e _ fun p qs H2 _ e2 h2 => ⟨p, qs.map V.ref, rfl, Or.inl (sq_of h2.lst), by rw [List.length_map, h2.len]; exact q H2 e2⟩
theorem q_asgC {i : Nat} {cs : List Cas} (h : EvC te σ H cs) (k : ∀ p qs H1, H p = none → Ex H H1 → CasAs H1 p qs cs → tz D (σ.set i (some (.ref p))) H1) : tSeq (tAsg te (gName i)) tz D σ H := h H (Ex.refl H) _ k
end
theorem fold_bounds (n : Kqk3.Network) : ∀ (l : List Nat) (cs : List Cas) (k : Nat), cs.length ≤ k → (∀ c ∈ cs, c.1.length ≤ k) → (l.foldl (put n) cs).length ≤ k + l.length ∧ ∀ c ∈ l.foldl (put n) cs, c.1.length ≤ k + l.length
  | [], cs, k, h1, h2 => ⟨h1, h2⟩
  | i :: r, cs, k, h1, h2 => by
    have := fold_bounds n r (put n cs i) (k + 1) (Nat.le_trans put_len (by omega)) (put_each h2 (by omega))
    rw [List.length_cons, List.foldl_cons, show k + (r.length + 1) = k + 1 + r.length by omega]
    exact this
theorem cas_bounds {n : Kqk3.Network} (ok : Ok n) (m : Nat) : (casTo n (Kqk3.bySupply n m)).length ≤ 96 ∧ ∀ c ∈ casTo n (Kqk3.bySupply n m), c.1.length ≤ 96 := by
  have h := fold_bounds n (Kqk3.bySupply n m) [] 0 (Nat.zero_le _) (fun c hc => by cases hc)
  have := bySupply_le ok m
  exact ⟨Nat.le_trans h.1 (by omega), fun c hc => Nat.le_trans (h.2 c hc) (by omega)⟩
/-- the answer of assign_cascades, i cascades written -/
def lc (cs : List Cas) (i : Nat) : List V := V.int ((cs.length : Nat) : Int) :: (cs.take i).flatMap fun c => V.int ((c.1.length : Nat) : Int) :: ni c.1
theorem lc_succ {cs : List Cas} {i : Nat} {c : Cas} (h : cs[i]? = some c) : lc cs (i + 1) = (lc cs i ++ [V.int ((c.1.length : Nat) : Int)]) ++ ni c.1 := by
  unfold lc
  rw [take_more h, List.flatMap_append, List.cons_append, List.cons_append, List.append_assoc]
  simp
theorem lc_len {cs : List Cas} (h : ∀ c ∈ cs, c.1.length ≤ 96) : ∀ i, (lc cs i).length ≤ 1 + 97 * cs.length := by
  intro i
  unfold lc
  rw [List.length_cons]
  have h2 : ∀ ds : List Cas, (∀ c ∈ ds, c.1.length ≤ 96) → (ds.flatMap fun c => V.int ((c.1.length : Nat) : Int) :: ni c.1).length ≤ 97 * ds.length := by
    intro ds
    induction ds with
    | nil => intro _; exact Nat.le_refl _
    | cons c r ih =>
      intro hh
      rw [List.flatMap_cons, List.length_append, List.length_cons, List.length_cons, ni_len]
      have := hh c (List.mem_cons_self ..)
      have := ih fun d hd => hh d (List.mem_cons_of_mem _ hd)
      omega
  have := h2 (cs.take i) fun c hc => h c (List.mem_of_mem_take hc)
  rw [List.length_take] at this
  have : min i cs.length ≤ cs.length := Nat.min_le_right _ _
  omega
theorem lc_all {n : Kqk3.Network} {m : Nat} (h : Kqk3.isSet n m = true) : lc (casTo n (Kqk3.bySupply n m)) (casTo n (Kqk3.bySupply n m)).length = ans (some n) (.assignCascades m) := by
  show _ = (Kqk3Neutral.fields (if Kqk3.isSet n m = false then _ else _)).map V.int
  rw [h, if_neg (by decide), cascades_is]
  unfold lc
  rw [List.take_length]
  show _ = V.int _ :: List.map V.int _
  rw [List.length_map]
  congr 1
  induction (casTo n (Kqk3.bySupply n m)) with
  | nil => rfl
  | cons c r ih =>
    rw [List.flatMap_cons, ih, List.map_cons, List.flatMap_cons, List.map_append]
    congr 1
    show V.int _ :: ni c.1 = V.int _ :: List.map V.int (Kqk3.ints c.1)
    rw [ni_ints]
    rfl
def pLoadOp (C : Addr) : List V → Hp → List V → Prop := fun vs H xs => ∃ (a l : Addr) (n : Kqk3.Network) (g : Nat), vs = [.ref a, .int ((g : Nat) : Int)] ∧ NetAt C H a l n ∧ Ok n ∧ xs = ans (some n) (.load g)
def pPeakOp (C : Addr) : List V → Hp → List V → Prop := fun vs H xs => ∃ (a l : Addr) (n : Kqk3.Network), vs = [.ref a] ∧ NetAt C H a l n ∧ Ok n ∧ xs = ans (some n) .peakLoad
def pPeakGOp (C : Addr) : List V → Hp → List V → Prop := fun vs H xs => ∃ (a l : Addr) (n : Kqk3.Network), vs = [.ref a] ∧ NetAt C H a l n ∧ Ok n ∧ xs = ans (some n) .peakGrade
def pMinOp (C : Addr) : List V → Hp → List V → Prop := fun vs H xs => ∃ (a l : Addr) (n : Kqk3.Network), vs = [.ref a] ∧ NetAt C H a l n ∧ Ok n ∧ xs = ans (some n) .minCascades
def pAssignOp (C : Addr) : List V → Hp → List V → Prop := fun vs H xs => ∃ (a l : Addr) (n : Kqk3.Network) (m : Nat), vs = [.ref a, .int ((m : Nat) : Int)] ∧ NetAt C H a l n ∧ Ok n ∧ xs = ans (some n) (.assignCascades m)
def pServOp (C : Addr) : List V → Hp → List V → Prop := fun vs H xs => ∃ (a l : Addr) (n : Kqk3.Network) (m c : Nat), vs = [.ref a, .int ((m : Nat) : Int), .int ((c : Nat) : Int)] ∧ NetAt C H a l n ∧ Ok n ∧ xs = ans (some n) (.isServable m c)
def pBestOp (C : Addr) : List V → Hp → List V → Prop := fun vs H xs => ∃ (a l : Addr) (n : Kqk3.Network) (c : Nat), vs = [.ref a, .int ((c : Nat) : Int)] ∧ NetAt C H a l n ∧ Ok n ∧ xs = ans (some n) (.bestSet c)
def pValOp (C : Addr) : List V → Hp → List V → Prop := fun vs H xs => ∃ (a l : Addr) (n : Kqk3.Network) (m : Nat), vs = [.ref a, .int ((m : Nat) : Int)] ∧ NetAt C H a l n ∧ Ok n ∧ xs = ans (some n) (.valueOf m)
def pMargOp (C : Addr) : List V → Hp → List V → Prop := fun vs H xs => ∃ (a l : Addr) (n : Kqk3.Network) (c : Nat), vs = [.ref a, .int ((c : Nat) : Int)] ∧ NetAt C H a l n ∧ Ok n ∧ xs = ans (some n) (.marginalValue c)
def pFollowOp (C : Addr) : List V → Hp → List V → Prop := fun vs H xs => ∃ (a l : Addr) (n : Kqk3.Network) (i j : Nat), vs = [.ref a, .int ((i : Nat) : Int), .int ((j : Nat) : Int)] ∧ NetAt C H a l n ∧ Ok n ∧ xs = ans (some n) (.canFollow i j)
def pPeakUOp (C : Addr) : List V → Hp → List V → Prop := fun vs H xs => ∃ (a l : Addr) (n : Kqk3.Network), vs = [.ref a] ∧ NetAt C H a l n ∧ Ok n ∧ xs = ans (some n) .peakUsers
def pBad (C : Addr) : List V → Hp → V → Prop := fun vs H z => ∃ (a l b : Addr) (n : Kqk3.Network) (c : Nat) (ps : List Nat), vs = [.ref a, .int ((c : Nat) : Int), .ref b] ∧ NetAt C H a l n ∧ H b = some (.lst (ni ps)) ∧ z = .bl (decide (8 < c) || !Kqk3.arePrices n ps)
def pDualOp (C : Addr) : List V → Hp → List V → Prop := fun vs H xs => ∃ (a l b : Addr) (n : Kqk3.Network) (c : Nat) (ps : List Nat), vs = [.ref a, .int ((c : Nat) : Int), .ref b] ∧ NetAt C H a l n ∧ Ok n ∧ H b = some (.lst (ni ps)) ∧ xs = ans (some n) (.dualBound c ps)
def pProveOp (C : Addr) : List V → Hp → List V → Prop := fun vs H xs => ∃ (a l b : Addr) (n : Kqk3.Network) (c : Nat) (ps : List Nat), vs = [.ref a, .int ((c : Nat) : Int), .ref b] ∧ NetAt C H a l n ∧ Ok n ∧ H b = some (.lst (ni ps)) ∧ xs = ans (some n) (.provesOptimality c ps)
def pLossOp (C : Addr) : List V → Hp → List V → Prop := fun vs H xs => ∃ (a l : Addr) (n : Kqk3.Network) (i c : Nat), vs = [.ref a, .int ((i : Nat) : Int), .int ((c : Nat) : Int)] ∧ NetAt C H a l n ∧ Ok n ∧ xs = ans (some n) (.lossWithout i c)
def pSumOp (C : Addr) : List V → Hp → List V → Prop := fun vs H xs => ∃ (a l : Addr) (n : Kqk3.Network), vs = [.ref a] ∧ NetAt C H a l n ∧ Ok n ∧ xs = ans (some n) .summary
theorem prices_len {n : Kqk3.Network} {ps : List Nat} (h : Kqk3.arePrices n ps = true) : ps.length = n.gradeCount := by
  unfold Kqk3.arePrices at h
  rw [Bool.and_eq_true] at h
  exact eq_of_beq h.1
section
variable {P : Program} {w : World} {K : PySem.W.Frag} {mg : Str → Option Value} {base : Heap} {f C aW aA : Addr} {fd : FuncData}
abbrev s_load : Stmt := top 44
theorem sc_load : FnScope ["network", "grade"] ["network", "grade"] (defScope s_load) := ⟨rfl, rfl, rfl, by decide +kernel, rfl, by decide +kernel, by decide +kernel⟩
theorem ok_load (F : Fun K "load" "load" s_load f fd) (T : Txt K mg C aW aA) (D_load_in : DefAt P w K mg base "load_in" 4 ["users", "mask", "grade"] (SpOf pLoad)) (D_full_mask : DefAt P w K mg base "full_mask" 1 ["users"] (SpOf pFull)) : FnOk P w K mg base CX0 5 f fd ["network", "grade"] (SpOfL (pLoadOp C)) := by
  refine F.ok sc_load (fun vs H Q E h => ?_) (fun cdv A outer s H vs Q E hr h => ?_)
  · obtain ⟨z, ⟨a, l, n, g, rfl, _⟩, _⟩ := h
    rfl
  · obtain ⟨z, ⟨a, l, n, g, rfl, hN, ok, rfl⟩, k⟩ := h
    refine ⟨_, (pss_cons (ps_if (PW.pt (pw_or (pt_cmpR op_lt (pv 1) pe_int (nomark _)) (pw_or1 (pt_cmpR op_gt (pv 1) (pe_fld (pv 0) rfl) (nomark _))))) (pss_one (ps_ret (pe_lst (pa_cons (pe_k rfl T.k_BAD_RANGE) pa_nil)))) pss_nil) (pss_one (ps_ret (pe_lst (pa_cons (pe_def D_load_in (hr.mono (by decide)) rfl (pa_cons (pe_fld (pv 0) rfl) (pa_cons (pe_def D_full_mask (hr.mono (by decide)) rfl (pa_cons (pe_fld (pv 0) rfl) pa_nil)) (pa_cons (pv 1) pa_nil)))) pa_nil))))), ?_⟩
    refine q_when (b := decide (g < 1) || decide (n.gradeCount < g)) (et_or (et_test (ev_op (ev_var rfl) ev_c (rv_int (congrArg V.bl (decide_eq_decide.mpr (by omega)))))) (fun _ => et_test (ev_op (ev_var rfl) (ev_gc T hN (ev_var rfl)) (rv_int (congrArg V.bl (decide_eq_decide.mpr Int.ofNat_lt)))))) (fun hb H1 e1 => ?_) (fun hb H1 e1 => ?_)
    · have hb : g < 1 ∨ n.gradeCount < g := by simpa using hb
      refine s_retL (el_lst (ea_cons ev_c ea_nil) (by decide : 1 ≤ 100000)) (retl k e1 ?_)
      show (Kqk3Neutral.fields (if g < 1 ∨ n.gradeCount < g then _ else _)).map V.int = _
      rw [if_pos hb]; rfl
    · have hb : ¬ (g < 1 ∨ n.gradeCount < g) := by simpa using hb
      have hN1 := hN.mono e1
      refine s_retL (el_lst (ea_cons (ev_call (ea_cons (ev_us T hN1 (ev_var rfl)) (ea_cons (ev_call (ea_cons (ev_us T hN1 (ev_var rfl)) ea_nil) (spv fun H2 e2 => ⟨l, n, rfl, hN1.us.mono e2, ok.u8, rfl⟩)) (ea_cons (ev_var rfl) ea_nil))) (spv fun H2 e2 => ⟨l, n, Kqk3.allUsersSet n, g, rfl, hN1.us.mono e2, ok.u8, rfl⟩)) ea_nil) (by decide : 1 ≤ 100000)) (retl k e1 ?_)
      show (Kqk3Neutral.fields (if g < 1 ∨ n.gradeCount < g then _ else _)).map V.int = _
      rw [if_neg hb]; rfl
abbrev s_peak_load : Stmt := top 45
theorem sc_peak_load : FnScope ["network"] ["network"] (defScope s_peak_load) := ⟨rfl, rfl, rfl, by decide +kernel, rfl, by decide +kernel, by decide +kernel⟩
theorem ok_peak_load (F : Fun K "peak_load" "peak_load" s_peak_load f fd) (T : Txt K mg C aW aA) (D_peak_in : DefAt P w K mg base "peak_in" 6 ["users", "mask", "grade_count"] (SpOf pPeak)) (D_full_mask : DefAt P w K mg base "full_mask" 1 ["users"] (SpOf pFull)) : FnOk P w K mg base CX0 7 f fd ["network"] (SpOfL (pPeakOp C)) := by
  refine F.ok sc_peak_load (fun vs H Q E h => ?_) (fun cdv A outer s H vs Q E hr h => ?_)
  · obtain ⟨z, ⟨a, l, n, rfl, _⟩, _⟩ := h
    rfl
  · obtain ⟨z, ⟨a, l, n, rfl, hN, ok, rfl⟩, k⟩ := h
    refine ⟨_, (pss_one (ps_ret (pe_lst (pa_cons (pe_def D_peak_in (hr.mono (by decide)) rfl (pa_cons (pe_fld (pv 0) rfl) (pa_cons (pe_def D_full_mask (hr.mono (by decide)) rfl (pa_cons (pe_fld (pv 0) rfl) pa_nil)) (pa_cons (pe_fld (pv 0) rfl) pa_nil)))) pa_nil)))), ?_⟩
    exact s_retL (el_lst (ea_cons (ev_call (ea_cons (ev_us T hN (ev_var rfl)) (ea_cons (ev_call (ea_cons (ev_us T hN (ev_var rfl)) ea_nil) (spv fun H2 e2 => ⟨l, n, rfl, hN.us.mono e2, ok.u8, rfl⟩)) (ea_cons (ev_gc T hN (ev_var rfl)) ea_nil))) (spv fun H2 e2 => ⟨l, n, Kqk3.allUsersSet n, rfl, hN.us.mono e2, ok.u8, ok.g1, ok.g12, rfl⟩)) ea_nil) (by decide : 1 ≤ 100000)) (retl k (Ex.refl H) rfl)
abbrev s_peak_grade : Stmt := top 46
theorem sc_peak_grade : FnScope ["network"] ["network"] (defScope s_peak_grade) := ⟨rfl, rfl, rfl, by decide +kernel, rfl, by decide +kernel, by decide +kernel⟩
theorem ok_peak_grade (F : Fun K "peak_grade" "peak_grade" s_peak_grade f fd) (T : Txt K mg C aW aA) (D_peak_grade_in : DefAt P w K mg base "peak_grade_in" 6 ["users", "mask", "grade_count"] (SpOf pPeakGrade)) (D_full_mask : DefAt P w K mg base "full_mask" 1 ["users"] (SpOf pFull)) : FnOk P w K mg base CX0 7 f fd ["network"] (SpOfL (pPeakGOp C)) := by
  refine F.ok sc_peak_grade (fun vs H Q E h => ?_) (fun cdv A outer s H vs Q E hr h => ?_)
  · obtain ⟨z, ⟨a, l, n, rfl, _⟩, _⟩ := h
    rfl
  · obtain ⟨z, ⟨a, l, n, rfl, hN, ok, rfl⟩, k⟩ := h
    refine ⟨_, (pss_one (ps_ret (pe_lst (pa_cons (pe_def D_peak_grade_in (hr.mono (by decide)) rfl (pa_cons (pe_fld (pv 0) rfl) (pa_cons (pe_def D_full_mask (hr.mono (by decide)) rfl (pa_cons (pe_fld (pv 0) rfl) pa_nil)) (pa_cons (pe_fld (pv 0) rfl) pa_nil)))) pa_nil)))), ?_⟩
    refine s_retL (el_lst (ea_cons (ev_call (ea_cons (ev_us T hN (ev_var rfl)) (ea_cons (ev_call (ea_cons (ev_us T hN (ev_var rfl)) ea_nil) (spv fun H2 e2 => ⟨l, n, rfl, hN.us.mono e2, ok.u8, rfl⟩)) (ea_cons (ev_gc T hN (ev_var rfl)) ea_nil))) (spv fun H2 e2 => ⟨l, n, Kqk3.allUsersSet n, rfl, hN.us.mono e2, ok.u8, ok.g1, ok.g12, rfl⟩)) ea_nil) (by decide : 1 ≤ 100000)) (retl k (Ex.refl H) ?_)
    show (Kqk3Neutral.fields (match Kqk3.peakGradeOf n with | none => _ | some grade => _)).map V.int = _
    rw [peakGrade_is ok.g1]
    rfl
abbrev s_min_cascades : Stmt := top 47
theorem sc_min_cascades : FnScope ["network"] ["network"] (defScope s_min_cascades) := ⟨rfl, rfl, rfl, by decide +kernel, rfl, by decide +kernel, by decide +kernel⟩
theorem ok_min_cascades (F : Fun K "min_cascades" "min_cascades" s_min_cascades f fd) (T : Txt K mg C aW aA) (D_cascades_of : DefAt P w K mg base "cascades_of" 4 ["users", "mask"] spCascades) (D_full_mask : DefAt P w K mg base "full_mask" 1 ["users"] (SpOf pFull)) : FnOk P w K mg base CX0 5 f fd ["network"] (SpOfL (pMinOp C)) := by
  refine F.ok sc_min_cascades (fun vs H Q E h => ?_) (fun cdv A outer s H vs Q E hr h => ?_)
  · obtain ⟨z, ⟨a, l, n, rfl, _⟩, _⟩ := h
    rfl
  · obtain ⟨z, ⟨a, l, n, rfl, hN, ok, rfl⟩, k⟩ := h
    refine ⟨_, (pss_one (ps_ret (pe_lst (pa_cons (pe_callB cr_len (by rfl) T.n_len PySem.boot_len (pa_cons (pe_def D_cascades_of (hr.mono (by decide)) rfl (pa_cons (pe_fld (pv 0) rfl) (pa_cons (pe_def D_full_mask (hr.mono (by decide)) rfl (pa_cons (pe_fld (pv 0) rfl) pa_nil)) pa_nil))) pa_nil)) pa_nil)))), ?_⟩
    refine s_retL (el_lst (ea_cons (ev_lenC (ec_call (n := n) (m := Kqk3.allUsersSet n) (ea_cons (ev_us T hN (ev_var rfl)) (ea_cons (ev_call (ea_cons (ev_us T hN (ev_var rfl)) ea_nil) (spv fun H2 e2 => ⟨l, n, rfl, hN.us.mono e2, ok.u8, rfl⟩)) ea_nil)) hN.us ok)) ea_nil) (by decide : 1 ≤ 100000)) (retl k (Ex.refl H) ?_)
    show [V.int (((Kqk3.cascades n (Kqk3.allUsersSet n)).length : Nat) : Int)] = _
    rw [cascades_is, List.length_map]
abbrev s_assign_cascades : Stmt := top 48
theorem sc_assign_cascades : FnScope ["network", "mask", "cascades", "found", "cascade"] ["network", "mask"] (defScope s_assign_cascades) := ⟨rfl, rfl, rfl, by decide +kernel, rfl, by decide +kernel, by decide +kernel⟩
theorem ok_assign_cascades (F : Fun K "assign_cascades" "assign_cascades" s_assign_cascades f fd) (T : Txt K mg C aW aA) (D_cascades_of : DefAt P w K mg base "cascades_of" 4 ["users", "mask"] spCascades) (D_is_mask : DefAt P w K mg base "is_mask" 1 ["users", "mask"] (SpOf pIsMask)) : FnOk P w K mg base CX0 5 f fd ["network", "mask"] (SpOfL (pAssignOp C)) := by
  refine F.ok sc_assign_cascades (fun vs H Q E h => ?_) (fun cdv A outer s H vs Q E hr h => ?_)
  · obtain ⟨z, ⟨a, l, n, m, rfl, _⟩, _⟩ := h
    rfl
  · obtain ⟨z, ⟨a, l, n, m, rfl, hN, ok, rfl⟩, k⟩ := h
    refine ⟨_, (pss_cons (ps_if (pt_not (pt_val (pe_def D_is_mask (hr.mono (by decide)) rfl (pa_cons (pe_fld (pv 0) rfl) (pa_cons (pv 1) pa_nil))))) (pss_one (ps_ret (pe_lst (pa_cons (pe_k rfl T.k_NO_USER) pa_nil)))) pss_nil) (pss_cons (ps_set (i := 2) sc_assign_cascades.nd rfl (Or.inl rfl) (pe_def D_cascades_of (hr.mono (by decide)) rfl (pa_cons (pe_fld (pv 0) rfl) (pa_cons (pv 1) pa_nil)))) (pss_cons (ps_set (i := 3) sc_assign_cascades.nd rfl (Or.inl rfl) (pe_lst (pa_cons (pe_callB cr_len (by rfl) T.n_len PySem.boot_len (pa_cons (pv 2) pa_nil)) pa_nil))) (pss_cons (ps_for PassesOwn.never rfl (pi_list (pv 2)) (pg_name (i := 4) sc_assign_cascades.nd rfl (Or.inl rfl)) (pss_one (ps_set (i := 3) sc_assign_cascades.nd rfl (Or.inl rfl) (pe_op op_cat (pe_op op_cat (pv 3) (pe_lst (pa_cons (pe_callB cr_len (by rfl) T.n_len PySem.boot_len (pa_cons (pv 4) pa_nil)) pa_nil))) (pv 4))))) (pss_one (ps_ret (pv 3))))))), ?_⟩
    refine q_when (b := !Kqk3.isSet n m) (et_not (et_B (ev_call (ea_cons (ev_us T hN (ev_var rfl)) (ea_cons (ev_var rfl) ea_nil)) (spv fun H1 e1 => ⟨l, n, m, rfl, hN.us.mono e1, ok.u8, rfl⟩)))) (fun hb H1 e1 => ?_) (fun hb H1 e1 => ?_)
    · have hb : Kqk3.isSet n m = false := by simpa using hb
      refine s_retL (el_lst (ea_cons ev_c ea_nil) (by decide : 1 ≤ 100000)) (retl k e1 ?_)
      show (Kqk3Neutral.fields (if Kqk3.isSet n m = false then _ else _)).map V.int = _
      rw [if_pos hb]; rfl
    · have hb : Kqk3.isSet n m = true := by simpa using hb
      have hN1 := hN.mono e1
      refine q_asgC (ec_call (n := n) (m := m) (ea_cons (ev_us T hN1 (ev_var rfl)) (ea_cons (ev_var rfl) ea_nil)) hN1.us ok) fun c qs H2 hc e2 hcs => ?_
      have hbd := cas_bounds ok m
      rw [← lc_all hb] at k
      generalize casTo n (Kqk3.bySupply n m) = cs at *
      refine q_asgL (xs := lc cs 0) (el_lst (ea_cons (ev_is (ev_len (ev_var rfl) (sq_of hcs.lst)) (by rw [List.length_map, hcs.len])) ea_nil) (by decide : 1 ≤ 100000)) fun fo H3 hfo e3 hf3 => ?_
      refine q_forLn (a := c) (xs := qs.map V.ref) (ev_var rfl) (sq_of (e3 _ _ hcs.lst))
        (fun i σ H' => Ex H H' ∧ Ex H2 H' ∧ ∃ fo v, H fo = none ∧ H' fo = some (.lst (lc cs i)) ∧ σ = [some (.ref a), some (.int ((m : Nat) : Int)), some (.ref c), some (.ref fo), v])
        (fun H4 e4 => ⟨((e1.trans e2).trans e3).trans e4, e3.trans e4, fo, none, fresh_back (e1.trans e2) hfo, e4 _ _ hf3, rfl⟩) (fun i σ H' _ h => sq_of (h.2.1 _ _ hcs.lst)) ?_ ?_
      · rintro i x σ H' hx ⟨e4, e4', fo, v, hfo, hf4, rfl⟩
        have hi : i < cs.length := by
          have := (List.getElem?_eq_some_iff.mp hx).1
          rw [List.length_map, hcs.len] at this
          exact this
        obtain ⟨q, hq, hl⟩ := hcs.at_ i _ (List.getElem?_eq_getElem hi)
        have ex : x = V.ref q := by
          rw [List.getElem?_map, hq] at hx
          exact (Option.some.inj hx).symm
        subst ex
        have hll := lc_len hbd.2 i
        have h1 := hbd.1
        have h2 := hbd.2 _ (List.getElem_mem hi)
        refine s_asgL (xs := lc cs (i + 1)) ?_ fun p H5 hp e5 h5 => ⟨e4.trans e5, e4'.trans e5, p, _, fresh_back e4 hp, h5, rfl⟩
        rw [lc_succ (List.getElem?_eq_getElem hi)]
        refine el_catNL (el_cat (ev_var rfl) hf4 (el_lst (ea_cons (ev_is (ev_len (ev_var rfl) (sq_of (e4' _ _ hl))) (by rw [ni_len])) ea_nil) (by decide : 1 ≤ 100000)) (by show _ + 1 ≤ 100000; omega)) (ev_var rfl) (e4' _ _ hl) ?_
        rw [List.length_append, ni_len]
        show _ + 1 + _ ≤ 100000
        omega
      · rintro σ H' ⟨e4, e4', fo, v, hfo, hf4, rfl⟩
        refine s_ret (ev_var rfl) fun H5 e5 => k fo H5 hfo (e4.trans e5) ?_
        rw [List.length_map, hcs.len] at hf4
        exact e5 _ _ hf4
abbrev s_is_servable : Stmt := top 49
theorem sc_is_servable : FnScope ["network", "mask", "cascade_count"] ["network", "mask", "cascade_count"] (defScope s_is_servable) := ⟨rfl, rfl, rfl, by decide +kernel, rfl, by decide +kernel, by decide +kernel⟩
theorem ok_is_servable (F : Fun K "is_servable" "is_servable" s_is_servable f fd) (T : Txt K mg C aW aA) (D_peak_in : DefAt P w K mg base "peak_in" 6 ["users", "mask", "grade_count"] (SpOf pPeak)) (D_is_mask : DefAt P w K mg base "is_mask" 1 ["users", "mask"] (SpOf pIsMask)) : FnOk P w K mg base CX0 7 f fd ["network", "mask", "cascade_count"] (SpOfL (pServOp C)) := by
  refine F.ok sc_is_servable (fun vs H Q E h => ?_) (fun cdv A outer s H vs Q E hr h => ?_)
  · obtain ⟨z, ⟨a, l, n, m, c, rfl, _⟩, _⟩ := h
    rfl
  · obtain ⟨z, ⟨a, l, n, m, c, rfl, hN, ok, rfl⟩, k⟩ := h
    refine ⟨_, (pss_cons (ps_if (pt_not (pt_val (pe_def D_is_mask (hr.mono (by decide)) rfl (pa_cons (pe_fld (pv 0) rfl) (pa_cons (pv 1) pa_nil))))) (pss_one (ps_ret (pe_lst (pa_cons (pe_k rfl T.k_NO_USER) pa_nil)))) pss_nil) (pss_cons (ps_if (pt_cmpR op_le (pe_def D_peak_in (hr.mono (by decide)) rfl (pa_cons (pe_fld (pv 0) rfl) (pa_cons (pv 1) (pa_cons (pe_fld (pv 0) rfl) pa_nil)))) (pv 2) (nomark _)) (pss_one (ps_ret (pe_lst (pa_cons pe_int pa_nil)))) pss_nil) (pss_one (ps_ret (pe_lst (pa_cons pe_int pa_nil)))))), ?_⟩
    have ea : ans (some n) (.isServable m c) = (Kqk3Neutral.fields (if Kqk3.isSet n m = false then .value (-2) else Kqk3.flag (Kqk3.peakLoad n m ≤ c))).map V.int := rfl
    rw [ea] at k
    refine q_when (b := !Kqk3.isSet n m) (et_not (et_B (ev_call (ea_cons (ev_us T hN (ev_var rfl)) (ea_cons (ev_var rfl) ea_nil)) (spv fun H1 e1 => ⟨l, n, m, rfl, hN.us.mono e1, ok.u8, rfl⟩)))) (fun hb H1 e1 => ?_) (fun hb H1 e1 => ?_)
    · have hb : Kqk3.isSet n m = false := by simpa using hb
      refine s_retL (el_lst (ea_cons ev_c ea_nil) (by decide : 1 ≤ 100000)) (retl k e1 ?_)
      rw [if_pos hb]; rfl
    · have hb : ¬ Kqk3.isSet n m = false := by simpa using hb
      have hN1 := hN.mono e1
      rw [if_neg hb] at k
      refine q_when (b := decide (Kqk3.peakLoad n m ≤ c)) (et_test (ev_op (ev_call (z := .int ((Kqk3.peakLoad n m : Nat) : Int)) (ea_cons (ev_us T hN1 (ev_var rfl)) (ea_cons (ev_var rfl) (ea_cons (ev_gc T hN1 (ev_var rfl)) ea_nil))) (spv fun H2 e2 => ⟨l, n, m, rfl, hN1.us.mono e2, ok.u8, ok.g1, ok.g12, rfl⟩)) (ev_var rfl) (rv_int (congrArg V.bl (decide_eq_decide.mpr Int.ofNat_le))))) (fun hc H2 e2 => ?_) (fun hc H2 e2 => ?_)
      · refine s_retL (el_lst (ea_cons ev_c ea_nil) (by decide : 1 ≤ 100000)) (retl k (e1.trans e2) ?_)
        unfold Kqk3.flag; rw [if_pos (of_decide_eq_true hc)]; rfl
      · refine s_retL (el_lst (ea_cons ev_c ea_nil) (by decide : 1 ≤ 100000)) (retl k (e1.trans e2) ?_)
        unfold Kqk3.flag; rw [if_neg (of_decide_eq_false hc)]; rfl
abbrev s_best_set : Stmt := top 50
theorem sc_best_set : FnScope ["network", "cascade_count", "mask"] ["network", "cascade_count"] (defScope s_best_set) := ⟨rfl, rfl, rfl, by decide +kernel, rfl, by decide +kernel, by decide +kernel⟩
theorem ok_best_set (F : Fun K "best_set" "best_set" s_best_set f fd) (T : Txt K mg C aW aA) (D_best_mask : DefAt P w K mg base "best_mask" 7 ["users", "grade_count", "cascade_count"] (SpOf pBest)) (D_value_in : DefAt P w K mg base "value_in" 3 ["users", "mask"] (SpOf pValue)) : FnOk P w K mg base CX0 8 f fd ["network", "cascade_count"] (SpOfL (pBestOp C)) := by
  refine F.ok sc_best_set (fun vs H Q E h => ?_) (fun cdv A outer s H vs Q E hr h => ?_)
  · obtain ⟨z, ⟨a, l, n, c, rfl, _⟩, _⟩ := h
    rfl
  · obtain ⟨z, ⟨a, l, n, c, rfl, hN, ok, rfl⟩, k⟩ := h
    refine ⟨_, (pss_cons (ps_if (pt_cmpR op_gt (pv 1) (pe_k rfl T.k_MOST_CASCADES) (nomark _)) (pss_one (ps_ret (pe_lst (pa_cons (pe_k rfl T.k_BAD_RANGE) pa_nil)))) pss_nil) (pss_cons (ps_set (i := 2) sc_best_set.nd rfl (Or.inl rfl) (pe_def D_best_mask (hr.mono (by decide)) rfl (pa_cons (pe_fld (pv 0) rfl) (pa_cons (pe_fld (pv 0) rfl) (pa_cons (pv 1) pa_nil))))) (pss_one (ps_ret (pe_lst (pa_cons (pe_def D_value_in (hr.mono (by decide)) rfl (pa_cons (pe_fld (pv 0) rfl) (pa_cons (pv 2) pa_nil))) (pa_cons (pv 2) pa_nil))))))), ?_⟩
    have ea : ans (some n) (.bestSet c) = (Kqk3Neutral.fields (if 8 < c then .value (-22) else .values (Kqk3.valueOf n (Kqk3.bestSet n c)) [(Kqk3.bestSet n c : Int)])).map V.int := rfl
    rw [ea] at k
    refine q_when (b := decide (8 < c)) (et_test (ev_op (ev_var rfl) ev_c (rv_int (congrArg V.bl (decide_eq_decide.mpr (by omega)))))) (fun hb H1 e1 => ?_) (fun hb H1 e1 => ?_)
    · refine s_retL (el_lst (ea_cons ev_c ea_nil) (by decide : 1 ≤ 100000)) (retl k e1 ?_)
      rw [if_pos (of_decide_eq_true hb)]; rfl
    · have hN1 := hN.mono e1
      rw [if_neg (of_decide_eq_false hb)] at k
      refine q_asg (ev_call (z := .int ((Kqk3.bestSet n c : Nat) : Int)) (ea_cons (ev_us T hN1 (ev_var rfl)) (ea_cons (ev_gc T hN1 (ev_var rfl)) (ea_cons (ev_var rfl) ea_nil))) (spv fun H2 e2 => ⟨l, n, c, rfl, hN1.us.mono e2, ok.u8, ok.g1, ok.g12, rfl⟩)) fun H2 e2 => ?_
      have hN2 := hN1.mono e2
      exact s_retL (el_lst (ea_cons (ev_call (ea_cons (ev_us T hN2 (ev_var rfl)) (ea_cons (ev_var rfl) ea_nil)) (spv fun H3 e3 => ⟨l, n, Kqk3.bestSet n c, rfl, hN2.us.mono e3, ok.u8, rfl⟩)) (ea_cons (ev_var rfl) ea_nil)) (by decide : 2 ≤ 100000)) (retl k (e1.trans e2) rfl)
abbrev s_value_of : Stmt := top 51
theorem sc_value_of : FnScope ["network", "mask"] ["network", "mask"] (defScope s_value_of) := ⟨rfl, rfl, rfl, by decide +kernel, rfl, by decide +kernel, by decide +kernel⟩
theorem ok_value_of (F : Fun K "value_of" "value_of" s_value_of f fd) (T : Txt K mg C aW aA) (D_is_mask : DefAt P w K mg base "is_mask" 1 ["users", "mask"] (SpOf pIsMask)) (D_value_in : DefAt P w K mg base "value_in" 3 ["users", "mask"] (SpOf pValue)) : FnOk P w K mg base CX0 4 f fd ["network", "mask"] (SpOfL (pValOp C)) := by
  refine F.ok sc_value_of (fun vs H Q E h => ?_) (fun cdv A outer s H vs Q E hr h => ?_)
  · obtain ⟨z, ⟨a, l, n, m, rfl, _⟩, _⟩ := h
    rfl
  · obtain ⟨z, ⟨a, l, n, m, rfl, hN, ok, rfl⟩, k⟩ := h
    refine ⟨_, (pss_cons (ps_if (pt_not (pt_val (pe_def D_is_mask (hr.mono (by decide)) rfl (pa_cons (pe_fld (pv 0) rfl) (pa_cons (pv 1) pa_nil))))) (pss_one (ps_ret (pe_lst (pa_cons (pe_k rfl T.k_NO_USER) pa_nil)))) pss_nil) (pss_one (ps_ret (pe_lst (pa_cons (pe_def D_value_in (hr.mono (by decide)) rfl (pa_cons (pe_fld (pv 0) rfl) (pa_cons (pv 1) pa_nil))) pa_nil))))), ?_⟩
    have ea : ans (some n) (.valueOf m) = (Kqk3Neutral.fields (if Kqk3.isSet n m = false then .value (-2) else .value (Kqk3.valueOf n m))).map V.int := rfl
    rw [ea] at k
    refine q_when (b := !Kqk3.isSet n m) (et_not (et_B (ev_call (ea_cons (ev_us T hN (ev_var rfl)) (ea_cons (ev_var rfl) ea_nil)) (spv fun H1 e1 => ⟨l, n, m, rfl, hN.us.mono e1, ok.u8, rfl⟩)))) (fun hb H1 e1 => ?_) (fun hb H1 e1 => ?_)
    · have hb : Kqk3.isSet n m = false := by simpa using hb
      refine s_retL (el_lst (ea_cons ev_c ea_nil) (by decide : 1 ≤ 100000)) (retl k e1 ?_)
      rw [if_pos hb]; rfl
    · have hb : ¬ Kqk3.isSet n m = false := by simpa using hb
      have hN1 := hN.mono e1
      rw [if_neg hb] at k
      exact s_retL (el_lst (ea_cons (ev_call (ea_cons (ev_us T hN1 (ev_var rfl)) (ea_cons (ev_var rfl) ea_nil)) (spv fun H3 e3 => ⟨l, n, m, rfl, hN1.us.mono e3, ok.u8, rfl⟩)) ea_nil) (by decide : 1 ≤ 100000)) (retl k e1 rfl)
abbrev s_marginal_value : Stmt := top 52
theorem sc_marginal_value : FnScope ["network", "cascade_count", "more"] ["network", "cascade_count"] (defScope s_marginal_value) := ⟨rfl, rfl, rfl, by decide +kernel, rfl, by decide +kernel, by decide +kernel⟩
theorem ok_marginal_value (F : Fun K "marginal_value" "marginal_value" s_marginal_value f fd) (T : Txt K mg C aW aA) (D_best_value : DefAt P w K mg base "best_value" 8 ["users", "grade_count", "cascade_count"] (SpOf pBestV)) : FnOk P w K mg base CX0 9 f fd ["network", "cascade_count"] (SpOfL (pMargOp C)) := by
  refine F.ok sc_marginal_value (fun vs H Q E h => ?_) (fun cdv A outer s H vs Q E hr h => ?_)
  · obtain ⟨z, ⟨a, l, n, c, rfl, _⟩, _⟩ := h
    rfl
  · obtain ⟨z, ⟨a, l, n, c, rfl, hN, ok, rfl⟩, k⟩ := h
    refine ⟨_, (pss_cons (ps_if (PW.pt (pw_or (pt_cmpR op_lt (pv 1) pe_int (nomark _)) (pw_or1 (pt_cmpR op_gt (pv 1) (pe_k rfl T.k_MOST_CASCADES) (nomark _))))) (pss_one (ps_ret (pe_lst (pa_cons (pe_k rfl T.k_BAD_RANGE) pa_nil)))) pss_nil) (pss_cons (ps_set (i := 2) sc_marginal_value.nd rfl (Or.inl rfl) (pe_def D_best_value (hr.mono (by decide)) rfl (pa_cons (pe_fld (pv 0) rfl) (pa_cons (pe_fld (pv 0) rfl) (pa_cons (pv 1) pa_nil))))) (pss_one (ps_ret (pe_lst (pa_cons (pe_op op_sub (pv 2) (pe_def D_best_value (hr.mono (by decide)) rfl (pa_cons (pe_fld (pv 0) rfl) (pa_cons (pe_fld (pv 0) rfl) (pa_cons (pe_op op_sub (pv 1) pe_int) pa_nil))))) pa_nil)))))), ?_⟩
    have ea : ans (some n) (.marginalValue c) = (Kqk3Neutral.fields (if c < 1 ∨ 8 < c then .value (-22) else .value (Kqk3.valueOf n (Kqk3.bestSet n c) - Kqk3.valueOf n (Kqk3.bestSet n (c - 1)) : Nat))).map V.int := rfl
    rw [ea] at k
    refine q_when (b := decide (c < 1) || decide (8 < c)) (et_or (et_test (ev_op (ev_var rfl) ev_c (rv_int (congrArg V.bl (decide_eq_decide.mpr (by omega)))))) (fun _ => et_test (ev_op (ev_var rfl) ev_c (rv_int (congrArg V.bl (decide_eq_decide.mpr (by omega))))))) (fun hb H1 e1 => ?_) (fun hb H1 e1 => ?_)
    · have hb : c < 1 ∨ 8 < c := by simpa using hb
      refine s_retL (el_lst (ea_cons ev_c ea_nil) (by decide : 1 ≤ 100000)) (retl k e1 ?_)
      rw [if_pos hb]; rfl
    · have hb : ¬ (c < 1 ∨ 8 < c) := by simpa using hb
      have hN1 := hN.mono e1
      rw [if_neg hb] at k
      refine q_asg (ev_call (z := .int ((Kqk3.valueOf n (Kqk3.bestSet n c) : Nat) : Int)) (ea_cons (ev_us T hN1 (ev_var rfl)) (ea_cons (ev_gc T hN1 (ev_var rfl)) (ea_cons (ev_var rfl) ea_nil))) (spv fun H2 e2 => ⟨l, n, c, rfl, hN1.us.mono e2, ok.u8, ok.g1, ok.g12, rfl⟩)) fun H2 e2 => ?_
      have hN2 := hN1.mono e2
      have hle := best_mono n (show c - 1 ≤ c by omega)
      refine s_retL (el_lst (ea_cons (ev_op (ev_var rfl) (ev_call (z := .int ((Kqk3.valueOf n (Kqk3.bestSet n (c - 1)) : Nat) : Int)) (ea_cons (ev_us T hN2 (ev_var rfl)) (ea_cons (ev_gc T hN2 (ev_var rfl)) (ea_cons (ev_op (ev_var rfl) ev_c (rv_int (z := .int ((c - 1 : Nat) : Int)) (congrArg V.int (by omega)))) ea_nil))) (spv fun H3 e3 => ⟨l, n, c - 1, rfl, hN2.us.mono e3, ok.u8, ok.g1, ok.g12, rfl⟩)) (rv_int (z := .int ((Kqk3.valueOf n (Kqk3.bestSet n c) - Kqk3.valueOf n (Kqk3.bestSet n (c - 1)) : Nat) : Int)) (congrArg V.int (by omega)))) ea_nil) (by decide : 1 ≤ 100000)) (retl k (e1.trans e2) rfl)
abbrev s_can_follow : Stmt := top 53
theorem sc_can_follow : FnScope ["network", "number", "later"] ["network", "number", "later"] (defScope s_can_follow) := ⟨rfl, rfl, rfl, by decide +kernel, rfl, by decide +kernel, by decide +kernel⟩
theorem ok_can_follow (F : Fun K "can_follow" "can_follow" s_can_follow f fd) (T : Txt K mg C aW aA) (D_has_user : DefAt P w K mg base "has_user" 1 ["network", "number"] (SpOf (pHas C))) (D_follows : DefAt P w K mg base "follows" 1 ["user", "later"] (SpOf pFollows)) : FnOk P w K mg base CX0 2 f fd ["network", "number", "later"] (SpOfL (pFollowOp C)) := by
  refine F.ok sc_can_follow (fun vs H Q E h => ?_) (fun cdv A outer s H vs Q E hr h => ?_)
  · obtain ⟨z, ⟨a, l, n, i, j, rfl, _⟩, _⟩ := h
    rfl
  · obtain ⟨z, ⟨a, l, n, i, j, rfl, hN, ok, rfl⟩, k⟩ := h
    refine ⟨_, (pss_cons (ps_if (PW.pt (pw_or (pt_not (pt_val (pe_def D_has_user (hr.mono (by decide)) rfl (pa_cons (pv 0) (pa_cons (pv 1) pa_nil))))) (pw_or1 (pt_not (pt_val (pe_def D_has_user (hr.mono (by decide)) rfl (pa_cons (pv 0) (pa_cons (pv 2) pa_nil)))))))) (pss_one (ps_ret (pe_lst (pa_cons (pe_k rfl T.k_NO_USER) pa_nil)))) pss_nil) (pss_cons (ps_if (pt_val (pe_def D_follows (hr.mono (by decide)) rfl (pa_cons (pe_ix ix_list (pe_fld (pv 0) rfl) (pv 1) (fun _ _ => rfl)) (pa_cons (pe_ix ix_list (pe_fld (pv 0) rfl) (pv 2) (fun _ _ => rfl)) pa_nil)))) (pss_one (ps_ret (pe_lst (pa_cons pe_int pa_nil)))) pss_nil) (pss_one (ps_ret (pe_lst (pa_cons pe_int pa_nil)))))), ?_⟩
    have ea : ans (some n) (.canFollow i j) = (Kqk3Neutral.fields (if n.users.length ≤ i ∨ n.users.length ≤ j then .value (-2) else Kqk3.flag ((Kqk3.user n j).supply ≤ (Kqk3.user n i).returned))).map V.int := rfl
    rw [ea] at k
    refine q_when (b := (!decide (i < n.users.length)) || !decide (j < n.users.length)) (et_or (et_not (et_B (ev_call (ea_cons (ev_var rfl) (ea_cons (ev_var rfl) ea_nil)) (spv fun H1 e1 => ⟨a, l, n, i, rfl, hN.mono e1, rfl⟩)))) (fun _ => et_not (et_B (ev_call (ea_cons (ev_var rfl) (ea_cons (ev_var rfl) ea_nil)) (spv fun H1 e1 => ⟨a, l, n, j, rfl, hN.mono e1, rfl⟩))))) (fun hb H1 e1 => ?_) (fun hb H1 e1 => ?_)
    · have hb : n.users.length ≤ i ∨ n.users.length ≤ j := by simpa using hb
      refine s_retL (el_lst (ea_cons ev_c ea_nil) (by decide : 1 ≤ 100000)) (retl k e1 ?_)
      rw [if_pos hb]; rfl
    · have hb : i < n.users.length ∧ j < n.users.length := by simpa using hb
      have hN1 := hN.mono e1
      rw [if_neg (by omega)] at k
      obtain ⟨q1, hq1, ht1⟩ := ev_userAt (K := K) (σ := start ["network", "number", "later"] [.ref a, .int ((i : Nat) : Int), .int ((j : Nat) : Int)]) (ta := tFld K (tVar 0) "users") (tb := tVar 1) (i := i) (ev_us T hN1 (ev_var rfl)) (ev_var rfl) hN1.us hb.1
      obtain ⟨q2, hq2, ht2⟩ := ev_userAt (K := K) (σ := start ["network", "number", "later"] [.ref a, .int ((i : Nat) : Int), .int ((j : Nat) : Int)]) (ta := tFld K (tVar 0) "users") (tb := tVar 2) (i := j) (ev_us T hN1 (ev_var rfl)) (ev_var rfl) hN1.us hb.2
      refine q_when (b := decide ((Kqk3.user n j).supply ≤ (Kqk3.user n i).returned)) (et_B (ev_call (ea_cons hq1 (ea_cons hq2 ea_nil)) (spv fun H2 e2 => ⟨q1, q2, _, _, rfl, e2 _ _ ht1, e2 _ _ ht2, rfl⟩))) (fun hc H2 e2 => ?_) (fun hc H2 e2 => ?_)
      · refine s_retL (el_lst (ea_cons ev_c ea_nil) (by decide : 1 ≤ 100000)) (retl k (e1.trans e2) ?_)
        unfold Kqk3.flag; rw [if_pos (of_decide_eq_true hc)]; rfl
      · refine s_retL (el_lst (ea_cons ev_c ea_nil) (by decide : 1 ≤ 100000)) (retl k (e1.trans e2) ?_)
        unfold Kqk3.flag; rw [if_neg (of_decide_eq_false hc)]; rfl
abbrev s_peak_users : Stmt := top 54
theorem sc_peak_users : FnScope ["network", "mask", "grade", "numbers"] ["network"] (defScope s_peak_users) := ⟨rfl, rfl, rfl, by decide +kernel, rfl, by decide +kernel, by decide +kernel⟩
theorem ok_peak_users (F : Fun K "peak_users" "peak_users" s_peak_users f fd) (T : Txt K mg C aW aA) (D_peak_grade_in : DefAt P w K mg base "peak_grade_in" 6 ["users", "mask", "grade_count"] (SpOf pPeakGrade)) (D_full_mask : DefAt P w K mg base "full_mask" 1 ["users"] (SpOf pFull)) (D_occupants : DefAt P w K mg base "occupants" 3 ["users", "mask", "grade"] (SpOfL pOccupants)) : FnOk P w K mg base CX0 7 f fd ["network"] (SpOfL (pPeakUOp C)) := by
  refine F.ok sc_peak_users (fun vs H Q E h => ?_) (fun cdv A outer s H vs Q E hr h => ?_)
  · obtain ⟨z, ⟨a, l, n, rfl, _⟩, _⟩ := h
    rfl
  · obtain ⟨z, ⟨a, l, n, rfl, hN, ok, rfl⟩, k⟩ := h
    refine ⟨_, (pss_cons (ps_set (i := 1) sc_peak_users.nd rfl (Or.inl rfl) (pe_def D_full_mask (hr.mono (by decide)) rfl (pa_cons (pe_fld (pv 0) rfl) pa_nil))) (pss_cons (ps_set (i := 2) sc_peak_users.nd rfl (Or.inl rfl) (pe_def D_peak_grade_in (hr.mono (by decide)) rfl (pa_cons (pe_fld (pv 0) rfl) (pa_cons (pv 1) (pa_cons (pe_fld (pv 0) rfl) pa_nil))))) (pss_cons (ps_set (i := 3) sc_peak_users.nd rfl (Or.inl rfl) (pe_def D_occupants (hr.mono (by decide)) rfl (pa_cons (pe_fld (pv 0) rfl) (pa_cons (pv 1) (pa_cons (pv 2) pa_nil))))) (pss_one (ps_ret (pe_op op_cat (pe_lst (pa_cons (pe_callB cr_len (by rfl) T.n_len PySem.boot_len (pa_cons (pv 3) pa_nil)) pa_nil)) (pv 3))))))), ?_⟩
    have ea : ans (some n) .peakUsers = V.int (((Kqk3.peakUsersOf n).length : Nat) : Int) :: (Kqk3.ints (Kqk3.peakUsersOf n)).map V.int := rfl
    rw [ea, peakUsers_is ok.g1] at k
    have hlen : ((Kqk3.members n (Kqk3.allUsersSet n)).filter fun i => Kqk3.occupies (Kqk3.user n i) (peakPlace n (Kqk3.allUsersSet n) + 1)).length ≤ 8 := Nat.le_trans (List.length_filter_le _ _) (Nat.le_trans (members_le _ _) ok.u8)
    refine q_asg (v := .int ((Kqk3.allUsersSet n : Nat) : Int)) (ev_call (ea_cons (ev_us T hN (ev_var rfl)) ea_nil) (spv fun H2 e2 => ⟨l, n, rfl, hN.us.mono e2, ok.u8, rfl⟩)) fun H1 e1 => ?_
    have hN1 := hN.mono e1
    refine q_asg (v := .int ((peakPlace n (Kqk3.allUsersSet n) + 1 : Nat) : Int)) (ev_call (ea_cons (ev_us T hN1 (ev_var rfl)) (ea_cons (ev_var rfl) (ea_cons (ev_gc T hN1 (ev_var rfl)) ea_nil))) (spv fun H2 e2 => ⟨l, n, Kqk3.allUsersSet n, rfl, hN1.us.mono e2, ok.u8, ok.g1, ok.g12, rfl⟩)) fun H2 e2 => ?_
    have hN2 := hN1.mono e2
    refine q_asgL (el_call (ea_cons (ev_us T hN2 (ev_var rfl)) (ea_cons (ev_var rfl) (ea_cons (ev_var rfl) ea_nil))) (spl fun H3 e3 => ⟨l, n, Kqk3.allUsersSet n, peakPlace n (Kqk3.allUsersSet n) + 1, rfl, hN2.us.mono e3, ok.u8, rfl⟩)) fun p H3 hp e3 h3 => ?_
    generalize ((Kqk3.members n (Kqk3.allUsersSet n)).filter fun i => Kqk3.occupies (Kqk3.user n i) (peakPlace n (Kqk3.allUsersSet n) + 1)) = pu at *
    refine s_retL (el_catNL (el_lst (ea_cons (ev_is (ev_len (ev_var rfl) (sq_of h3)) (by rw [ni_len])) ea_nil) (by decide : 1 ≤ 100000)) (ev_var rfl) h3 (by rw [ni_len]; show 1 + _ ≤ 100000; omega)) (retl k ((e1.trans e2).trans e3) ?_)
    show _ :: _ = _ :: ni pu
    rw [ni_ints]
    rfl
abbrev s_are_bad : Stmt := top 55
theorem sc_are_bad : FnScope ["network", "cascade_count", "prices"] ["network", "cascade_count", "prices"] (defScope s_are_bad) := ⟨rfl, rfl, rfl, by decide +kernel, rfl, by decide +kernel, by decide +kernel⟩
theorem ok_are_bad (F : Fun K "are_bad" "are_bad" s_are_bad f fd) (T : Txt K mg C aW aA) (D_are_prices : DefAt P w K mg base "are_prices" 1 ["prices", "grade_count"] (SpOf pArePrices)) : FnOk P w K mg base CX0 2 f fd ["network", "cascade_count", "prices"] (SpOf (pBad C)) := by
  refine F.ok sc_are_bad (fun vs H Q E h => ?_) (fun cdv A outer s H vs Q E hr h => ?_)
  · obtain ⟨z, ⟨a, l, b, n, c, ps, rfl, _⟩, _⟩ := h
    rfl
  · obtain ⟨z, ⟨a, l, b, n, c, ps, rfl, hN, hb, rfl⟩, k⟩ := h
    refine ⟨_, (pss_one (ps_ret (pe_or (pe_cmpR op_gt (pv 1) (pe_k rfl T.k_MOST_CASCADES) (nomark _)) (pe_one (pe_not (pe_def D_are_prices (hr.mono (by decide)) rfl (pa_cons (pv 2) (pa_cons (pe_fld (pv 0) rfl) pa_nil)))))))), ?_⟩
    exact s_ret (ev_orV (ev_op (ev_var rfl) ev_c (rv_int (congrArg V.bl (decide_eq_decide.mpr (by omega))))) (fun _ => ev_notV (ev_call (ea_cons (ev_var rfl) (ea_cons (ev_gc T hN (ev_var rfl)) ea_nil)) (spv fun H1 e1 => ⟨b, n, ps, rfl, e1 _ _ hb, rfl⟩)))) k
abbrev s_dual_bound : Stmt := top 56
theorem sc_dual_bound : FnScope ["network", "cascade_count", "prices"] ["network", "cascade_count", "prices"] (defScope s_dual_bound) := ⟨rfl, rfl, rfl, by decide +kernel, rfl, by decide +kernel, by decide +kernel⟩
theorem bad_no {c : Nat} {b : Bool} (h : (decide (8 < c) || !b) = false) : c ≤ 8 ∧ b = true := by
  rw [Bool.or_eq_false_iff, decide_eq_false_iff_not, Bool.not_eq_false'] at h
  exact ⟨by omega, h.2⟩
theorem bad_yes {c : Nat} {b : Bool} (h : (decide (8 < c) || !b) = true) : 8 < c ∨ b = false := by
  rw [Bool.or_eq_true, decide_eq_true_iff, Bool.not_eq_true'] at h
  exact h
theorem ok_dual_bound (F : Fun K "dual_bound" "dual_bound" s_dual_bound f fd) (T : Txt K mg C aW aA) (D_are_bad : DefAt P w K mg base "are_bad" 2 ["network", "cascade_count", "prices"] (SpOf (pBad C))) (D_bound_of : DefAt P w K mg base "bound_of" 2 ["users", "cascade_count", "prices"] (SpOf pBound)) : FnOk P w K mg base CX0 3 f fd ["network", "cascade_count", "prices"] (SpOfL (pDualOp C)) := by
  refine F.ok sc_dual_bound (fun vs H Q E h => ?_) (fun cdv A outer s H vs Q E hr h => ?_)
  · obtain ⟨z, ⟨a, l, b, n, c, ps, rfl, _⟩, _⟩ := h
    rfl
  · obtain ⟨z, ⟨a, l, b, n, c, ps, rfl, hN, ok, hp, rfl⟩, k⟩ := h
    refine ⟨_, (pss_cons (ps_if (pt_val (pe_def D_are_bad (hr.mono (by decide)) rfl (pa_cons (pv 0) (pa_cons (pv 1) (pa_cons (pv 2) pa_nil))))) (pss_one (ps_ret (pe_lst (pa_cons (pe_k rfl T.k_BAD_RANGE) pa_nil)))) pss_nil) (pss_one (ps_ret (pe_lst (pa_cons (pe_def D_bound_of (hr.mono (by decide)) rfl (pa_cons (pe_fld (pv 0) rfl) (pa_cons (pv 1) (pa_cons (pv 2) pa_nil)))) pa_nil))))), ?_⟩
    have ea : ans (some n) (.dualBound c ps) = (Kqk3Neutral.fields (if 8 < c ∨ Kqk3.arePrices n ps = false then .value (-22) else .value (Kqk3.dualBound n c ps))).map V.int := rfl
    rw [ea] at k
    refine q_when (b := decide (8 < c) || !Kqk3.arePrices n ps) (et_B (ev_call (ea_cons (ev_var rfl) (ea_cons (ev_var rfl) (ea_cons (ev_var rfl) ea_nil))) (spv fun H1 e1 => ⟨a, l, b, n, c, ps, rfl, hN.mono e1, e1 _ _ hp, rfl⟩))) (fun hb H1 e1 => ?_) (fun hb H1 e1 => ?_)
    · refine s_retL (el_lst (ea_cons ev_c ea_nil) (by decide : 1 ≤ 100000)) (retl k e1 ?_)
      rw [if_pos (bad_yes hb)]; rfl
    · obtain ⟨h1, h2⟩ := bad_no hb
      have hN1 := hN.mono e1
      rw [if_neg (by rw [h2]; simp; omega)] at k
      exact s_retL (el_lst (ea_cons (ev_call (ea_cons (ev_us T hN1 (ev_var rfl)) (ea_cons (ev_var rfl) (ea_cons (ev_var rfl) ea_nil))) (spv fun H2 e2 => ⟨l, b, n, c, ps, rfl, hN1.us.mono e2, ok, (e1.trans e2) _ _ hp, prices_len h2, h1, rfl⟩)) ea_nil) (by decide : 1 ≤ 100000)) (retl k e1 rfl)
abbrev s_proves_optimality : Stmt := top 57
theorem sc_proves_optimality : FnScope ["network", "cascade_count", "prices", "bound"] ["network", "cascade_count", "prices"] (defScope s_proves_optimality) := ⟨rfl, rfl, rfl, by decide +kernel, rfl, by decide +kernel, by decide +kernel⟩
theorem ok_proves_optimality (F : Fun K "proves_optimality" "proves_optimality" s_proves_optimality f fd) (T : Txt K mg C aW aA) (D_are_bad : DefAt P w K mg base "are_bad" 2 ["network", "cascade_count", "prices"] (SpOf (pBad C))) (D_bound_of : DefAt P w K mg base "bound_of" 2 ["users", "cascade_count", "prices"] (SpOf pBound)) (D_best_value : DefAt P w K mg base "best_value" 8 ["users", "grade_count", "cascade_count"] (SpOf pBestV)) : FnOk P w K mg base CX0 9 f fd ["network", "cascade_count", "prices"] (SpOfL (pProveOp C)) := by
  refine F.ok sc_proves_optimality (fun vs H Q E h => ?_) (fun cdv A outer s H vs Q E hr h => ?_)
  · obtain ⟨z, ⟨a, l, b, n, c, ps, rfl, _⟩, _⟩ := h
    rfl
  · obtain ⟨z, ⟨a, l, b, n, c, ps, rfl, hN, ok, hp, rfl⟩, k⟩ := h
    refine ⟨_, (pss_cons (ps_if (pt_val (pe_def D_are_bad (hr.mono (by decide)) rfl (pa_cons (pv 0) (pa_cons (pv 1) (pa_cons (pv 2) pa_nil))))) (pss_one (ps_ret (pe_lst (pa_cons (pe_k rfl T.k_BAD_RANGE) pa_nil)))) pss_nil) (pss_cons (ps_set (i := 3) sc_proves_optimality.nd rfl (Or.inl rfl) (pe_def D_bound_of (hr.mono (by decide)) rfl (pa_cons (pe_fld (pv 0) rfl) (pa_cons (pv 1) (pa_cons (pv 2) pa_nil))))) (pss_cons (ps_if (pt_cmpR op_eq (pv 3) (pe_def D_best_value (hr.mono (by decide)) rfl (pa_cons (pe_fld (pv 0) rfl) (pa_cons (pe_fld (pv 0) rfl) (pa_cons (pv 1) pa_nil)))) (nomark _)) (pss_one (ps_ret (pe_lst (pa_cons pe_int pa_nil)))) pss_nil) (pss_one (ps_ret (pe_lst (pa_cons pe_int pa_nil))))))), ?_⟩
    have ea : ans (some n) (.provesOptimality c ps) = (Kqk3Neutral.fields (if 8 < c ∨ Kqk3.arePrices n ps = false then .value (-22) else Kqk3.flag (Kqk3.dualBound n c ps = Kqk3.valueOf n (Kqk3.bestSet n c)))).map V.int := rfl
    rw [ea] at k
    refine q_when (b := decide (8 < c) || !Kqk3.arePrices n ps) (et_B (ev_call (ea_cons (ev_var rfl) (ea_cons (ev_var rfl) (ea_cons (ev_var rfl) ea_nil))) (spv fun H1 e1 => ⟨a, l, b, n, c, ps, rfl, hN.mono e1, e1 _ _ hp, rfl⟩))) (fun hb H1 e1 => ?_) (fun hb H1 e1 => ?_)
    · refine s_retL (el_lst (ea_cons ev_c ea_nil) (by decide : 1 ≤ 100000)) (retl k e1 ?_)
      rw [if_pos (bad_yes hb)]; rfl
    · obtain ⟨h1, h2⟩ := bad_no hb
      have hN1 := hN.mono e1
      rw [if_neg (by rw [h2]; simp; omega)] at k
      refine q_asg (ev_call (z := .int ((Kqk3.dualBound n c ps : Nat) : Int)) (ea_cons (ev_us T hN1 (ev_var rfl)) (ea_cons (ev_var rfl) (ea_cons (ev_var rfl) ea_nil))) (spv fun H2 e2 => ⟨l, b, n, c, ps, rfl, hN1.us.mono e2, ok, (e1.trans e2) _ _ hp, prices_len h2, h1, rfl⟩)) fun H2 e2 => ?_
      have hN2 := hN1.mono e2
      refine q_when (b := decide (Kqk3.dualBound n c ps = Kqk3.valueOf n (Kqk3.bestSet n c))) (et_test (ev_op (ev_var rfl) (ev_call (z := .int ((Kqk3.valueOf n (Kqk3.bestSet n c) : Nat) : Int)) (ea_cons (ev_us T hN2 (ev_var rfl)) (ea_cons (ev_gc T hN2 (ev_var rfl)) (ea_cons (ev_var rfl) ea_nil))) (spv fun H3 e3 => ⟨l, n, c, rfl, hN2.us.mono e3, ok.u8, ok.g1, ok.g12, rfl⟩)) (rv_eqI (decide_eq_decide.mpr Int.ofNat_inj)))) (fun hc H3 e3 => ?_) (fun hc H3 e3 => ?_)
      · refine s_retL (el_lst (ea_cons ev_c ea_nil) (by decide : 1 ≤ 100000)) (retl k ((e1.trans e2).trans e3) ?_)
        unfold Kqk3.flag; rw [if_pos (of_decide_eq_true hc)]; rfl
      · refine s_retL (el_lst (ea_cons ev_c ea_nil) (by decide : 1 ≤ 100000)) (retl k ((e1.trans e2).trans e3) ?_)
        unfold Kqk3.flag; rw [if_neg (of_decide_eq_false hc)]; rfl
abbrev s_loss_without : Stmt := top 58
theorem sc_loss_without : FnScope ["network", "number", "cascade_count", "others", "now"] ["network", "number", "cascade_count"] (defScope s_loss_without) := ⟨rfl, rfl, rfl, by decide +kernel, rfl, by decide +kernel, by decide +kernel⟩
theorem ok_loss_without (F : Fun K "loss_without" "loss_without" s_loss_without f fd) (T : Txt K mg C aW aA) (D_has_user : DefAt P w K mg base "has_user" 1 ["network", "number"] (SpOf (pHas C))) (D_without : DefAt P w K mg base "without" 1 ["users", "number"] (SpOfL pWithout)) (D_best_value : DefAt P w K mg base "best_value" 8 ["users", "grade_count", "cascade_count"] (SpOf pBestV)) : FnOk P w K mg base CX0 9 f fd ["network", "number", "cascade_count"] (SpOfL (pLossOp C)) := by
  refine F.ok sc_loss_without (fun vs H Q E h => ?_) (fun cdv A outer s H vs Q E hr h => ?_)
  · obtain ⟨z, ⟨a, l, n, i, c, rfl, _⟩, _⟩ := h
    rfl
  · obtain ⟨z, ⟨a, l, n, i, c, rfl, hN, ok, rfl⟩, k⟩ := h
    refine ⟨_, (pss_cons (ps_if (pt_not (pt_val (pe_def D_has_user (hr.mono (by decide)) rfl (pa_cons (pv 0) (pa_cons (pv 1) pa_nil))))) (pss_one (ps_ret (pe_lst (pa_cons (pe_k rfl T.k_NO_USER) pa_nil)))) pss_nil) (pss_cons (ps_if (pt_cmpR op_gt (pv 2) (pe_k rfl T.k_MOST_CASCADES) (nomark _)) (pss_one (ps_ret (pe_lst (pa_cons (pe_k rfl T.k_BAD_RANGE) pa_nil)))) pss_nil) (pss_cons (ps_set (i := 3) sc_loss_without.nd rfl (Or.inl rfl) (pe_def D_without (hr.mono (by decide)) rfl (pa_cons (pe_fld (pv 0) rfl) (pa_cons (pv 1) pa_nil)))) (pss_cons (ps_set (i := 4) sc_loss_without.nd rfl (Or.inl rfl) (pe_def D_best_value (hr.mono (by decide)) rfl (pa_cons (pe_fld (pv 0) rfl) (pa_cons (pe_fld (pv 0) rfl) (pa_cons (pv 2) pa_nil))))) (pss_one (ps_ret (pe_lst (pa_cons (pe_op op_sub (pv 4) (pe_def D_best_value (hr.mono (by decide)) rfl (pa_cons (pv 3) (pa_cons (pe_fld (pv 0) rfl) (pa_cons (pv 2) pa_nil))))) pa_nil)))))))), ?_⟩
    have ea : ans (some n) (.lossWithout i c) = (Kqk3Neutral.fields (if n.users.length ≤ i then .value (-2) else if 8 < c then .value (-22) else .value (Kqk3.valueOf n (Kqk3.bestSet n c) - Kqk3.valueOf { n with users := n.users.eraseIdx i } (Kqk3.bestSet { n with users := n.users.eraseIdx i } c) : Nat))).map V.int := rfl
    rw [ea] at k
    refine q_when (b := !decide (i < n.users.length)) (et_not (et_B (ev_call (ea_cons (ev_var rfl) (ea_cons (ev_var rfl) ea_nil)) (spv fun H1 e1 => ⟨a, l, n, i, rfl, hN.mono e1, rfl⟩)))) (fun hb H1 e1 => ?_) (fun hb H1 e1 => ?_)
    · have hb : n.users.length ≤ i := by simpa using hb
      refine s_retL (el_lst (ea_cons ev_c ea_nil) (by decide : 1 ≤ 100000)) (retl k e1 ?_)
      rw [if_pos hb]; rfl
    · have hb : i < n.users.length := by simpa using hb
      rw [if_neg (by omega)] at k
      refine q_when (b := decide (8 < c)) (et_test (ev_op (ev_var rfl) ev_c (rv_int (congrArg V.bl (decide_eq_decide.mpr (by omega)))))) (fun hc H2 e2 => ?_) (fun hc H2 e2 => ?_)
      · refine s_retL (el_lst (ea_cons ev_c ea_nil) (by decide : 1 ≤ 100000)) (retl k (e1.trans e2) ?_)
        rw [if_pos (of_decide_eq_true hc)]; rfl
      · have hN2 := hN.mono (e1.trans e2)
        rw [if_neg (of_decide_eq_false hc)] at k
        obtain ⟨as, hu⟩ := hN2.us
        refine q_asgL (xs := (as.eraseIdx i).map V.ref) (el_call (ea_cons (ev_us T hN2 (ev_var rfl)) (ea_cons (ev_var rfl) ea_nil)) (spl fun H3 e3 => ⟨l, as, i, rfl, e3 _ _ hu.lst, by rw [hu.len]; exact ok.u8, rfl⟩)) fun o H3 ho e3 h3 => ?_
        have hO : UsersAt H3 o ({ n with users := n.users.eraseIdx i } : Kqk3.Network).users := ⟨_, hu.erase i h3 fun p z hz => e3 _ _ hz⟩
        have hN3 := hN2.mono e3
        refine q_asg (ev_call (z := .int ((Kqk3.valueOf n (Kqk3.bestSet n c) : Nat) : Int)) (ea_cons (ev_us T hN3 (ev_var rfl)) (ea_cons (ev_gc T hN3 (ev_var rfl)) (ea_cons (ev_var rfl) ea_nil))) (spv fun H4 e4 => ⟨l, n, c, rfl, hN3.us.mono e4, ok.u8, ok.g1, ok.g12, rfl⟩)) fun H4 e4 => ?_
        have hN4 := hN3.mono e4
        have hO4 := hO.mono e4
        have hle := rest_best (n := n) (k := c) hb
        refine s_retL (el_lst (ea_cons (ev_op (ev_var rfl) (ev_call (z := .int ((Kqk3.valueOf { n with users := n.users.eraseIdx i } (Kqk3.bestSet { n with users := n.users.eraseIdx i } c) : Nat) : Int)) (ea_cons (ev_var rfl) (ea_cons (ev_gc T hN4 (ev_var rfl)) (ea_cons (ev_var rfl) ea_nil)))
          (spv fun H5 e5 => ⟨o, { n with users := n.users.eraseIdx i }, c, rfl, hO4.mono e5, ?_, ok.g1, ok.g12, rfl⟩)) (rv_int (z := .int ((Kqk3.valueOf n (Kqk3.bestSet n c) - Kqk3.valueOf { n with users := n.users.eraseIdx i } (Kqk3.bestSet { n with users := n.users.eraseIdx i } c) : Nat) : Int)) (congrArg V.int (by omega)))) ea_nil) (by decide : 1 ≤ 100000)) (retl k (((e1.trans e2).trans e3).trans e4) rfl)
        show (n.users.eraseIdx i).length ≤ 8
        rw [List.length_eraseIdx, if_pos hb]
        have := ok.u8
        omega
abbrev s_summary : Stmt := top 59
theorem sc_summary : FnScope ["network"] ["network"] (defScope s_summary) := ⟨rfl, rfl, rfl, by decide +kernel, rfl, by decide +kernel, by decide +kernel⟩
theorem ok_summary (F : Fun K "summary" "summary" s_summary f fd) (T : Txt K mg C aW aA) : FnOk P w K mg base CX0 1 f fd ["network"] (SpOfL (pSumOp C)) := by
  refine F.ok sc_summary (fun vs H Q E h => ?_) (fun cdv A outer s H vs Q E hr h => ?_)
  · obtain ⟨z, ⟨a, l, n, rfl, _⟩, _⟩ := h
    rfl
  · obtain ⟨z, ⟨a, l, n, rfl, hN, ok, rfl⟩, k⟩ := h
    refine ⟨_, (pss_one (ps_ret (pe_lst (pa_cons (pe_fld (pv 0) rfl) (pa_cons (pe_callB cr_len (by rfl) T.n_len PySem.boot_len (pa_cons (pe_fld (pv 0) rfl) pa_nil)) pa_nil))))), ?_⟩
    exact s_retL (el_lst (ea_cons (ev_gc T hN (ev_var rfl)) (ea_cons (ev_lenU (ev_us T hN (ev_var rfl)) hN.us) ea_nil)) (by decide : 2 ≤ 100000)) (retl k (Ex.refl H) rfl)
end
end HC

/-! ### reading calls -/
namespace HC
open PySem PySem.Spec PyProof.Rows L2 Evl
def argl : List Nat := [1, 3, 1, 0, 2, 1, 0, 0, 0, 1, 2, 1, 1, 1, 2, 0, 1, 1, 2, 0]
def nargs (p : Nat) : Nat := argl.getD p 0
theorem argcs_is : argcs = ni argl := rfl
theorem arg_at {p : Nat} (h : p ≤ 19) : argcs[p]? = some (.int ((nargs p : Nat) : Int)) := by
  rw [argcs_is]
  unfold ni nargs
  have hp : p < argl.length := by show p < 20; omega
  rw [List.getElem?_map, List.getD_eq_getElem?_getD, List.getElem?_eq_getElem hp]
  rfl
theorem nargs_le (p : Nat) : nargs p ≤ 3 := by
  unfold nargs
  by_cases hp : p < argl.length
  · rw [List.getD_eq_getElem?_getD, List.getElem?_eq_getElem hp]
    have h : ∀ x ∈ argl, x ≤ 3 := by decide
    exact h _ (List.getElem_mem hp)
  · rw [List.getD_eq_getElem?_getD, List.getElem?_eq_none (by omega)]
    exact Nat.zero_le _
/-- the call that begins at a place: its number, whole numbers, prices, the place behind it -/
structure CallAt (l : List Nat) (i p : Nat) (ns ps : List Nat) (e : Nat) : Prop where
  op : l[i]? = some p
  le : p ≤ 19
  nums : ns = (l.drop (i + 1)).take (nargs p)
  len : i + 1 + nargs p ≤ l.length
  no : ¬ (p = 16 ∨ p = 17) → ps = [] ∧ e = i + 1 + nargs p
  pr : (p = 16 ∨ p = 17) → ∃ m, l[i + 1 + nargs p]? = some m ∧ e = i + 1 + nargs p + 1 + m ∧ e ≤ l.length ∧ ps = (l.drop (i + 1 + nargs p + 1)).take m
theorem given_take {l : List Nat} {b k : Nat} (h : b + k ≤ l.length) : given k (fun _ => true) (fun i => V.int ((l.getD (b + i) 0 : Nat) : Int)) = ni ((l.drop b).take k) := by
  unfold given ni
  rw [List.filter_eq_self.mpr (fun _ _ => rfl)]
  apply List.ext_getElem?
  intro i
  rw [List.getElem?_map, List.getElem?_map]
  by_cases hi : i < k
  · rw [List.getElem?_range hi, List.getElem?_take_of_lt hi, List.getElem?_drop]
    show some (V.int ((l.getD (b + i) 0 : Nat) : Int)) = _
    rw [List.getD_eq_getElem?_getD, List.getElem?_eq_getElem (show b + i < l.length by omega)]
    rfl
  · rw [List.getElem?_eq_none (by rw [List.length_range]; omega), List.getElem?_eq_none (by rw [List.length_take]; omega)]
    rfl
section
variable {K : PySem.W.Frag} {σ : L2.St} {H : Hp} {ta tb : TE}
/-- an item of a list of numbers -/
theorem ev_ni {c : Addr} {l : List Nat} {i x : Nat} (ha : Ev ta σ H (.ref c)) (hb : Ev tb σ H (.int ((i : Nat) : Int))) (h : SqL K H c (ni l)) (hx : l[i]? = some x) : Ev (tOp (rIxL K) ta tb) σ H (.int ((x : Nat) : Int)) :=
  ev_op ha hb (rv_ixL h (atI_nat' (by unfold ni; rw [List.getElem?_map, hx]; rfl)))
end
theorem getD_some {l : List Nat} {i : Nat} (h : i < l.length) : l[i]? = some (l.getD i 0) := by
  rw [List.getD_eq_getElem?_getD, List.getElem?_eq_getElem h]; rfl
def pBegin (K : PySem.W.Frag) : List V → Hp → V → Prop := fun vs H z => ∃ (c : Addr) (l : List Nat) (i p e : Nat) (ns ps : List Nat), vs = [.ref c, .int ((i : Nat) : Int)] ∧ SqL K H c (ni l) ∧ CallAt l i p ns ps e ∧ z = .int ((i + 1 + nargs p : Nat) : Int)
def pHasP (K : PySem.W.Frag) : List V → Hp → V → Prop := fun vs H z => ∃ (c : Addr) (l : List Nat) (i p e : Nat) (ns ps : List Nat), vs = [.ref c, .int ((i : Nat) : Int)] ∧ SqL K H c (ni l) ∧ CallAt l i p ns ps e ∧ z = .bl (decide (p = 16) || decide (p = 17))
def pNums (K : PySem.W.Frag) : List V → Hp → List V → Prop := fun vs H xs => ∃ (c : Addr) (l : List Nat) (i p e : Nat) (ns ps : List Nat), vs = [.ref c, .int ((i : Nat) : Int)] ∧ SqL K H c (ni l) ∧ l.length ≤ 12600 ∧ CallAt l i p ns ps e ∧ xs = ni ns
def pPrices (K : PySem.W.Frag) : List V → Hp → List V → Prop := fun vs H xs => ∃ (c : Addr) (l : List Nat) (i p e : Nat) (ns ps : List Nat), vs = [.ref c, .int ((i : Nat) : Int)] ∧ SqL K H c (ni l) ∧ l.length ≤ 12600 ∧ CallAt l i p ns ps e ∧ xs = ni ps
def pEnd (K : PySem.W.Frag) : List V → Hp → V → Prop := fun vs H z => ∃ (c : Addr) (l : List Nat) (i p e : Nat) (ns ps : List Nat), vs = [.ref c, .int ((i : Nat) : Int)] ∧ SqL K H c (ni l) ∧ CallAt l i p ns ps e ∧ z = .int ((e : Nat) : Int)
section
variable {P : Program} {w : World} {K : PySem.W.Frag} {mg : Str → Option Value} {base : Heap} {f C aW aA : Addr} {fd : FuncData}
abbrev s_prices_begin : Stmt := top 64
theorem sc_prices_begin : FnScope ["calls", "at"] ["calls", "at"] (defScope s_prices_begin) := ⟨rfl, rfl, rfl, by decide +kernel, rfl, by decide +kernel, by decide +kernel⟩
theorem ok_prices_begin (F : Fun K "prices_begin" "prices_begin" s_prices_begin f fd) (T : Txt K mg C aW aA) : FnOk P w K mg base CX0 1 f fd ["calls", "at"] (SpOf (pBegin K)) := by
  refine F.ok sc_prices_begin (fun vs H Q E h => ?_) (fun cdv A outer s H vs Q E hr h => ?_)
  · obtain ⟨z, ⟨c, l, i, p, e, ns, ps, rfl, _⟩, _⟩ := h
    rfl
  · obtain ⟨z, ⟨c, l, i, p, e, ns, ps, rfl, hc, ca, rfl⟩, k⟩ := h
    refine ⟨_, (pss_one (ps_ret (pe_op op_add (pe_op op_add (pv 1) pe_int) (pe_ix ix_tup (pe_t rfl T.g_ARGUMENTS) (pe_ix ix_list (pv 0) (pv 1) (fun _ _ => rfl)) (fun _ _ => rfl))))), ?_⟩
    exact s_ret (ev_op (ev_op (ev_var rfl) ev_c (rv_int rfl)) (ev_op ev_c (ev_ni (ev_var rfl) (ev_var rfl) hc ca.op) (rv_ixT (T.t_A H) (atI_nat' (arg_at ca.le)))) (rv_int (congrArg V.int (by omega)))) k
abbrev s_has_prices : Stmt := top 65
theorem sc_has_prices : FnScope ["calls", "at"] ["calls", "at"] (defScope s_has_prices) := ⟨rfl, rfl, rfl, by decide +kernel, rfl, by decide +kernel, by decide +kernel⟩
theorem ok_has_prices (F : Fun K "has_prices" "has_prices" s_has_prices f fd) (T : Txt K mg C aW aA) : FnOk P w K mg base CX0 1 f fd ["calls", "at"] (SpOf (pHasP K)) := by
  refine F.ok sc_has_prices (fun vs H Q E h => ?_) (fun cdv A outer s H vs Q E hr h => ?_)
  · obtain ⟨z, ⟨c, l, i, p, e, ns, ps, rfl, _⟩, _⟩ := h
    rfl
  · obtain ⟨z, ⟨c, l, i, p, e, ns, ps, rfl, hc, ca, rfl⟩, k⟩ := h
    refine ⟨_, (pss_one (ps_ret (pe_or (pe_cmpR op_eq (pe_ix ix_list (pv 0) (pv 1) (fun _ _ => rfl)) (pe_k rfl T.k_DUAL_BOUND) (nomark _)) (pe_one (pe_cmpR op_eq (pe_ix ix_list (pv 0) (pv 1) (fun _ _ => rfl)) (pe_k rfl T.k_PROVES_OPTIMALITY) (nomark _)))))), ?_⟩
    exact s_ret (ev_orV (ev_op (ev_ni (ev_var rfl) (ev_var rfl) hc ca.op) ev_c (rv_eqI (decide_eq_decide.mpr (by omega)))) (fun _ => ev_op (ev_ni (ev_var rfl) (ev_var rfl) hc ca.op) ev_c (rv_eqI (decide_eq_decide.mpr (by omega))))) k
abbrev s_numbers_of : Stmt := top 66
theorem sc_numbers_of : FnScope ["calls", "at", "place"] ["calls", "at"] (defScope s_numbers_of) := ⟨rfl, rfl, rfl, by decide +kernel, rfl, by decide +kernel, by decide +kernel⟩
theorem ok_numbers_of (F : Fun K "numbers_of" "numbers_of" s_numbers_of f fd) (T : Txt K mg C aW aA) (D_prices_begin : DefAt P w K mg base "prices_begin" 1 ["calls", "at"] (SpOf (pBegin K))) : FnOk P w K mg base CX0 2 f fd ["calls", "at"] (SpOfL (pNums K)) := by
  refine F.ok sc_numbers_of (fun vs H Q E h => ?_) (fun cdv A outer s H vs Q E hr h => ?_)
  · obtain ⟨z, ⟨c, l, i, p, e, ns, ps, rfl, _⟩, _⟩ := h
    rfl
  · obtain ⟨z, ⟨c, l, i, p, e, ns, ps, rfl, hc, hl, ca, rfl⟩, k⟩ := h
    refine ⟨_, (pss_one (ps_ret (pe_lc (own := [("place", 2)]) (g := (gName 2)) (tt := tYes) (te := (tOp (rIxL K) (tVar 0) (tVar 2))) rfl sc_numbers_of.nd (pi_range2 rfl T.n_range (pa_cons (pe_op op_add (pv 1) pe_int) (pa_cons (pe_def D_prices_begin (hr.mono (by decide)) rfl (pa_cons (pv 0) (pa_cons (pv 1) pa_nil))) pa_nil))) (blkOk_by (N := ["calls", "at", "place"]) (sc := defScope s_numbers_of) (by decide +kernel)) (fun _ _ _ _ _ => (pg_name (i := 2) sc_numbers_of.nd rfl (Or.inl rfl))) (fun _ _ _ _ _ => pts_nil) (fun _ _ _ _ _ => (pe_ix ix_list (pv 0) (pv 2) (fun _ _ => rfl)))))), ?_⟩
    have h3 := nargs_le p
    have hlen := ca.len
    refine s_retL (el_lcR2 (lo := ((i : Nat) : Int) + 1) (n := ((i + 1 + nargs p : Nat) : Int)) (fun _ => true) (fun j => V.int ((l.getD (i + 1 + j) 0 : Nat) : Int)) (ea_cons (ev_op (ev_var rfl) ev_c (rv_int rfl)) (ea_cons (ev_call (ea_cons (ev_var rfl) (ea_cons (ev_var rfl) ea_nil)) (spv fun H1 e1 => ⟨c, l, i, p, e, ns, ps, rfl, ex_l e1 hc, ca, rfl⟩)) ea_nil)) (by omega) (fun _ => rfl)
      (fun j H1 e1 hj => et_yes) (fun j H1 e1 hj _ => ev_ni (i := i + 1 + j) (ev_var rfl) (ev_is (ev_var rfl) (congrArg V.int (by omega))) (ex_l e1 hc) (getD_some (by omega)))) fun q H1 hq e1 h1 => ?_
    rw [show (((i + 1 + nargs p : Nat) : Int) - (((i : Nat) : Int) + 1)).toNat = nargs p by omega, given_take hlen, ← ca.nums] at h1
    exact k q H1 hq e1 h1
abbrev s_prices_of : Stmt := top 67
theorem sc_prices_of : FnScope ["calls", "at", "begin", "step"] ["calls", "at"] (defScope s_prices_of) := ⟨rfl, rfl, rfl, by decide +kernel, rfl, by decide +kernel, by decide +kernel⟩
theorem ok_prices_of (F : Fun K "prices_of" "prices_of" s_prices_of f fd) (T : Txt K mg C aW aA) (D_prices_begin : DefAt P w K mg base "prices_begin" 1 ["calls", "at"] (SpOf (pBegin K))) (D_has_prices : DefAt P w K mg base "has_prices" 1 ["calls", "at"] (SpOf (pHasP K))) : FnOk P w K mg base CX0 2 f fd ["calls", "at"] (SpOfL (pPrices K)) := by
  refine F.ok sc_prices_of (fun vs H Q E h => ?_) (fun cdv A outer s H vs Q E hr h => ?_)
  · obtain ⟨z, ⟨c, l, i, p, e, ns, ps, rfl, _⟩, _⟩ := h
    rfl
  · obtain ⟨z, ⟨c, l, i, p, e, ns, ps, rfl, hc, hl, ca, rfl⟩, k⟩ := h
    refine ⟨_, (pss_cons (ps_if (pt_not (pt_val (pe_def D_has_prices (hr.mono (by decide)) rfl (pa_cons (pv 0) (pa_cons (pv 1) pa_nil))))) (pss_one (ps_ret (pe_lst pa_nil))) pss_nil) (pss_cons (ps_set (i := 2) sc_prices_of.nd rfl (Or.inr rfl) (pe_def D_prices_begin (hr.mono (by decide)) rfl (pa_cons (pv 0) (pa_cons (pv 1) pa_nil)))) (pss_one (ps_ret (pe_lc (own := [("step", 3)]) (g := (gName 3)) (tt := tYes) (te := (tOp (rIxL K) (tVar 0) (tOp (rI0 fun i j => .int (i + j)) (tOp (rI0 fun i j => .int (i + j)) (tVar 2) (tC (.int 1))) (tVar 3)))) rfl sc_prices_of.nd (pi_range1 rfl T.n_range (pa_cons (pe_ix ix_list (pv 0) (pv 2) (fun _ _ => rfl)) pa_nil)) (blkOk_by (N := ["calls", "at", "begin", "step"]) (sc := defScope s_prices_of) (by decide +kernel)) (fun _ _ _ _ _ => (pg_name (i := 3) sc_prices_of.nd rfl (Or.inl rfl))) (fun _ _ _ _ _ => pts_nil) (fun _ _ _ _ _ => (pe_ix ix_list (pv 0) (pe_op op_add (pe_op op_add (pv 2) pe_int) (pv 3)) (fun _ _ => rfl)))))))), ?_⟩
    refine q_when (b := !(decide (p = 16) || decide (p = 17))) (et_not (et_B (ev_call (ea_cons (ev_var rfl) (ea_cons (ev_var rfl) ea_nil)) (spv fun H1 e1 => ⟨c, l, i, p, e, ns, ps, rfl, ex_l e1 hc, ca, rfl⟩)))) (fun hb H1 e1 => ?_) (fun hb H1 e1 => ?_)
    · have hb : ¬ (p = 16 ∨ p = 17) := by simpa using hb
      obtain ⟨hps, _⟩ := ca.no hb
      exact s_retL (el_lst ea_nil (by decide)) (retl k e1 (by rw [hps]; rfl))
    · have hb : p = 16 ∨ p = 17 := by
        simp only [Bool.not_eq_false', Bool.or_eq_true, decide_eq_true_iff] at hb
        exact hb
      obtain ⟨m, hm, he, hel, hps⟩ := ca.pr hb
      have hc1 := ex_l e1 hc
      refine q_asg (v := .int ((i + 1 + nargs p : Nat) : Int)) (ev_call (ea_cons (ev_var rfl) (ea_cons (ev_var rfl) ea_nil)) (spv fun H2 e2 => ⟨c, l, i, p, e, ns, ps, rfl, ex_l e2 hc1, ca, rfl⟩)) fun H2 e2 => ?_
      have hc2 := ex_l e2 hc1
      refine s_retL (el_lcR1 (n := ((m : Nat) : Int)) (fun _ => true) (fun j => V.int ((l.getD (i + 1 + nargs p + 1 + j) 0 : Nat) : Int)) (ea_cons (ev_ni (ev_var rfl) (ev_var rfl) hc2 hm) ea_nil) (by omega) (fun _ => rfl)
        (fun j H3 e3 hj => et_yes) (fun j H3 e3 hj _ => ev_ni (i := i + 1 + nargs p + 1 + j) (ev_var rfl) (ev_op (ev_op (ev_var rfl) ev_c (rv_int rfl)) (ev_var rfl) (rv_int (congrArg V.int (by omega)))) (ex_l e3 hc2) (getD_some (by omega)))) fun q H3 hq e3 h3 => ?_
      rw [show ((m : Nat) : Int).toNat = m by omega, given_take (by omega), ← hps] at h3
      exact retl k (e1.trans e2) rfl q H3 hq e3 h3
abbrev s_end_of : Stmt := top 68
theorem sc_end_of : FnScope ["calls", "at", "begin"] ["calls", "at"] (defScope s_end_of) := ⟨rfl, rfl, rfl, by decide +kernel, rfl, by decide +kernel, by decide +kernel⟩
theorem ok_end_of (F : Fun K "end_of" "end_of" s_end_of f fd) (T : Txt K mg C aW aA) (D_prices_begin : DefAt P w K mg base "prices_begin" 1 ["calls", "at"] (SpOf (pBegin K))) (D_has_prices : DefAt P w K mg base "has_prices" 1 ["calls", "at"] (SpOf (pHasP K))) : FnOk P w K mg base CX0 2 f fd ["calls", "at"] (SpOf (pEnd K)) := by
  refine F.ok sc_end_of (fun vs H Q E h => ?_) (fun cdv A outer s H vs Q E hr h => ?_)
  · obtain ⟨z, ⟨c, l, i, p, e, ns, ps, rfl, _⟩, _⟩ := h
    rfl
  · obtain ⟨z, ⟨c, l, i, p, e, ns, ps, rfl, hc, ca, rfl⟩, k⟩ := h
    refine ⟨_, (pss_cons (ps_set (i := 2) sc_end_of.nd rfl (Or.inl rfl) (pe_def D_prices_begin (hr.mono (by decide)) rfl (pa_cons (pv 0) (pa_cons (pv 1) pa_nil)))) (pss_cons (ps_if (pt_not (pt_val (pe_def D_has_prices (hr.mono (by decide)) rfl (pa_cons (pv 0) (pa_cons (pv 1) pa_nil))))) (pss_one (ps_ret (pv 2))) pss_nil) (pss_one (ps_ret (pe_op op_add (pe_op op_add (pv 2) pe_int) (pe_ix ix_list (pv 0) (pv 2) (fun _ _ => rfl))))))), ?_⟩
    refine q_asg (v := .int ((i + 1 + nargs p : Nat) : Int)) (ev_call (ea_cons (ev_var rfl) (ea_cons (ev_var rfl) ea_nil)) (spv fun H2 e2 => ⟨c, l, i, p, e, ns, ps, rfl, ex_l e2 hc, ca, rfl⟩)) fun H1 e1 => ?_
    have hc1 := ex_l e1 hc
    refine q_when (b := !(decide (p = 16) || decide (p = 17))) (et_not (et_B (ev_call (ea_cons (ev_var rfl) (ea_cons (ev_var rfl) ea_nil)) (spv fun H2 e2 => ⟨c, l, i, p, e, ns, ps, rfl, ex_l e2 hc1, ca, rfl⟩)))) (fun hb H2 e2 => ?_) (fun hb H2 e2 => ?_)
    · have hb : ¬ (p = 16 ∨ p = 17) := by simpa using hb
      obtain ⟨_, he⟩ := ca.no hb
      refine s_ret (ev_var rfl) fun H3 e3 => ?_
      rw [he] at k
      exact k H3 ((e1.trans e2).trans e3)
    · have hb : p = 16 ∨ p = 17 := by
        simp only [Bool.not_eq_false', Bool.or_eq_true, decide_eq_true_iff] at hb
        exact hb
      obtain ⟨m, hm, he, hel, hps⟩ := ca.pr hb
      have hc2 := ex_l e2 hc1
      exact s_ret (ev_op (ev_op (ev_var rfl) ev_c (rv_int rfl)) (ev_ni (ev_var rfl) (ev_var rfl) hc2 hm) (rv_int (congrArg V.int (by omega)))) fun H3 e3 => k H3 ((e1.trans e2).trans e3)
end
end HC

/-! ### one call -/
namespace HC
open PySem PySem.Spec PyProof.Rows L2 Evl
def rq (p : Nat) (ns ps : List Nat) : Kqk3.Request := match p with
  | 0 => .create (ns.getD 0 0)
  | 1 => .addUser (ns.getD 0 0) (ns.getD 1 0) (ns.getD 2 0)
  | 2 => .removeUser (ns.getD 0 0)
  | 3 => .listUsers
  | 4 => .setValue (ns.getD 0 0) (ns.getD 1 0)
  | 5 => .load (ns.getD 0 0)
  | 6 => .peakLoad
  | 7 => .peakGrade
  | 8 => .minCascades
  | 9 => .assignCascades (ns.getD 0 0)
  | 10 => .isServable (ns.getD 0 0) (ns.getD 1 0)
  | 11 => .bestSet (ns.getD 0 0)
  | 12 => .valueOf (ns.getD 0 0)
  | 13 => .marginalValue (ns.getD 0 0)
  | 14 => .canFollow (ns.getD 0 0) (ns.getD 1 0)
  | 15 => .peakUsers
  | 16 => .dualBound (ns.getD 0 0) ps
  | 17 => .provesOptimality (ns.getD 0 0) ps
  | 18 => .lossWithout (ns.getD 0 0) (ns.getD 1 0)
  | _ => .summary
theorem rq_none {p : Nat} (h : p ≠ 0) (ns ps : List Nat) : Kqk3.step none (rq p ns ps) = (none, .value (-11)) := by
  unfold rq
  split <;> first | rfl | exact absurd rfl h
section
variable {K : PySem.W.Frag} {σ : L2.St} {H : Hp} {ta tb te : TE} {D : Ends} {tu tz : TS}
/-- numbers[j] -/
theorem ev_num {c : Addr} {l : List Nat} {j : Nat} (ha : Ev ta σ H (.ref c)) (h : H c = some (.lst (ni l))) (hj : j < l.length) : Ev (tOp (rIxL K) ta (tC (.int ((j : Nat) : Int)))) σ H (.int ((l.getD j 0 : Nat) : Int)) :=
  ev_ni ha ev_c (sq_of h) (getD_some hj)
theorem ev_num0 {c : Addr} {l : List Nat} (ha : Ev ta σ H (.ref c)) (h : H c = some (.lst (ni l))) (hj : 0 < l.length) : Ev (tOp (rIxL K) ta (tC (.int 0))) σ H (.int ((l.getD 0 0 : Nat) : Int)) := ev_num (j := 0) ha h hj
theorem ev_num1 {c : Addr} {l : List Nat} (ha : Ev ta σ H (.ref c)) (h : H c = some (.lst (ni l))) (hj : 1 < l.length) : Ev (tOp (rIxL K) ta (tC (.int 1))) σ H (.int ((l.getD 1 0 : Nat) : Int)) := ev_num (j := 1) ha h hj
theorem ev_num2 {c : Addr} {l : List Nat} (ha : Ev ta σ H (.ref c)) (h : H c = some (.lst (ni l))) (hj : 2 < l.length) : Ev (tOp (rIxL K) ta (tC (.int 2))) σ H (.int ((l.getD 2 0 : Nat) : Int)) := ev_num (j := 2) ha h hj
/-- if operation == k: .. -/
theorem q_is {i p k : Nat} (hv : σ[i]? = some (some (.int ((p : Nat) : Int)))) (h1 : p = k → ∀ H1, Ex H H1 → tu { D with nx := tz D } σ H1) (h2 : p ≠ k → ∀ H1, Ex H H1 → tz D σ H1) : tSeq (tIfS (tTest (tOp rEq (tVar i) (tC (.int ((k : Nat) : Int))))) tu tNext) tz D σ H :=
  q_when (b := decide (p = k)) (et_test (ev_op (ev_var hv) ev_c (rv_eqI (decide_eq_decide.mpr Int.ofNat_inj)))) (fun hb => h1 (of_decide_eq_true hb)) (fun hb => h2 (of_decide_eq_false hb))
theorem q_le {i p k : Nat} (hv : σ[i]? = some (some (.int ((p : Nat) : Int)))) (h1 : p ≤ k → ∀ H1, Ex H H1 → tu { D with nx := tz D } σ H1) (h2 : ¬ p ≤ k → ∀ H1, Ex H H1 → tz D σ H1) : tSeq (tIfS (tTest (tOp (rI0 fun i j => .bl (decide (i ≤ j))) (tVar i) (tC (.int ((k : Nat) : Int))))) tu tNext) tz D σ H :=
  q_when (b := decide (p ≤ k)) (et_test (ev_op (ev_var hv) ev_c (rv_int (congrArg V.bl (decide_eq_decide.mpr Int.ofNat_le))))) (fun hb => h1 (of_decide_eq_true hb)) (fun hb => h2 (of_decide_eq_false hb))
end
def spAU (C : Addr) : Sp := fun vs H Q _ => ∃ (a l nl : Addr) (s : Option Kqk3.Network) (p : Nat) (ns ps : List Nat), vs = [.ref a, .int ((p : Nat) : Int), .ref nl] ∧ p ≤ 4 ∧ ns.length = nargs p ∧ H nl = some (.lst (ni ns)) ∧ NetAt C H a l (rep s) ∧ (∀ n, s = some n → Ok n) ∧ (p ≠ 0 → s ≠ none) ∧ Res C H a l s (rq p ns ps) Q
def pAL (C : Addr) : List V → Hp → List V → Prop := fun vs H xs => ∃ (a l nl : Addr) (n : Kqk3.Network) (p : Nat) (ns ps : List Nat), vs = [.ref a, .int ((p : Nat) : Int), .ref nl] ∧ 5 ≤ p ∧ p ≤ 10 ∧ ns.length = nargs p ∧ H nl = some (.lst (ni ns)) ∧ NetAt C H a l n ∧ Ok n ∧ xs = ans (some n) (rq p ns ps)
def pAV (C : Addr) : List V → Hp → List V → Prop := fun vs H xs => ∃ (a l nl : Addr) (n : Kqk3.Network) (p : Nat) (ns ps : List Nat), vs = [.ref a, .int ((p : Nat) : Int), .ref nl] ∧ 11 ≤ p ∧ p ≤ 15 ∧ ns.length = nargs p ∧ H nl = some (.lst (ni ns)) ∧ NetAt C H a l n ∧ Ok n ∧ xs = ans (some n) (rq p ns ps)
def pAB (C : Addr) : List V → Hp → List V → Prop := fun vs H xs => ∃ (a l nl pl : Addr) (n : Kqk3.Network) (p : Nat) (ns ps : List Nat), vs = [.ref a, .int ((p : Nat) : Int), .ref nl, .ref pl] ∧ 16 ≤ p ∧ p ≤ 19 ∧ ns.length = nargs p ∧ H nl = some (.lst (ni ns)) ∧ H pl = some (.lst (ni ps)) ∧ NetAt C H a l n ∧ Ok n ∧ xs = ans (some n) (rq p ns ps)
def spAnswer (C : Addr) : Sp := fun vs H Q _ => ∃ (a l nl pl : Addr) (s : Option Kqk3.Network) (p : Nat) (ns ps : List Nat), vs = [.ref a, .int ((p : Nat) : Int), .ref nl, .ref pl] ∧ p ≤ 19 ∧ ns.length = nargs p ∧ H nl = some (.lst (ni ns)) ∧ H pl = some (.lst (ni ps)) ∧ NetAt C H a l (rep s) ∧ (∀ n, s = some n → Ok n) ∧ Res C H a l s (rq p ns ps) Q
section
variable {P : Program} {w : World} {K : PySem.W.Frag} {mg : Str → Option Value} {base : Heap} {f C aW aA : Addr} {fd : FuncData}
abbrev s_answer_users : Stmt := top 70
theorem sc_answer_users : FnScope ["network", "operation", "numbers"] ["network", "operation", "numbers"] (defScope s_answer_users) := ⟨rfl, rfl, rfl, by decide +kernel, rfl, by decide +kernel, by decide +kernel⟩
theorem ok_answer_users (F : Fun K "answer_users" "answer_users" s_answer_users f fd) (T : Txt K mg C aW aA) (D_create : DefAt P w K mg base "create" 2 ["network", "grade_count"] (spCreate C)) (D_add_user : DefAt P w K mg base "add_user" 2 ["network", "supply_grade", "return_grade", "value"] (spAdd C)) (D_remove_user : DefAt P w K mg base "remove_user" 3 ["network", "number"] (spRemove C))
    (D_list_users : DefAt P w K mg base "list_users" 1 ["network"] (SpOfL (pList C))) (D_set_value : DefAt P w K mg base "set_value" 2 ["network", "number", "value"] (spSet C)) : FnOk P w K mg base CX0 4 f fd ["network", "operation", "numbers"] (spAU C) := by
  refine F.ok sc_answer_users (fun vs H Q E h => ?_) (fun cdv A outer s H vs Q E hr h => ?_)
  · obtain ⟨a, l, nl, s, p, ns, ps, rfl, _⟩ := h
    rfl
  · obtain ⟨a, l, nl, s, p, ns, ps, rfl, h4, hns, hnl, hN, ok, hs, k⟩ := h
    refine ⟨_, (pss_cons (ps_if (pt_cmpR op_eq (pv 1) pe_int (nomark _)) (pss_one (ps_ret (pe_def D_create (hr.mono (by decide)) rfl (pa_cons (pv 0) (pa_cons (pe_ix ix_list (pv 2) pe_int (fun _ _ => rfl)) pa_nil))))) pss_nil) (pss_cons (ps_if (pt_cmpR op_eq (pv 1) pe_int (nomark _)) (pss_one (ps_ret (pe_def D_add_user (hr.mono (by decide)) rfl (pa_cons (pv 0) (pa_cons (pe_ix ix_list (pv 2) pe_int (fun _ _ => rfl)) (pa_cons (pe_ix ix_list (pv 2) pe_int (fun _ _ => rfl)) (pa_cons (pe_ix ix_list (pv 2) pe_int (fun _ _ => rfl)) pa_nil))))))) pss_nil) (pss_cons (ps_if (pt_cmpR op_eq (pv 1) pe_int (nomark _)) (pss_one (ps_ret (pe_def D_remove_user (hr.mono (by decide)) rfl (pa_cons (pv 0) (pa_cons (pe_ix ix_list (pv 2) pe_int (fun _ _ => rfl)) pa_nil))))) pss_nil) (pss_cons (ps_if (pt_cmpR op_eq (pv 1) pe_int (nomark _)) (pss_one (ps_ret (pe_def D_list_users (hr.mono (by decide)) rfl (pa_cons (pv 0) pa_nil)))) pss_nil) (pss_one (ps_ret (pe_def D_set_value (hr.mono (by decide)) rfl (pa_cons (pv 0) (pa_cons (pe_ix ix_list (pv 2) pe_int (fun _ _ => rfl)) (pa_cons (pe_ix ix_list (pv 2) pe_int (fun _ _ => rfl)) pa_nil)))))))))), ?_⟩
    refine q_is (k := 0) rfl (fun hp H1 e1 => ?_) (fun h0 H1 e1 => ?_)
    · subst hp
      refine s_retCall (ea_cons (ev_var rfl) (ea_cons (ev_num0 (ev_var rfl) (e1 _ _ hnl) (by rw [hns]; decide)) ea_nil)) fun H2 e2 => ?_
      exact ⟨a, l, s, ns.getD 0 0, rfl, hN.mono (e1.trans e2), k.at (e1.trans e2)⟩
    · cases s with
      | none => exact absurd rfl (hs h0)
      | some n =>
        have ok := ok n rfl
        refine q_is (k := 1) rfl (fun hp H2 e2 => ?_) (fun h1 H2 e2 => ?_)
        · subst hp
          have e12 := e1.trans e2
          refine s_retCall (ea_cons (ev_var rfl) (ea_cons (ev_num0 (ev_var rfl) (e12 _ _ hnl) (by rw [hns]; decide)) (ea_cons (ev_num1 (ev_var rfl) (e12 _ _ hnl) (by rw [hns]; decide)) (ea_cons (ev_num2 (ev_var rfl) (e12 _ _ hnl) (by rw [hns]; decide)) ea_nil)))) fun H3 e3 => ?_
          exact ⟨a, l, n, _, _, _, rfl, hN.mono (e12.trans e3), ok, k.at (e12.trans e3)⟩
        · refine q_is (k := 2) rfl (fun hp H3 e3 => ?_) (fun h2 H3 e3 => ?_)
          · subst hp
            have e13 := (e1.trans e2).trans e3
            refine s_retCall (ea_cons (ev_var rfl) (ea_cons (ev_num0 (ev_var rfl) (e13 _ _ hnl) (by rw [hns]; decide)) ea_nil)) fun H4 e4 => ?_
            exact ⟨a, l, n, _, rfl, hN.mono (e13.trans e4), ok, k.at (e13.trans e4)⟩
          · refine q_is (k := 3) rfl (fun hp H4 e4 => ?_) (fun h3 H4 e4 => ?_)
            · subst hp
              have e14 := ((e1.trans e2).trans e3).trans e4
              exact s_retL (el_call (ea_cons (ev_var rfl) ea_nil) (spl fun H5 e5 => ⟨a, l, n, rfl, hN.mono (e14.trans e5), ok, rfl⟩)) (retl (k.pure hN rfl) e14 rfl)
            · have hp : p = 4 := by omega
              subst hp
              have e14 := ((e1.trans e2).trans e3).trans e4
              refine s_retCall (ea_cons (ev_var rfl) (ea_cons (ev_num0 (ev_var rfl) (e14 _ _ hnl) (by rw [hns]; decide)) (ea_cons (ev_num1 (ev_var rfl) (e14 _ _ hnl) (by rw [hns]; decide)) ea_nil))) fun H5 e5 => ?_
              exact ⟨a, l, n, _, _, rfl, hN.mono (e14.trans e5), ok, k.at (e14.trans e5)⟩
abbrev s_answer_loads : Stmt := top 71
theorem sc_answer_loads : FnScope ["network", "operation", "numbers"] ["network", "operation", "numbers"] (defScope s_answer_loads) := ⟨rfl, rfl, rfl, by decide +kernel, rfl, by decide +kernel, by decide +kernel⟩
theorem ok_answer_loads (F : Fun K "answer_loads" "answer_loads" s_answer_loads f fd) (T : Txt K mg C aW aA) (D_load : DefAt P w K mg base "load" 5 ["network", "grade"] (SpOfL (pLoadOp C))) (D_peak_load : DefAt P w K mg base "peak_load" 7 ["network"] (SpOfL (pPeakOp C))) (D_peak_grade : DefAt P w K mg base "peak_grade" 7 ["network"] (SpOfL (pPeakGOp C)))
    (D_min_cascades : DefAt P w K mg base "min_cascades" 5 ["network"] (SpOfL (pMinOp C))) (D_assign_cascades : DefAt P w K mg base "assign_cascades" 5 ["network", "mask"] (SpOfL (pAssignOp C))) (D_is_servable : DefAt P w K mg base "is_servable" 7 ["network", "mask", "cascade_count"] (SpOfL (pServOp C))) : FnOk P w K mg base CX0 8 f fd ["network", "operation", "numbers"] (SpOfL (pAL C)) := by
  refine F.ok sc_answer_loads (fun vs H Q E h => ?_) (fun cdv A outer s H vs Q E hr h => ?_)
  · obtain ⟨z, ⟨a, l, nl, n, p, ns, ps, rfl, _⟩, _⟩ := h
    rfl
  · obtain ⟨z, ⟨a, l, nl, n, p, ns, ps, rfl, hlo, hhi, hns, hnl, hN, ok, rfl⟩, k⟩ := h
    refine ⟨_, (pss_cons (ps_if (pt_cmpR op_eq (pv 1) pe_int (nomark _)) (pss_one (ps_ret (pe_def D_load (hr.mono (by decide)) rfl (pa_cons (pv 0) (pa_cons (pe_ix ix_list (pv 2) pe_int (fun _ _ => rfl)) pa_nil))))) pss_nil) (pss_cons (ps_if (pt_cmpR op_eq (pv 1) pe_int (nomark _)) (pss_one (ps_ret (pe_def D_peak_load (hr.mono (by decide)) rfl (pa_cons (pv 0) pa_nil)))) pss_nil) (pss_cons (ps_if (pt_cmpR op_eq (pv 1) pe_int (nomark _)) (pss_one (ps_ret (pe_def D_peak_grade (hr.mono (by decide)) rfl (pa_cons (pv 0) pa_nil)))) pss_nil) (pss_cons (ps_if (pt_cmpR op_eq (pv 1) pe_int (nomark _)) (pss_one (ps_ret (pe_def D_min_cascades (hr.mono (by decide)) rfl (pa_cons (pv 0) pa_nil)))) pss_nil) (pss_cons (ps_if (pt_cmpR op_eq (pv 1) pe_int (nomark _)) (pss_one (ps_ret (pe_def D_assign_cascades (hr.mono (by decide)) rfl (pa_cons (pv 0) (pa_cons (pe_ix ix_list (pv 2) pe_int (fun _ _ => rfl)) pa_nil))))) pss_nil) (pss_one (ps_ret (pe_def D_is_servable (hr.mono (by decide)) rfl (pa_cons (pv 0) (pa_cons (pe_ix ix_list (pv 2) pe_int (fun _ _ => rfl)) (pa_cons (pe_ix ix_list (pv 2) pe_int (fun _ _ => rfl)) pa_nil))))))))))), ?_⟩
    refine q_is (k := 5) rfl (fun hp H1 e => ?_) (fun h1 H1 e1 => ?_)
    · subst hp
      exact s_retL (el_call (ea_cons (ev_var rfl) (ea_cons (ev_num0 (ev_var rfl) (e _ _ hnl) (by rw [hns]; decide)) ea_nil)) (spl fun H5 e5 => ⟨a, l, n, _, rfl, hN.mono (e.trans e5), ok, rfl⟩)) (retl k e rfl)
    refine q_is (k := 6) rfl (fun hp H2 e2 => ?_) (fun h2 H2 e2 => ?_)
    · subst hp
      have e := e1.trans e2
      exact s_retL (el_call (ea_cons (ev_var rfl) ea_nil) (spl fun H5 e5 => ⟨a, l, n, rfl, hN.mono (e.trans e5), ok, rfl⟩)) (retl k e rfl)
    refine q_is (k := 7) rfl (fun hp H3 e3 => ?_) (fun h3 H3 e3 => ?_)
    · subst hp
      have e := (e1.trans e2).trans e3
      exact s_retL (el_call (ea_cons (ev_var rfl) ea_nil) (spl fun H5 e5 => ⟨a, l, n, rfl, hN.mono (e.trans e5), ok, rfl⟩)) (retl k e rfl)
    refine q_is (k := 8) rfl (fun hp H4 e4 => ?_) (fun h4 H4 e4 => ?_)
    · subst hp
      have e := ((e1.trans e2).trans e3).trans e4
      exact s_retL (el_call (ea_cons (ev_var rfl) ea_nil) (spl fun H5 e5 => ⟨a, l, n, rfl, hN.mono (e.trans e5), ok, rfl⟩)) (retl k e rfl)
    refine q_is (k := 9) rfl (fun hp H5 e5 => ?_) (fun h5 H5 e5 => ?_)
    · subst hp
      have e := (((e1.trans e2).trans e3).trans e4).trans e5
      exact s_retL (el_call (ea_cons (ev_var rfl) (ea_cons (ev_num0 (ev_var rfl) (e _ _ hnl) (by rw [hns]; decide)) ea_nil)) (spl fun H5 e5 => ⟨a, l, n, _, rfl, hN.mono (e.trans e5), ok, rfl⟩)) (retl k e rfl)
    have hp : p = 10 := by omega
    subst hp
    have e := (((e1.trans e2).trans e3).trans e4).trans e5
    exact s_retL (el_call (ea_cons (ev_var rfl) (ea_cons (ev_num0 (ev_var rfl) (e _ _ hnl) (by rw [hns]; decide)) (ea_cons (ev_num1 (ev_var rfl) (e _ _ hnl) (by rw [hns]; decide)) ea_nil))) (spl fun H5 e5 => ⟨a, l, n, _, _, rfl, hN.mono (e.trans e5), ok, rfl⟩)) (retl k e rfl)
abbrev s_answer_values : Stmt := top 72
theorem sc_answer_values : FnScope ["network", "operation", "numbers"] ["network", "operation", "numbers"] (defScope s_answer_values) := ⟨rfl, rfl, rfl, by decide +kernel, rfl, by decide +kernel, by decide +kernel⟩
theorem ok_answer_values (F : Fun K "answer_values" "answer_values" s_answer_values f fd) (T : Txt K mg C aW aA) (D_best_set : DefAt P w K mg base "best_set" 8 ["network", "cascade_count"] (SpOfL (pBestOp C))) (D_value_of : DefAt P w K mg base "value_of" 4 ["network", "mask"] (SpOfL (pValOp C))) (D_marginal_value : DefAt P w K mg base "marginal_value" 9 ["network", "cascade_count"] (SpOfL (pMargOp C)))
    (D_can_follow : DefAt P w K mg base "can_follow" 2 ["network", "number", "later"] (SpOfL (pFollowOp C))) (D_peak_users : DefAt P w K mg base "peak_users" 7 ["network"] (SpOfL (pPeakUOp C))) : FnOk P w K mg base CX0 10 f fd ["network", "operation", "numbers"] (SpOfL (pAV C)) := by
  refine F.ok sc_answer_values (fun vs H Q E h => ?_) (fun cdv A outer s H vs Q E hr h => ?_)
  · obtain ⟨z, ⟨a, l, nl, n, p, ns, ps, rfl, _⟩, _⟩ := h
    rfl
  · obtain ⟨z, ⟨a, l, nl, n, p, ns, ps, rfl, hlo, hhi, hns, hnl, hN, ok, rfl⟩, k⟩ := h
    refine ⟨_, (pss_cons (ps_if (pt_cmpR op_eq (pv 1) pe_int (nomark _)) (pss_one (ps_ret (pe_def D_best_set (hr.mono (by decide)) rfl (pa_cons (pv 0) (pa_cons (pe_ix ix_list (pv 2) pe_int (fun _ _ => rfl)) pa_nil))))) pss_nil) (pss_cons (ps_if (pt_cmpR op_eq (pv 1) pe_int (nomark _)) (pss_one (ps_ret (pe_def D_value_of (hr.mono (by decide)) rfl (pa_cons (pv 0) (pa_cons (pe_ix ix_list (pv 2) pe_int (fun _ _ => rfl)) pa_nil))))) pss_nil) (pss_cons (ps_if (pt_cmpR op_eq (pv 1) pe_int (nomark _)) (pss_one (ps_ret (pe_def D_marginal_value (hr.mono (by decide)) rfl (pa_cons (pv 0) (pa_cons (pe_ix ix_list (pv 2) pe_int (fun _ _ => rfl)) pa_nil))))) pss_nil) (pss_cons (ps_if (pt_cmpR op_eq (pv 1) pe_int (nomark _)) (pss_one (ps_ret (pe_def D_can_follow (hr.mono (by decide)) rfl (pa_cons (pv 0) (pa_cons (pe_ix ix_list (pv 2) pe_int (fun _ _ => rfl)) (pa_cons (pe_ix ix_list (pv 2) pe_int (fun _ _ => rfl)) pa_nil)))))) pss_nil) (pss_one (ps_ret (pe_def D_peak_users (hr.mono (by decide)) rfl (pa_cons (pv 0) pa_nil)))))))), ?_⟩
    refine q_is (k := 11) rfl (fun hp H1 e => ?_) (fun h1 H1 e1 => ?_)
    · subst hp
      exact s_retL (el_call (ea_cons (ev_var rfl) (ea_cons (ev_num0 (ev_var rfl) (e _ _ hnl) (by rw [hns]; decide)) ea_nil)) (spl fun H5 e5 => ⟨a, l, n, _, rfl, hN.mono (e.trans e5), ok, rfl⟩)) (retl k e rfl)
    refine q_is (k := 12) rfl (fun hp H2 e2 => ?_) (fun h2 H2 e2 => ?_)
    · subst hp
      have e := e1.trans e2
      exact s_retL (el_call (ea_cons (ev_var rfl) (ea_cons (ev_num0 (ev_var rfl) (e _ _ hnl) (by rw [hns]; decide)) ea_nil)) (spl fun H5 e5 => ⟨a, l, n, _, rfl, hN.mono (e.trans e5), ok, rfl⟩)) (retl k e rfl)
    refine q_is (k := 13) rfl (fun hp H3 e3 => ?_) (fun h3 H3 e3 => ?_)
    · subst hp
      have e := (e1.trans e2).trans e3
      exact s_retL (el_call (ea_cons (ev_var rfl) (ea_cons (ev_num0 (ev_var rfl) (e _ _ hnl) (by rw [hns]; decide)) ea_nil)) (spl fun H5 e5 => ⟨a, l, n, _, rfl, hN.mono (e.trans e5), ok, rfl⟩)) (retl k e rfl)
    refine q_is (k := 14) rfl (fun hp H4 e4 => ?_) (fun h4 H4 e4 => ?_)
    · subst hp
      have e := ((e1.trans e2).trans e3).trans e4
      exact s_retL (el_call (ea_cons (ev_var rfl) (ea_cons (ev_num0 (ev_var rfl) (e _ _ hnl) (by rw [hns]; decide)) (ea_cons (ev_num1 (ev_var rfl) (e _ _ hnl) (by rw [hns]; decide)) ea_nil))) (spl fun H5 e5 => ⟨a, l, n, _, _, rfl, hN.mono (e.trans e5), ok, rfl⟩)) (retl k e rfl)
    have hp : p = 15 := by omega
    subst hp
    have e := ((e1.trans e2).trans e3).trans e4
    exact s_retL (el_call (ea_cons (ev_var rfl) ea_nil) (spl fun H5 e5 => ⟨a, l, n, rfl, hN.mono (e.trans e5), ok, rfl⟩)) (retl k e rfl)
abbrev s_answer_bounds : Stmt := top 73
theorem sc_answer_bounds : FnScope ["network", "operation", "numbers", "prices"] ["network", "operation", "numbers", "prices"] (defScope s_answer_bounds) := ⟨rfl, rfl, rfl, by decide +kernel, rfl, by decide +kernel, by decide +kernel⟩
theorem ok_answer_bounds (F : Fun K "answer_bounds" "answer_bounds" s_answer_bounds f fd) (T : Txt K mg C aW aA) (D_dual_bound : DefAt P w K mg base "dual_bound" 3 ["network", "cascade_count", "prices"] (SpOfL (pDualOp C))) (D_proves_optimality : DefAt P w K mg base "proves_optimality" 9 ["network", "cascade_count", "prices"] (SpOfL (pProveOp C))) (D_loss_without : DefAt P w K mg base "loss_without" 9 ["network", "number", "cascade_count"] (SpOfL (pLossOp C)))
    (D_summary : DefAt P w K mg base "summary" 1 ["network"] (SpOfL (pSumOp C))) : FnOk P w K mg base CX0 10 f fd ["network", "operation", "numbers", "prices"] (SpOfL (pAB C)) := by
  refine F.ok sc_answer_bounds (fun vs H Q E h => ?_) (fun cdv A outer s H vs Q E hr h => ?_)
  · obtain ⟨z, ⟨a, l, nl, pl, n, p, ns, ps, rfl, _⟩, _⟩ := h
    rfl
  · obtain ⟨z, ⟨a, l, nl, pl, n, p, ns, ps, rfl, hlo, hhi, hns, hnl, hpl, hN, ok, rfl⟩, k⟩ := h
    refine ⟨_, (pss_cons (ps_if (pt_cmpR op_eq (pv 1) pe_int (nomark _)) (pss_one (ps_ret (pe_def D_dual_bound (hr.mono (by decide)) rfl (pa_cons (pv 0) (pa_cons (pe_ix ix_list (pv 2) pe_int (fun _ _ => rfl)) (pa_cons (pv 3) pa_nil)))))) pss_nil) (pss_cons (ps_if (pt_cmpR op_eq (pv 1) pe_int (nomark _)) (pss_one (ps_ret (pe_def D_proves_optimality (hr.mono (by decide)) rfl (pa_cons (pv 0) (pa_cons (pe_ix ix_list (pv 2) pe_int (fun _ _ => rfl)) (pa_cons (pv 3) pa_nil)))))) pss_nil) (pss_cons (ps_if (pt_cmpR op_eq (pv 1) pe_int (nomark _)) (pss_one (ps_ret (pe_def D_loss_without (hr.mono (by decide)) rfl (pa_cons (pv 0) (pa_cons (pe_ix ix_list (pv 2) pe_int (fun _ _ => rfl)) (pa_cons (pe_ix ix_list (pv 2) pe_int (fun _ _ => rfl)) pa_nil)))))) pss_nil) (pss_one (ps_ret (pe_def D_summary (hr.mono (by decide)) rfl (pa_cons (pv 0) pa_nil))))))), ?_⟩
    refine q_is (k := 16) rfl (fun hp H1 e => ?_) (fun h1 H1 e1 => ?_)
    · subst hp
      exact s_retL (el_call (ea_cons (ev_var rfl) (ea_cons (ev_num0 (ev_var rfl) (e _ _ hnl) (by rw [hns]; decide)) (ea_cons (ev_var rfl) ea_nil))) (spl fun H5 e5 => ⟨a, l, pl, n, _, ps, rfl, hN.mono (e.trans e5), ok, (e.trans e5) _ _ hpl, rfl⟩)) (retl k e rfl)
    refine q_is (k := 17) rfl (fun hp H2 e2 => ?_) (fun h2 H2 e2 => ?_)
    · subst hp
      have e := e1.trans e2
      exact s_retL (el_call (ea_cons (ev_var rfl) (ea_cons (ev_num0 (ev_var rfl) (e _ _ hnl) (by rw [hns]; decide)) (ea_cons (ev_var rfl) ea_nil))) (spl fun H5 e5 => ⟨a, l, pl, n, _, ps, rfl, hN.mono (e.trans e5), ok, (e.trans e5) _ _ hpl, rfl⟩)) (retl k e rfl)
    refine q_is (k := 18) rfl (fun hp H3 e3 => ?_) (fun h3 H3 e3 => ?_)
    · subst hp
      have e := (e1.trans e2).trans e3
      exact s_retL (el_call (ea_cons (ev_var rfl) (ea_cons (ev_num0 (ev_var rfl) (e _ _ hnl) (by rw [hns]; decide)) (ea_cons (ev_num1 (ev_var rfl) (e _ _ hnl) (by rw [hns]; decide)) ea_nil))) (spl fun H5 e5 => ⟨a, l, n, _, _, rfl, hN.mono (e.trans e5), ok, rfl⟩)) (retl k e rfl)
    have hp : p = 19 := by omega
    subst hp
    have e := (e1.trans e2).trans e3
    exact s_retL (el_call (ea_cons (ev_var rfl) ea_nil) (spl fun H5 e5 => ⟨a, l, n, rfl, hN.mono (e.trans e5), ok, rfl⟩)) (retl k e rfl)
abbrev s_answer : Stmt := top 74
theorem sc_answer : FnScope ["network", "operation", "numbers", "prices"] ["network", "operation", "numbers", "prices"] (defScope s_answer) := ⟨rfl, rfl, rfl, by decide +kernel, rfl, by decide +kernel, by decide +kernel⟩
theorem rq_same {p : Nat} {n : Kqk3.Network} {ns ps : List Nat} (h1 : 5 ≤ p) : (Kqk3.step (some n) (rq p ns ps)).1 = some n := by
  unfold rq
  split <;> first | rfl | omega
theorem ok_answer (F : Fun K "answer" "answer" s_answer f fd) (T : Txt K mg C aW aA) (D_answer_users : DefAt P w K mg base "answer_users" 4 ["network", "operation", "numbers"] (spAU C)) (D_answer_loads : DefAt P w K mg base "answer_loads" 8 ["network", "operation", "numbers"] (SpOfL (pAL C))) (D_answer_values : DefAt P w K mg base "answer_values" 10 ["network", "operation", "numbers"] (SpOfL (pAV C)))
    (D_answer_bounds : DefAt P w K mg base "answer_bounds" 10 ["network", "operation", "numbers", "prices"] (SpOfL (pAB C))) : FnOk P w K mg base CX0 11 f fd ["network", "operation", "numbers", "prices"] (spAnswer C) := by
  refine F.ok sc_answer (fun vs H Q E h => ?_) (fun cdv A outer s H vs Q E hr h => ?_)
  · obtain ⟨a, l, nl, pl, s, p, ns, ps, rfl, _⟩ := h
    rfl
  · obtain ⟨a, l, nl, pl, s, p, ns, ps, rfl, h19, hns, hnl, hpl, hN, ok, k⟩ := h
    refine ⟨_, (pss_cons (ps_if (PW.pt (pw_and (pt_cmpR op_ne (pv 1) pe_int (nomark _)) (pw_and1 (pt_cmpR op_eq (pe_fld (pv 0) rfl) pe_int (nomark _))))) (pss_one (ps_ret (pe_lst (pa_cons (pe_k rfl T.k_NO_NETWORK) pa_nil)))) pss_nil) (pss_cons (ps_if (pt_cmpR op_le (pv 1) pe_int (nomark _)) (pss_one (ps_ret (pe_def D_answer_users (hr.mono (by decide)) rfl (pa_cons (pv 0) (pa_cons (pv 1) (pa_cons (pv 2) pa_nil)))))) pss_nil) (pss_cons (ps_if (pt_cmpR op_le (pv 1) pe_int (nomark _)) (pss_one (ps_ret (pe_def D_answer_loads (hr.mono (by decide)) rfl (pa_cons (pv 0) (pa_cons (pv 1) (pa_cons (pv 2) pa_nil)))))) pss_nil) (pss_cons (ps_if (pt_cmpR op_le (pv 1) pe_int (nomark _)) (pss_one (ps_ret (pe_def D_answer_values (hr.mono (by decide)) rfl (pa_cons (pv 0) (pa_cons (pv 1) (pa_cons (pv 2) pa_nil)))))) pss_nil) (pss_one (ps_ret (pe_def D_answer_bounds (hr.mono (by decide)) rfl (pa_cons (pv 0) (pa_cons (pv 1) (pa_cons (pv 2) (pa_cons (pv 3) pa_nil))))))))))), ?_⟩
    refine q_when (b := (!decide (p = 0)) && decide ((rep s).gradeCount = 0)) (et_and (et_test (ev_op (ev_var rfl) ev_c (rv_neI (congrArg (!·) (decide_eq_decide.mpr (by omega)))))) (fun _ => et_test (ev_op (ev_gc T hN (ev_var rfl)) ev_c (rv_eqI (decide_eq_decide.mpr (by omega)))))) (fun hb H1 e1 => ?_) (fun hb H1 e1 => ?_)
    · have hb : ¬ p = 0 ∧ (rep s).gradeCount = 0 := by simpa using hb
      have hs : s = none := by
        cases s with
        | none => rfl
        | some n =>
          have := (ok n rfl).g1
          have h0 : n.gradeCount = 0 := hb.2
          omega
      subst hs
      have e := rq_none hb.1 ns ps
      exact s_retL (el_lst (ea_cons ev_c ea_nil) (by decide : 1 ≤ 100000)) (retl (k.pure hN (fst_of e)) e1 (ans_of e))
    · have hs : p ≠ 0 → s ≠ none := fun h0 e => by
        subst e
        have h1 : decide ((rep none).gradeCount = 0) = true := rfl
        rw [h1, decide_eq_false h0] at hb
        cases hb
      refine q_le (k := 4) rfl (fun hp H2 e2 => ?_) (fun hp4 H2 e2 => ?_)
      · refine s_retCall (ea_cons (ev_var rfl) (ea_cons (ev_var rfl) (ea_cons (ev_var rfl) ea_nil))) fun H3 e3 => ?_
        have e := (e1.trans e2).trans e3
        exact ⟨a, l, nl, s, p, ns, ps, rfl, hp, hns, e _ _ hnl, hN.mono e, ok, hs, k.at e⟩
      · cases s with
        | none => exact absurd rfl (hs (by omega))
        | some n =>
          have ok := ok n rfl
          have k := k.pure hN (rq_same (by omega))
          refine q_le (k := 10) rfl (fun hp H3 e3 => ?_) (fun hp10 H3 e3 => ?_)
          · have e := (e1.trans e2).trans e3
            exact s_retL (el_call (ea_cons (ev_var rfl) (ea_cons (ev_var rfl) (ea_cons (ev_var rfl) ea_nil))) (spl fun H5 e5 => ⟨a, l, nl, n, p, ns, ps, rfl, by omega, hp, hns, (e.trans e5) _ _ hnl, hN.mono (e.trans e5), ok, rfl⟩)) (retl k e rfl)
          refine q_le (k := 15) rfl (fun hp H4 e4 => ?_) (fun hp15 H4 e4 => ?_)
          · have e := ((e1.trans e2).trans e3).trans e4
            exact s_retL (el_call (ea_cons (ev_var rfl) (ea_cons (ev_var rfl) (ea_cons (ev_var rfl) ea_nil))) (spl fun H5 e5 => ⟨a, l, nl, n, p, ns, ps, rfl, by omega, hp, hns, (e.trans e5) _ _ hnl, hN.mono (e.trans e5), ok, rfl⟩)) (retl k e rfl)
          have e := ((e1.trans e2).trans e3).trans e4
          exact s_retL (el_call (ea_cons (ev_var rfl) (ea_cons (ev_var rfl) (ea_cons (ev_var rfl) (ea_cons (ev_var rfl) ea_nil)))) (spl fun H5 e5 => ⟨a, l, nl, pl, n, p, ns, ps, rfl, by omega, h19, hns, (e.trans e5) _ _ hnl, (e.trans e5) _ _ hpl, hN.mono (e.trans e5), ok, rfl⟩)) (retl k e rfl)
end
end HC

/-! ### all calls -/
namespace HC
open PySem PySem.Spec PyProof.Rows L2 Evl
abbrev Call1 := Nat × List Nat × List Nat
inductive Calls (l : List Nat) : Nat → List Call1 → Prop
  | nil : Calls l l.length []
  | cons {i p e : Nat} {ns ps : List Nat} {r : List Call1} : CallAt l i p ns ps e → Calls l e r → Calls l i ((p, ns, ps) :: r)
def told (s : Option Kqk3.Network) (c : Call1) : List Int := Kqk3Neutral.fields (Kqk3.step s (rq c.1 c.2.1 c.2.2)).2
def next (s : Option Kqk3.Network) (c : Call1) : Option Kqk3.Network := (Kqk3.step s (rq c.1 c.2.1 c.2.2)).1
def outs : Option Kqk3.Network → List Call1 → List Int
  | _, [] => []
  | s, c :: r => ((told s c).length : Int) :: (told s c ++ outs (next s c) r)
theorem step_ok {s : Option Kqk3.Network} (h : ∀ n, s = some n → Ok n) (q : Kqk3.Request) : ∀ n, (Kqk3.step s q).1 = some n → Ok n := by
  cases q with
  | create g =>
    rw [st_create]
    split
    · exact h
    · rename_i hg
      intro n e
      have e : (⟨g, []⟩ : Kqk3.Network) = n := Option.some.inj e
      subst e
      exact ⟨by show 1 ≤ g; omega, by show g ≤ 12; omega, Nat.zero_le _, fun u hu => by cases hu⟩
  | addUser a b v =>
    cases s with
    | none => exact h
    | some m =>
      have ok := h m rfl
      rw [st_add]
      split
      · exact h
      · split
        · exact h
        · rename_i h1 h2
          intro n e
          have e := Option.some.inj e
          subst e
          refine ⟨ok.g1, ok.g12, ?_, fun u hu => ?_⟩
          · show (m.users ++ [_]).length ≤ 8
            rw [List.length_append, List.length_singleton]; omega
          · rcases List.mem_append.mp hu with m1 | m1
            · exact ok.us u m1
            · rw [List.mem_singleton] at m1
              subst m1
              show b < a ∧ a ≤ m.gradeCount ∧ v ≤ 100
              omega
  | removeUser i =>
    cases s with
    | none => exact h
    | some m =>
      have ok := h m rfl
      rw [st_remove]
      split
      · exact h
      · intro n e
        have e := Option.some.inj e
        subst e
        refine ⟨ok.g1, ok.g12, ?_, fun u hu => ok.us u (List.mem_of_mem_eraseIdx hu)⟩
        show (m.users.eraseIdx i).length ≤ 8
        rw [List.length_eraseIdx]
        have := ok.u8
        split <;> omega
  | setValue i v =>
    cases s with
    | none => exact h
    | some m =>
      have ok := h m rfl
      rw [st_set]
      split
      · exact h
      · split
        · exact h
        · rename_i h1 h2
          intro n e
          have e := Option.some.inj e
          subst e
          refine ⟨ok.g1, ok.g12, ?_, fun u hu => ?_⟩
          · show (m.users.set i _).length ≤ 8
            rw [List.length_set]; exact ok.u8
          · rcases List.mem_or_eq_of_mem_set hu with m1 | m1
            · exact ok.us u m1
            · subst m1
              have := ok.us _ (user_mem (n := m) (i := i) (by omega))
              exact ⟨this.1, this.2.1, by show v ≤ 100; omega⟩
  | _ => cases s <;> exact h
theorem NetAt.put {C : Addr} {H : Hp} {a l fo : Addr} {n : Kqk3.Network} {xs : List V} {o : HO} (h : NetAt C H a l n) (hf : H fo = some (.lst xs)) (hl : fo ≠ l) : NetAt C (upd H fo o) a l n := by
  obtain ⟨dx, hi⟩ := h.ins
  obtain ⟨as, hu⟩ := h.us
  refine ⟨⟨dx, by rw [upd_ne (fun e => by rw [e, hf] at hi; cases hi)]; exact hi⟩, as, by rw [upd_ne hl.symm]; exact hu.lst, hu.len, fun i u hx => ?_⟩
  obtain ⟨p, hp, ht⟩ := hu.at_ i u hx
  exact ⟨p, hp, by rw [upd_ne (fun e => by rw [e, hf] at ht; cases ht)]; exact ht⟩
section
variable {K : PySem.W.Frag} {σ : L2.St} {H : Hp} {ta te : TE} {D : Ends} {tz : TS} {v : V}
theorem q_appZ {l : Addr} {xs : List V} (hl : H l = some (.lst xs)) (ha : Ev ta σ H (.ref l)) (h : Ev te σ H v) (hz : xs.length < sizeLine) (k : ∀ H1, Ex H H1 → tz D σ (upd H1 l (.lst (xs ++ [v])))) :
    tSeq (tDrop (tBM K "list" rAppend ta (tCons te tNil))) tz D σ H := ha H (Ex.refl H) _ fun H1 e1 =>
  ⟨Or.inl ⟨rfl, xs, sq_of (e1 l _ hl)⟩, h H1 e1 _ fun H2 e2 => ⟨l, xs, v, rfl, rfl, e2 l _ (e1 l _ hl), hz, k H2 (e1.trans e2)⟩⟩
theorem q_extZ {l b : Addr} {xs ys : List V} (hl : H l = some (.lst xs)) (hb : H b = some (.lst ys)) (ha : Ev ta σ H (.ref l)) (h : Ev te σ H (.ref b)) (hz : xs.length + ys.length ≤ sizeLine) (k : ∀ H1, Ex H H1 → tz D σ (upd H1 l (.lst (xs ++ ys)))) :
    tSeq (tDrop (tBM K "list" rExtend ta (tCons te tNil))) tz D σ H := ha H (Ex.refl H) _ fun H1 e1 =>
  ⟨Or.inl ⟨rfl, xs, sq_of (e1 l _ hl)⟩, h H1 e1 _ fun H2 e2 => ⟨l, b, xs, ys, rfl, rfl, e2 l _ (e1 l _ hl), e2 b _ (e1 b _ hb), hz, k H2 (e1.trans e2)⟩⟩
end
section
variable {σ : L2.St} {H : Hp} {te : TE} {tr ta : TA} {D : Ends} {tz : TS} {x : V} {xs : List V} {Q : List V → Hp → Prop}
theorem q_asgCall {sp : Sp} {E : XK} {i : Nat} (h : ta σ H fun vs H1 => sp (vs ++ []) H1 (fun v H2 => tz D (σ.set i (some v)) H2) E) : tSeq (tAsg (tCall sp [] E ta) (gName i)) tz D σ H := h
theorem a_ev (h : Ev te σ H x) (k : ∀ H1, Ex H H1 → tr σ H1 fun xs H2 => Q (x :: xs) H2) : tCons te tr σ H Q := h H (Ex.refl H) _ k
theorem a_el (h : EvL te σ H xs) (k : ∀ p H1, H p = none → Ex H H1 → H1 p = some (.lst xs) → tr σ H1 fun ys H2 => Q (.ref p :: ys) H2) : tCons te tr σ H Q := h H (Ex.refl H) _ k
theorem a_nil (h : Q [] H) : tNil σ H Q := h
end
def spAnswers (K : PySem.W.Frag) : Sp := fun vs H Q _ => ∃ (c : Addr) (l : List Nat) (cs : List Call1), vs = [.ref c] ∧ SqL K H c (ni l) ∧ l.length ≤ 12600 ∧ Calls l 0 cs ∧ (outs none cs).length ≤ 10000000 ∧ ∀ (H' : Hp) (p : Addr), H' p = some (.lst ((outs none cs).map V.int)) → Q (.ref p) H'
section
variable {P : Program} {w : World} {K : PySem.W.Frag} {mg : Str → Option Value} {base : Heap} {f C aW aA fI : Addr} {fd fdI : FuncData}
abbrev s_answers : Stmt := top 75
theorem sc_answers : FnScope ["calls", "network", "found", "at", "told"] ["calls"] (defScope s_answers) := ⟨rfl, rfl, rfl, by decide +kernel, rfl, by decide +kernel, by decide +kernel⟩
theorem ok_answers (F : Fun K "answers" "answers" s_answers f fd) (T : Txt K mg C aW aA) (MI : Mk K C fI) (GI : FnOk P w K mg base CX0 1 fI fdI ["self"] (spInit C)) (bI : Binds K fdI ["self"] []) (gNet : mg "Network" = some (.ref C))
    (D_answer : DefAt P w K mg base "answer" 11 ["network", "operation", "numbers", "prices"] (spAnswer C)) (D_numbers_of : DefAt P w K mg base "numbers_of" 2 ["calls", "at"] (SpOfL (pNums K))) (D_prices_of : DefAt P w K mg base "prices_of" 2 ["calls", "at"] (SpOfL (pPrices K)))
    (D_end_of : DefAt P w K mg base "end_of" 2 ["calls", "at"] (SpOf (pEnd K))) : FnOk P w K mg base CX0 12 f fd ["calls"] (spAnswers K) := by
  refine F.ok sc_answers (fun vs H Q E h => ?_) (fun cdv A outer s H vs Q E hr h => ?_)
  · obtain ⟨c, l, cs, rfl, _⟩ := h
    rfl
  · obtain ⟨c, l, cs, rfl, hc, hl, hcs, hout, k⟩ := h
    refine ⟨_, (pss_cons (ps_set (i := 1) sc_answers.nd rfl (Or.inl rfl) (pe_make0 MI GI (hr.mono (by decide)) rfl gNet bI .nil pass0)) (pss_cons (ps_set (i := 2) sc_answers.nd rfl (Or.inl rfl) (pe_lst pa_nil)) (pss_cons (ps_set (i := 3) sc_answers.nd rfl (Or.inl rfl) pe_int) (pss_cons (ps_while PassesOwn.never (pt_cmpR op_lt (pv 3) (pe_callB cr_len (by rfl) T.n_len PySem.boot_len (pa_cons (pv 0) pa_nil)) (nomark _)) (pss_cons (ps_set (i := 4) sc_answers.nd rfl (Or.inl rfl) (pe_def D_answer (hr.mono (by decide)) rfl (pa_cons (pv 1) (pa_cons (pe_ix ix_list (pv 0) (pv 3) (fun _ _ => rfl)) (pa_cons (pe_def D_numbers_of (hr.mono (by decide)) rfl (pa_cons (pv 0) (pa_cons (pv 3) pa_nil))) (pa_cons (pe_def D_prices_of (hr.mono (by decide)) rfl (pa_cons (pv 0) (pa_cons (pv 3) pa_nil))) pa_nil)))))) (pss_cons (ps_expr (pe_bm PySem.F.plainAttrs_list PySem.F.slot_list_append PySem.F.type_list_append mt_append (pv 2) (pa_cons (pe_callB cr_len (by rfl) T.n_len PySem.boot_len (pa_cons (pv 4) pa_nil)) pa_nil))) (pss_cons (ps_expr (pe_bm PySem.F.plainAttrs_list PySem.F.slot_list_extend PySem.F.type_list_extend mt_extend (pv 2) (pa_cons (pv 4) pa_nil))) (pss_one (ps_set (i := 3) sc_answers.nd rfl (Or.inl rfl) (pe_def D_end_of (hr.mono (by decide)) rfl (pa_cons (pv 0) (pa_cons (pv 3) pa_nil))))))))) (pss_one (ps_ret (pv 2))))))), ?_⟩
    intro a dx ha hdx hne
    refine ⟨a, dx, rfl, upd_same, fun H1 lu fr hlu hN => ⟨rfl, ?_⟩⟩
    have e1 : Ex H H1 := Same.made ha hdx fr
    have hlua : lu ≠ a := fun e => by rw [e, upd_same] at hlu; cases hlu
    have hlu0 : H lu = none := by
      rw [upd_ne hlua] at hlu
      have hld : lu ≠ dx := fun e => by rw [e, upd_same] at hlu; cases hlu
      rw [upd_ne hld] at hlu
      exact hlu
    refine q_asgL (xs := []) (el_lst ea_nil (by decide)) fun fo H2 hfo e2 h2 => ?_
    refine q_asg (v := .int 0) ev_c fun H3 e3 => ?_
    refine q_while (fun m σ H' => ∃ (i : Nat) (r : List Call1) (s : Option Kqk3.Network) (lu : Addr) (out : List Int) (v : Option V), m = r.length ∧ Calls l i r ∧ out ++ outs s r = outs none cs ∧ (∀ n, s = some n → Ok n) ∧
        Ex H H' ∧ H lu = none ∧ NetAt C H' a lu (rep s) ∧ fo ≠ lu ∧ H' fo = some (.lst (out.map V.int)) ∧ σ = [some (.ref c), some (.ref a), some (.ref fo), some (.int ((i : Nat) : Int)), v])
      cs.length ⟨0, cs, none, lu, [], none, rfl, hcs, rfl, fun n h => by (cases h), (e1.trans e2).trans e3, hlu0, (hN.mono e2).mono e3, ?_, e3 _ _ h2, rfl⟩ ?_
    · intro e
      obtain ⟨as, hu⟩ := hN.us
      have := hu.lst
      rw [← e, hfo] at this
      cases this
    · rintro m σ H' ⟨i, r, s, lu, out, v, rfl, hcl, hsum, ok, eH, hlu0, hN, hfl, hfo', rfl⟩
      have hc' := ex_l eH hc
      have hfo0 : H fo = none := fresh_back e1 hfo
      refine ⟨decide (i < l.length), et_test (ev_op (ev_var rfl) (ev_len (ev_var rfl) hc') (rv_int (by rw [ni_len]; exact congrArg V.bl (decide_eq_decide.mpr Int.ofNat_lt)))), fun hb H4 e4 => ?_, fun hb H4 e4 => ?_⟩
      · cases hcl with
        | nil => exact absurd (of_decide_eq_true hb) (Nat.lt_irrefl _)
        | @cons _ p e ns ps r ca hr =>
          refine ⟨fun σ2 H2 => ∃ m', m' < ((p, ns, ps) :: r).length ∧ ∃ (i : Nat) (r : List Call1) (s : Option Kqk3.Network) (lu : Addr) (out : List Int) (v : Option V), m' = r.length ∧ Calls l i r ∧ out ++ outs s r = outs none cs ∧ (∀ n, s = some n → Ok n) ∧
              Ex H H2 ∧ H lu = none ∧ NetAt C H2 a lu (rep s) ∧ fo ≠ lu ∧ H2 fo = some (.lst (out.map V.int)) ∧ σ2 = [some (.ref c), some (.ref a), some (.ref fo), some (.int ((i : Nat) : Int)), v], fun σ2 H2 h => h, ?_⟩
          have hc4 := ex_l e4 hc'
          have hn3 := nargs_le p
          have hnl : ns.length = nargs p := by
            rw [ca.nums, List.length_take, List.length_drop]
            have := ca.len
            omega
          -- told = answer(network, calls[at], numbers_of(calls, at), prices_of(calls, at))
          refine q_asgCall ?_
          refine a_ev (ev_var rfl) fun H5 e5 => ?_
          refine a_ev (ev_ni (ev_var rfl) (ev_var rfl) (ex_l e5 hc4) ca.op) fun H6 e6 => ?_
          refine a_el (xs := ni ns) (el_call (ea_cons (ev_var rfl) (ea_cons (ev_var rfl) ea_nil)) (spl fun H7 e7 => ⟨c, l, i, p, e, ns, ps, rfl, ex_l ((e5.trans e6).trans e7) hc4, hl, ca, rfl⟩)) fun nl H7 hnl0 e7 hnl7 => ?_
          refine a_el (xs := ni ps) (el_call (ea_cons (ev_var rfl) (ea_cons (ev_var rfl) ea_nil)) (spl fun H8 e8 => ⟨c, l, i, p, e, ns, ps, rfl, ex_l (((e5.trans e6).trans e7).trans e8) hc4, hl, ca, rfl⟩)) fun pl H8 hpl0 e8 hpl8 => ?_
          refine a_nil ?_
          have e48 := ((e5.trans e6).trans e7).trans e8
          have e0 := e4.trans e48
          have eH8 := eH.trans e0
          have hN8 := hN.mono e0
          have hfo8 := e0 _ _ hfo'
          have hfoa : fo ≠ a := fun e => by
            obtain ⟨dx, hi⟩ := hN8.ins
            rw [← e, hfo8] at hi
            cases hi
          refine ⟨a, lu, nl, pl, s, p, ns, ps, rfl, ca.le, hnl, e8 _ _ hnl7, hpl8, hN8, ok, fun to H9 lu' f9 hlu' hw h9 hN9 => ?_⟩
          have hfo9 : H9 fo = some (.lst (out.map V.int)) := f9 _ _ hfo8 hfoa hfl
          have hft : fo ≠ to := hw _ _ hfo8 hfoa hfl
          have hlu9 : H lu' = none := by
            rcases hlu' with e | e
            · rw [e]; exact hlu0
            · exact fresh_back eH8 e
          have hfl' : fo ≠ lu' := by
            rcases hlu' with e | e
            · rw [e]; exact hfl
            · exact ne_of_none hfo8 e
          have eH9 : Ex H H9 := fun b o hb => f9 b o (eH8 b o hb) (ne_of_none hb ha) (ne_of_none hb hlu0)
          have hal : (ans s (rq p ns ps)) = (told s (p, ns, ps)).map V.int := rfl
          rw [hal] at h9
          have hsum' : out ++ (((told s (p, ns, ps)).length : Int) :: (told s (p, ns, ps) ++ outs (next s (p, ns, ps)) r)) = outs none cs := hsum
          have hlen := congrArg List.length hsum'
          rw [List.length_append, List.length_cons, List.length_append] at hlen
          have hsz : sizeLine = 16777216 := by unfold sizeLine; decide
          -- found.append(len(told))
          refine q_appZ (l := fo) hfo9 (ev_var rfl) (ev_is (ev_len (ev_var rfl) (sq_of h9)) (by rw [List.length_map])) (by rw [List.length_map, hsz]; omega) fun H10 e10 => ?_
          have h10 : (upd H10 fo (.lst (out.map V.int ++ [V.int ((told s (p, ns, ps)).length : Int)]))) to = some (.lst ((told s (p, ns, ps)).map V.int)) := by rw [upd_ne hft.symm]; exact e10 _ _ h9
          have hN10 := (hN9.mono e10).put (o := .lst (out.map V.int ++ [V.int ((told s (p, ns, ps)).length : Int)])) (e10 _ _ hfo9) hfl'
          have eH10 := (eH9.trans e10).mut (o := .lst (out.map V.int ++ [V.int ((told s (p, ns, ps)).length : Int)])) hfo0
          generalize hG : upd H10 fo (.lst (out.map V.int ++ [V.int ((told s (p, ns, ps)).length : Int)])) = G at *
          have hfoG : G fo = some (.lst (out.map V.int ++ [V.int ((told s (p, ns, ps)).length : Int)])) := by rw [← hG]; exact upd_same
          -- found.extend(told)
          refine q_extZ (l := fo) (b := to) hfoG h10 (ev_var rfl) (ev_var rfl) (by rw [List.length_append, List.length_map, List.length_map, List.length_singleton, hsz]; omega) fun H11 e11 => ?_
          have hN11 := (hN10.mono e11).put (o := .lst (out.map V.int ++ [V.int ((told s (p, ns, ps)).length : Int)] ++ (told s (p, ns, ps)).map V.int)) (e11 _ _ hfoG) hfl'
          have eH11 := (eH10.trans e11).mut (o := .lst (out.map V.int ++ [V.int ((told s (p, ns, ps)).length : Int)] ++ (told s (p, ns, ps)).map V.int)) hfo0
          -- at = end_of(calls, at)
          refine s_asg (v := .int ((e : Nat) : Int)) (ev_call (ea_cons (ev_var rfl) (ea_cons (ev_var rfl) ea_nil)) (spv fun H12 e12 => ⟨c, l, i, p, e, ns, ps, rfl, ex_l (eH11.trans e12) hc, ca, rfl⟩)) fun H12 e12 => ?_
          refine ⟨r.length, Nat.lt_succ_self _, e, r, next s (p, ns, ps), lu', out ++ (((told s (p, ns, ps)).length : Int) :: told s (p, ns, ps)), some (.ref to), rfl, hr, ?_, step_ok ok _, eH11.trans e12, hlu9, hN11.mono e12, hfl', ?_, rfl⟩
          · rw [← hsum', List.append_assoc]
            rfl
          · rw [List.map_append, List.map_cons]
            have h := e12 fo (.lst (out.map V.int ++ [V.int ((told s (p, ns, ps)).length : Int)] ++ (told s (p, ns, ps)).map V.int)) upd_same
            rw [List.append_assoc] at h
            exact h
      · cases hcl with
        | nil =>
          refine s_ret (ev_var rfl) fun H5 e5 => ?_
          have hsum : out ++ [] = outs none cs := hsum
          rw [List.append_nil] at hsum
          refine k H5 fo ?_
          rw [← hsum]
          exact e5 _ _ (e4 _ _ hfo')
        | cons ca hr =>
          exfalso
          have := (List.getElem?_eq_some_iff.mp ca.op).1
          exact of_decide_eq_false hb this
end
end HC

/-! ### what is due, by the same calls -/
namespace HC
def ci (l : List Nat) : List Int := l.map fun (x : Nat) => ((x : Nat) : Int)
theorem drop_cons {l : List Nat} {i p : Nat} {r : List Nat} (h : l.drop i = p :: r) : l[i]? = some p ∧ r = l.drop (i + 1) ∧ i < l.length := by
  by_cases hi : i < l.length
  · rw [List.drop_eq_getElem_cons hi] at h
    obtain ⟨h1, h2⟩ := List.cons.inj h
    exact ⟨by rw [List.getElem?_eq_getElem hi, h1], h2.symm, hi⟩
  · rw [List.drop_eq_nil_of_le (by omega)] at h
    cases h
theorem shape_inv {p : Nat} {n k : Nat} (h : PyKqk3.shape ((p : Nat) : Int) = some (n, k)) : p ≤ 19 ∧ n = nargs p ∧ k = if p = 16 ∨ p = 17 then 1 else 0 := by
  by_cases hp : p ≤ 19
  · refine ⟨hp, ?_⟩
    have key : ∀ q, q < 20 → PyKqk3.shape ((q : Nat) : Int) = some (nargs q, if q = 16 ∨ q = 17 then 1 else 0) := by decide
    rw [key p (by omega)] at h
    have h := Option.some.inj h
    exact ⟨(Prod.mk.inj h).1.symm, (Prod.mk.inj h).2.symm⟩
  · exfalso
    unfold PyKqk3.shape at h
    repeat rw [if_neg (by omega)] at h
    cases h
theorem whole_id (c : List (List Int)) : PyKqk3.whole c = c := by
  unfold PyKqk3.whole
  split <;> rfl
theorem len0 {l : List Nat} (h : l.length = 0) : l = [] := List.length_eq_zero_iff.mp h
theorem len1 {l : List Nat} (h : l.length = 1) : ∃ a, l = [a] := List.length_eq_one_iff.mp h
theorem len2 {l : List Nat} (h : l.length = 2) : ∃ a b, l = [a, b] := by
  match l, h with
  | [a, b], _ => exact ⟨a, b, rfl⟩
theorem len3 {l : List Nat} (h : l.length = 3) : ∃ a b c, l = [a, b, c] := by
  match l, h with
  | [a, b, c], _ => exact ⟨a, b, c, rfl⟩
theorem map_nat (ps : List Nat) : (ci ps).map Kqk3Neutral.nat = ps := by
  unfold ci
  rw [List.map_map]
  exact List.map_id' ps
/-- the request that a call encodes -/
theorem req_is {p : Nat} {ns ps : List Nat} (hp : p ≤ 19) (hn : ns.length = nargs p) (rows : List (List Int)) (h0 : ¬ (p = 16 ∨ p = 17) → rows = []) (h1 : p = 16 ∨ p = 17 → rows = [ci ps]) : Kqk3Neutral.requestOf ((((p : Nat) : Int) :: ci ns) :: rows) = some (rq p ns ps) := by
  match p, hp with
  | 0, _ => rw [h0 (by decide)]; obtain ⟨a, rfl⟩ := len1 hn; rfl
  | 1, _ => rw [h0 (by decide)]; obtain ⟨a, b, c, rfl⟩ := len3 hn; rfl
  | 2, _ => rw [h0 (by decide)]; obtain ⟨a, rfl⟩ := len1 hn; rfl
  | 3, _ => rw [h0 (by decide)]; obtain rfl := len0 hn; rfl
  | 4, _ => rw [h0 (by decide)]; obtain ⟨a, b, rfl⟩ := len2 hn; rfl
  | 5, _ => rw [h0 (by decide)]; obtain ⟨a, rfl⟩ := len1 hn; rfl
  | 6, _ => rw [h0 (by decide)]; obtain rfl := len0 hn; rfl
  | 7, _ => rw [h0 (by decide)]; obtain rfl := len0 hn; rfl
  | 8, _ => rw [h0 (by decide)]; obtain rfl := len0 hn; rfl
  | 9, _ => rw [h0 (by decide)]; obtain ⟨a, rfl⟩ := len1 hn; rfl
  | 10, _ => rw [h0 (by decide)]; obtain ⟨a, b, rfl⟩ := len2 hn; rfl
  | 11, _ => rw [h0 (by decide)]; obtain ⟨a, rfl⟩ := len1 hn; rfl
  | 12, _ => rw [h0 (by decide)]; obtain ⟨a, rfl⟩ := len1 hn; rfl
  | 13, _ => rw [h0 (by decide)]; obtain ⟨a, rfl⟩ := len1 hn; rfl
  | 14, _ => rw [h0 (by decide)]; obtain ⟨a, b, rfl⟩ := len2 hn; rfl
  | 15, _ => rw [h0 (by decide)]; obtain rfl := len0 hn; rfl
  | 16, _ =>
    rw [h1 (by decide)]; obtain ⟨a, rfl⟩ := len1 hn
    show some (Kqk3.Request.dualBound a ((ci ps).map Kqk3Neutral.nat)) = _
    rw [map_nat]; rfl
  | 17, _ =>
    rw [h1 (by decide)]; obtain ⟨a, rfl⟩ := len1 hn
    show some (Kqk3.Request.provesOptimality a ((ci ps).map Kqk3Neutral.nat)) = _
    rw [map_nat]; rfl
  | 18, _ => rw [h0 (by decide)]; obtain ⟨a, b, rfl⟩ := len2 hn; rfl
  | 19, _ => rw [h0 (by decide)]; obtain rfl := len0 hn; rfl
  | q + 20, h => exact absurd h (by omega)
/-- one call read -/
theorem call_inv {l : List Nat} {i p : Nat} {r : List Nat} {c : List (List Int)} {t : List Int} (hd : l.drop i = p :: r) (h : PyFlat.call PyKqk3.shape (((p : Nat) : Int) :: ci r) = some (c, t)) :
    ∃ ns ps e, CallAt l i p ns ps e ∧ t = ci (l.drop e) ∧ Kqk3Neutral.requestOf c = some (rq p ns ps) := by
  obtain ⟨hop, hr, hi⟩ := drop_cons hd
  have h : (match PyKqk3.shape ((p : Nat) : Int) with
    | none => none
    | some (n, k) => if (ci r).length < n then none else match PyFlat.rows k ((ci r).drop n) with
      | none => none
      | some (xs, t) => some ((((p : Nat) : Int) :: (ci r).take n) :: xs, t)) = some (c, t) := h
  cases es : PyKqk3.shape ((p : Nat) : Int) with
  | none => rw [es] at h; cases h
  | some nk =>
    obtain ⟨n, k⟩ := nk
    rw [es] at h
    obtain ⟨hp, hn, hk⟩ := shape_inv es
    have h : (if (ci r).length < n then none else match PyFlat.rows k ((ci r).drop n) with
      | none => none
      | some (xs, t) => some ((((p : Nat) : Int) :: (ci r).take n) :: xs, t)) = some (c, t) := h
    by_cases hlt : (ci r).length < n
    · rw [if_pos hlt] at h; cases h
    rw [if_neg hlt] at h
    have hrl : r.length = l.length - (i + 1) := by rw [hr, List.length_drop]
    have hcl : (ci r).length = r.length := List.length_map ..
    have hlen : i + 1 + n ≤ l.length := by omega
    have hdrop : (ci r).drop n = ci (l.drop (i + 1 + n)) := by
      unfold ci
      rw [← List.map_drop, hr, List.drop_drop]
    have htake : (ci r).take n = ci ((l.drop (i + 1)).take n) := by
      unfold ci
      rw [← List.map_take, hr]
    have hnl : ((l.drop (i + 1)).take n).length = n := by
      rw [List.length_take, List.length_drop]; omega
    rw [hdrop, htake] at h
    by_cases hpr : p = 16 ∨ p = 17
    · rw [if_pos hpr] at hk
      subst hk
      have h : (match PyFlat.row (ci (l.drop (i + 1 + n))) with
        | none => none
        | some (x, s) => match PyFlat.rows 0 s with
          | none => none
          | some (xs, t) => some (x :: xs, t)).elim none (fun q => some ((((p : Nat) : Int) :: ci ((l.drop (i + 1)).take n)) :: q.1, q.2)) = some (c, t) := by
        rw [← h]
        unfold PyFlat.rows
        cases PyFlat.row (ci (l.drop (i + 1 + n))) with
        | none => rfl
        | some q => rfl
      cases ed : l.drop (i + 1 + n) with
      | nil => rw [ed] at h; cases h
      | cons m rest =>
        obtain ⟨hm, hrest, hb⟩ := drop_cons ed
        rw [ed] at h
        have hrl2 : rest.length = l.length - (i + 1 + n + 1) := by rw [hrest, List.length_drop]
        have erow : PyFlat.row (ci (m :: rest)) = if 0 ≤ ((m : Nat) : Int) ∧ ((m : Nat) : Int).toNat ≤ (ci rest).length then some ((ci rest).take ((m : Nat) : Int).toNat, (ci rest).drop ((m : Nat) : Int).toNat) else none := rfl
        rw [erow, Int.toNat_natCast] at h
        have hcl2 : (ci rest).length = rest.length := List.length_map ..
        by_cases hmm : 0 ≤ ((m : Nat) : Int) ∧ m ≤ (ci rest).length
        · rw [if_pos hmm] at h
          have h := Option.some.inj h
          obtain ⟨h1, h2⟩ := Prod.mk.inj h
          refine ⟨(l.drop (i + 1)).take n, (l.drop (i + 1 + n + 1)).take m, i + 1 + n + 1 + m, ⟨hop, hp, by rw [hn], by rw [← hn]; exact hlen, fun z => absurd hpr z, fun _ => ⟨m, by rw [← hn]; exact hm, by rw [hn], by omega, by rw [hn]⟩⟩, ?_, ?_⟩
          · rw [← h2]
            show (ci rest).drop m = _
            unfold ci
            rw [← List.map_drop, hrest, List.drop_drop]
          · rw [← h1]
            refine req_is hp (by rw [hnl, hn]) _ (fun z => absurd hpr z) fun _ => ?_
            show [(ci rest).take m] = _
            unfold ci
            rw [← List.map_take, hrest]
        · rw [if_neg hmm] at h; cases h
    · rw [if_neg hpr] at hk
      subst hk
      have h := Option.some.inj (show some ((((p : Nat) : Int) :: ci ((l.drop (i + 1)).take n)) :: [], ci (l.drop (i + 1 + n))) = some (c, t) from h)
      obtain ⟨h1, h2⟩ := Prod.mk.inj h
      refine ⟨(l.drop (i + 1)).take n, [], i + 1 + n, ⟨hop, hp, by rw [hn], by rw [← hn]; exact hlen, fun _ => ⟨rfl, by rw [hn]⟩, fun z => absurd z hpr⟩, h2.symm, ?_⟩
      rw [← h1]
      exact req_is hp (by rw [hnl, hn]) _ (fun _ => rfl) fun z => absurd z hpr
theorem step_is {s : Option Kqk3.Network} {c : List (List Int)} {q : Kqk3.Request} (h : Kqk3Neutral.requestOf c = some q) : Kqk3Neutral.step s c = ((Kqk3.step s q).1, Kqk3Neutral.fields (Kqk3.step s q).2) := by
  unfold Kqk3Neutral.step
  rw [h]
theorem parse {l : List Nat} : ∀ (f i : Nat) (raw : List (List (List Int))), i ≤ l.length → PyFlat.calls PyKqk3.shape f (ci (l.drop i)) = some raw → ∃ cs, Calls l i cs ∧ ∀ s, PyFlat.told (PyFlat.played Kqk3Neutral.step s (raw.map PyKqk3.whole)) = outs s cs := by
  intro f
  induction f with
  | zero =>
    intro i raw hi h
    cases ed : l.drop i with
    | nil =>
      rw [ed] at h
      have h := Option.some.inj (show some [] = some raw from h)
      subst h
      have : i = l.length := by
        have := congrArg List.length ed
        rw [List.length_drop] at this
        have : l.length - i = 0 := this
        omega
      subst this
      exact ⟨[], .nil, fun s => rfl⟩
    | cons p r => rw [ed] at h; cases h
  | succ f ih =>
    intro i raw hi h
    cases ed : l.drop i with
    | nil =>
      rw [ed] at h
      have h := Option.some.inj (show some [] = some raw from h)
      subst h
      have : i = l.length := by
        have := congrArg List.length ed
        rw [List.length_drop] at this
        have : l.length - i = 0 := this
        omega
      subst this
      exact ⟨[], .nil, fun s => rfl⟩
    | cons p r =>
      rw [ed] at h
      have h : (match PyFlat.call PyKqk3.shape (((p : Nat) : Int) :: ci r) with
        | none => none
        | some (c, t) => match PyFlat.calls PyKqk3.shape f t with
          | none => none
          | some cs => some (c :: cs)) = some raw := h
      cases ec : PyFlat.call PyKqk3.shape (((p : Nat) : Int) :: ci r) with
      | none => rw [ec] at h; cases h
      | some ct =>
        obtain ⟨c, t⟩ := ct
        rw [ec] at h
        obtain ⟨ns, ps, e, ca, ht, hq⟩ := call_inv ed ec
        have h : (match PyFlat.calls PyKqk3.shape f t with
          | none => none
          | some cs => some (c :: cs)) = some raw := h
        cases es : PyFlat.calls PyKqk3.shape f t with
        | none => rw [es] at h; cases h
        | some raw' =>
          rw [es] at h
          have h := Option.some.inj (show some (c :: raw') = some raw from h)
          subst h
          have he : e ≤ l.length := by
            by_cases hpr : p = 16 ∨ p = 17
            · obtain ⟨m, _, _, h3, _⟩ := ca.pr hpr
              exact h3
            · rw [(ca.no hpr).2]; exact ca.len
          rw [ht] at es
          obtain ⟨cs, hcs, hs⟩ := ih e raw' he es
          refine ⟨(p, ns, ps) :: cs, .cons ca hcs, fun s => ?_⟩
          rw [List.map_cons, whole_id]
          have e1 := step_is (s := s) hq
          show (((Kqk3Neutral.step s c).2.length : Int) :: (Kqk3Neutral.step s c).2) ++ PyFlat.told (PyFlat.played Kqk3Neutral.step (Kqk3Neutral.step s c).1 (raw'.map PyKqk3.whole)) = _
          rw [hs, e1]
          rfl
theorem law {ns : List Int} (h0 : ∀ x ∈ ns, 0 ≤ x) (h : PyKqk3.answers_asked ns = true) : ∃ l cs, ns = ci l ∧ Calls l 0 cs ∧ (outs none cs).length ≤ 10000000 ∧ PyKqk3.answers ns = outs none cs := by
  have e : ns = ci (ns.map Int.toNat) := by
    unfold ci
    rw [List.map_map]
    refine Eq.symm (Eq.trans (List.map_congr_left (g := fun x => x) fun x hx => ?_) (List.map_id' _))
    exact Int.toNat_of_nonneg (h0 x hx)
  generalize ns.map Int.toNat = l at e
  subst e
  unfold PyKqk3.answers_asked at h
  cases ec : PyFlat.calls PyKqk3.shape (ci l).length (ci l) with
  | none => rw [ec] at h; cases h
  | some raw =>
    rw [ec] at h
    have h : (!raw.isEmpty && PyFlat.atMost 200 raw && PyInside.calls PyKqk3.bound raw && Kqk3Neutral.asked (raw.map PyKqk3.whole) && PyFlat.short 10000000 (PyKqk3.answers (ci l))) = true := h
    rw [Bool.and_eq_true] at h
    have hs : (PyKqk3.answers (ci l)).length ≤ 10000000 := of_decide_eq_true h.2
    obtain ⟨cs, hcs, hall⟩ := parse (l := l) (ci l).length 0 raw (Nat.zero_le _) ec
    have ea : PyKqk3.answers (ci l) = outs none cs := by
      unfold PyKqk3.answers PyKqk3.calls
      rw [ec]
      exact hall none
    exact ⟨l, cs, rfl, hcs, by rw [← ea]; exact hs, ea⟩
end HC

/-! ### what the top has written -/
namespace HC
open PySem PySem.Spec PyProof.Rows L2 Evl
def HasDef (K : PySem.W.Frag) (x : Str) (st : Stmt) : Prop := ∃ (f : Addr) (oc : Value) (od : Option Addr) (kV dc pm : Value) (an : Option Addr) (cd ct : Value) (sl : Array (Option Value)),
  PySem.W.nsIn K mainGlobals x = some (some (.ref f)) ∧ K.lookup f = some ⟨oc, od, .func (PySem.W.fnOf x x (defArgs st) (defBody st) (defScope st) .none kV dc pm an cd ct), sl⟩ ∧ PySem.W.codeIn K cd x = true ∧ PySem.W.keepIn K (.ref f) = true
def HasMeth (K : PySem.W.Frag) (C : Addr) (x qual : Str) (st : Stmt) : Prop := ∃ (f : Addr) (oc : Value) (od : Option Addr) (kV dc pm : Value) (an : Option Addr) (cd ct : Value) (sl : Array (Option Value)),
  PySem.W.findIn K (.ref C) x = some (some (.ref f)) ∧ PySem.W.isFn K (.ref f) = true ∧ K.lookup f = some ⟨oc, od, .func (PySem.W.fnOf x qual (defArgs st) (defBody st) (defScope st) .none kV dc pm an cd ct), sl⟩ ∧ PySem.W.codeIn K cd qual = true ∧ PySem.W.keepIn K (.ref f) = true
def HasInt (K : PySem.W.Frag) (x : Str) (n : Int) : Prop := ∃ t, PySem.W.nsIn K mainGlobals x = some (some (.int n t))
def HasTup (K : PySem.W.Frag) (x : Str) (xs : List V) : Prop := ∃ (a : Addr) (od : Option Addr) (its : Array Value) (n : Nat) (sl : Array (Option Value)), PySem.W.nsIn K mainGlobals x = some (some (.ref a)) ∧ K.lookup a = some ⟨.type "tuple", od, .seq its n, sl⟩ ∧ its.size ≤ 100 ∧ Vals xs its.toList
section
variable {K : PySem.W.Frag} {x qual : Str} {st : Stmt} {C f : Addr} {oc : Value} {od : Option Addr} {kV dc pm : Value} {an : Option Addr} {cd ct t : Value} {sl : Array (Option Value)}
theorem hasDef (a : PySem.W.nsIn K mainGlobals x = some (some (.ref f))) (l : K.lookup f = some ⟨oc, od, .func (PySem.W.fnOf x x (defArgs st) (defBody st) (defScope st) .none kV dc pm an cd ct), sl⟩) (c : PySem.W.codeIn K cd x = true) (k : PySem.W.keepIn K (.ref f) = true) : HasDef K x st :=
  ⟨f, oc, od, kV, dc, pm, an, cd, ct, sl, a, l, c, k⟩
theorem hasMeth (a : PySem.W.findIn K (.ref C) x = some (some (.ref f))) (i : PySem.W.isFn K (.ref f) = true) (l : K.lookup f = some ⟨oc, od, .func (PySem.W.fnOf x qual (defArgs st) (defBody st) (defScope st) .none kV dc pm an cd ct), sl⟩) (c : PySem.W.codeIn K cd qual = true) (k : PySem.W.keepIn K (.ref f) = true) : HasMeth K C x qual st :=
  ⟨f, oc, od, kV, dc, pm, an, cd, ct, sl, a, i, l, c, k⟩
theorem hasInt {n : Int} {t} (a : PySem.W.nsIn K mainGlobals x = some (some (.int n t))) : HasInt K x n := ⟨t, a⟩
theorem hasTup {xs : List V} {its : Array Value} {n : Nat} (a : PySem.W.nsIn K mainGlobals x = some (some (.ref f))) (l : K.lookup f = some ⟨.type "tuple", od, .seq its n, sl⟩) (s : its.size ≤ 100) (v : Vals xs its.toList) : HasTup K x xs := ⟨f, od, its, n, sl, a, l, s, v⟩
end
section
variable {P : Program} {w : World} {K : PySem.W.Frag} {mg : Str → Option Value} {base h : Heap} {C : Addr}
theorem mkDef {x : Str} {st : Stmt} {k : Nat} {ps : List Str} {sp : Sp} (hd : HasDef K x st) (X : K.In h) (G : h.Ns mainGlobals mg) (ok : ∀ f fd, Fun K x x st f fd → FnOk P w K mg base CX0 k f fd ps sp)
    (hb : ∀ (kV doc pm : Value) (an : Option Addr) (cdv ct : Value) (us : List Value), us.length = ps.length → bindArgs (PySem.W.fnOf x x (defArgs st) (defBody st) (defScope st) .none kV doc pm an cdv ct) ⟨us, []⟩ = pure (ps.zip us)) : DefAt P w K mg base x k ps sp := by
  obtain ⟨f, oc, od, kV, dc, pm, an, cd, ct, sl, a, l, c, kp⟩ := hd
  have F := fun_mk (st := st) l c kp
  exact ⟨f, _, ok f _ F, PySem.W.mg_of X G a, kp, F.binds hb⟩
theorem mkMeth {x qual : Str} {st : Stmt} {k : Nat} {ps : List Str} {sp : Sp} (hd : HasMeth K C x qual st) (ok : ∀ f fd, Fun K x qual st f fd → FnOk P w K mg base CX0 k f fd ps sp)
    (hb : ∀ (kV doc pm : Value) (an : Option Addr) (cdv ct : Value) (us : List Value), us.length = ps.length → bindArgs (PySem.W.fnOf x qual (defArgs st) (defBody st) (defScope st) .none kV doc pm an cdv ct) ⟨us, []⟩ = pure (ps.zip us)) : MethAt P w K mg base C x k ps sp := by
  obtain ⟨f, oc, od, kV, dc, pm, an, cd, ct, sl, a, i, l, c, kp⟩ := hd
  have F := fun_mk (st := st) l c kp
  exact ⟨f, _, ok f _ F, ⟨a, i, kp⟩, F.binds hb⟩
theorem int_get {x : Str} {n : Int} (hi : HasInt K x n) (X : K.In h) (G : h.Ns mainGlobals mg) : ∃ t, mg x = some (.int n t) := by
  obtain ⟨t, hi⟩ := hi
  exact ⟨t, PySem.W.mg_of X G hi⟩
theorem HasTup.at_ {x : Str} {xs : List V} (hi : HasTup K x xs) (X : K.In h) (G : h.Ns mainGlobals mg) : ∃ a, mg x = some (.ref a) ∧ ∀ H, SqT K H a xs := by
  obtain ⟨a, od, its, n, sl, h1, h2, h3, h4⟩ := hi
  exact ⟨a, PySem.W.mg_of X G h1, fun H => .inr ⟨_, its, n, h2, rfl, rfl, Nat.le_trans h3 (by decide), h4⟩⟩

theorem all_mk {fa : Addr} (X : K.In h) (G : h.Ns mainGlobals mg) (hfa : mg "answers" = some (.ref fa))
    (d_occupies : HasDef K "occupies" s_occupies)
    (d_follows : HasDef K "follows" s_follows)
    (d_without : HasDef K "without" s_without)
    (d_full_mask : HasDef K "full_mask" s_full_mask)
    (d_is_mask : HasDef K "is_mask" s_is_mask)
    (d_contains : HasDef K "contains" s_contains)
    (d_numbers_in : HasDef K "numbers_in" s_numbers_in)
    (d_value_in : HasDef K "value_in" s_value_in)
    (d_occupants : HasDef K "occupants" s_occupants)
    (d_load_in : HasDef K "load_in" s_load_in)
    (d_loads_in : HasDef K "loads_in" s_loads_in)
    (d_peak_in : HasDef K "peak_in" s_peak_in)
    (d_peak_grade_in : HasDef K "peak_grade_in" s_peak_grade_in)
    (d_best_mask : HasDef K "best_mask" s_best_mask)
    (d_best_value : HasDef K "best_value" s_best_value)
    (d_are_prices : HasDef K "are_prices" s_are_prices)
    (d_cost_of : HasDef K "cost_of" s_cost_of)
    (d_bound_of : HasDef K "bound_of" s_bound_of)
    (d_by_supply : HasDef K "by_supply" s_by_supply)
    (d_place_for : HasDef K "place_for" s_place_for)
    (d_cascades_of : HasDef K "cascades_of" s_cascades_of)
    (d_has_user : HasDef K "has_user" s_has_user)
    (d_create : HasDef K "create" s_create)
    (d_add_user : HasDef K "add_user" s_add_user)
    (d_remove_user : HasDef K "remove_user" s_remove_user)
    (d_list_users : HasDef K "list_users" s_list_users)
    (d_set_value : HasDef K "set_value" s_set_value)
    (d_load : HasDef K "load" s_load)
    (d_peak_load : HasDef K "peak_load" s_peak_load)
    (d_peak_grade : HasDef K "peak_grade" s_peak_grade)
    (d_min_cascades : HasDef K "min_cascades" s_min_cascades)
    (d_assign_cascades : HasDef K "assign_cascades" s_assign_cascades)
    (d_is_servable : HasDef K "is_servable" s_is_servable)
    (d_best_set : HasDef K "best_set" s_best_set)
    (d_value_of : HasDef K "value_of" s_value_of)
    (d_marginal_value : HasDef K "marginal_value" s_marginal_value)
    (d_can_follow : HasDef K "can_follow" s_can_follow)
    (d_peak_users : HasDef K "peak_users" s_peak_users)
    (d_are_bad : HasDef K "are_bad" s_are_bad)
    (d_dual_bound : HasDef K "dual_bound" s_dual_bound)
    (d_proves_optimality : HasDef K "proves_optimality" s_proves_optimality)
    (d_loss_without : HasDef K "loss_without" s_loss_without)
    (d_summary : HasDef K "summary" s_summary)
    (d_prices_begin : HasDef K "prices_begin" s_prices_begin)
    (d_has_prices : HasDef K "has_prices" s_has_prices)
    (d_numbers_of : HasDef K "numbers_of" s_numbers_of)
    (d_prices_of : HasDef K "prices_of" s_prices_of)
    (d_end_of : HasDef K "end_of" s_end_of)
    (d_answer_users : HasDef K "answer_users" s_answer_users)
    (d_answer_loads : HasDef K "answer_loads" s_answer_loads)
    (d_answer_values : HasDef K "answer_values" s_answer_values)
    (d_answer_bounds : HasDef K "answer_bounds" s_answer_bounds)
    (d_answer : HasDef K "answer" s_answer)
    (d_answers : HasDef K "answers" s_answers)
    (m_init : HasMeth K C "__init__" "Network.__init__" s_Network_init)
    (m_begin : HasMeth K C "begin" "Network.begin" s_Network_begin)
    (m_enter : HasMeth K C "enter" "Network.enter" s_Network_enter)
    (m_leave : HasMeth K C "leave" "Network.leave" s_Network_leave)
    (m_revalue : HasMeth K C "revalue" "Network.revalue" s_Network_revalue)
    (i_NO_NETWORK : HasInt K "NO_NETWORK" (-11))
    (i_NO_USER : HasInt K "NO_USER" (-2))
    (i_BAD_RANGE : HasInt K "BAD_RANGE" (-22))
    (i_FULL : HasInt K "FULL" (-28))
    (i_MOST_GRADES : HasInt K "MOST_GRADES" 12)
    (i_MOST_USERS : HasInt K "MOST_USERS" 8)
    (i_MOST_VALUE : HasInt K "MOST_VALUE" 100)
    (i_MOST_CASCADES : HasInt K "MOST_CASCADES" 8)
    (i_MOST_PRICE : HasInt K "MOST_PRICE" 1000)
    (i_DUAL_BOUND : HasInt K "DUAL_BOUND" 16)
    (i_PROVES_OPTIMALITY : HasInt K "PROVES_OPTIMALITY" 17)
    (t_WORTHS : HasTup K "WORTHS" worths)
    (t_ARGUMENTS : HasTup K "ARGUMENTS" argcs)
    (z_len : PySem.W.nsIn K mainGlobals "len" = some none)
    (z_range : PySem.W.nsIn K mainGlobals "range" = some none)
    (z_max : PySem.W.nsIn K mainGlobals "max" = some none)
    (z_sum : PySem.W.nsIn K mainGlobals "sum" = some none)
    (z_enumerate : PySem.W.nsIn K mainGlobals "enumerate" = some none)
    (aC : PySem.W.nsIn K mainGlobals "Network" = some (some (.ref C)))
    (pg : PySem.W.plainGet K C Str.empty = true) (hd : PySem.W.hasDictIn K C = true) (po : PySem.W.plainOver K C = true) (sa : PySem.W.findIn K (.ref C) "__setattr__" = some (some (.builtin "object.__setattr__"))) (mk : PySem.W.makesIn K C = true) (kc : PySem.W.keepIn K (.ref C) = true)
    (nG : PySem.W.findIn K (.ref C) "grade_count" = some none) (nU : PySem.W.findIn K (.ref C) "users" = some none) :
    ∃ fd : FuncData, (∀ (s : Shared) (us : List Value), us.length = (["calls"] : List Str).length → BindsTo s fd ⟨us, []⟩ ((["calls"] : List Str).zip us)) ∧ ∀ base : Heap, K.In base → base.Ns mainGlobals mg → FnOk P w K mg base CX0 12 fa fd ["calls"] (spAnswers K) := by
  obtain ⟨aW, gW, tW⟩ := t_WORTHS.at_ X G
  obtain ⟨aA, gA, tA⟩ := t_ARGUMENTS.at_ X G
  have gNet : mg "Network" = some (.ref C) := PySem.W.mg_of X G aC
  have T : Txt K mg C aW aA := ⟨⟨pg, hd, po, sa⟩, nG, nU, PySem.W.mg_none_of X G z_len, PySem.W.mg_none_of X G z_range, PySem.W.mg_none_of X G z_max, PySem.W.mg_none_of X G z_sum, PySem.W.mg_none_of X G z_enumerate, int_get i_NO_NETWORK X G, int_get i_NO_USER X G, int_get i_BAD_RANGE X G, int_get i_FULL X G, int_get i_MOST_GRADES X G, int_get i_MOST_USERS X G, int_get i_MOST_VALUE X G, int_get i_MOST_CASCADES X G, int_get i_MOST_PRICE X G, int_get i_DUAL_BOUND X G, int_get i_PROVES_OPTIMALITY X G, gW, tW, gA, tA⟩
  obtain ⟨f, oc, od, kV, dc, pm, an, cd, ct, sl, a, l, c, kp⟩ := d_answers
  have e := hfa.symm.trans (PySem.W.mg_of X G a)
  cases e
  have F := fun_mk (st := s_answers) l c kp
  refine ⟨PySem.W.fnOf "answers" "answers" (defArgs s_answers) (defBody s_answers) (defScope s_answers) .none kV dc pm an cd ct, fun s us hu => match us, hu with | [_], _ => .of_eq rfl, fun base _ _ => ?_⟩
  obtain ⟨fI, ocI, odI, kVI, dcI, pmI, anI, cdI, ctI, slI, aI, iI, lI, cI, kI⟩ := m_init
  have FI := fun_mk (st := s_Network_init) lI cI kI
  have GI : FnOk P w K mg base CX0 1 fI _ ["self"] (spInit C) := ok_init FI T
  have bI := FI.binds (ps := ["self"]) fun _ _ _ _ _ _ us hl => match us, hl with | [_], _ => rfl
  have D_occupies : DefAt P w K mg base "occupies" 1 ["user", "grade"] (SpOf pOccupies) := mkDef d_occupies X G (fun f fd F => ok_occupies F ) (fun _ _ _ _ _ _ us hl => match us, hl with | [_, _], _ => rfl)
  have D_follows : DefAt P w K mg base "follows" 1 ["user", "later"] (SpOf pFollows) := mkDef d_follows X G (fun f fd F => ok_follows F ) (fun _ _ _ _ _ _ us hl => match us, hl with | [_, _], _ => rfl)
  have D_without : DefAt P w K mg base "without" 1 ["users", "number"] (SpOfL pWithout) := mkDef d_without X G (fun f fd F => ok_without F T) (fun _ _ _ _ _ _ us hl => match us, hl with | [_, _], _ => rfl)
  have D_full_mask : DefAt P w K mg base "full_mask" 1 ["users"] (SpOf pFull) := mkDef d_full_mask X G (fun f fd F => ok_full_mask F T) (fun _ _ _ _ _ _ us hl => match us, hl with | [_], _ => rfl)
  have D_is_mask : DefAt P w K mg base "is_mask" 1 ["users", "mask"] (SpOf pIsMask) := mkDef d_is_mask X G (fun f fd F => ok_is_mask F T) (fun _ _ _ _ _ _ us hl => match us, hl with | [_, _], _ => rfl)
  have D_contains : DefAt P w K mg base "contains" 1 ["mask", "number"] (SpOf pContains) := mkDef d_contains X G (fun f fd F => ok_contains F T) (fun _ _ _ _ _ _ us hl => match us, hl with | [_, _], _ => rfl)
  have D_numbers_in : DefAt P w K mg base "numbers_in" 2 ["users", "mask"] (SpOfL pNumbers) := mkDef d_numbers_in X G (fun f fd F => ok_numbers_in F T D_contains) (fun _ _ _ _ _ _ us hl => match us, hl with | [_, _], _ => rfl)
  have D_value_in : DefAt P w K mg base "value_in" 3 ["users", "mask"] (SpOf pValue) := mkDef d_value_in X G (fun f fd F => ok_value_in F D_numbers_in) (fun _ _ _ _ _ _ us hl => match us, hl with | [_, _], _ => rfl)
  have D_occupants : DefAt P w K mg base "occupants" 3 ["users", "mask", "grade"] (SpOfL pOccupants) := mkDef d_occupants X G (fun f fd F => ok_occupants F D_numbers_in D_occupies) (fun _ _ _ _ _ _ us hl => match us, hl with | [_, _, _], _ => rfl)
  have D_load_in : DefAt P w K mg base "load_in" 4 ["users", "mask", "grade"] (SpOf pLoad) := mkDef d_load_in X G (fun f fd F => ok_load_in F T D_occupants) (fun _ _ _ _ _ _ us hl => match us, hl with | [_, _, _], _ => rfl)
  have D_loads_in : DefAt P w K mg base "loads_in" 5 ["users", "mask", "grade_count"] (SpOfL pLoads) := mkDef d_loads_in X G (fun f fd F => ok_loads_in F T D_load_in) (fun _ _ _ _ _ _ us hl => match us, hl with | [_, _, _], _ => rfl)
  have D_peak_in : DefAt P w K mg base "peak_in" 6 ["users", "mask", "grade_count"] (SpOf pPeak) := mkDef d_peak_in X G (fun f fd F => ok_peak_in F T D_loads_in) (fun _ _ _ _ _ _ us hl => match us, hl with | [_, _, _], _ => rfl)
  have D_peak_grade_in : DefAt P w K mg base "peak_grade_in" 6 ["users", "mask", "grade_count"] (SpOf pPeakGrade) := mkDef d_peak_grade_in X G (fun f fd F => ok_peak_grade_in F T D_loads_in) (fun _ _ _ _ _ _ us hl => match us, hl with | [_, _, _], _ => rfl)
  have D_best_mask : DefAt P w K mg base "best_mask" 7 ["users", "grade_count", "cascade_count"] (SpOf pBest) := mkDef d_best_mask X G (fun f fd F => ok_best_mask F T D_value_in D_peak_in) (fun _ _ _ _ _ _ us hl => match us, hl with | [_, _, _], _ => rfl)
  have D_best_value : DefAt P w K mg base "best_value" 8 ["users", "grade_count", "cascade_count"] (SpOf pBestV) := mkDef d_best_value X G (fun f fd F => ok_best_value F D_value_in D_best_mask) (fun _ _ _ _ _ _ us hl => match us, hl with | [_, _, _], _ => rfl)
  have D_are_prices : DefAt P w K mg base "are_prices" 1 ["prices", "grade_count"] (SpOf pArePrices) := mkDef d_are_prices X G (fun f fd F => ok_are_prices F T) (fun _ _ _ _ _ _ us hl => match us, hl with | [_, _], _ => rfl)
  have D_cost_of : DefAt P w K mg base "cost_of" 1 ["user", "prices"] (SpOf pCost) := mkDef d_cost_of X G (fun f fd F => ok_cost_of F T) (fun _ _ _ _ _ _ us hl => match us, hl with | [_, _], _ => rfl)
  have D_bound_of : DefAt P w K mg base "bound_of" 2 ["users", "cascade_count", "prices"] (SpOf pBound) := mkDef d_bound_of X G (fun f fd F => ok_bound_of F T D_cost_of) (fun _ _ _ _ _ _ us hl => match us, hl with | [_, _, _], _ => rfl)
  have D_by_supply : DefAt P w K mg base "by_supply" 3 ["users", "mask"] (SpOfL pBySupply) := mkDef d_by_supply X G (fun f fd F => ok_by_supply F T D_numbers_in) (fun _ _ _ _ _ _ us hl => match us, hl with | [_, _], _ => rfl)
  have D_place_for : DefAt P w K mg base "place_for" 2 ["users", "cascades", "number"] (SpOf pPlaceFor) := mkDef d_place_for X G (fun f fd F => ok_place_for F T D_follows) (fun _ _ _ _ _ _ us hl => match us, hl with | [_, _, _], _ => rfl)
  have D_cascades_of : DefAt P w K mg base "cascades_of" 4 ["users", "mask"] spCascades := mkDef d_cascades_of X G (fun f fd F => ok_cascades_of F T D_by_supply D_place_for) (fun _ _ _ _ _ _ us hl => match us, hl with | [_, _], _ => rfl)
  have D_has_user : DefAt P w K mg base "has_user" 1 ["network", "number"] (SpOf (pHas C)) := mkDef d_has_user X G (fun f fd F => ok_has_user F T) (fun _ _ _ _ _ _ us hl => match us, hl with | [_, _], _ => rfl)
  have M_begin : MethAt P w K mg base C "begin" 1 ["self", "grade_count"] (spBegin C) := mkMeth m_begin (fun f fd F => ok_begin F T) (fun _ _ _ _ _ _ us hl => match us, hl with | [_, _], _ => rfl)
  have D_create : DefAt P w K mg base "create" 2 ["network", "grade_count"] (spCreate C) := mkDef d_create X G (fun f fd F => ok_create F T M_begin) (fun _ _ _ _ _ _ us hl => match us, hl with | [_, _], _ => rfl)
  have M_enter : MethAt P w K mg base C "enter" 1 ["self", "user"] (spEnter C) := mkMeth m_enter (fun f fd F => ok_enter F T) (fun _ _ _ _ _ _ us hl => match us, hl with | [_, _], _ => rfl)
  have D_add_user : DefAt P w K mg base "add_user" 2 ["network", "supply_grade", "return_grade", "value"] (spAdd C) := mkDef d_add_user X G (fun f fd F => ok_add_user F T M_enter) (fun _ _ _ _ _ _ us hl => match us, hl with | [_, _, _, _], _ => rfl)
  have M_leave : MethAt P w K mg base C "leave" 2 ["self", "number"] (spLeave C) := mkMeth m_leave (fun f fd F => ok_leave F T D_without) (fun _ _ _ _ _ _ us hl => match us, hl with | [_, _], _ => rfl)
  have D_remove_user : DefAt P w K mg base "remove_user" 3 ["network", "number"] (spRemove C) := mkDef d_remove_user X G (fun f fd F => ok_remove_user F T M_leave D_has_user) (fun _ _ _ _ _ _ us hl => match us, hl with | [_, _], _ => rfl)
  have D_list_users : DefAt P w K mg base "list_users" 1 ["network"] (SpOfL (pList C)) := mkDef d_list_users X G (fun f fd F => ok_list_users F T) (fun _ _ _ _ _ _ us hl => match us, hl with | [_], _ => rfl)
  have M_revalue : MethAt P w K mg base C "revalue" 1 ["self", "number", "value"] (spRevalue C) := mkMeth m_revalue (fun f fd F => ok_revalue F T) (fun _ _ _ _ _ _ us hl => match us, hl with | [_, _, _], _ => rfl)
  have D_set_value : DefAt P w K mg base "set_value" 2 ["network", "number", "value"] (spSet C) := mkDef d_set_value X G (fun f fd F => ok_set_value F T M_revalue D_has_user) (fun _ _ _ _ _ _ us hl => match us, hl with | [_, _, _], _ => rfl)
  have D_load : DefAt P w K mg base "load" 5 ["network", "grade"] (SpOfL (pLoadOp C)) := mkDef d_load X G (fun f fd F => ok_load F T D_load_in D_full_mask) (fun _ _ _ _ _ _ us hl => match us, hl with | [_, _], _ => rfl)
  have D_peak_load : DefAt P w K mg base "peak_load" 7 ["network"] (SpOfL (pPeakOp C)) := mkDef d_peak_load X G (fun f fd F => ok_peak_load F T D_peak_in D_full_mask) (fun _ _ _ _ _ _ us hl => match us, hl with | [_], _ => rfl)
  have D_peak_grade : DefAt P w K mg base "peak_grade" 7 ["network"] (SpOfL (pPeakGOp C)) := mkDef d_peak_grade X G (fun f fd F => ok_peak_grade F T D_peak_grade_in D_full_mask) (fun _ _ _ _ _ _ us hl => match us, hl with | [_], _ => rfl)
  have D_min_cascades : DefAt P w K mg base "min_cascades" 5 ["network"] (SpOfL (pMinOp C)) := mkDef d_min_cascades X G (fun f fd F => ok_min_cascades F T D_cascades_of D_full_mask) (fun _ _ _ _ _ _ us hl => match us, hl with | [_], _ => rfl)
  have D_assign_cascades : DefAt P w K mg base "assign_cascades" 5 ["network", "mask"] (SpOfL (pAssignOp C)) := mkDef d_assign_cascades X G (fun f fd F => ok_assign_cascades F T D_cascades_of D_is_mask) (fun _ _ _ _ _ _ us hl => match us, hl with | [_, _], _ => rfl)
  have D_is_servable : DefAt P w K mg base "is_servable" 7 ["network", "mask", "cascade_count"] (SpOfL (pServOp C)) := mkDef d_is_servable X G (fun f fd F => ok_is_servable F T D_peak_in D_is_mask) (fun _ _ _ _ _ _ us hl => match us, hl with | [_, _, _], _ => rfl)
  have D_best_set : DefAt P w K mg base "best_set" 8 ["network", "cascade_count"] (SpOfL (pBestOp C)) := mkDef d_best_set X G (fun f fd F => ok_best_set F T D_best_mask D_value_in) (fun _ _ _ _ _ _ us hl => match us, hl with | [_, _], _ => rfl)
  have D_value_of : DefAt P w K mg base "value_of" 4 ["network", "mask"] (SpOfL (pValOp C)) := mkDef d_value_of X G (fun f fd F => ok_value_of F T D_is_mask D_value_in) (fun _ _ _ _ _ _ us hl => match us, hl with | [_, _], _ => rfl)
  have D_marginal_value : DefAt P w K mg base "marginal_value" 9 ["network", "cascade_count"] (SpOfL (pMargOp C)) := mkDef d_marginal_value X G (fun f fd F => ok_marginal_value F T D_best_value) (fun _ _ _ _ _ _ us hl => match us, hl with | [_, _], _ => rfl)
  have D_can_follow : DefAt P w K mg base "can_follow" 2 ["network", "number", "later"] (SpOfL (pFollowOp C)) := mkDef d_can_follow X G (fun f fd F => ok_can_follow F T D_has_user D_follows) (fun _ _ _ _ _ _ us hl => match us, hl with | [_, _, _], _ => rfl)
  have D_peak_users : DefAt P w K mg base "peak_users" 7 ["network"] (SpOfL (pPeakUOp C)) := mkDef d_peak_users X G (fun f fd F => ok_peak_users F T D_peak_grade_in D_full_mask D_occupants) (fun _ _ _ _ _ _ us hl => match us, hl with | [_], _ => rfl)
  have D_are_bad : DefAt P w K mg base "are_bad" 2 ["network", "cascade_count", "prices"] (SpOf (pBad C)) := mkDef d_are_bad X G (fun f fd F => ok_are_bad F T D_are_prices) (fun _ _ _ _ _ _ us hl => match us, hl with | [_, _, _], _ => rfl)
  have D_dual_bound : DefAt P w K mg base "dual_bound" 3 ["network", "cascade_count", "prices"] (SpOfL (pDualOp C)) := mkDef d_dual_bound X G (fun f fd F => ok_dual_bound F T D_are_bad D_bound_of) (fun _ _ _ _ _ _ us hl => match us, hl with | [_, _, _], _ => rfl)
  have D_proves_optimality : DefAt P w K mg base "proves_optimality" 9 ["network", "cascade_count", "prices"] (SpOfL (pProveOp C)) := mkDef d_proves_optimality X G (fun f fd F => ok_proves_optimality F T D_are_bad D_bound_of D_best_value) (fun _ _ _ _ _ _ us hl => match us, hl with | [_, _, _], _ => rfl)
  have D_loss_without : DefAt P w K mg base "loss_without" 9 ["network", "number", "cascade_count"] (SpOfL (pLossOp C)) := mkDef d_loss_without X G (fun f fd F => ok_loss_without F T D_has_user D_without D_best_value) (fun _ _ _ _ _ _ us hl => match us, hl with | [_, _, _], _ => rfl)
  have D_summary : DefAt P w K mg base "summary" 1 ["network"] (SpOfL (pSumOp C)) := mkDef d_summary X G (fun f fd F => ok_summary F T) (fun _ _ _ _ _ _ us hl => match us, hl with | [_], _ => rfl)
  have D_prices_begin : DefAt P w K mg base "prices_begin" 1 ["calls", "at"] (SpOf (pBegin K)) := mkDef d_prices_begin X G (fun f fd F => ok_prices_begin F T) (fun _ _ _ _ _ _ us hl => match us, hl with | [_, _], _ => rfl)
  have D_has_prices : DefAt P w K mg base "has_prices" 1 ["calls", "at"] (SpOf (pHasP K)) := mkDef d_has_prices X G (fun f fd F => ok_has_prices F T) (fun _ _ _ _ _ _ us hl => match us, hl with | [_, _], _ => rfl)
  have D_numbers_of : DefAt P w K mg base "numbers_of" 2 ["calls", "at"] (SpOfL (pNums K)) := mkDef d_numbers_of X G (fun f fd F => ok_numbers_of F T D_prices_begin) (fun _ _ _ _ _ _ us hl => match us, hl with | [_, _], _ => rfl)
  have D_prices_of : DefAt P w K mg base "prices_of" 2 ["calls", "at"] (SpOfL (pPrices K)) := mkDef d_prices_of X G (fun f fd F => ok_prices_of F T D_prices_begin D_has_prices) (fun _ _ _ _ _ _ us hl => match us, hl with | [_, _], _ => rfl)
  have D_end_of : DefAt P w K mg base "end_of" 2 ["calls", "at"] (SpOf (pEnd K)) := mkDef d_end_of X G (fun f fd F => ok_end_of F T D_prices_begin D_has_prices) (fun _ _ _ _ _ _ us hl => match us, hl with | [_, _], _ => rfl)
  have D_answer_users : DefAt P w K mg base "answer_users" 4 ["network", "operation", "numbers"] (spAU C) := mkDef d_answer_users X G (fun f fd F => ok_answer_users F T D_create D_add_user D_remove_user D_list_users D_set_value) (fun _ _ _ _ _ _ us hl => match us, hl with | [_, _, _], _ => rfl)
  have D_answer_loads : DefAt P w K mg base "answer_loads" 8 ["network", "operation", "numbers"] (SpOfL (pAL C)) := mkDef d_answer_loads X G (fun f fd F => ok_answer_loads F T D_load D_peak_load D_peak_grade D_min_cascades D_assign_cascades D_is_servable) (fun _ _ _ _ _ _ us hl => match us, hl with | [_, _, _], _ => rfl)
  have D_answer_values : DefAt P w K mg base "answer_values" 10 ["network", "operation", "numbers"] (SpOfL (pAV C)) := mkDef d_answer_values X G (fun f fd F => ok_answer_values F T D_best_set D_value_of D_marginal_value D_can_follow D_peak_users) (fun _ _ _ _ _ _ us hl => match us, hl with | [_, _, _], _ => rfl)
  have D_answer_bounds : DefAt P w K mg base "answer_bounds" 10 ["network", "operation", "numbers", "prices"] (SpOfL (pAB C)) := mkDef d_answer_bounds X G (fun f fd F => ok_answer_bounds F T D_dual_bound D_proves_optimality D_loss_without D_summary) (fun _ _ _ _ _ _ us hl => match us, hl with | [_, _, _, _], _ => rfl)
  have D_answer : DefAt P w K mg base "answer" 11 ["network", "operation", "numbers", "prices"] (spAnswer C) := mkDef d_answer X G (fun f fd F => ok_answer F T D_answer_users D_answer_loads D_answer_values D_answer_bounds) (fun _ _ _ _ _ _ us hl => match us, hl with | [_, _, _, _], _ => rfl)
  exact ok_answers F T ⟨mk, aI, iI, kc⟩ GI bI gNet D_answer D_numbers_of D_prices_of D_end_of
end
end HC

open PySem PySem.W PyProof.Rows
set_option maxRecDepth 100000 in
set_option maxHeartbeats 0 in
theorem PySem.Challenge.cw_heatcascades_s01_answers_holds : PySem.Challenge.rw_heatcascades_s01_answers.Holds := by
  w_on; k_headS; (case hw => exact ⟨[.list [.int 19]], by decide +kernel, by decide +kernel⟩)
  k_fillS
  refine L2.walk_specK (r := PySem.Challenge.rw_heatcascades_s01_answers) (k := 12) (CX := L2.CX0) (ps := ["calls"]) (sp := HC.spAnswers) (by decide +kernel) rfl rfl ⟨rfl, by decide, by decide⟩ (fun w h Y => PySem.W.kIn_of Y) ?F ?S (fun _ _ _ _ z => z)
  case F =>
    intro w mg fa h Y KX G hmg
    refine' HC.all_mk KX G hmg ?d_occupies ?d_follows ?d_without ?d_full_mask ?d_is_mask ?d_contains ?d_numbers_in ?d_value_in ?d_occupants ?d_load_in ?d_loads_in ?d_peak_in ?d_peak_grade_in ?d_best_mask ?d_best_value ?d_are_prices ?d_cost_of ?d_bound_of ?d_by_supply ?d_place_for ?d_cascades_of ?d_has_user ?d_create ?d_add_user ?d_remove_user ?d_list_users ?d_set_value ?d_load ?d_peak_load ?d_peak_grade ?d_min_cascades ?d_assign_cascades ?d_is_servable ?d_best_set ?d_value_of ?d_marginal_value ?d_can_follow ?d_peak_users ?d_are_bad ?d_dual_bound ?d_proves_optimality ?d_loss_without ?d_summary ?d_prices_begin ?d_has_prices ?d_numbers_of ?d_prices_of ?d_end_of ?d_answer_users ?d_answer_loads ?d_answer_values ?d_answer_bounds ?d_answer ?d_answers ?m_init ?m_begin ?m_enter ?m_leave ?m_revalue ?i_NO_NETWORK ?i_NO_USER ?i_BAD_RANGE ?i_FULL ?i_MOST_GRADES ?i_MOST_USERS ?i_MOST_VALUE ?i_MOST_CASCADES ?i_MOST_PRICE ?i_DUAL_BOUND ?i_PROVES_OPTIMALITY ?t_WORTHS ?t_ARGUMENTS ?z_len ?z_range ?z_max ?z_sum ?z_enumerate ?aC ?pg ?hd ?po ?sa ?mk ?kc ?nG ?nU
    (case aC => k_is)
    (case d_occupies => (refine' HC.hasDef ?a ?l ?c ?k; (case a => k_is); (case l => k_is); (case c => k_is); (case k => k_is)))
    (case d_follows => (refine' HC.hasDef ?a ?l ?c ?k; (case a => k_is); (case l => k_is); (case c => k_is); (case k => k_is)))
    (case d_without => (refine' HC.hasDef ?a ?l ?c ?k; (case a => k_is); (case l => k_is); (case c => k_is); (case k => k_is)))
    (case d_full_mask => (refine' HC.hasDef ?a ?l ?c ?k; (case a => k_is); (case l => k_is); (case c => k_is); (case k => k_is)))
    (case d_is_mask => (refine' HC.hasDef ?a ?l ?c ?k; (case a => k_is); (case l => k_is); (case c => k_is); (case k => k_is)))
    (case d_contains => (refine' HC.hasDef ?a ?l ?c ?k; (case a => k_is); (case l => k_is); (case c => k_is); (case k => k_is)))
    (case d_numbers_in => (refine' HC.hasDef ?a ?l ?c ?k; (case a => k_is); (case l => k_is); (case c => k_is); (case k => k_is)))
    (case d_value_in => (refine' HC.hasDef ?a ?l ?c ?k; (case a => k_is); (case l => k_is); (case c => k_is); (case k => k_is)))
    (case d_occupants => (refine' HC.hasDef ?a ?l ?c ?k; (case a => k_is); (case l => k_is); (case c => k_is); (case k => k_is)))
    (case d_load_in => (refine' HC.hasDef ?a ?l ?c ?k; (case a => k_is); (case l => k_is); (case c => k_is); (case k => k_is)))
    (case d_loads_in => (refine' HC.hasDef ?a ?l ?c ?k; (case a => k_is); (case l => k_is); (case c => k_is); (case k => k_is)))
    (case d_peak_in => (refine' HC.hasDef ?a ?l ?c ?k; (case a => k_is); (case l => k_is); (case c => k_is); (case k => k_is)))
    (case d_peak_grade_in => (refine' HC.hasDef ?a ?l ?c ?k; (case a => k_is); (case l => k_is); (case c => k_is); (case k => k_is)))
    (case d_best_mask => (refine' HC.hasDef ?a ?l ?c ?k; (case a => k_is); (case l => k_is); (case c => k_is); (case k => k_is)))
    (case d_best_value => (refine' HC.hasDef ?a ?l ?c ?k; (case a => k_is); (case l => k_is); (case c => k_is); (case k => k_is)))
    (case d_are_prices => (refine' HC.hasDef ?a ?l ?c ?k; (case a => k_is); (case l => k_is); (case c => k_is); (case k => k_is)))
    (case d_cost_of => (refine' HC.hasDef ?a ?l ?c ?k; (case a => k_is); (case l => k_is); (case c => k_is); (case k => k_is)))
    (case d_bound_of => (refine' HC.hasDef ?a ?l ?c ?k; (case a => k_is); (case l => k_is); (case c => k_is); (case k => k_is)))
    (case d_by_supply => (refine' HC.hasDef ?a ?l ?c ?k; (case a => k_is); (case l => k_is); (case c => k_is); (case k => k_is)))
    (case d_place_for => (refine' HC.hasDef ?a ?l ?c ?k; (case a => k_is); (case l => k_is); (case c => k_is); (case k => k_is)))
    (case d_cascades_of => (refine' HC.hasDef ?a ?l ?c ?k; (case a => k_is); (case l => k_is); (case c => k_is); (case k => k_is)))
    (case d_has_user => (refine' HC.hasDef ?a ?l ?c ?k; (case a => k_is); (case l => k_is); (case c => k_is); (case k => k_is)))
    (case d_create => (refine' HC.hasDef ?a ?l ?c ?k; (case a => k_is); (case l => k_is); (case c => k_is); (case k => k_is)))
    (case d_add_user => (refine' HC.hasDef ?a ?l ?c ?k; (case a => k_is); (case l => k_is); (case c => k_is); (case k => k_is)))
    (case d_remove_user => (refine' HC.hasDef ?a ?l ?c ?k; (case a => k_is); (case l => k_is); (case c => k_is); (case k => k_is)))
    (case d_list_users => (refine' HC.hasDef ?a ?l ?c ?k; (case a => k_is); (case l => k_is); (case c => k_is); (case k => k_is)))
    (case d_set_value => (refine' HC.hasDef ?a ?l ?c ?k; (case a => k_is); (case l => k_is); (case c => k_is); (case k => k_is)))
    (case d_load => (refine' HC.hasDef ?a ?l ?c ?k; (case a => k_is); (case l => k_is); (case c => k_is); (case k => k_is)))
    (case d_peak_load => (refine' HC.hasDef ?a ?l ?c ?k; (case a => k_is); (case l => k_is); (case c => k_is); (case k => k_is)))
    (case d_peak_grade => (refine' HC.hasDef ?a ?l ?c ?k; (case a => k_is); (case l => k_is); (case c => k_is); (case k => k_is)))
    (case d_min_cascades => (refine' HC.hasDef ?a ?l ?c ?k; (case a => k_is); (case l => k_is); (case c => k_is); (case k => k_is)))
    (case d_assign_cascades => (refine' HC.hasDef ?a ?l ?c ?k; (case a => k_is); (case l => k_is); (case c => k_is); (case k => k_is)))
    (case d_is_servable => (refine' HC.hasDef ?a ?l ?c ?k; (case a => k_is); (case l => k_is); (case c => k_is); (case k => k_is)))
    (case d_best_set => (refine' HC.hasDef ?a ?l ?c ?k; (case a => k_is); (case l => k_is); (case c => k_is); (case k => k_is)))
    (case d_value_of => (refine' HC.hasDef ?a ?l ?c ?k; (case a => k_is); (case l => k_is); (case c => k_is); (case k => k_is)))
    (case d_marginal_value => (refine' HC.hasDef ?a ?l ?c ?k; (case a => k_is); (case l => k_is); (case c => k_is); (case k => k_is)))
    (case d_can_follow => (refine' HC.hasDef ?a ?l ?c ?k; (case a => k_is); (case l => k_is); (case c => k_is); (case k => k_is)))
    (case d_peak_users => (refine' HC.hasDef ?a ?l ?c ?k; (case a => k_is); (case l => k_is); (case c => k_is); (case k => k_is)))
    (case d_are_bad => (refine' HC.hasDef ?a ?l ?c ?k; (case a => k_is); (case l => k_is); (case c => k_is); (case k => k_is)))
    (case d_dual_bound => (refine' HC.hasDef ?a ?l ?c ?k; (case a => k_is); (case l => k_is); (case c => k_is); (case k => k_is)))
    (case d_proves_optimality => (refine' HC.hasDef ?a ?l ?c ?k; (case a => k_is); (case l => k_is); (case c => k_is); (case k => k_is)))
    (case d_loss_without => (refine' HC.hasDef ?a ?l ?c ?k; (case a => k_is); (case l => k_is); (case c => k_is); (case k => k_is)))
    (case d_summary => (refine' HC.hasDef ?a ?l ?c ?k; (case a => k_is); (case l => k_is); (case c => k_is); (case k => k_is)))
    (case d_prices_begin => (refine' HC.hasDef ?a ?l ?c ?k; (case a => k_is); (case l => k_is); (case c => k_is); (case k => k_is)))
    (case d_has_prices => (refine' HC.hasDef ?a ?l ?c ?k; (case a => k_is); (case l => k_is); (case c => k_is); (case k => k_is)))
    (case d_numbers_of => (refine' HC.hasDef ?a ?l ?c ?k; (case a => k_is); (case l => k_is); (case c => k_is); (case k => k_is)))
    (case d_prices_of => (refine' HC.hasDef ?a ?l ?c ?k; (case a => k_is); (case l => k_is); (case c => k_is); (case k => k_is)))
    (case d_end_of => (refine' HC.hasDef ?a ?l ?c ?k; (case a => k_is); (case l => k_is); (case c => k_is); (case k => k_is)))
    (case d_answer_users => (refine' HC.hasDef ?a ?l ?c ?k; (case a => k_is); (case l => k_is); (case c => k_is); (case k => k_is)))
    (case d_answer_loads => (refine' HC.hasDef ?a ?l ?c ?k; (case a => k_is); (case l => k_is); (case c => k_is); (case k => k_is)))
    (case d_answer_values => (refine' HC.hasDef ?a ?l ?c ?k; (case a => k_is); (case l => k_is); (case c => k_is); (case k => k_is)))
    (case d_answer_bounds => (refine' HC.hasDef ?a ?l ?c ?k; (case a => k_is); (case l => k_is); (case c => k_is); (case k => k_is)))
    (case d_answer => (refine' HC.hasDef ?a ?l ?c ?k; (case a => k_is); (case l => k_is); (case c => k_is); (case k => k_is)))
    (case d_answers => (refine' HC.hasDef ?a ?l ?c ?k; (case a => k_is); (case l => k_is); (case c => k_is); (case k => k_is)))
    (case m_init => (refine' HC.hasMeth ?a ?i ?l ?c ?k; (case a => k_is); (case i => k_is); (case l => k_is); (case c => k_is); (case k => k_is)))
    (case m_begin => (refine' HC.hasMeth ?a ?i ?l ?c ?k; (case a => k_is); (case i => k_is); (case l => k_is); (case c => k_is); (case k => k_is)))
    (case m_enter => (refine' HC.hasMeth ?a ?i ?l ?c ?k; (case a => k_is); (case i => k_is); (case l => k_is); (case c => k_is); (case k => k_is)))
    (case m_leave => (refine' HC.hasMeth ?a ?i ?l ?c ?k; (case a => k_is); (case i => k_is); (case l => k_is); (case c => k_is); (case k => k_is)))
    (case m_revalue => (refine' HC.hasMeth ?a ?i ?l ?c ?k; (case a => k_is); (case i => k_is); (case l => k_is); (case c => k_is); (case k => k_is)))
    (case i_NO_NETWORK => (refine' HC.hasInt ?a; (case a => k_is)))
    (case i_NO_USER => (refine' HC.hasInt ?a; (case a => k_is)))
    (case i_BAD_RANGE => (refine' HC.hasInt ?a; (case a => k_is)))
    (case i_FULL => (refine' HC.hasInt ?a; (case a => k_is)))
    (case i_MOST_GRADES => (refine' HC.hasInt ?a; (case a => k_is)))
    (case i_MOST_USERS => (refine' HC.hasInt ?a; (case a => k_is)))
    (case i_MOST_VALUE => (refine' HC.hasInt ?a; (case a => k_is)))
    (case i_MOST_CASCADES => (refine' HC.hasInt ?a; (case a => k_is)))
    (case i_MOST_PRICE => (refine' HC.hasInt ?a; (case a => k_is)))
    (case i_DUAL_BOUND => (refine' HC.hasInt ?a; (case a => k_is)))
    (case i_PROVES_OPTIMALITY => (refine' HC.hasInt ?a; (case a => k_is)))
    (case t_WORTHS => (refine' HC.hasTup ?a ?l ?s ?v; (case a => k_is); (case l => k_is); (case s => decide); (case v => exact .cons ⟨_, rfl⟩ (.cons ⟨_, rfl⟩ (.cons ⟨_, rfl⟩ (.cons ⟨_, rfl⟩ (.cons ⟨_, rfl⟩ (.cons ⟨_, rfl⟩ (.cons ⟨_, rfl⟩ (.cons ⟨_, rfl⟩ (.cons ⟨_, rfl⟩ .nil)))))))))))
    (case t_ARGUMENTS => (refine' HC.hasTup ?a ?l ?s ?v; (case a => k_is); (case l => k_is); (case s => decide); (case v => exact .cons ⟨_, rfl⟩ (.cons ⟨_, rfl⟩ (.cons ⟨_, rfl⟩ (.cons ⟨_, rfl⟩ (.cons ⟨_, rfl⟩ (.cons ⟨_, rfl⟩ (.cons ⟨_, rfl⟩ (.cons ⟨_, rfl⟩ (.cons ⟨_, rfl⟩ (.cons ⟨_, rfl⟩ (.cons ⟨_, rfl⟩ (.cons ⟨_, rfl⟩ (.cons ⟨_, rfl⟩ (.cons ⟨_, rfl⟩ (.cons ⟨_, rfl⟩ (.cons ⟨_, rfl⟩ (.cons ⟨_, rfl⟩ (.cons ⟨_, rfl⟩ (.cons ⟨_, rfl⟩ (.cons ⟨_, rfl⟩ .nil))))))))))))))))))))))
    (case z_len => k_is)
    (case z_range => k_is)
    (case z_max => k_is)
    (case z_sum => k_is)
    (case z_enumerate => k_is)
    (case pg => k_is)
    (case hd => k_is)
    (case po => k_is)
    (case sa => k_is)
    (case mk => k_is)
    (case kc => k_is)
    (case nG => k_is)
    (case nU => k_is)
  case S =>
    intro K H xs a hO hwi hask hx
    cases hx with
    | cons h1 h2 =>
      cases h2
      cases h1 with
      | lst hs ha =>
        have e := L2.ints_dw a.1 _ ha
        subst e
        have q : ((Codec.inLen 0 12600 a.1 && a.1.all (Codec.inInt 0 4294967295)) && true) = true := hwi
        rw [Bool.and_eq_true, Bool.and_eq_true] at q
        have hask : PyKqk3.answers_asked a.1 = true := hask
        have hall := List.all_eq_true.mp q.1.2
        obtain ⟨l, cs, e1, hcs, hlen, e2⟩ := HC.law (ns := a.1) (fun x hx => (Codec.inInt_iff.mp (hall x hx)).1) hask
        have hl : l.length ≤ 12600 := by
          have := (Codec.inNat_iff.mp q.1.1).2
          rw [e1] at this
          unfold HC.ci at this
          rw [List.length_map] at this
          exact this
        refine ⟨_, l, cs, rfl, ?_, hl, hcs, hlen, fun H' p hp => ?_⟩
        · rw [e1] at hs
          rw [HC.ni_ints]
          exact hs
        · show L2.Dw K H' (.ref p) (.list ((PyKqk3.answers a.1).map WData.int))
          rw [e2]
          exact .lst (L2.SqL.of hp) (L2.dw_ints _)


#print axioms PySem.Challenge.cw_heatcascades_s01_answers_holds
