import PyProof.Rows.All
import Wide.All
import OpenK.AllK
import Wide.FinOn
import Open.SpecLaws
import KE.OsGo
import HandS.ForSpec
import HandS.Comp
import HandS.Iter
import MateSpec
import PyWrpair
import PySem.Challenge.RW_pairedoff_s01_answers
set_option Elab.async false
set_option linter.all false
set_option maxRecDepth 100000
set_option maxHeartbeats 4000000
/-! The enumeration: the program's pruned growing of ways level by level gives the specification's list of all stable ways. -/
namespace PO
open Mate

/-! ### lists -/
theorem flatMap_assoc {A B C : Type} (f : A → List B) (g : B → List C) : ∀ l : List A, (l.flatMap f).flatMap g = l.flatMap fun x => (f x).flatMap g
  | [] => rfl
  | x :: r => by
    rw [List.flatMap_cons, List.flatMap_append, List.flatMap_cons, flatMap_assoc f g r]
theorem filter_flatMap' {A B : Type} (p : B → Bool) (f : A → List B) : ∀ l : List A, (l.flatMap f).filter p = l.flatMap fun x => (f x).filter p
  | [] => rfl
  | x :: r => by
    rw [List.flatMap_cons, List.filter_append, List.flatMap_cons, filter_flatMap' p f r]
theorem map_flatMap' {A B C : Type} (g : B → C) (f : A → List B) : ∀ l : List A, (l.flatMap f).map g = l.flatMap fun x => (f x).map g
  | [] => rfl
  | x :: r => by
    rw [List.flatMap_cons, List.map_append, List.flatMap_cons, map_flatMap' g f r]
theorem flatMap_map' {A B C : Type} (g : A → B) (f : B → List C) : ∀ l : List A, (l.map g).flatMap f = l.flatMap fun x => f (g x)
  | [] => rfl
  | x :: r => by
    rw [List.map_cons, List.flatMap_cons, List.flatMap_cons, flatMap_map' g f r]
theorem flatMap_congr' {A B : Type} {f g : A → List B} : ∀ {l : List A}, (∀ x ∈ l, f x = g x) → l.flatMap f = l.flatMap g
  | [], _ => rfl
  | x :: r, h => by
    rw [List.flatMap_cons, List.flatMap_cons, h x (List.mem_cons_self ..), flatMap_congr' fun y hy => h y (List.mem_cons_of_mem _ hy)]

/-! ### growing, by any step -/
def grow (f : Way → List Way) : Nat → Way → List Way
  | 0, w => [w]
  | n + 1, w => (f w).flatMap (grow f n)
theorem grow_end (f : Way → List Way) : ∀ (n : Nat) (w : Way), (grow f n w).flatMap f = grow f (n + 1) w
  | 0, w => by
    show ([w]).flatMap f = (f w).flatMap (grow f 0)
    rw [List.flatMap_cons, List.flatMap_nil, List.append_nil]
    have e : ∀ l : List Way, l.flatMap (grow f 0) = l := by
      intro l
      induction l with
      | nil => rfl
      | cons x r ih =>
        rw [List.flatMap_cons, ih]
        rfl
    rw [e]
  | n + 1, w => by
    show ((f w).flatMap (grow f n)).flatMap f = (f w).flatMap (grow f (n + 1))
    rw [flatMap_assoc]
    exact flatMap_congr' fun x _ => grow_end f n x
/-- what is cut off on the way leads to nothing -/
theorem grow_pruned (f : Way → List Way) (T P : Way → Bool) : ∀ (n : Nat) (w : Way), (∀ j i v, j + i = n → v ∈ grow f j w → T v = true → ∀ u ∈ grow f i v, P u = false) →
    (grow (fun w => (f w).filter fun v => !T v) n w).filter P = (grow f n w).filter P
  | 0, _, _ => rfl
  | n + 1, w, h => by
    show (((f w).filter fun v => !T v).flatMap _).filter P = ((f w).flatMap _).filter P
    rw [filter_flatMap', filter_flatMap']
    have hs : ∀ x ∈ f w, ∀ j v, v ∈ grow f j x → v ∈ grow f (j + 1) w := fun x hx j v hv => List.mem_flatMap.mpr ⟨x, hx, hv⟩
    have h1 : ∀ x ∈ f w, T x = true → ((grow f n x).filter P) = [] := fun x hx tx => by
      rw [List.filter_eq_nil_iff]
      intro u hu
      rw [h 1 n x (by omega) (hs x hx 0 x (List.mem_cons_self ..)) tx u hu]
      exact Bool.false_ne_true
    have h2 : ∀ x ∈ f w, (grow (fun w => (f w).filter fun v => !T v) n x).filter P = (grow f n x).filter P := fun x hx =>
      grow_pruned f T P n x fun j i v e hv => h (j + 1) i v (by omega) (hs x hx j v hv)
    generalize hl : f w = l at h1 h2
    clear hl h hs
    induction l with
    | nil => rfl
    | cons x r ih =>
      have ih' := ih (fun y hy => h1 y (List.mem_cons_of_mem _ hy)) (fun y hy => h2 y (List.mem_cons_of_mem _ hy))
      have hx := h2 x (List.mem_cons_self ..)
      cases t : T x with
      | true =>
        rw [List.filter_cons_of_neg (by rw [t]; exact Bool.false_ne_true), ih', List.flatMap_cons, h1 x (List.mem_cons_self ..) t, List.nil_append]
      | false =>
        rw [List.filter_cons_of_pos (by rw [t]; rfl), List.flatMap_cons, List.flatMap_cons, ih', hx]

/-! ### the steps of the specification and of the program -/
/-- the entries that one more of side 0 may have behind w, the lesser first -/
def nexts (k : Book) (w : Way) : List Nat := 0 :: (((List.range k.there.length).filter fun b => k.may w.length b && !w.contains (b + 1)).map fun b => b + 1)
def ext (k : Book) (w : Way) : List Way := (nexts k w).map fun p => w ++ [p]
def torn (k : Book) (w : Way) : Bool := (List.range (w.length - 1)).any fun i =>
  (decide (0 < w.of_ (w.length - 1)) && k.off w i (w.of_ (w.length - 1) - 1)) || (decide (0 < w.of_ i) && k.off w (w.length - 1) (w.of_ i - 1))
def longer (k : Book) (w : Way) : List Way := (ext k w).filter fun v => !torn k v
def further (k : Book) (l : List Way) : List Way := l.flatMap (longer k)
def begun (k : Book) : Nat → List Way
  | 0 => [[]]
  | i + 1 => further k (begun k i)
theorem begun_grow (k : Book) : ∀ n, begun k n = grow (longer k) n []
  | 0 => rfl
  | n + 1 => by
    show (begun k n).flatMap (longer k) = _
    rw [begun_grow k n, grow_end]

theorem waysFrom_grow (k : Book) : ∀ (n : Nat) (w : Way) (used : List Nat), (∀ b, used.contains b = w.contains (b + 1)) → (k.waysFrom n w.length used).map (fun v => w ++ v) = grow (ext k) n w
  | 0, w, _, _ => by
    show [w ++ []] = [w]
    rw [List.append_nil]
  | n + 1, w, used, h => by
    have hn : (0 :: (((List.range k.there.length).filter fun (b : Nat) => k.may w.length b && !used.contains b).map fun (b : Nat) => b + 1)) = nexts k w := by
      unfold nexts
      simp only [h]
    show (List.flatMap _ (0 :: (((List.range k.there.length).filter fun (b : Nat) => k.may w.length b && !used.contains b).map fun (b : Nat) => b + 1))).map _ = (ext k w).flatMap _
    rw [hn, map_flatMap']
    refine Eq.trans ?_ (flatMap_map' (fun p => w ++ [p]) (grow (ext k) n) (nexts k w)).symm
    refine flatMap_congr' fun p _ => ?_
    have ih := waysFrom_grow k n (w ++ [p]) (if p = 0 then used else (p - 1) :: used) ?_
    · rw [← ih, List.length_append, List.map_map]
      refine List.map_congr_left fun v _ => ?_
      show w ++ (p :: v) = w ++ [p] ++ v
      rw [List.append_assoc]
      rfl
    · intro b
      have e : (w ++ [p]).contains (b + 1) = (w.contains (b + 1) || (p == b + 1)) := by
        rw [Bool.eq_iff_iff]
        simp only [List.contains_iff_mem, List.mem_append, List.mem_singleton, Bool.or_eq_true, beq_iff_eq]
        constructor
        · rintro (h | h)
          · exact .inl h
          · exact .inr h.symm
        · rintro (h | h)
          · exact .inl h
          · exact .inr h.symm
      rw [e, ← h b]
      by_cases hp : p = 0
      · subst hp
        rw [if_pos rfl]
        have : ((0 : Nat) == b + 1) = false := by simp
        rw [this, Bool.or_false]
      · rw [if_neg hp]
        rw [Bool.eq_iff_iff]
        simp only [List.contains_iff_mem, List.mem_cons, Bool.or_eq_true, beq_iff_eq]
        constructor
        · rintro (h | h)
          · exact .inr (by omega)
          · exact .inl h
        · rintro (h | h)
          · exact .inr h
          · exact .inl (by omega)

/-! ### back -/
theorem back_zero {w : Way} {b : Nat} (h : w.back b = 0) : b + 1 ∉ w := by
  intro hm
  unfold Way.back at h
  cases e : w.findIdx? fun (p : Nat) => p == b + 1 with
  | none =>
    rw [List.findIdx?_eq_none_iff] at e
    have := e _ hm
    simp at this
  | some a =>
    rw [e] at h
    simp at h
theorem back_not {w : Way} {b : Nat} (h : b + 1 ∉ w) : w.back b = 0 := by
  unfold Way.back
  have e : w.findIdx? (fun (p : Nat) => p == b + 1) = none := by
    rw [List.findIdx?_eq_none_iff]
    intro x hx
    simp only [beq_eq_false_iff_ne]
    intro q
    exact h (q ▸ hx)
  rw [e]
/-- who has b stands first with it -/
theorem back_succ {w : Way} {b a : Nat} : w.back b = a + 1 ↔ w[a]? = some (b + 1) ∧ ∀ j, j < a → w[j]? ≠ some (b + 1) := by
  unfold Way.back
  cases e : w.findIdx? fun (p : Nat) => p == b + 1 with
  | none =>
    rw [List.findIdx?_eq_none_iff] at e
    constructor
    · intro h
      simp at h
    · rintro ⟨h, _⟩
      have := e _ (List.mem_of_getElem? h)
      simp at this
  | some i =>
    rw [List.findIdx?_eq_some_iff_getElem] at e
    obtain ⟨hi, h1, h2⟩ := e
    have h1' : w[i] = b + 1 := by simpa using h1
    constructor
    · intro h
      have hia : i = a := by simpa using h
      subst hia
      refine ⟨by rw [List.getElem?_eq_getElem hi, h1'], fun j hj q => ?_⟩
      obtain ⟨hjl, hq⟩ := List.getElem?_eq_some_iff.mp q
      have := h2 j hj
      rw [hq] at this
      simp at this
    · rintro ⟨ha, hl⟩
      obtain ⟨hal, ha'⟩ := List.getElem?_eq_some_iff.mp ha
      show i + 1 = a + 1
      rcases Nat.lt_trichotomy i a with q | q | q
      · exact absurd (by rw [List.getElem?_eq_getElem hi, h1']) (hl i q)
      · rw [q]
      · have := h2 a q
        rw [ha'] at this
        simp at this
theorem back_le {w : Way} {b : Nat} : w.back b ≤ w.length := by
  cases e : w.back b with
  | zero => omega
  | succ a =>
    obtain ⟨h, _⟩ := back_succ.mp e
    obtain ⟨hl, _⟩ := List.getElem?_eq_some_iff.mp h
    omega
theorem back_append {w v : Way} {b : Nat} (h : b + 1 ∈ w) : (w ++ v).back b = w.back b := by
  cases e : w.back b with
  | zero => exact absurd h (back_zero e)
  | succ a =>
    obtain ⟨h1, h2⟩ := back_succ.mp e
    obtain ⟨hl, _⟩ := List.getElem?_eq_some_iff.mp h1
    refine back_succ.mpr ⟨by rw [List.getElem?_append_left hl]; exact h1, fun j hj => ?_⟩
    rw [List.getElem?_append_left (by omega)]
    exact h2 j hj
theorem of_append {w v : Way} {a : Nat} (h : a < w.length) : Way.of_ (w ++ v) a = w.of_ a := by
  unfold Way.of_
  rw [List.getD_eq_getElem?_getD, List.getD_eq_getElem?_getD, List.getElem?_append_left h]
theorem of_some {w : Way} {a p : Nat} (h : w[a]? = some p) : w.of_ a = p := by
  unfold Way.of_
  rw [List.getD_eq_getElem?_getD, h]
  rfl
theorem some_of {w : Way} {a : Nat} (h : a < w.length) : w[a]? = some (w.of_ a) := by
  unfold Way.of_
  rw [List.getD_eq_getElem?_getD, List.getElem?_eq_getElem h]
  rfl
theorem of_out {w : Way} {a : Nat} (h : w.length ≤ a) : w.of_ a = 0 := by
  unfold Way.of_
  rw [List.getD_eq_getElem?_getD, List.getElem?_eq_none h]
  rfl

/-! ### what is off by a beginning is off by the whole -/
theorem off_append {k : Book} {w v : Way} {a b : Nat} (ha : a < w.length) (hb : b + 1 ∈ w) : k.off (w ++ v) a b = k.off w a b := by
  unfold Book.off
  rw [of_append ha, back_append hb]
theorem mem_offs {k : Book} {w : Way} {a b : Nat} (h : k.off w a b = true) (ha : a < k.here.length) (hb : b < k.there.length) : (a, b) ∈ k.offs w := by
  unfold Book.offs
  refine List.mem_flatMap.mpr ⟨a, List.mem_range.mpr ha, List.mem_map.mpr ⟨b, List.mem_filter.mpr ⟨List.mem_range.mpr hb, h⟩, rfl⟩⟩
theorem of_mem_offs {k : Book} {w : Way} {a b : Nat} (h : (a, b) ∈ k.offs w) : k.off w a b = true ∧ a < k.here.length ∧ b < k.there.length := by
  unfold Book.offs at h
  obtain ⟨a', h1, h2⟩ := List.mem_flatMap.mp h
  obtain ⟨b', h3, h4⟩ := List.mem_map.mp h2
  cases h4
  obtain ⟨h5, h6⟩ := List.mem_filter.mp h3
  exact ⟨h6, List.mem_range.mp h1, List.mem_range.mp h5⟩
theorem may_there {k : Book} {a b : Nat} (h : k.may a b = true) : b < k.there.length := by
  unfold Book.may at h
  rw [Bool.and_eq_true] at h
  apply Decidable.byContradiction
  intro q
  have e : k.list1 b = [] := by
    unfold Book.list1
    rw [List.getD_eq_getElem?_getD, List.getElem?_eq_none (by omega)]
    rfl
  rw [e] at h
  simp at h
theorem may_here {k : Book} {a b : Nat} (h : k.may a b = true) : a < k.here.length := by
  unfold Book.may at h
  rw [Bool.and_eq_true] at h
  apply Decidable.byContradiction
  intro q
  have e : k.list0 a = [] := by
    unfold Book.list0
    rw [List.getD_eq_getElem?_getD, List.getElem?_eq_none (by omega)]
    rfl
  rw [e] at h
  simp at h
theorem off_may {k : Book} {w : Way} {a b : Nat} (h : k.off w a b = true) : k.may a b = true := by
  unfold Book.off at h
  rw [Bool.and_eq_true] at h
  exact h.1
theorem torn_off {k : Book} {w v : Way} (h : torn k w = true) : ∃ a b, k.off (w ++ v) a b = true := by
  unfold torn at h
  obtain ⟨i, h1, h2⟩ := List.any_eq_true.mp h
  have hi : i < w.length - 1 := List.mem_range.mp h1
  rw [Bool.or_eq_true, Bool.and_eq_true, Bool.and_eq_true, decide_eq_true_eq, decide_eq_true_eq] at h2
  have hm : ∀ j, j < w.length → 0 < w.of_ j → w.of_ j - 1 + 1 ∈ w := fun j hj hp => by
    have e := some_of hj
    have e2 : w.of_ j - 1 + 1 = w.of_ j := by omega
    rw [e2]
    exact List.mem_of_getElem? e
  rcases h2 with ⟨hp, ho⟩ | ⟨hp, ho⟩
  · exact ⟨i, _, by rw [off_append (by omega) (hm _ (by omega) hp)]; exact ho⟩
  · exact ⟨w.length - 1, _, by rw [off_append (by omega) (hm _ (by omega) hp)]; exact ho⟩

/-! ### what has grown -/
theorem grow_pre {k : Book} : ∀ {n : Nat} {w u : Way}, u ∈ grow (ext k) n w → ∃ v, u = w ++ v ∧ v.length = n
  | 0, w, u, h => ⟨[], by rw [List.append_nil]; exact List.mem_singleton.mp h, rfl⟩
  | n + 1, w, u, h => by
    obtain ⟨x, hx, hu⟩ := List.mem_flatMap.mp h
    obtain ⟨p, _, rfl⟩ := List.mem_map.mp hx
    obtain ⟨v, rfl, hv⟩ := grow_pre hu
    exact ⟨p :: v, by rw [List.append_assoc]; rfl, by rw [List.length_cons, hv]⟩
/-- nobody twice, all as both would: of the beginning of a way -/
def FitsPre (k : Book) (w : Way) : Prop := ∀ a b, w[a]? = some (b + 1) → k.may a b = true ∧ ∀ j, j < a → w[j]? ≠ some (b + 1)
theorem fits_ext {k : Book} {w : Way} (h : FitsPre k w) {u : Way} (hu : u ∈ ext k w) : FitsPre k u := by
  obtain ⟨p, hp, rfl⟩ := List.mem_map.mp hu
  intro a b e
  by_cases ha : a < w.length
  · rw [List.getElem?_append_left ha] at e
    refine ⟨(h a b e).1, fun j hj => ?_⟩
    rw [List.getElem?_append_left (by omega)]
    exact (h a b e).2 j hj
  · have hl : a < (w ++ [p]).length := (List.getElem?_eq_some_iff.mp e).1
    rw [List.length_append, List.length_singleton] at hl
    have ea : a = w.length := by omega
    subst ea
    rw [List.getElem?_append_right (Nat.le_refl _), Nat.sub_self] at e
    have ep : p = b + 1 := Option.some.inj e
    subst ep
    unfold nexts at hp
    rcases List.mem_cons.mp hp with q | q
    · omega
    · obtain ⟨b', hb, e'⟩ := List.mem_map.mp q
      have eb : b' = b := by omega
      subst eb
      obtain ⟨_, h2⟩ := List.mem_filter.mp hb
      rw [Bool.and_eq_true] at h2
      refine ⟨h2.1, fun j hj q => ?_⟩
      rw [List.getElem?_append_left hj] at q
      have hm := List.mem_of_getElem? q
      have hc : w.contains (b' + 1) = true := List.contains_iff_mem.mpr hm
      rw [hc] at h2
      simp at h2
theorem grow_fits {k : Book} : ∀ {n : Nat} {w u : Way}, FitsPre k w → u ∈ grow (ext k) n w → FitsPre k u
  | 0, w, u, h, hu => by
    rw [List.mem_singleton.mp hu]
    exact h
  | n + 1, w, u, h, hu => by
    obtain ⟨x, hx, hu⟩ := List.mem_flatMap.mp hu
    exact grow_fits (fits_ext h hx) hu
theorem fits_nil (k : Book) : FitsPre k [] := fun a b e => by simp at e
theorem fits_iff {k : Book} {w : Way} : k.fits w = true ↔ w.length = k.here.length ∧ FitsPre k w := by
  unfold Book.fits
  rw [Bool.and_eq_true, beq_iff_eq, List.all_eq_true]
  constructor
  · rintro ⟨h1, h2⟩
    refine ⟨h1, fun a b e => ?_⟩
    have hl := (List.getElem?_eq_some_iff.mp e).1
    have q := h2 a (List.mem_range.mpr hl)
    rw [of_some e] at q
    simp only [Bool.and_eq_true, beq_iff_eq] at q
    exact ⟨q.1, (back_succ.mp q.2).2⟩
  · rintro ⟨h1, h2⟩
    refine ⟨h1, fun a ha => ?_⟩
    have hl := List.mem_range.mp ha
    have e := some_of hl
    cases q : w.of_ a with
    | zero => rfl
    | succ b =>
      rw [q] at e
      obtain ⟨h3, h4⟩ := h2 a b e
      simp only [Bool.and_eq_true, beq_iff_eq]
      exact ⟨h3, back_succ.mpr ⟨e, h4⟩⟩
/-- a way that fits is among all that grow -/
theorem fits_grow {k : Book} : ∀ {n : Nat} {w u : Way}, FitsPre k (w ++ u) → u.length = n → w ++ u ∈ grow (ext k) n w
  | 0, w, u, _, hl => by
    rw [List.length_eq_zero_iff.mp hl, List.append_nil]
    exact List.mem_singleton.mpr rfl
  | n + 1, w, [], h, hl => by simp at hl
  | n + 1, w, p :: u, h, hl => by
    refine List.mem_flatMap.mpr ⟨w ++ [p], List.mem_map.mpr ⟨p, ?_, rfl⟩, ?_⟩
    · unfold nexts
      cases p with
      | zero => exact List.mem_cons_self ..
      | succ b =>
        have e : (w ++ (b + 1) :: u)[w.length]? = some (b + 1) := by
          rw [List.getElem?_append_right (Nat.le_refl _), Nat.sub_self]
          rfl
        obtain ⟨h1, h2⟩ := h _ _ e
        refine List.mem_cons_of_mem _ (List.mem_map.mpr ⟨b, List.mem_filter.mpr ⟨List.mem_range.mpr (may_there h1), ?_⟩, rfl⟩)
        rw [h1, Bool.true_and]
        have hc : w.contains (b + 1) = false := by
          rw [Bool.eq_false_iff]
          intro q
          obtain ⟨j, hj⟩ := List.getElem?_of_mem (List.contains_iff_mem.mp q)
          have hjl := (List.getElem?_eq_some_iff.mp hj).1
          exact h2 j hjl (by rw [List.getElem?_append_left hjl]; exact hj)
        rw [hc]
        rfl
    · have e : w ++ p :: u = (w ++ [p]) ++ u := by
        rw [List.append_assoc]
        rfl
      rw [e]
      rw [e] at h
      exact fits_grow h (by rw [List.length_cons] at hl; omega)

/-! ### all stable ways -/
def ways (k : Book) : List Way := (begun k k.here.length).filter fun w => decide ((k.offs w).length = 0)
theorem waysFrom_nil (k : Book) : k.waysFrom k.here.length 0 [] = grow (ext k) k.here.length [] := by
  have h := waysFrom_grow k k.here.length [] [] (fun b => rfl)
  have e : (fun v : Way => ([] : Way) ++ v) = id := rfl
  rw [e, List.map_id] at h
  exact h
theorem ways_all (k : Book) : ways k = k.all := by
  unfold ways Book.all
  rw [begun_grow, waysFrom_nil]
  show (grow (fun w => (ext k w).filter fun v => !torn k v) _ _).filter _ = _
  rw [grow_pruned (ext k) (torn k)]
  · refine List.filter_congr fun w hw => ?_
    have hf : k.fits w = true := by
      refine fits_iff.mpr ⟨?_, grow_fits (fits_nil k) hw⟩
      obtain ⟨v, rfl, hv⟩ := grow_pre hw
      exact hv
    unfold Book.stable
    rw [hf, Bool.true_and, Bool.eq_iff_iff, decide_eq_true_eq, List.isEmpty_iff, List.length_eq_zero_iff]
  · intro j i v e hv ht u hu
    obtain ⟨x, rfl, _⟩ := grow_pre hu
    obtain ⟨a, b, ho⟩ := torn_off (v := x) ht
    have hm := off_may ho
    have := mem_offs ho (may_here hm) (may_there hm)
    rw [decide_eq_false_iff_not, List.length_eq_zero_iff]
    intro q
    rw [q] at this
    cases this
theorem mem_all {k : Book} {w : Way} : w ∈ k.all ↔ k.fits w = true ∧ k.offs w = [] := by
  unfold Book.all
  rw [waysFrom_nil, List.mem_filter]
  unfold Book.stable
  rw [Bool.and_eq_true, List.isEmpty_iff]
  constructor
  · exact fun h => h.2
  · intro h
    refine ⟨?_, h⟩
    obtain ⟨h1, h2⟩ := fits_iff.mp h.1
    have := fits_grow (w := []) (u := w) h2 h1
    exact this
theorem all_len {k : Book} {w : Way} (h : w ∈ k.all) : w.length = k.here.length := (fits_iff.mp (mem_all.mp h).1).1
theorem all_le {k : Book} {w : Way} (h : FitsPre k w) {a p : Nat} (e : w[a]? = some p) : p ≤ k.there.length := by
  cases p with
  | zero => omega
  | succ b => exact may_there (h a b e).1

/-! ### how many -/
theorem ext_len (k : Book) (w : Way) : (ext k w).length ≤ k.there.length + 1 := by
  unfold ext nexts
  rw [List.length_map, List.length_cons, List.length_map]
  have := List.length_filter_le (fun b => k.may w.length b && !w.contains (b + 1)) (List.range k.there.length)
  rw [List.length_range] at this
  omega
theorem flatMap_len {A B : Type} {f : A → List B} {c : Nat} (h : ∀ x, (f x).length ≤ c) : ∀ l : List A, (l.flatMap f).length ≤ l.length * c
  | [] => by simp
  | x :: r => by
    rw [List.flatMap_cons, List.length_append, List.length_cons, Nat.succ_mul]
    have := h x
    have := flatMap_len h r
    omega
theorem begun_len (k : Book) : ∀ i, (begun k i).length ≤ (k.there.length + 1) ^ i
  | 0 => Nat.le_refl 1
  | i + 1 => by
    show ((begun k i).flatMap (longer k)).length ≤ _
    have h1 := flatMap_len (f := longer k) (c := k.there.length + 1) (fun w => Nat.le_trans (List.length_filter_le _ _) (ext_len k w)) (begun k i)
    have h2 := Nat.mul_le_mul_right (k.there.length + 1) (begun_len k i)
    rw [Nat.pow_succ]
    omega
theorem grow_sub {k : Book} : ∀ {n : Nat} {w u : Way}, u ∈ grow (longer k) n w → u ∈ grow (ext k) n w
  | 0, _, _, h => h
  | n + 1, w, u, h => by
    obtain ⟨x, hx, hu⟩ := List.mem_flatMap.mp h
    exact List.mem_flatMap.mpr ⟨x, (List.mem_filter.mp hx).1, grow_sub hu⟩
theorem mem_begun {k : Book} {i : Nat} {w : Way} (h : w ∈ begun k i) : w.length = i ∧ FitsPre k w := by
  rw [begun_grow] at h
  have h := grow_sub h
  refine ⟨?_, grow_fits (fits_nil k) h⟩
  obtain ⟨v, rfl, hv⟩ := grow_pre h
  exact hv
end PO

/-! The askings: they end, nobody gains by going off, so there is a stable way. -/
namespace PO
open Mate

/-! ### rank -/
theorem rank_le (l : List Nat) (p : Nat) : rank l p ≤ l.length := by
  cases p with
  | zero => exact Nat.le_refl _
  | succ x => exact List.idxOf_le_length
theorem rank_lt {l : List Nat} {x : Nat} : rank l (x + 1) < l.length ↔ l.contains x = true := by
  show l.idxOf x < l.length ↔ _
  rw [List.contains_iff_mem]
  exact List.idxOf_lt_length_iff
theorem rank_get {l : List Nat} {x : Nat} (h : rank l (x + 1) < l.length) : l[rank l (x + 1)]? = some x := by
  have h' : l.idxOf x < l.length := h
  show l[l.idxOf x]? = some x
  rw [List.getElem?_eq_getElem h', List.getElem_idxOf h']
theorem rank_at {l : List Nat} {x i : Nat} (h : l[i]? = some x) : rank l (x + 1) ≤ i := by
  show l.idxOf x ≤ i
  apply Decidable.byContradiction
  intro q
  have hi := (List.getElem?_eq_some_iff.mp h)
  obtain ⟨h1, h2⟩ := hi
  have := List.not_of_lt_findIdx (p := (· == x)) (xs := l) (i := i) (by unfold List.idxOf at q; omega)
  rw [h2] at this
  simp at this
/-- to cost less than something is to be on the list -/
theorem rank_lt_on {l : List Nat} {x n : Nat} (h : rank l (x + 1) < rank l n) : l.contains x = true := rank_lt.mp (Nat.lt_of_lt_of_le h (rank_le l n))
/-- who costs the same, and less than nobody, is the same -/
theorem rank_inj {l : List Nat} {x y : Nat} (h : rank l (x + 1) = rank l (y + 1)) (hx : l.contains x = true) : x = y := by
  have h1 := rank_lt.mpr hx
  have e1 := rank_get h1
  have h2 : rank l (y + 1) < l.length := h ▸ h1
  have e2 := rank_get h2
  rw [← h, e1] at e2
  exact Option.some.inj e2
/-- off, without may -/
theorem off_eq (k : Book) (w : Way) (a b : Nat) : k.off w a b = (decide (rank (k.list0 a) (b + 1) < rank (k.list0 a) (w.of_ a)) && decide (rank (k.list1 b) (a + 1) < rank (k.list1 b) (w.back b))) := by
  unfold Book.off
  rw [Bool.eq_iff_iff, Bool.and_eq_true, Bool.and_eq_true, decide_eq_true_eq, decide_eq_true_eq]
  constructor
  · exact fun h => h.2
  · intro h
    refine ⟨?_, h⟩
    unfold Book.may
    rw [Bool.and_eq_true]
    exact ⟨rank_lt_on h.1, rank_lt_on h.2⟩
theorem may_eq (k : Book) (a b : Nat) : k.may a b = (decide (rank (k.list0 a) (b + 1) < rank (k.list0 a) 0) && decide (rank (k.list1 b) (a + 1) < rank (k.list1 b) 0)) := by
  unfold Book.may
  rw [Bool.eq_iff_iff, Bool.and_eq_true, Bool.and_eq_true, decide_eq_true_eq, decide_eq_true_eq]
  exact and_congr rank_lt.symm rank_lt.symm

/-! ### what holds of a state of askings -/
def One (w : Way) : Prop := ∀ (a a' b : Nat), w[a]? = some (b + 1) → w[a']? = some (b + 1) → a = a'
structure AInv (k : Book) (s : Asking) : Prop where
  la : s.asked.length = k.here.length
  lw : s.way.length = k.here.length
  le : ∀ a, s.asked.getD a 0 ≤ (k.list0 a).length
  /-- who goes with one asked them last -/
  last : ∀ (a b : Nat), s.way[a]? = some (b + 1) → 0 < s.asked.getD a 0 ∧ (k.list0 a)[s.asked.getD a 0 - 1]? = some b ∧ (k.list1 b).contains a = true
  one : One s.way
  /-- who was asked, and has them on the list, goes with nobody worse -/
  held : ∀ (a b i : Nat), i < s.asked.getD a 0 → (k.list0 a)[i]? = some b → (k.list1 b).contains a = true → rank (k.list1 b) (s.way.back b) ≤ rank (k.list1 b) (a + 1)

theorem getD_map_zero {A : Type} (l : List A) (a : Nat) : (l.map fun _ => (0 : Nat)).getD a 0 = 0 := by
  rw [List.getD_eq_getElem?_getD, List.getElem?_map]
  cases l[a]? <;> rfl
theorem get_map_zero {A : Type} (l : List A) (a b : Nat) : (l.map fun _ => (0 : Nat))[a]? ≠ some (b + 1) := by
  rw [List.getElem?_map]
  cases l[a]? with
  | none => exact fun h => by cases h
  | some x => exact fun h => by cases h
theorem inv_begun (k : Book) : AInv k k.begun where
  la := List.length_map ..
  lw := List.length_map ..
  le := fun a => by
    show (k.here.map fun _ => (0 : Nat)).getD a 0 ≤ _
    rw [getD_map_zero]
    omega
  last := fun a b h => absurd h (get_map_zero _ a b)
  one := fun a _ b h _ => absurd h (get_map_zero _ a b)
  held := fun a b i h => by
    have h' : i < (k.here.map fun _ => (0 : Nat)).getD a 0 := h
    rw [getD_map_zero] at h'
    omega

/-- where everybody goes with another, back tells just who -/
theorem back_one {w : Way} {a b : Nat} (h1 : One w) (h : w[a]? = some (b + 1)) : w.back b = a + 1 :=
  back_succ.mpr ⟨h, fun j hj q => by
    have := h1 j a b q h
    omega⟩

theorem ask_spec {k : Book} {s t : Asking} {a : Nat} (h : k.ask s a = some t) : s.way.of_ a = 0 ∧ ∃ b, (k.list0 a)[s.asked.getD a 0]? = some b ∧ t.asked = s.asked.set a (s.asked.getD a 0 + 1) ∧
    ((rank (k.list1 b) (a + 1) < rank (k.list1 b) (s.way.back b) ∧ t.way = (s.way.map fun p => if p = b + 1 then 0 else p).set a (b + 1)) ∨
     (¬ rank (k.list1 b) (a + 1) < rank (k.list1 b) (s.way.back b) ∧ t.way = s.way)) := by
  unfold Book.ask at h
  by_cases h0 : s.way.of_ a ≠ 0
  · rw [if_pos h0] at h
    cases h
  · rw [if_neg h0] at h
    have h0' : s.way.of_ a = 0 := by omega
    refine ⟨h0', ?_⟩
    cases e : (k.list0 a)[s.asked.getD a 0]? with
    | none =>
      rw [e] at h
      cases h
    | some b =>
      rw [e] at h
      refine ⟨b, rfl, ?_⟩
      dsimp only at h
      by_cases hc : ((k.list1 b).contains a && decide (rank (k.list1 b) (a + 1) < rank (k.list1 b) (s.way.back b))) = true
      · rw [if_pos hc] at h
        cases h
        rw [Bool.and_eq_true, decide_eq_true_eq] at hc
        exact ⟨rfl, .inl ⟨hc.2, rfl⟩⟩
      · rw [if_neg hc] at h
        cases h
        refine ⟨rfl, .inr ⟨fun q => hc ?_, rfl⟩⟩
        rw [Bool.and_eq_true, decide_eq_true_eq]
        exact ⟨rank_lt_on q, q⟩

theorem getD_set {l : List Nat} {a c v : Nat} (h : a < l.length) : (l.set a v).getD c 0 = if c = a then v else l.getD c 0 := by
  rw [List.getD_eq_getElem?_getD, List.getD_eq_getElem?_getD, List.getElem?_set]
  by_cases e : a = c
  · subst e
    rw [if_pos rfl, if_pos rfl, if_pos h]
    rfl
  · rw [if_neg e, if_neg fun q => e q.symm]
theorem get_map_off {w : Way} {b c x : Nat} : (w.map fun p => if p = b + 1 then 0 else p)[c]? = some (x + 1) ↔ w[c]? = some (x + 1) ∧ x ≠ b := by
  rw [List.getElem?_map]
  cases e : w[c]? with
  | none => exact ⟨fun h => (by cases h), fun h => (by cases h.1)⟩
  | some p =>
    show some (if p = b + 1 then 0 else p) = some (x + 1) ↔ _
    by_cases q : p = b + 1
    · rw [if_pos q]
      subst q
      constructor
      · intro h
        cases h
      · rintro ⟨h, h2⟩
        have := Option.some.inj h
        omega
    · rw [if_neg q]
      constructor
      · intro h
        have hp := Option.some.inj h
        exact ⟨h, by omega⟩
      · exact fun h => h.1
/-- the new way where b takes a -/
theorem get_taken {w : Way} {a b c x : Nat} (ha : a < w.length) : ((w.map fun p => if p = b + 1 then 0 else p).set a (b + 1))[c]? = some (x + 1) ↔ (c = a ∧ x = b) ∨ (c ≠ a ∧ w[c]? = some (x + 1) ∧ x ≠ b) := by
  rw [List.getElem?_set]
  by_cases e : a = c
  · subst e
    rw [if_pos rfl, if_pos (by rw [List.length_map]; exact ha)]
    constructor
    · intro h
      have := Option.some.inj h
      exact .inl ⟨rfl, by omega⟩
    · rintro (⟨_, rfl⟩ | ⟨h, _⟩)
      · rfl
      · exact absurd rfl h
  · rw [if_neg e, get_map_off]
    constructor
    · rintro ⟨h1, h2⟩
      exact .inr ⟨fun q => e q.symm, h1, h2⟩
    · rintro (⟨h, _⟩ | ⟨_, h1, h2⟩)
      · exact absurd h.symm e
      · exact ⟨h1, h2⟩
theorem list0_here {k : Book} {a i b : Nat} (h : (k.list0 a)[i]? = some b) : a < k.here.length := by
  apply Decidable.byContradiction
  intro q
  have e : k.list0 a = [] := by
    unfold Book.list0
    rw [List.getD_eq_getElem?_getD, List.getElem?_eq_none (by omega)]
    rfl
  rw [e] at h
  simp at h
theorem back_taken {w : Way} {a b x : Nat} (ha : a < w.length) (h1 : One w) (h0 : w.of_ a = 0) :
    Way.back ((w.map fun p => if p = b + 1 then 0 else p).set a (b + 1)) x = if x = b then a + 1 else w.back x := by
  have one : One ((w.map fun p => if p = b + 1 then 0 else p).set a (b + 1)) := by
    intro c c' y e e'
    rw [get_taken ha] at e e'
    rcases e with ⟨e1, e2⟩ | ⟨e1, e2, e3⟩
    · rcases e' with ⟨q1, q2⟩ | ⟨q1, q2, q3⟩
      · rw [e1, q1]
      · exact absurd e2 q3
    · rcases e' with ⟨q1, q2⟩ | ⟨q1, q2, q3⟩
      · exact absurd q2 e3
      · exact h1 _ _ _ e2 q2
  by_cases hx : x = b
  · subst hx
    rw [if_pos rfl]
    exact back_one one ((get_taken ha).mpr (.inl ⟨rfl, rfl⟩))
  · rw [if_neg hx]
    cases e : w.back x with
    | zero =>
      refine back_not fun hm => ?_
      obtain ⟨c, hc⟩ := List.getElem?_of_mem hm
      rcases (get_taken ha).mp hc with ⟨_, q⟩ | ⟨_, q, _⟩
      · exact hx q
      · exact back_zero e (List.mem_of_getElem? q)
    | succ c =>
      have hc := (back_succ.mp e).1
      refine back_one one ((get_taken ha).mpr (.inr ⟨?_, hc, hx⟩))
      intro q
      subst q
      rw [of_some hc] at h0
      omega

theorem ask_inv {k : Book} {s t : Asking} {a : Nat} (I : AInv k s) (h : k.ask s a = some t) : AInv k t := by
  obtain ⟨h0, b, hb, ha, hw⟩ := ask_spec h
  have hlt : a < k.here.length := list0_here hb
  have hal : a < s.asked.length := by rw [I.la]; exact hlt
  have hwl : a < s.way.length := by rw [I.lw]; exact hlt
  have hbl : s.asked.getD a 0 < (k.list0 a).length := (List.getElem?_eq_some_iff.mp hb).1
  have asked : ∀ c, t.asked.getD c 0 = if c = a then s.asked.getD a 0 + 1 else s.asked.getD c 0 := fun c => by rw [ha, getD_set hal]
  have na : ∀ x, s.way[a]? ≠ some (x + 1) := fun x q => by
    rw [of_some q] at h0
    omega
  have hle : ∀ c, t.asked.getD c 0 ≤ (k.list0 c).length := fun c => by
    rw [asked]
    by_cases q : c = a
    · subst q
      rw [if_pos rfl]
      omega
    · rw [if_neg q]
      exact I.le c
  rcases hw with ⟨hr, hw⟩ | ⟨hr, hw⟩
  · have hon : (k.list1 b).contains a = true := rank_lt_on hr
    refine ⟨by rw [ha, List.length_set]; exact I.la, by rw [hw, List.length_set, List.length_map]; exact I.lw, hle, fun c x e => ?_, fun c c' x e e' => ?_, fun c x i hi hx hc => ?_⟩
    · rw [hw, get_taken hwl] at e
      rw [asked]
      rcases e with ⟨rfl, rfl⟩ | ⟨e1, e2, _⟩
      · rw [if_pos rfl]
        exact ⟨by omega, by rw [Nat.add_sub_cancel]; exact hb, hon⟩
      · rw [if_neg e1]
        exact I.last c x e2
    · rw [hw, get_taken hwl] at e e'
      rcases e with ⟨e1, e2⟩ | ⟨e1, e2, e3⟩
      · rcases e' with ⟨q1, q2⟩ | ⟨q1, q2, q3⟩
        · rw [e1, q1]
        · exact absurd e2 q3
      · rcases e' with ⟨q1, q2⟩ | ⟨q1, q2, q3⟩
        · exact absurd q2 e3
        · exact I.one _ _ _ e2 q2
    · rw [hw, back_taken hwl I.one h0]
      rw [asked] at hi
      have old : i < s.asked.getD c 0 → rank (k.list1 x) (if x = b then a + 1 else s.way.back x) ≤ rank (k.list1 x) (c + 1) := fun q => by
        have := I.held c x i q hx hc
        by_cases e : x = b
        · subst e
          rw [if_pos rfl]
          omega
        · rw [if_neg e]
          exact this
      by_cases q : c = a
      · subst q
        rw [if_pos rfl] at hi
        by_cases qi : i < s.asked.getD c 0
        · exact old qi
        · have ei : i = s.asked.getD c 0 := by omega
          subst ei
          rw [hb] at hx
          cases hx
          rw [if_pos rfl]
          exact Nat.le_refl _
      · rw [if_neg q] at hi
        exact old hi
  · refine ⟨by rw [ha, List.length_set]; exact I.la, by rw [hw]; exact I.lw, hle, fun c x e => ?_, fun c c' x e e' => ?_, fun c x i hi hx hc => ?_⟩
    · rw [hw] at e
      have q : c ≠ a := fun q => by
        subst q
        exact na x e
      rw [asked, if_neg q]
      exact I.last c x e
    · rw [hw] at e e'
      exact I.one _ _ _ e e'
    · rw [hw]
      rw [asked] at hi
      by_cases q : c = a
      · subst q
        rw [if_pos rfl] at hi
        by_cases qi : i < s.asked.getD c 0
        · exact I.held c x i qi hx hc
        · have ei : i = s.asked.getD c 0 := by omega
          subst ei
          rw [hb] at hx
          cases hx
          omega
      · rw [if_neg q] at hi
        exact I.held c x i hi hx hc

/-! ### how many have been asked -/
theorem sum_set_nat : ∀ {l : List Nat} {a : Nat} {v : Nat}, a < l.length → (l.set a v).sum + l.getD a 0 = l.sum + v
  | [], a, v, h => by simp at h
  | x :: r, 0, v, _ => by
    show (v :: r).sum + x = (x :: r).sum + v
    rw [List.sum_cons, List.sum_cons]
    omega
  | x :: r, a + 1, v, h => by
    have ih := sum_set_nat (l := r) (a := a) (v := v) (by rw [List.length_cons] at h; omega)
    show (x :: r.set a v).sum + r.getD a 0 = (x :: r).sum + v
    rw [List.sum_cons, List.sum_cons]
    omega
theorem ask_sum {k : Book} {s t : Asking} {a : Nat} (I : AInv k s) (h : k.ask s a = some t) : t.asked.sum = s.asked.sum + 1 := by
  obtain ⟨_, b, hb, ha, _⟩ := ask_spec h
  have hlt : a < s.asked.length := by rw [I.la]; exact list0_here hb
  have := sum_set_nat (v := s.asked.getD a 0 + 1) hlt
  rw [ha]
  omega
theorem sum_le_of : ∀ {l : List Nat} {r : List (List Nat)}, l.length = r.length → (∀ a, l.getD a 0 ≤ (r.getD a []).length) → l.sum ≤ (r.map fun x => x.length).sum
  | [], [], _, _ => Nat.le_refl _
  | [], _ :: _, h, _ => by simp at h
  | _ :: _, [], h, _ => by simp at h
  | x :: l, y :: r, h, q => by
    have ih := sum_le_of (l := l) (r := r) (by simpa using h) fun a => q (a + 1)
    have h0 : x ≤ y.length := q 0
    rw [List.sum_cons, List.map_cons, List.sum_cons]
    omega
theorem inv_sum {k : Book} {s : Asking} (I : AInv k s) : s.asked.sum ≤ (k.here.map fun l => l.length).sum := sum_le_of I.la I.le
theorem foldr_sum (c : Nat) : ∀ l : List Nat, l.foldr (fun x y => x + y) c = l.sum + c
  | [] => by simp
  | x :: r => by
    rw [List.foldr_cons, foldr_sum c r, List.sum_cons]
    omega
theorem most_eq (k : Book) : k.most = (k.here.map fun l => l.length).sum + 1 := foldr_sum 1 _

/-! ### the end of the askings -/
def ends (k : Book) (s : Asking) : Prop := (List.range k.here.length).findSome? (k.ask s) = none
theorem asking_ok {k : Book} : ∀ (f : Nat) (s : Asking), AInv k s → (k.here.map fun l => l.length).sum < f + s.asked.sum →
    AInv k (k.asking f s).2 ∧ ends k (k.asking f s).2 ∧ (k.asking f s).2.asked.sum = s.asked.sum + (k.asking f s).1
  | 0, s, I, h => by
    have := inv_sum I
    omega
  | f + 1, s, I, h => by
    unfold Book.asking
    cases e : (List.range k.here.length).findSome? (k.ask s) with
    | none => exact ⟨I, e, rfl⟩
    | some t =>
      obtain ⟨a, _, ht⟩ := List.exists_of_findSome?_eq_some e
      have hs := ask_sum I ht
      obtain ⟨h1, h2, h3⟩ := asking_ok f t (ask_inv I ht) (by omega)
      exact ⟨h1, h2, by
        show (k.asking f t).2.asked.sum = s.asked.sum + ((k.asking f t).1 + 1)
        omega⟩
/-- one asking more -/
theorem asking_step {k : Book} {f : Nat} {s t : Asking} (e : (List.range k.here.length).findSome? (k.ask s) = some t) : k.asking (f + 1) s = ((k.asking f t).1 + 1, (k.asking f t).2) := by
  conv => lhs; unfold Book.asking
  rw [e]
theorem asking_end {k : Book} {f : Nat} {s : Asking} (e : ends k s) : k.asking f s = (0, s) := by
  cases f with
  | zero => rfl
  | succ f =>
    unfold Book.asking
    rw [show (List.range k.here.length).findSome? (k.ask s) = none from e]
theorem asks_ok (k : Book) : AInv k (k.asking k.most k.begun).2 ∧ ends k (k.asking k.most k.begun).2 ∧ (k.asking k.most k.begun).2.asked.sum = (k.asking k.most k.begun).1 := by
  have h0 : k.begun.asked.sum = 0 := by
    show (k.here.map fun _ => (0 : Nat)).sum = 0
    induction k.here with
    | nil => rfl
    | cons x r ih =>
      rw [List.map_cons, List.sum_cons, ih]
  obtain ⟨h1, h2, h3⟩ := asking_ok k.most k.begun (inv_begun k) (by rw [most_eq]; omega)
  exact ⟨h1, h2, by omega⟩

/-! ### it ends with a stable way -/
theorem ends_stable {k : Book} {s : Asking} (I : AInv k s) (e : ends k s) : s.way ∈ k.all := by
  have done : ∀ a, a < k.here.length → s.way.of_ a = 0 → s.asked.getD a 0 = (k.list0 a).length := by
    intro a ha h0
    have q : k.ask s a = none := by
      have := List.findSome?_eq_none_iff.mp e a (List.mem_range.mpr ha)
      exact this
    unfold Book.ask at q
    rw [if_neg (by omega)] at q
    cases hb : (k.list0 a)[s.asked.getD a 0]? with
    | none =>
      have h1 := List.getElem?_eq_none_iff.mp hb
      have h2 := I.le a
      omega
    | some b =>
      rw [hb] at q
      dsimp only at q
      split at q <;> cases q
  refine mem_all.mpr ⟨fits_iff.mpr ⟨I.lw, fun a b h => ?_⟩, ?_⟩
  · obtain ⟨h1, h2, h3⟩ := I.last a b h
    refine ⟨?_, fun j hj q => ?_⟩
    · unfold Book.may
      rw [h3, Bool.and_true]
      exact List.contains_iff_mem.mpr (List.mem_of_getElem? h2)
    · have := I.one _ _ _ h q
      omega
  · rw [List.eq_nil_iff_forall_not_mem]
    rintro ⟨a, b⟩ hm
    obtain ⟨ho, ha, hb⟩ := of_mem_offs hm
    rw [off_eq, Bool.and_eq_true, decide_eq_true_eq, decide_eq_true_eq] at ho
    obtain ⟨h1, h2⟩ := ho
    have hl : rank (k.list0 a) (b + 1) < (k.list0 a).length := Nat.lt_of_lt_of_le h1 (rank_le _ _)
    have hon : (k.list1 b).contains a = true := rank_lt_on h2
    have hi : rank (k.list0 a) (b + 1) < s.asked.getD a 0 := by
      cases q : s.way.of_ a with
      | zero =>
        rw [done a ha q]
        exact hl
      | succ x =>
        have hx : s.way[a]? = some (x + 1) := by rw [some_of (by rw [I.lw]; exact ha), q]
        obtain ⟨h3, h4, _⟩ := I.last a x hx
        have := rank_at h4
        rw [q] at h1
        omega
    have := I.held a b _ hi (rank_get hl) hon
    omega
theorem all_ne (k : Book) : k.all ≠ [] := fun h => by
  obtain ⟨h1, h2, _⟩ := asks_ok k
  have := ends_stable h1 h2
  rw [h] at this
  cases this
end PO

/-! The first of least cost; two ways picked from; pairs. -/
namespace PO
open Mate

/-- the place of the first of the least of the first i numbers -/
def leastTo (l : List Nat) (i : Nat) : Nat := (List.range i).foldl (fun at_ k => if l.getD k 0 < l.getD at_ 0 then k else at_) 0
def firstLeast (l : List Nat) : Nat := leastTo l l.length
theorem leastTo_succ (l : List Nat) (i : Nat) : leastTo l (i + 1) = if l.getD i 0 < l.getD (leastTo l i) 0 then i else leastTo l i := by
  unfold leastTo
  rw [List.range_succ, List.foldl_append]
  rfl
theorem leastTo_lt {l : List Nat} (h : l ≠ []) : ∀ {i : Nat}, i ≤ l.length → leastTo l i < l.length
  | 0, _ => List.length_pos_iff.mpr h
  | i + 1, hi => by
    rw [leastTo_succ]
    have := leastTo_lt h (i := i) (by omega)
    split
    · omega
    · exact this
theorem leastBy_snoc (f : Way → Nat) {l : List Way} (h : l ≠ []) (w : Way) : leastBy f (l ++ [w]) = if f w < f (leastBy f l) then w else leastBy f l := by
  cases l with
  | nil => exact absurd rfl h
  | cons x r =>
    show (r ++ [w]).foldl _ x = _
    rw [List.foldl_append]
    rfl
theorem getD_map' (f : Way → Nat) {l : List Way} {i : Nat} (h : i < l.length) : (l.map f).getD i 0 = f (l.getD i []) := by
  rw [List.getD_eq_getElem?_getD, List.getElem?_map, List.getD_eq_getElem?_getD, List.getElem?_eq_getElem h]
  rfl
theorem least_take (f : Way → Nat) (l : List Way) : ∀ i, i + 1 ≤ l.length → l.getD (leastTo (l.map f) (i + 1)) [] = leastBy f (l.take (i + 1))
  | 0, h => by
    rw [leastTo_succ]
    show l.getD (if (l.map f).getD 0 0 < (l.map f).getD 0 0 then 0 else 0) [] = _
    rw [if_neg (Nat.lt_irrefl _)]
    cases l with
    | nil => simp at h
    | cons x r => rfl
  | i + 1, h => by
    have ih := least_take f l i (by omega)
    have hne : l.map f ≠ [] := fun e => by
      have := congrArg List.length e
      rw [List.length_map, List.length_nil] at this
      omega
    have h1 := leastTo_lt hne (i := i + 1) (by rw [List.length_map]; omega)
    rw [List.length_map] at h1
    have e : l[i + 1]? = some (l.getD (i + 1) []) := by
      rw [List.getD_eq_getElem?_getD, List.getElem?_eq_getElem (by omega)]
      rfl
    rw [leastTo_succ, getD_map' f (by omega), getD_map' f h1, ih, List.take_add_one (i := i + 1), e]
    show _ = leastBy f (l.take (i + 1) ++ [l.getD (i + 1) []])
    rw [leastBy_snoc f (fun z => by
      have := congrArg List.length z
      rw [List.length_take, List.length_nil] at this
      omega)]
    split
    · rfl
    · exact ih
theorem least_eq (f : Way → Nat) {l : List Way} (h : l ≠ []) : l.getD (firstLeast (l.map f)) [] = leastBy f l := by
  have hl := List.length_pos_iff.mpr h
  obtain ⟨n, e⟩ : ∃ n, l.length = n + 1 := ⟨l.length - 1, by omega⟩
  unfold firstLeast
  rw [List.length_map, e]
  rw [least_take f l n (by omega), List.take_of_length_le (by omega)]
theorem firstLeast_lt (f : Way → Nat) {l : List Way} (h : l ≠ []) : firstLeast (l.map f) < l.length := by
  have := leastTo_lt (l := l.map f) (by
    intro e
    apply h
    exact List.map_eq_nil_iff.mp e) (i := (l.map f).length) (Nat.le_refl _)
  unfold firstLeast
  rw [List.length_map] at this ⊢
  exact this
theorem leastBy_mem (f : Way → Nat) {l : List Way} (h : l ≠ []) : leastBy f l ∈ l := by
  rw [← least_eq f h]
  have hl := firstLeast_lt f h
  rw [List.getD_eq_getElem?_getD, List.getElem?_eq_getElem hl]
  exact List.getElem_mem hl

/-! ### two ways picked from -/
def chosenB (r : Nat → Nat) (x a b : Nat) : Nat := if x = 1 then (if r b < r a then b else a) else (if r a < r b then b else a)
/-- on one list what costs the same by two ways is the same -/
theorem same_cost {k : Book} {v w : Way} {a : Nat} (hv : FitsPre k v) (hw : FitsPre k w) (h1 : a < v.length) (h2 : a < w.length) (e : rank (k.list0 a) (w.of_ a) = rank (k.list0 a) (v.of_ a)) : w.of_ a = v.of_ a := by
  have e1 := some_of h1
  have e2 := some_of h2
  have on : ∀ {u : Way} {b : Nat}, FitsPre k u → u[a]? = some (b + 1) → (k.list0 a).contains b = true := fun {u b} hu hb => by
    have := (hu a b hb).1
    unfold Book.may at this
    rw [Bool.and_eq_true] at this
    exact this.1
  cases cv : v.of_ a with
  | zero =>
    cases cw : w.of_ a with
    | zero => rfl
    | succ b =>
      rw [cw] at e2 e
      rw [cv] at e
      have := rank_lt.mpr (on hw e2)
      rw [e] at this
      exact absurd this (Nat.lt_irrefl _)
  | succ c =>
    cases cw : w.of_ a with
    | zero =>
      rw [cv] at e1 e
      rw [cw] at e
      have := rank_lt.mpr (on hv e1)
      rw [← e] at this
      exact absurd this (Nat.lt_irrefl _)
    | succ b =>
      rw [cv] at e1 e
      rw [cw] at e2 e
      rw [rank_inj e (on hw e2)]
theorem pick_eq {k : Book} {v w : Way} (hv : v ∈ k.all) (hw : w ∈ k.all) {x : Nat} (hx : x ≤ 1) :
    ((List.range k.here.length).map fun a => chosenB (rank (k.list0 a)) x (v.of_ a) (w.of_ a)) = k.pick (x == 1) v w := by
  unfold Book.pick
  refine List.map_congr_left fun a ha => ?_
  have hal := List.mem_range.mp ha
  obtain ⟨lv, fv⟩ := fits_iff.mp (mem_all.mp hv).1
  obtain ⟨lw, fw⟩ := fits_iff.mp (mem_all.mp hw).1
  unfold chosenB
  rcases (by omega : x = 0 ∨ x = 1) with rfl | rfl
  · rw [if_neg (by omega)]
    have e01 : ((0 : Nat) == 1) = false := rfl
    rw [e01]
    by_cases h1 : rank (k.list0 a) (w.of_ a) < rank (k.list0 a) (v.of_ a)
    · rw [decide_eq_true h1, if_neg (by omega)]
      rfl
    · rw [decide_eq_false h1]
      by_cases h2 : rank (k.list0 a) (v.of_ a) < rank (k.list0 a) (w.of_ a)
      · rw [if_pos h2]
        rfl
      · rw [if_neg h2]
        exact (same_cost fv fw (by omega) (by omega) (by omega)).symm
  · rw [if_pos rfl]
    by_cases h1 : rank (k.list0 a) (w.of_ a) < rank (k.list0 a) (v.of_ a)
    · rw [if_pos h1, decide_eq_true h1]
      rfl
    · rw [if_neg h1, decide_eq_false h1]
      rfl
end PO

/-! The askings as the program goes through them; what holds of every state. -/
namespace PO
open Mate

/-- a state's lists -/
structure Wf (k : Book) : Prop where
  p : 0 < k.here.length
  n : k.here.length ≤ 6
  m : k.there.length ≤ 6
  h0 : ∀ l ∈ k.here, l.length ≤ 2000 ∧ ∀ b ∈ l, b < k.there.length
  h1 : ∀ l ∈ k.there, l.length ≤ 2000 ∧ ∀ a ∈ l, a < k.here.length

/-! ### the first who may ask -/
theorem findSome_of {A B : Type} {f : A → Option B} {p : A → Bool} : ∀ {l : List A}, (∀ x ∈ l, (f x).isSome = p x) → l.findSome? f = (l.find? p).bind f
  | [], _ => rfl
  | x :: r, h => by
    have hx := h x (List.mem_cons_self ..)
    rw [List.findSome?_cons, List.find?_cons]
    cases e : f x with
    | none =>
      rw [e] at hx
      rw [← hx]
      exact findSome_of fun y hy => h y (List.mem_cons_of_mem _ hy)
    | some y =>
      rw [e] at hx
      rw [← hx]
      show some y = f x
      rw [e]
def mayAsk (ll : List (List Nat)) (at_ held : List Nat) (i : Nat) : Bool := decide (at_.getD i 0 < (ll.getD i []).length) && decide (Way.back held i = 0)
def nextAsker (ll : List (List Nat)) (at_ held : List Nat) : Option Nat := (List.range ll.length).find? (mayAsk ll at_ held)
/-- on the other side's numbers with whom they go: the way again -/
theorem back_turned {w : Way} {m i : Nat} (h1 : One w) (hm : ∀ (a b : Nat), w[a]? = some (b + 1) → b < m) : Way.back (w.turned m) i = w.of_ i := by
  have get : ∀ (j v : Nat), (w.turned m)[j]? = some v ↔ j < m ∧ w.back j = v := fun j v => by
    unfold Way.turned
    rw [List.getElem?_map]
    by_cases q : j < m
    · rw [List.getElem?_range q]
      exact ⟨fun h => ⟨q, Option.some.inj h⟩, fun h => congrArg some h.2⟩
    · rw [List.getElem?_eq_none (by rw [List.length_range]; omega)]
      exact ⟨fun h => (by cases h), fun h => absurd h.1 q⟩
  cases e : w.of_ i with
  | zero =>
    refine back_not fun hmem => ?_
    obtain ⟨j, hj⟩ := List.getElem?_of_mem hmem
    have hb := ((get _ _).mp hj).2
    have := (back_succ.mp hb).1
    rw [of_some this] at e
    omega
  | succ b =>
    have hi : i < w.length := by
      apply Decidable.byContradiction
      intro q
      rw [of_out (by omega)] at e
      omega
    have hw : w[i]? = some (b + 1) := by rw [some_of hi, e]
    refine back_succ.mpr ⟨(get _ _).mpr ⟨hm _ _ hw, back_one h1 hw⟩, fun j hj q => ?_⟩
    have hb := ((get _ _).mp q).2
    have := (back_succ.mp hb).1
    rw [hw] at this
    have := Option.some.inj this
    omega
theorem inv_lt {k : Book} (W : ∀ l ∈ k.here, ∀ b ∈ l, b < k.there.length) {s : Asking} (I : AInv k s) (a b : Nat) (h : s.way[a]? = some (b + 1)) : b < k.there.length := by
  obtain ⟨_, h2, _⟩ := I.last a b h
  have ha := list0_here h2
  have hm : k.list0 a ∈ k.here := by
    unfold Book.list0
    rw [List.getD_eq_getElem?_getD, List.getElem?_eq_getElem ha]
    exact List.getElem_mem ha
  exact W _ hm _ (List.mem_of_getElem? h2)
theorem ask_may {k : Book} (W : ∀ l ∈ k.here, ∀ b ∈ l, b < k.there.length) {s : Asking} (I : AInv k s) {i : Nat} : (k.ask s i).isSome = mayAsk k.here s.asked (s.way.turned k.there.length) i := by
  unfold mayAsk
  rw [back_turned I.one (inv_lt W I)]
  unfold Book.ask
  by_cases h : s.way.of_ i = 0
  · rw [if_neg (by omega), decide_eq_true h, Bool.and_true]
    show _ = decide (s.asked.getD i 0 < (k.list0 i).length)
    by_cases q : s.asked.getD i 0 < (k.list0 i).length
    · rw [List.getElem?_eq_getElem q, decide_eq_true q]
      dsimp only
      split <;> rfl
    · rw [List.getElem?_eq_none (by omega), decide_eq_false q]
      rfl
  · rw [if_pos h, decide_eq_false h, Bool.and_false]
    rfl
theorem next_ask {k : Book} (W : ∀ l ∈ k.here, ∀ b ∈ l, b < k.there.length) {s : Asking} (I : AInv k s) : (List.range k.here.length).findSome? (k.ask s) = (nextAsker k.here s.asked (s.way.turned k.there.length)).bind (k.ask s) :=
  findSome_of fun _ _ => ask_may W I
theorem next_some {k : Book} (W : ∀ l ∈ k.here, ∀ b ∈ l, b < k.there.length) {s : Asking} (I : AInv k s) {i : Nat} (h : nextAsker k.here s.asked (s.way.turned k.there.length) = some i) :
    i < k.here.length ∧ ∃ t, k.ask s i = some t ∧ (List.range k.here.length).findSome? (k.ask s) = some t := by
  have h1 := List.find?_some h
  have h2 := List.mem_of_find?_eq_some h
  rw [← ask_may W I] at h1
  obtain ⟨t, ht⟩ := Option.isSome_iff_exists.mp h1
  refine ⟨List.mem_range.mp h2, t, ht, ?_⟩
  rw [next_ask W I, h]
  exact ht
theorem next_none {k : Book} (W : ∀ l ∈ k.here, ∀ b ∈ l, b < k.there.length) {s : Asking} (I : AInv k s) (h : nextAsker k.here s.asked (s.way.turned k.there.length) = none) : ends k s := by
  unfold ends
  rw [next_ask W I, h]
  rfl
/-- what is held behind an asking -/
theorem turned_taken {w : Way} {a b m : Nat} (ha : a < w.length) (h1 : One w) (h0 : w.of_ a = 0) : Way.turned ((w.map fun p => if p = b + 1 then 0 else p).set a (b + 1)) m = (w.turned m).set b (a + 1) := by
  refine List.ext_getElem? fun j => ?_
  rw [List.getElem?_set]
  unfold Way.turned
  rw [List.getElem?_map, List.length_map, List.length_range]
  by_cases q : j < m
  · rw [List.getElem?_range q]
    show some _ = _
    rw [back_taken ha h1 h0]
    by_cases e : b = j
    · subst e
      rw [if_pos rfl, if_pos rfl, if_pos q]
    · rw [if_neg e, if_neg fun z => e z.symm, List.getElem?_map, List.getElem?_range q]
      rfl
  · rw [List.getElem?_eq_none (by rw [List.length_range]; omega)]
    by_cases e : b = j
    · subst e
      rw [if_pos rfl, if_neg q]
      rfl
    · rw [if_neg e, List.getElem?_map, List.getElem?_eq_none (by rw [List.length_range]; omega)]
      rfl
/-! ### the state, call by call -/
theorem Wf.blank {n m : Nat} (h1 : 0 < n) (h2 : n ≤ 6) (h3 : m ≤ 6) : Wf ⟨List.replicate n [], List.replicate m []⟩ where
  p := by rw [List.length_replicate]; exact h1
  n := by rw [List.length_replicate]; exact h2
  m := by rw [List.length_replicate]; exact h3
  h0 := fun l hl => by
    rw [List.eq_of_mem_replicate hl]
    exact ⟨Nat.zero_le _, fun b hb => by cases hb⟩
  h1 := fun l hl => by
    rw [List.eq_of_mem_replicate hl]
    exact ⟨Nat.zero_le _, fun b hb => by cases hb⟩
theorem Wf.set {k : Book} (W : Wf k) {s i : Nat} {l : List Nat} (hs : s ≤ 1) (hl : l.length ≤ 2000) (hb : ∀ b ∈ l, b < (k.side (1 - s)).length) : Wf (k.set s i l) := by
  unfold Book.set
  rcases (by omega : s = 0 ∨ s = 1) with rfl | rfl
  · rw [if_pos rfl]
    refine ⟨by rw [List.length_set]; exact W.p, by rw [List.length_set]; exact W.n, W.m, fun x hx => ?_, fun x hx => ?_⟩
    · rcases List.mem_or_eq_of_mem_set hx with h | h
      · exact W.h0 x h
      · rw [h]
        exact ⟨hl, hb⟩
    · rw [List.length_set]
      exact W.h1 x hx
  · rw [if_neg (by omega)]
    refine ⟨W.p, W.n, by rw [List.length_set]; exact W.m, fun x hx => ?_, fun x hx => ?_⟩
    · rw [List.length_set]
      exact W.h0 x hx
    · rcases List.mem_or_eq_of_mem_set hx with h | h
      · exact W.h1 x h
      · rw [h]
        exact ⟨hl, hb⟩
end PO

/-! A list as it may be. -/
namespace PO
open Mate
theorem apart_iff : ∀ {l : List Nat}, apart l = true ↔ ∀ (i j x : Nat), i < j → l[i]? = some x → l[j]? ≠ some x
  | [] => ⟨fun _ i j x _ h => by simp at h, fun _ => rfl⟩
  | y :: r => by
    show (!r.contains y && apart r) = true ↔ _
    rw [Bool.and_eq_true, apart_iff (l := r), Bool.not_eq_true', Bool.eq_false_iff]
    constructor
    · rintro ⟨h1, h2⟩ i j x hij e1 e2
      cases j with
      | zero => omega
      | succ j =>
        have e2' : r[j]? = some x := e2
        cases i with
        | zero =>
          have e : y = x := Option.some.inj e1
          subst e
          exact h1 (List.contains_iff_mem.mpr (List.mem_of_getElem? e2'))
        | succ i => exact h2 i j x (by omega) e1 e2'
    · intro h
      refine ⟨fun c => ?_, fun i j x hij e1 e2 => h (i + 1) (j + 1) x (by omega) e1 e2⟩
      obtain ⟨j, hj⟩ := List.getElem?_of_mem (List.contains_iff_mem.mp c)
      exact h 0 (j + 1) y (by omega) rfl hj
/-- what the program asks of the item at a place -/
def okAt (l : List Nat) (m k : Nat) : Bool := decide (l.getD k 0 < m) && !(l.take k).contains (l.getD k 0)
def okList (m : Nat) (l : List Nat) : Bool := apart l && l.all fun x => decide (x < m)
theorem okList_iff {l : List Nat} {m : Nat} : okList m l = true ↔ ∀ k, k < l.length → okAt l m k = true := by
  unfold okList okAt
  rw [Bool.and_eq_true, apart_iff, List.all_eq_true]
  constructor
  · rintro ⟨h1, h2⟩ k hk
    have e : l[k]? = some (l.getD k 0) := by
      rw [List.getD_eq_getElem?_getD, List.getElem?_eq_getElem hk]
      rfl
    rw [Bool.and_eq_true, Bool.not_eq_true', Bool.eq_false_iff]
    refine ⟨h2 _ (List.mem_of_getElem? e), fun c => ?_⟩
    obtain ⟨j, hj⟩ := List.getElem?_of_mem (List.contains_iff_mem.mp c)
    have hl := (List.getElem?_eq_some_iff.mp hj).1
    rw [List.length_take] at hl
    rw [List.getElem?_take_of_lt (by omega)] at hj
    exact h1 j k _ (by omega) hj e
  · intro h
    refine ⟨fun i j x hij e1 e2 => ?_, fun x hx => ?_⟩
    · have hj := (List.getElem?_eq_some_iff.mp e2).1
      have q := h j hj
      rw [List.getD_eq_getElem?_getD, e2, Bool.and_eq_true, Bool.not_eq_true', Bool.eq_false_iff] at q
      exact q.2 (List.contains_iff_mem.mpr (List.mem_of_getElem? (i := i) (by rw [List.getElem?_take_of_lt hij]; exact e1)))
    · obtain ⟨k, hk⟩ := List.getElem?_of_mem hx
      have hl := (List.getElem?_eq_some_iff.mp hk).1
      have q := h k hl
      rw [List.getD_eq_getElem?_getD, hk, Bool.and_eq_true] at q
      exact q.1
theorem listOk_eq (k : Book) (s : Nat) (l : List Nat) : k.listOk s l = okList (k.side (1 - s)).length l := rfl
theorem listOk_lt {k : Book} {s : Nat} {l : List Nat} (h : k.listOk s l = true) : ∀ b ∈ l, b < (k.side (1 - s)).length := by
  unfold Book.listOk at h
  rw [Bool.and_eq_true, List.all_eq_true] at h
  intro b hb
  exact of_decide_eq_true (h.2 b hb)
end PO

/-! How a line of calls is read. -/
namespace PO

inductive IsCall : Nat → List Nat → List Nat → Mate.Call → Prop where
  | begin_ (a b : Nat) (r : List Nat) : IsCall 0 [a, b] r (.begin_ a b)
  | likes (a b : Nat) (r : List Nat) : IsCall 1 [a, b] r (.likes a b r)
  | liked (a b : Nat) (r : List Nat) : IsCall 2 [a, b] r (.liked a b)
  | offs (r : List Nat) : IsCall 3 [] r (.offs r)
  | count (r : List Nat) : IsCall 4 [] r .count
  | way (a : Nat) (r : List Nat) : IsCall 5 [a] r (.way a)
  | best (a : Nat) (r : List Nat) : IsCall 6 [a] r (.best a)
  | fair (r : List Nat) : IsCall 7 [] r .fair
  | pick (a b c : Nat) (r : List Nat) : IsCall 8 [a, b, c] r (.pick a b c)
  | pairs (r : List Nat) : IsCall 9 [] r .pairs
  | asks (a : Nat) (r : List Nat) : IsCall 10 [a] r (.asks a)
  | wish (a b : Nat) (r : List Nat) : IsCall 11 [a, b] r (.wish a b r)

abbrev cast (l : List Nat) : List Int := l.map fun (n : Nat) => (n : Int)
def tabN : List Nat := [2, 2, 2, 0, 0, 1, 1, 0, 3, 0, 1, 2]
def tabR : List Nat := [0, 1, 0, 1, 0, 0, 0, 0, 0, 0, 0, 1]
theorem shape_tab {p : Nat} {n k : Nat} (h : PyWrpair.shape (p : Int) = some (n, k)) : tabN[p]? = some n ∧ tabR[p]? = some k := by
  unfold PyWrpair.shape at h
  by_cases h0 : (p : Int) = 0
  · rw [if_pos h0] at h
    have e : p = 0 := by omega
    subst e
    cases h
    exact ⟨rfl, rfl⟩
  rw [if_neg h0] at h
  by_cases h1 : (p : Int) = 1
  · rw [if_pos h1] at h
    have e : p = 1 := by omega
    subst e
    cases h
    exact ⟨rfl, rfl⟩
  rw [if_neg h1] at h
  by_cases h2 : (p : Int) = 2
  · rw [if_pos h2] at h
    have e : p = 2 := by omega
    subst e
    cases h
    exact ⟨rfl, rfl⟩
  rw [if_neg h2] at h
  by_cases h3 : (p : Int) = 3
  · rw [if_pos h3] at h
    have e : p = 3 := by omega
    subst e
    cases h
    exact ⟨rfl, rfl⟩
  rw [if_neg h3] at h
  by_cases h4 : (p : Int) = 4
  · rw [if_pos h4] at h
    have e : p = 4 := by omega
    subst e
    cases h
    exact ⟨rfl, rfl⟩
  rw [if_neg h4] at h
  by_cases h5 : (p : Int) = 5
  · rw [if_pos h5] at h
    have e : p = 5 := by omega
    subst e
    cases h
    exact ⟨rfl, rfl⟩
  rw [if_neg h5] at h
  by_cases h6 : (p : Int) = 6
  · rw [if_pos h6] at h
    have e : p = 6 := by omega
    subst e
    cases h
    exact ⟨rfl, rfl⟩
  rw [if_neg h6] at h
  by_cases h7 : (p : Int) = 7
  · rw [if_pos h7] at h
    have e : p = 7 := by omega
    subst e
    cases h
    exact ⟨rfl, rfl⟩
  rw [if_neg h7] at h
  by_cases h8 : (p : Int) = 8
  · rw [if_pos h8] at h
    have e : p = 8 := by omega
    subst e
    cases h
    exact ⟨rfl, rfl⟩
  rw [if_neg h8] at h
  by_cases h9 : (p : Int) = 9
  · rw [if_pos h9] at h
    have e : p = 9 := by omega
    subst e
    cases h
    exact ⟨rfl, rfl⟩
  rw [if_neg h9] at h
  by_cases h10 : (p : Int) = 10
  · rw [if_pos h10] at h
    have e : p = 10 := by omega
    subst e
    cases h
    exact ⟨rfl, rfl⟩
  rw [if_neg h10] at h
  by_cases h11 : (p : Int) = 11
  · rw [if_pos h11] at h
    have e : p = 11 := by omega
    subst e
    cases h
    exact ⟨rfl, rfl⟩
  rw [if_neg h11] at h
  cases h

/-! ### a call, by the numbers as they stand -/
theorem whole_id (c : List (List Int)) : PyWrpair.whole c = c := by
  unfold PyWrpair.whole
  split <;> rfl
theorem whole_cast (l : List Nat) : MateNeutral.whole (cast l) = true := by
  unfold MateNeutral.whole
  rw [List.all_eq_true]
  intro z hz
  obtain ⟨n, _, rfl⟩ := List.mem_map.mp hz
  exact decide_eq_true (Int.natCast_nonneg n)
theorem nats_cast (l : List Nat) : MateNeutral.nats (cast l) = l := by
  unfold MateNeutral.nats
  rw [List.map_map]
  exact List.map_id l
/-- the call's rows -/
def rowsOf (k : Nat) (r : List Nat) : List (List Int) := if k = 0 then [] else [cast r]
theorem one_of {l : List Nat} (h : l.length = 1) : ∃ a, l = [a] := by
  match l, h with
  | [a], _ => exact ⟨a, rfl⟩
theorem two_of {l : List Nat} (h : l.length = 2) : ∃ a b, l = [a, b] := by
  match l, h with
  | [a, b], _ => exact ⟨a, b, rfl⟩
theorem three_of {l : List Nat} (h : l.length = 3) : ∃ a b c, l = [a, b, c] := by
  match l, h with
  | [a, b, c], _ => exact ⟨a, b, c, rfl⟩
theorem zero_of {l : List Nat} (h : l.length = 0) : l = [] := List.length_eq_zero_iff.mp h
theorem if_whole {A : Type} {l : List Nat} {x : A} : (if MateNeutral.whole (cast l) = true then some x else none) = some x := if_pos (whole_cast l)
theorem if_whole2 {A : Type} {l r : List Nat} {x : A} : (if (MateNeutral.whole (cast l) && MateNeutral.whole (cast r)) = true then some x else none) = some x := if_pos (by rw [whole_cast, whole_cast]; rfl)
theorem call_of {p n k : Nat} {ns r : List Nat} (hN : tabN[p]? = some n) (hR : tabR[p]? = some k) (hn : ns.length = n) : ∃ x, IsCall p ns r x ∧ MateNeutral.callOf (((p : Int) :: cast ns) :: rowsOf k r) = some x := by
  have hp : p < 12 := (List.getElem?_eq_some_iff.mp hN).1
  rcases (by omega : p = 0 ∨ p = 1 ∨ p = 2 ∨ p = 3 ∨ p = 4 ∨ p = 5 ∨ p = 6 ∨ p = 7 ∨ p = 8 ∨ p = 9 ∨ p = 10 ∨ p = 11) with rfl | rfl | rfl | rfl | rfl | rfl | rfl | rfl | rfl | rfl | rfl | rfl
  · cases hN
    cases hR
    obtain ⟨a, b, rfl⟩ := two_of hn
    exact ⟨_, .begin_ a b r, if_whole (l := [a, b])⟩
  · cases hN
    cases hR
    obtain ⟨a, b, rfl⟩ := two_of hn
    refine ⟨_, .likes a b r, (if_whole2 (l := [a, b]) (r := r)).trans ?_⟩
    rw [nats_cast]
    rfl
  · cases hN
    cases hR
    obtain ⟨a, b, rfl⟩ := two_of hn
    exact ⟨_, .liked a b r, if_whole (l := [a, b])⟩
  · cases hN
    cases hR
    cases zero_of hn
    refine ⟨_, .offs r, (if_whole (l := r)).trans ?_⟩
    rw [nats_cast]
  · cases hN
    cases hR
    cases zero_of hn
    exact ⟨_, .count r, rfl⟩
  · cases hN
    cases hR
    obtain ⟨a, rfl⟩ := one_of hn
    exact ⟨_, .way a r, if_whole (l := [a])⟩
  · cases hN
    cases hR
    obtain ⟨a, rfl⟩ := one_of hn
    exact ⟨_, .best a r, if_whole (l := [a])⟩
  · cases hN
    cases hR
    cases zero_of hn
    exact ⟨_, .fair r, rfl⟩
  · cases hN
    cases hR
    obtain ⟨a, b, c, rfl⟩ := three_of hn
    exact ⟨_, .pick a b c r, if_whole (l := [a, b, c])⟩
  · cases hN
    cases hR
    cases zero_of hn
    exact ⟨_, .pairs r, rfl⟩
  · cases hN
    cases hR
    obtain ⟨a, rfl⟩ := one_of hn
    exact ⟨_, .asks a r, if_whole (l := [a])⟩
  · cases hN
    cases hR
    obtain ⟨a, b, rfl⟩ := two_of hn
    refine ⟨_, .wish a b r, (if_whole2 (l := [a, b]) (r := r)).trans ?_⟩
    rw [nats_cast]
    rfl
/-- a row has at most 2000 -/
theorem row_len {p n : Nat} {ns r : List Nat} (hN : tabN[p]? = some n) (hR : tabR[p]? = some 1) (h : PyInside.call PyWrpair.bound (((p : Int) :: cast ns) :: [cast r]) = true) : r.length ≤ 2000 := by
  have hp : p < 12 := (List.getElem?_eq_some_iff.mp hN).1
  have key : ∀ (b : List (Int × Int)), (PyInside.each b (cast ns) && PyInside.lists [(0, 9223372036854775807, 0, 2000)] [cast r]) = true → r.length ≤ 2000 := fun b q => by
    rw [Bool.and_eq_true] at q
    have q2 := q.2
    unfold PyInside.lists at q2
    simp only [Bool.and_eq_true, decide_eq_true_eq, List.length_map] at q2
    exact q2.1.1.2
  rcases (by omega : p = 0 ∨ p = 1 ∨ p = 2 ∨ p = 3 ∨ p = 4 ∨ p = 5 ∨ p = 6 ∨ p = 7 ∨ p = 8 ∨ p = 9 ∨ p = 10 ∨ p = 11) with rfl | rfl | rfl | rfl | rfl | rfl | rfl | rfl | rfl | rfl | rfl | rfl
  · cases hR
  · exact key _ h
  · cases hR
  · exact key [] h
  · cases hR
  · cases hR
  · cases hR
  · cases hR
  · cases hR
  · cases hR
  · cases hR
  · exact key _ h

/-! ### where a call stands -/
structure At (l : List Nat) (pos p : Nat) (ns row : List Nat) (behind : Nat) : Prop where
  num : l[pos]? = some p
  ex : ∃ n k, tabN[p]? = some n ∧ tabR[p]? = some k ∧ pos + 1 + n ≤ l.length ∧ ns = (l.drop (pos + 1)).take n ∧
    ((k = 0 ∧ row = [] ∧ behind = pos + 1 + n) ∨ (k = 1 ∧ ∃ q, l[pos + 1 + n]? = some q ∧ pos + 1 + n + 1 + q ≤ l.length ∧ row = (l.drop (pos + 1 + n + 1)).take q ∧ behind = pos + 1 + n + 1 + q))
theorem drop_cons {l : List Nat} {i p : Nat} (h : l[i]? = some p) : l.drop i = p :: l.drop (i + 1) := by
  obtain ⟨h1, h2⟩ := List.getElem?_eq_some_iff.mp h
  rw [List.drop_eq_getElem_cons h1, h2]
theorem cast_take (l : List Nat) (n : Nat) : (cast l).take n = cast (l.take n) := List.map_take.symm
theorem cast_drop (l : List Nat) (n : Nat) : (cast l).drop n = cast (l.drop n) := List.map_drop.symm
theorem tabR_le {p k : Nat} (h : tabR[p]? = some k) : k = 0 ∨ k = 1 := by
  have := List.mem_of_getElem? h
  unfold tabR at this
  simp at this
  omega
theorem read_one {l : List Nat} {pos f : Nat} {raw : List (List (List Int))} (hpos : pos < l.length) (h : PyFlat.calls PyWrpair.shape f (cast (l.drop pos)) = some raw) (hin : ∀ c ∈ raw, PyInside.call PyWrpair.bound c = true) :
    ∃ p ns row behind x c raw' f', At l pos p ns row behind ∧ IsCall p ns row x ∧ row.length ≤ 2000 ∧ raw = c :: raw' ∧ MateNeutral.callOf c = some x ∧ PyFlat.calls PyWrpair.shape f' (cast (l.drop behind)) = some raw' := by
  have hp : l[pos]? = some l[pos] := List.getElem?_eq_getElem hpos
  generalize l[pos] = p at hp
  have hd := drop_cons hp
  rw [hd] at h
  cases f with
  | zero => cases h
  | succ f =>
    unfold PyFlat.calls at h
    cases hc : PyFlat.call PyWrpair.shape (cast (p :: l.drop (pos + 1))) with
    | none =>
      have e : PyFlat.call PyWrpair.shape ((p : Int) :: cast (l.drop (pos + 1))) = none := hc
      simp only [cast, List.map_cons] at h
      rw [show PyFlat.call PyWrpair.shape ((p : Int) :: List.map (fun (n : Nat) => (n : Int)) (l.drop (pos + 1))) = none from e] at h
      cases h
    | some ct =>
      obtain ⟨c, t⟩ := ct
      simp only [cast, List.map_cons] at h
      rw [show PyFlat.call PyWrpair.shape ((p : Int) :: List.map (fun (n : Nat) => (n : Int)) (l.drop (pos + 1))) = some (c, t) from hc] at h
      dsimp only at h
      cases hr : PyFlat.calls PyWrpair.shape f t with
      | none =>
        rw [hr] at h
        cases h
      | some raw' =>
        rw [hr] at h
        cases h
        have hc' : PyFlat.call PyWrpair.shape ((p : Int) :: cast (l.drop (pos + 1))) = some (c, t) := hc
        unfold PyFlat.call at hc'
        dsimp only at hc'
        cases hs : PyWrpair.shape (p : Int) with
        | none =>
          rw [hs] at hc'
          cases hc'
        | some nk =>
          obtain ⟨n, k⟩ := nk
          rw [hs] at hc'
          dsimp only at hc'
          obtain ⟨tN, tR⟩ := shape_tab hs
          by_cases hl : (cast (l.drop (pos + 1))).length < n
          · rw [if_pos hl] at hc'
            cases hc'
          · rw [if_neg hl] at hc'
            rw [List.length_map, List.length_drop] at hl
            have hb : pos + 1 + n ≤ l.length := by omega
            have nsl : ((l.drop (pos + 1)).take n).length = n := by
              rw [List.length_take, List.length_drop]
              omega
            rw [cast_drop, List.drop_drop, cast_take] at hc'
            rcases tabR_le tR with rfl | rfl
            · unfold PyFlat.rows at hc'
              dsimp only at hc'
              cases hc'
              obtain ⟨x, hx, hco⟩ := call_of (r := []) tN tR nsl
              exact ⟨p, _, [], pos + 1 + n, x, _, raw', f, ⟨hp, n, 0, tN, tR, hb, rfl, .inl ⟨rfl, rfl, rfl⟩⟩, hx, Nat.zero_le _, rfl, hco, hr⟩
            · unfold PyFlat.rows PyFlat.rows at hc'
              cases hrow : PyFlat.row (cast (l.drop (pos + 1 + n))) with
              | none =>
                rw [hrow] at hc'
                cases hc'
              | some xs =>
                obtain ⟨x0, s0⟩ := xs
                rw [hrow] at hc'
                dsimp only at hc'
                cases hc'
                by_cases hlt : pos + 1 + n < l.length
                · have hq : l[pos + 1 + n]? = some l[pos + 1 + n] := List.getElem?_eq_getElem hlt
                  generalize l[pos + 1 + n] = q at hq
                  have hd2 := drop_cons hq
                  rw [hd2] at hrow
                  unfold PyFlat.row at hrow
                  simp only [cast, List.map_cons] at hrow
                  by_cases hqq : (0 : Int) ≤ (q : Int) ∧ ((q : Int)).toNat ≤ (List.map (fun (n : Nat) => (n : Int)) (l.drop (pos + 1 + n + 1))).length
                  · rw [if_pos hqq] at hrow
                    have hql := hqq.2
                    rw [List.length_map, List.length_drop, Int.toNat_natCast] at hql
                    rw [Int.toNat_natCast] at hrow
                    cases hrow
                    have et : List.drop q (List.map (fun (n : Nat) => (n : Int)) (l.drop (pos + 1 + n + 1))) = cast (l.drop (pos + 1 + n + 1 + q)) := by
                      rw [show List.map (fun (n : Nat) => (n : Int)) (l.drop (pos + 1 + n + 1)) = cast (l.drop (pos + 1 + n + 1)) from rfl, cast_drop, List.drop_drop]
                    have ek : List.take q (List.map (fun (n : Nat) => (n : Int)) (l.drop (pos + 1 + n + 1))) = cast ((l.drop (pos + 1 + n + 1)).take q) := cast_take _ _
                    rw [et] at hr
                    rw [ek] at hin
                    obtain ⟨x, hx, hco⟩ := call_of (r := (l.drop (pos + 1 + n + 1)).take q) tN tR nsl
                    have hrl := row_len tN tR (hin _ (List.mem_cons_self ..))
                    refine ⟨p, _, (l.drop (pos + 1 + n + 1)).take q, pos + 1 + n + 1 + q, x, _, raw', f, ⟨hp, n, 1, tN, tR, hb, rfl, .inr ⟨rfl, q, hq, by omega, rfl, rfl⟩⟩, hx, hrl, by rw [ek]; rfl, hco, hr⟩
                  · rw [if_neg hqq] at hrow
                    cases hrow
                · rw [List.drop_of_length_le (by omega)] at hrow
                  cases hrow

/-! ### the answer, call by call -/
theorem step_of {c : List (List Int)} {x : Mate.Call} (h : MateNeutral.callOf c = some x) (S : Mate.State) : MateNeutral.step S c = ((Mate.step S x).1, MateNeutral.shown (Mate.step S x).2) := by
  unfold MateNeutral.step
  rw [h]
def toldOf (S : Mate.State) (raw : List (List (List Int))) : List Int := PyFlat.told (PyFlat.played MateNeutral.step S raw)
theorem told_cons {c : List (List Int)} {x : Mate.Call} (h : MateNeutral.callOf c = some x) (S : Mate.State) (raw : List (List (List Int))) :
    toldOf S (c :: raw) = (((MateNeutral.shown (Mate.step S x).2).length : Nat) : Int) :: MateNeutral.shown (Mate.step S x).2 ++ toldOf (Mate.step S x).1 raw := by
  show PyFlat.told ((MateNeutral.step S c).2 :: PyFlat.played MateNeutral.step (MateNeutral.step S c).1 raw) = _
  rw [step_of h]
  unfold PyFlat.told
  rw [List.flatMap_cons]
  rfl
theorem calls_nil {f : Nat} {raw : List (List (List Int))} (h : PyFlat.calls PyWrpair.shape f [] = some raw) : raw = [] := by
  unfold PyFlat.calls at h
  cases f <;> cases h <;> rfl
/-- what is asked, and what is due -/
theorem asked_is {l : List Nat} (h : PyWrpair.answers_asked (cast l) = true) : ∃ raw, PyFlat.calls PyWrpair.shape (cast l).length (cast l) = some raw ∧ (∀ c ∈ raw, PyInside.call PyWrpair.bound c = true) ∧ PyWrpair.answers (cast l) = toldOf none raw ∧ (PyWrpair.answers (cast l)).length ≤ 10000000 := by
  unfold PyWrpair.answers_asked at h
  cases hc : PyFlat.calls PyWrpair.shape (cast l).length (cast l) with
  | none =>
    rw [hc] at h
    cases h
  | some raw =>
    rw [hc] at h
    simp only [Bool.and_eq_true] at h
    refine ⟨raw, rfl, ?_, ?_, ?_⟩
    · have := h.1.1.2
      unfold PyInside.calls at this
      exact List.all_eq_true.mp this
    · unfold PyWrpair.answers PyWrpair.calls
      rw [hc]
      show PyFlat.told (PyFlat.played MateNeutral.step MateNeutral.start (raw.map PyWrpair.whole)) = _
      rw [show raw.map PyWrpair.whole = raw by
        refine (List.map_congr_left fun c _ => whole_id c).trans (List.map_id raw)]
      rfl
    · have := h.2
      unfold PyFlat.short at this
      exact of_decide_eq_true this
end PO

/-! Words for the walk: how lists of numbers and lists of these lie in the heap, readings of plain expressions. -/
namespace PO
open PySem PySem.Spec PyProof.Rows L2

/-! ### values -/
abbrev vN (n : Nat) : V := .int (n : Int)
abbrev nums (l : List Nat) : List V := l.map fun (n : Nat) => V.int (n : Int)
def IL (H : Hp) (a : Addr) (l : List Nat) : Prop := H a = some (.lst (nums l))
/-- a list of lists of numbers -/
def LL (H : Hp) (a : Addr) (ll : List (List Nat)) : Prop := ∃ as : List Addr, H a = some (.lst (as.map V.ref)) ∧ as.length = ll.length ∧ ∀ (i : Nat) (x : Addr) (l : List Nat), as[i]? = some x → ll[i]? = some l → IL H x l
/-- two of these: a state's lists, a table of costs -/
def Duo (H : Hp) (a : Addr) (x y : List (List Nat)) : Prop := ∃ a0 a1, H a = some (.lst [.ref a0, .ref a1]) ∧ LL H a0 x ∧ LL H a1 y
/-- a list of pairs -/
def PL (H : Hp) (a : Addr) (ps : List (Nat × Nat)) : Prop := ∃ as : List Addr, H a = some (.lst (as.map V.ref)) ∧ as.length = ps.length ∧ ∀ (i : Nat) (x : Addr) (p : Nat × Nat), as[i]? = some x → ps[i]? = some p → H x = some (.tup [vN p.1, vN p.2])

/-! ### what stays -/
theorem _root_.L2.Same.il {H H' : Hp} (s : Same H H') {a : Addr} {l : List Nat} (h : IL H a l) : IL H' a l := s _ _ h
theorem _root_.L2.Same.ll {H H' : Hp} (s : Same H H') {a : Addr} {l : List (List Nat)} (h : LL H a l) : LL H' a l := by
  obtain ⟨as, h1, h2, h3⟩ := h
  exact ⟨as, s _ _ h1, h2, fun i x y e1 e2 => s _ _ (h3 i x y e1 e2)⟩
theorem _root_.L2.Same.duo {H H' : Hp} (s : Same H H') {a : Addr} {x y : List (List Nat)} (h : Duo H a x y) : Duo H' a x y := by
  obtain ⟨a0, a1, h1, h2, h3⟩ := h
  exact ⟨a0, a1, s _ _ h1, s.ll h2, s.ll h3⟩
theorem _root_.L2.Same.pl {H H' : Hp} (s : Same H H') {a : Addr} {ps : List (Nat × Nat)} (h : PL H a ps) : PL H' a ps := by
  obtain ⟨as, h1, h2, h3⟩ := h
  exact ⟨as, s _ _ h1, h2, fun i x y e1 e2 => s _ _ (h3 i x y e1 e2)⟩
theorem _root_.L2.Same.sqT {K : PySem.W.Frag} {H H' : Hp} (s : Same H H') {a : Addr} {xs : List V} (h : SqT K H a xs) : SqT K H' a xs := by
  rcases h with (h | ⟨o, h⟩) | h
  · exact .inl (.inl (s _ _ h))
  · exact .inl (.inr ⟨o, s _ _ h⟩)
  · exact .inr h
/-- a new object -/
theorem _root_.L2.Same.new {H H' : Hp} (s : Same H H') {p : Addr} {o : HO} (h : H' p = none) : Same H (upd H' p o) := fun b x e => by
  have e' := s b x e
  rw [upd_ne (ne_of_none e' h)]
  exact e'
/-- an object that was none of H's is changed -/
theorem _root_.L2.Same.mut {H H' : Hp} (s : Same H H') {p : Addr} {o : HO} (h : H p = none) : Same H (upd H' p o) := fun b x e => by
  rw [upd_ne (ne_of_none e h)]
  exact s b x e

/-! ### the heap without one object -/
def Off (so : Addr) (H : Hp) : Hp := fun b => if b = so then none else H b
theorem off_ne {so b : Addr} {H : Hp} (h : b ≠ so) : Off so H b = H b := if_neg h
theorem off_some {so b : Addr} {H : Hp} {o : HO} (h : Off so H b = some o) : b ≠ so ∧ H b = some o := by
  by_cases e : b = so
  · have e2 : Off so H b = none := if_pos e
    rw [e2] at h
    cases h
  · rw [off_ne e] at h
    exact ⟨e, h⟩
theorem off_same (so : Addr) (H : Hp) : Same (Off so H) H := fun _ _ h => (off_some h).2
theorem _root_.L2.Same.off {H H' : Hp} (s : Same H H') (so : Addr) : Same (Off so H) (Off so H') := fun b o h => by
  obtain ⟨h1, h2⟩ := off_some h
  rw [off_ne h1]
  exact s _ _ h2
theorem off_upd (so : Addr) (H : Hp) (o : HO) : Off so (upd H so o) = Off so H := by
  funext b
  by_cases e : b = so
  · have e1 : Off so (upd H so o) b = none := if_pos e
    have e2 : Off so H b = none := if_pos e
    rw [e1, e2]
  · rw [off_ne e, off_ne e, upd_ne e]
/-- what was free when so stood isn't so -/
theorem ne_so {H : Hp} {so p : Addr} (hso : H so ≠ none) (h : H p = none) : p ≠ so := fun e => by
  subst e
  exact hso h

/-! ### lists of values -/
theorem nums_get {l : List Nat} {i n : Nat} (h : l[i]? = some n) : (nums l)[i]? = some (vN n) := by
  rw [List.getElem?_map, h]
  rfl
theorem nums_at {l : List Nat} {i n : Nat} (h : l[i]? = some n) : atI (nums l) (i : Int) = some (vN n) := atI_nat (nums_get h)
theorem nums_len (l : List Nat) : (nums l).length = l.length := List.length_map _
theorem IL.sq {K : PySem.W.Frag} {H : Hp} {a : Addr} {l : List Nat} (h : IL H a l) : SqL K H a (nums l) := SqL.of h
theorem getD_some {A : Type} {l : List A} {i : Nat} {d : A} (h : i < l.length) : l[i]? = some (l.getD i d) := by
  rw [List.getD_eq_getElem?_getD, List.getElem?_eq_getElem h]
  rfl
theorem LL.get {H : Hp} {a : Addr} {ll : List (List Nat)} (h : LL H a ll) : ∃ as : List Addr, H a = some (.lst (as.map V.ref)) ∧ as.length = ll.length ∧
    ∀ (i : Nat), i < ll.length → ∃ x, as[i]? = some x ∧ IL H x (ll.getD i []) := by
  obtain ⟨as, h1, h2, h3⟩ := h
  refine ⟨as, h1, h2, fun i hi => ?_⟩
  have e : as[i]? = some as[i] := List.getElem?_eq_getElem (by omega)
  exact ⟨_, e, h3 i _ _ e (getD_some hi)⟩
theorem refs_at {as : List Addr} {i : Nat} {x : Addr} (h : as[i]? = some x) : atI (as.map V.ref) (i : Int) = some (V.ref x) := atI_nat (by rw [List.getElem?_map, h]; rfl)

/-! ### readings of plain expressions: the heap stands -/
def Vp (te : TE) (σ : L2.St) (H : Hp) (v : V) : Prop := ∀ Q : VK, Q v H → te σ H Q
section
variable {σ : L2.St} {H : Hp} {i : Nat} {v x y z : V} {ta tb te tv : TE} {K : PySem.W.Frag} {a : Addr} {m n : Int} {xs : List V}
theorem vp_var (h : σ[i]? = some (some v)) : Vp (tVar i) σ H v := fun _ q => ⟨v, h, q⟩
theorem vp_c : Vp (tC v) σ H v := fun _ q => q
theorem vp_add (ha : Vp ta σ H (.int m)) (hb : Vp tb σ H (.int n)) : Vp (tOp (rI0 fun i j => .int (i + j)) ta tb) σ H (.int (m + n)) := fun Q q => ha _ (hb _ ⟨m, n, rfl, rfl, q⟩)
theorem vp_sub (ha : Vp ta σ H (.int m)) (hb : Vp tb σ H (.int n)) : Vp (tOp (rI0 fun i j => .int (i - j)) ta tb) σ H (.int (m - n)) := fun Q q => ha _ (hb _ ⟨m, n, rfl, rfl, q⟩)
theorem vp_cmp {p : Int → Int → Bool} (ha : Vp ta σ H (.int m)) (hb : Vp tb σ H (.int n)) : Vp (tCmp p ta tb) σ H (.bl (p m n)) := fun Q q => ha _ (hb _ ⟨m, n, rfl, rfl, q⟩)
theorem vp_ix (ha : Vp ta σ H (.ref a)) (hb : Vp tb σ H (.int m)) (hs : SqL K H a xs) (hx : atI xs m = some v) : Vp (tOp (rIxL K) ta tb) σ H v := fun Q q => ha _ (hb _ ⟨a, xs, m, v, rfl, rfl, hs, hx, q⟩)
theorem vp_ixT (ha : Vp ta σ H (.ref a)) (hb : Vp tb σ H (.int m)) (hs : SqT K H a xs) (hx : atI xs m = some v) : Vp (tOp (rIxT K) ta tb) σ H v := fun Q q => ha _ (hb _ ⟨a, xs, m, v, rfl, rfl, hs, hx, q⟩)
theorem vp_len (ha : Vp ta σ H (.ref a)) (hs : SqL K H a xs) : Vp (tCB (fun xs H Q => ∃ p ys, xs = [.ref p] ∧ (SqL K H p ys ∨ SqT K H p ys) ∧ Q (.int ys.length) H) (tCons ta tNil)) σ H (.int xs.length) := fun Q q => ha _ ⟨a, xs, rfl, .inl hs, q⟩
theorem Vp.to (h : Vp te σ H v) (e : v = x) : Vp te σ H x := e ▸ h
theorem vp_succ {j : Nat} (ha : Vp ta σ H (vN j)) : Vp (tOp (rI0 fun i j => .int (i + j)) ta (tC (.int 1))) σ H (vN (j + 1)) := (vp_add ha vp_c).to rfl
theorem vp_pred {j : Nat} (ha : Vp ta σ H (vN (j + 1))) : Vp (tOp (rI0 fun i j => .int (i - j)) ta (tC (.int 1))) σ H (vN j) := (vp_sub ha vp_c).to (by
  show V.int (((j + 1 : Nat) : Int) - 1) = V.int (j : Int)
  rw [show ((j + 1 : Nat) : Int) - 1 = (j : Int) by omega])
/-- an item of a list of numbers -/
theorem vp_ixN {l : List Nat} {j k : Nat} (ha : Vp ta σ H (.ref a)) (hb : Vp tb σ H (.int (j : Int))) (hs : IL H a l) (hx : l[j]? = some k) : Vp (tOp (rIxL K) ta tb) σ H (vN k) := vp_ix ha hb hs.sq (nums_at hx)
theorem vp_lenN {l : List Nat} (ha : Vp ta σ H (.ref a)) (hs : IL H a l) : Vp (tCB (fun xs H Q => ∃ p ys, xs = [.ref p] ∧ (SqL K H p ys ∨ SqT K H p ys) ∧ Q (.int ys.length) H) (tCons ta tNil)) σ H (.int (l.length : Int)) := by
  have := vp_len (K := K) ha (hs.sq (K := K))
  rw [nums_len] at this
  exact this
variable {D : Ends} {g : TG} {t u : TS} {b : Bool}
theorem st_asg (h : Vp te σ H v) (q : g v σ H D.nx) : tAsg te g D σ H := h _ q
theorem st_set (h : Vp te σ H v) (q : D.nx (σ.set i (some v)) H) : tAsg te (gName i) D σ H := h _ q
theorem st_if (h : Vp te σ H (.bl b)) (q : if b = true then t D σ H else u D σ H) : tIfS (tB te) t u D σ H := h _ ⟨b, rfl, q⟩
theorem st_yes (h : Vp te σ H (.bl b)) (e : b = true) (q : t D σ H) : tIfS (tB te) t u D σ H := by
  subst e
  exact h _ ⟨true, rfl, iteT q⟩
theorem st_no (h : Vp te σ H (.bl b)) (e : b = false) (q : u D σ H) : tIfS (tB te) t u D σ H := by
  subst e
  exact h _ ⟨false, rfl, iteF q⟩
theorem st_ret (h : Vp te σ H v) (q : D.rt v H) : tRet te D σ H := h _ q
theorem sq_asg (h : Vp te σ H v) (q : g v σ H (u D)) : tSeq (tAsg te g) u D σ H := h _ q
theorem sq_set (h : Vp te σ H v) (q : u D (σ.set i (some v)) H) : tSeq (tAsg te (gName i)) u D σ H := h _ q
theorem sq_if {r : TS} (h : Vp te σ H (.bl b)) (q : if b = true then t { D with nx := r D } σ H else u { D with nx := r D } σ H) : tSeq (tIfS (tB te) t u) r D σ H := h _ ⟨b, rfl, q⟩
/-- .. without else -/
theorem sq_if0 (h : Vp te σ H (.bl b)) (y : b = true → t { D with nx := u D } σ H) (n : b = false → u D σ H) : tSeq (tIfS (tB te) t tNext) u D σ H := by
  refine h _ ⟨b, rfl, ?_⟩
  cases b with
  | true => exact iteT (y rfl)
  | false => exact iteF (n rfl)
theorem st_if0 (h : Vp te σ H (.bl b)) (y : b = true → t D σ H) (n : b = false → D.nx σ H) : tIfS (tB te) t tNext D σ H := by
  refine h _ ⟨b, rfl, ?_⟩
  cases b with
  | true => exact iteT (y rfl)
  | false => exact iteF (n rfl)
theorem st_seq (h : t { D with nx := u D } σ H) : tSeq t u D σ H := h
/-- an if on a test of ints, both ways -/
theorem sq_if2 {p : Prop} [Decidable p] (h : Vp te σ H (.bl (decide p))) (y : p → t { D with nx := u D } σ H) (n : ¬ p → u D σ H) : tSeq (tIfS (tB te) t tNext) u D σ H :=
  h _ ⟨_, rfl, ite2 (fun c => y (of_decide_eq_true c)) (fun c => n (fun q => c (decide_eq_true q)))⟩
theorem st_if2 {p : Prop} [Decidable p] (h : Vp te σ H (.bl (decide p))) (y : p → t D σ H) (n : ¬ p → u D σ H) : tIfS (tB te) t u D σ H :=
  h _ ⟨_, rfl, ite2 (fun c => y (of_decide_eq_true c)) (fun c => n (fun q => c (decide_eq_true q)))⟩
theorem sq_of {r : TS} (h : te σ H fun x H1 => r D (σ.set i (some x)) H1) : tSeq (tAsg te (gName i)) r D σ H := h
theorem rt_of (h : te σ H D.rt) : tRet te D σ H := h
theorem cmp_of {p : Int → Int → Bool} {Q : VK} (h : ta σ H fun x H1 => tb σ H1 fun y H2 => ∃ i j, x = .int i ∧ y = .int j ∧ Q (.bl (p i j)) H2) : tCmp p ta tb σ H Q := h
theorem if_T {b : Bool} {A B : Prop} (e : b = true) (h : A) : if b = true then A else B := by
  rw [if_pos e]
  exact h
theorem if_F {b : Bool} {A B : Prop} (e : b = false) (h : B) : if b = true then A else B := by
  rw [e]
  exact iteF h
theorem and_of {t u : TT} {Q : Bool → Hp → Prop} (h : t σ H fun c H1 => if c = true then u σ H1 Q else Q false H1) : tAnd t u σ H Q := h
theorem tB_of {Q : Bool → Hp → Prop} (h : te σ H fun x H1 => ∃ c, x = .bl c ∧ Q c H1) : tB te σ H Q := h
theorem op_of {r : R2} {Q : VK} (h : ta σ H fun x H1 => tb σ H1 fun y H2 => r x y H2 Q) : tOp r ta tb σ H Q := h
theorem call1 {sp : Sp} {Q : VK} (va : Vp ta σ H x) (h : sp [x] H Q E0) : tCall sp [] E0 (tCons ta tNil) σ H Q := va _ h
theorem call2 {sp : Sp} {Q : VK} (va : Vp ta σ H x) (vb : Vp tb σ H y) (h : sp [x, y] H Q E0) : tCall sp [] E0 (tCons ta (tCons tb tNil)) σ H Q := va _ (vb _ h)
theorem call3 {sp : Sp} {Q : VK} {tc : TE} (va : Vp ta σ H x) (vb : Vp tb σ H y) (vc : Vp tc σ H z) (h : sp [x, y, z] H Q E0) : tCall sp [] E0 (tCons ta (tCons tb (tCons tc tNil))) σ H Q := va _ (vb _ (vc _ h))
theorem call4 {sp : Sp} {Q : VK} {tc td : TE} {z' : V} (va : Vp ta σ H x) (vb : Vp tb σ H y) (vc : Vp tc σ H z) (vd : Vp td σ H z') (h : sp [x, y, z, z'] H Q E0) : tCall sp [] E0 (tCons ta (tCons tb (tCons tc (tCons td tNil)))) σ H Q := va _ (vb _ (vc _ (vd _ h)))
/-- a name for a new empty list -/
theorem sq_new {r : TS} (h : ∀ p, H p = none → r D (σ.set i (some (.ref p))) (upd H p (.lst []))) : tSeq (tAsg (tLst tNil) (gName i)) r D σ H := ⟨Nat.zero_le _, h⟩
theorem ifc_of {r : TS} {sp : Sp} {A : TA} (h : tCall sp [] E0 A σ H fun v H1 => ∃ b, v = .bl b ∧ (if b = true then t { D with nx := r D } σ H1 else u { D with nx := r D } σ H1)) : tSeq (tIfS (tB (tCall sp [] E0 A)) t u) r D σ H := h
/-- a test that is a call -/
theorem if_call {sp : Sp} {A : TA} (h : tCall sp [] E0 A σ H fun v H1 => ∃ b, v = .bl b ∧ (b = true → t D σ H1) ∧ (b = false → u D σ H1)) (mono : ∀ (Q Q' : VK), (∀ v H', Q v H' → Q' v H') → tCall sp [] E0 A σ H Q → tCall sp [] E0 A σ H Q') : tIfS (tB (tCall sp [] E0 A)) t u D σ H := by
  refine mono _ _ (fun v H' q => ?_) h
  obtain ⟨b, e, y, n⟩ := q
  refine ⟨b, e, ?_⟩
  cases b with
  | true => exact iteT (y rfl)
  | false => exact iteF (n rfl)
end

/-! ### tests whose answer is known -/
def Tp (t : TT) (σ : L2.St) (H : Hp) (b : Bool) : Prop := ∀ Q : Bool → Hp → Prop, Q b H → t σ H Q
section
variable {σ : L2.St} {H : Hp} {ta tb : TE} {t u : TT} {b c : Bool} {m n : Int} {D : Ends} {x y r : TS}
theorem tp_cmp {p : Int → Int → Bool} (ha : Vp ta σ H (.int m)) (hb : Vp tb σ H (.int n)) : Tp (tB (tCmp p ta tb)) σ H (p m n) := fun Q q => vp_cmp ha hb _ ⟨_, rfl, q⟩
theorem tp_or (h1 : Tp t σ H b) (h2 : Tp u σ H c) : Tp (tOr t u) σ H (b || c) := fun Q q => h1 _ (by
  cases b with
  | true => exact iteT q
  | false => exact iteF (h2 _ q))
theorem tp_or1 (h : Tp t σ H b) : Tp t σ H b := h
/-- an if without else -/
theorem sq_ifT (h : Tp t σ H b) (y : b = true → x { D with nx := r D } σ H) (n : b = false → r D σ H) : tSeq (tIfS t x tNext) r D σ H := by
  refine h _ ?_
  cases b with
  | true => exact iteT (y rfl)
  | false => exact iteF (n rfl)
end

/-! ### lists that grow -/
theorem nums_inj_ref {l : List Nat} {as : List Addr} (hl : l ≠ []) : nums l ≠ as.map V.ref := by
  cases l with
  | nil => exact absurd rfl hl
  | cons x r =>
    cases as with
    | nil => exact fun h => by cases h
    | cons y t =>
      intro h
      have := (List.cons.inj h).1
      cases this
theorem PL.push {H : Hp} {fo t : Addr} {ps : List (Nat × Nat)} {p : Nat × Nat} (h : PL H fo ps) (nt : H t = none) : ∃ as : List Addr, as.length = ps.length ∧ upd H t (.tup [vN p.1, vN p.2]) fo = some (.lst (as.map V.ref)) ∧
    PL (upd (upd H t (.tup [vN p.1, vN p.2])) fo (.lst (as.map V.ref ++ [.ref t]))) fo (ps ++ [p]) := by
  obtain ⟨as, h1, h2, h3⟩ := h
  have nf : fo ≠ t := ne_of_none h1 nt
  refine ⟨as, h2, by rw [upd_ne nf]; exact h1, as ++ [t], by rw [upd_same, List.map_append]; rfl, by rw [List.length_append, List.length_append, h2]; rfl, fun i x q e1 e2 => ?_⟩
  by_cases hi : i < as.length
  · rw [List.getElem?_append_left hi] at e1
    rw [List.getElem?_append_left (by omega)] at e2
    have e := h3 i x q e1 e2
    have nx : x ≠ fo := ne_of e h1 (by intro z; cases z)
    rw [upd_ne nx, upd_ne (ne_of_none e nt)]
    exact e
  · rw [List.getElem?_append_right (by omega)] at e1 e2
    have z1 := (List.getElem?_eq_some_iff.mp e1).1
    rw [List.length_singleton] at z1
    have z2 : i - as.length = 0 := by omega
    rw [z2] at e1
    rw [show i - ps.length = 0 by omega] at e2
    cases e1
    cases e2
    rw [upd_ne nf.symm, upd_same]
theorem LL.push {H : Hp} {fo t : Addr} {ll : List (List Nat)} {l : List Nat} (h : LL H fo ll) (hne : ∀ x ∈ ll, x ≠ []) (ht : IL H t l) (hl : l ≠ []) : ∃ as : List Addr, as.length = ll.length ∧ H fo = some (.lst (as.map V.ref)) ∧
    LL (upd H fo (.lst (as.map V.ref ++ [.ref t]))) fo (ll ++ [l]) := by
  obtain ⟨as, h1, h2, h3⟩ := h
  have apart : ∀ (x : Addr) (y : List Nat), y ≠ [] → IL H x y → x ≠ fo := fun x y ny hy => ne_of hy h1 fun z => nums_inj_ref ny (HO.lst.inj z)
  refine ⟨as, h2, h1, as ++ [t], by rw [upd_same, List.map_append]; rfl, by rw [List.length_append, List.length_append, h2]; rfl, fun i x q e1 e2 => ?_⟩
  by_cases hi : i < as.length
  · rw [List.getElem?_append_left hi] at e1
    rw [List.getElem?_append_left (by omega)] at e2
    have e := h3 i x q e1 e2
    show upd H fo _ x = _
    rw [upd_ne (apart x q (hne q (List.mem_of_getElem? e2)) e)]
    exact e
  · rw [List.getElem?_append_right (by omega)] at e1 e2
    have z1 := (List.getElem?_eq_some_iff.mp e1).1
    rw [List.length_singleton] at z1
    have z2 : i - as.length = 0 := by omega
    rw [z2] at e1
    rw [show i - ll.length = 0 by omega] at e2
    cases e1
    cases e2
    show upd H fo _ t = _
    rw [upd_ne (apart t l hl ht)]
    exact ht

/-! ### comprehensions without tests -/
/-- all but D is as it was -/
def SameX (D : Addr) (H H' : Hp) : Prop := ∀ b o, b ≠ D → H b = some o → H' b = some o
theorem _root_.L2.Same.x {H H' : Hp} (s : Same H H') (D : Addr) : SameX D H H' := fun b o _ h => s b o h
theorem SameX.upd {H : Hp} {D : Addr} {o : HO} : SameX D H (upd H D o) := fun b x hb h => by
  rw [upd_ne hb]
  exact h
theorem SameX.mut {H H1 H' : Hp} {D : Addr} {o : HO} (s : SameX D H H1) (t : Same H1 H') : SameX D H (L2.upd H' D o) := fun b x hb h => by
  rw [upd_ne hb]
  exact t _ _ (s b x hb h)
theorem SameX.trans {H H1 H' : Hp} {D : Addr} (s : SameX D H H1) (t : Same H1 H') : SameX D H H' := fun b x hb h => t _ _ (s b x hb h)
theorem SameX.refl (D : Addr) (H : Hp) : SameX D H H := fun _ _ _ h => h
theorem small_size {n : Nat} (h : n ≤ 1000000) : n < sizeLine := Nat.lt_of_le_of_lt h (by decide)
theorem small_62 {n : Nat} (h : n ≤ 1000000) : -(2 ^ 62) ≤ (n : Int) ∧ (n : Int) < 2 ^ 62 := by
  have h2 : (1000000 : Int) < 2 ^ 62 := by decide
  have h3 : (-(2 ^ 62) : Int) ≤ 0 := by decide
  omega
theorem wipe_set {σ : L2.St} {j : Nat} {x : Option V} : wipe ((wipe σ [j]).set j x) [j] = wipe σ [j] := by
  show ((σ.set j none).set j x).set j none = σ.set j none
  rw [List.set_set, List.set_set]
section
variable {K : PySem.W.Frag} {te : TE} {j : Nat} {σ : L2.St} {H : Hp} {D : Addr} {Qd : Hp → Prop}
theorem lc_rangeE {n : Nat} (E : Nat → V → Hp → Prop) (mono : ∀ i v H H', E i v H → SameX D H H' → E i v H') (hn : n ≤ 1000000) (hD : H D = none)
    (hs : ∀ i H', i < n → Same H H' → (∃ acc, H' D = some (.lst acc)) → ∀ R : VK, (∀ v H2, Same H' H2 → E i v H2 → R v H2) → te ((wipe σ [j]).set j (some (vN i))) H' R)
    (hd : ∀ H' vs, Same H H' → H' D = some (.lst vs) → vs.length = n → (∀ i v, vs[i]? = some v → E i v H') → Qd H') :
    ∃ W : Nat → Nat → Hp → Prop, (∃ m, W 0 m (upd H D (.lst []))) ∧ ∀ i m H, W i m H →
      ((Itr 0 n).stop i H ∧ Qd H) ∨ ((Itr 0 n).go i H ∧ ∃ Nx : Hp → Prop, (∀ H', Nx H' → ∃ m', m' < m ∧ W (i + 1) m' H') ∧ ∀ x H', (Itr 0 n).yld i H x H' → gName j x (wipe σ [j]) H' fun σ2 H2 => wipe σ2 [j] = wipe σ [j] ∧ tYes σ2 H2 fun b H3 =>
        if b = true then te σ2 H3 fun y H4 => ∃ acc, H4 D = some (.lst acc) ∧ acc.length < sizeLine ∧ Nx (upd H4 D (.lst (acc ++ [y]))) else Nx H3) := by
  refine lc_range (lo := 0) (n := n) (fun i H' => Same H H' ∧ ∃ vs, H' D = some (.lst vs) ∧ vs.length = i ∧ ∀ k v, vs[k]? = some v → E k v H') ⟨(Same.refl H).new hD, [], upd_same, rfl, fun k v h => by simp at h⟩ ?_ ?_
  · rintro i H' hi ⟨s, vs, hL, hlen, hE⟩
    refine ⟨wipe_set, ?_⟩
    dsimp only [tYes]
    rw [if_pos rfl, Int.zero_add]
    refine hs i H' hi s ⟨vs, hL⟩ _ fun v H2 s2 hv => ⟨vs, s2 _ _ hL, small_size (by omega), (s.trans s2).mut hD, vs ++ [v], upd_same, by rw [List.length_append, List.length_singleton, hlen], fun k u hk => ?_⟩
    by_cases q : k < vs.length
    · rw [List.getElem?_append_left q] at hk
      exact mono _ _ _ _ (mono _ _ _ _ (hE k u hk) (s2.x D)) SameX.upd
    · rw [List.getElem?_append_right (by omega)] at hk
      have e : k - vs.length = 0 := by
        have := (List.getElem?_eq_some_iff.mp hk).1
        rw [List.length_singleton] at this
        omega
      rw [e] at hk
      cases hk
      have ek : k = i := by omega
      subst ek
      exact mono _ _ _ _ hv SameX.upd
  · rintro H' ⟨s, vs, h1, h2, h3⟩
    exact hd H' vs s h1 h2 h3
theorem lc_listE {a : Addr} {xs : List V} (E : Nat → V → Hp → Prop) (mono : ∀ i v H H', E i v H → SameX D H H' → E i v H') (hn : xs.length ≤ 1000000) (hD : H D = none) (hl : H a = some (.lst xs))
    (hs : ∀ i x H', xs[i]? = some x → Same H H' → (∃ acc, H' D = some (.lst acc)) → ∀ R : VK, (∀ v H2, Same H' H2 → E i v H2 → R v H2) → te ((wipe σ [j]).set j (some x)) H' R)
    (hd : ∀ H' vs, Same H H' → H' D = some (.lst vs) → vs.length = xs.length → (∀ i v, vs[i]? = some v → E i v H') → Qd H') :
    ∃ W : Nat → Nat → Hp → Prop, (∃ m, W 0 m (upd H D (.lst []))) ∧ ∀ i m H, W i m H →
      ((Itl K a).stop i H ∧ Qd H) ∨ ((Itl K a).go i H ∧ ∃ Nx : Hp → Prop, (∀ H', Nx H' → ∃ m', m' < m ∧ W (i + 1) m' H') ∧ ∀ x H', (Itl K a).yld i H x H' → gName j x (wipe σ [j]) H' fun σ2 H2 => wipe σ2 [j] = wipe σ [j] ∧ tYes σ2 H2 fun b H3 =>
        if b = true then te σ2 H3 fun y H4 => ∃ acc, H4 D = some (.lst acc) ∧ acc.length < sizeLine ∧ Nx (upd H4 D (.lst (acc ++ [y]))) else Nx H3) := by
  refine lc_list (K := K) (a := a) (xs := xs) (fun i H' => i ≤ xs.length ∧ Same H H' ∧ ∃ vs, H' D = some (.lst vs) ∧ vs.length = i ∧ ∀ k v, vs[k]? = some v → E k v H') ⟨Nat.zero_le _, (Same.refl H).new hD, [], upd_same, rfl, fun k v h => by simp at h⟩ (fun i H' _ h => SqL.of (h.2.1 _ _ hl)) ?_ ?_
  · rintro i x H' hx ⟨_, s, vs, hL, hlen, hE⟩
    have hi : i < xs.length := (List.getElem?_eq_some_iff.mp hx).1
    refine ⟨wipe_set, ?_⟩
    dsimp only [tYes]
    rw [if_pos rfl]
    refine hs i x H' hx s ⟨vs, hL⟩ _ fun v H2 s2 hv => ⟨vs, s2 _ _ hL, small_size (by omega), hi, (s.trans s2).mut hD, vs ++ [v], upd_same, by rw [List.length_append, List.length_singleton, hlen], fun k u hk => ?_⟩
    by_cases q : k < vs.length
    · rw [List.getElem?_append_left q] at hk
      exact mono _ _ _ _ (mono _ _ _ _ (hE k u hk) (s2.x D)) SameX.upd
    · rw [List.getElem?_append_right (by omega)] at hk
      have e : k - vs.length = 0 := by
        have := (List.getElem?_eq_some_iff.mp hk).1
        rw [List.length_singleton] at this
        omega
      rw [e] at hk
      cases hk
      have ek : k = i := by omega
      subst ek
      exact mono _ _ _ _ hv SameX.upd
  · rintro H' ⟨_, s, vs, h1, h2, h3⟩
    exact hd H' vs s h1 h2 h3
/-- whose items are numbers -/
theorem nums_of {n : Nat} {F : Nat → Nat} {vs : List V} (hl : vs.length = n) (h : ∀ i v, vs[i]? = some v → v = vN (F i)) : vs = nums ((List.range n).map F) := by
  refine List.ext_getElem? fun i => ?_
  by_cases q : i < n
  · have e : vs[i]? = some vs[i] := List.getElem?_eq_getElem (by omega)
    rw [e, h i _ e, List.getElem?_map, List.getElem?_map, List.getElem?_range q]
    rfl
  · rw [List.getElem?_eq_none (by omega), List.getElem?_eq_none]
    rw [List.length_map, List.length_map, List.length_range]
    omega
theorem lc_rangeN {n : Nat} (F : Nat → Nat) (hn : n ≤ 1000000) (hD : H D = none)
    (hs : ∀ i H', i < n → Same H H' → ∀ R : VK, (∀ H2, Same H' H2 → R (vN (F i)) H2) → te ((wipe σ [j]).set j (some (vN i))) H' R)
    (hd : ∀ H', Same H H' → IL H' D ((List.range n).map F) → Qd H') :
    ∃ W : Nat → Nat → Hp → Prop, (∃ m, W 0 m (upd H D (.lst []))) ∧ ∀ i m H, W i m H →
      ((Itr 0 n).stop i H ∧ Qd H) ∨ ((Itr 0 n).go i H ∧ ∃ Nx : Hp → Prop, (∀ H', Nx H' → ∃ m', m' < m ∧ W (i + 1) m' H') ∧ ∀ x H', (Itr 0 n).yld i H x H' → gName j x (wipe σ [j]) H' fun σ2 H2 => wipe σ2 [j] = wipe σ [j] ∧ tYes σ2 H2 fun b H3 =>
        if b = true then te σ2 H3 fun y H4 => ∃ acc, H4 D = some (.lst acc) ∧ acc.length < sizeLine ∧ Nx (upd H4 D (.lst (acc ++ [y]))) else Nx H3) :=
  lc_rangeE (fun i v _ => v = vN (F i)) (fun _ _ _ _ h _ => h) hn hD (fun i H' hi s _ R q => hs i H' hi s R fun H2 s2 => q _ H2 s2 rfl) fun H' vs s h1 h2 h3 => hd H' s (by
    show H' D = _
    rw [h1, nums_of h2 h3])
theorem lc_listN {a : Addr} {xs : List V} (F : Nat → Nat) (hn : xs.length ≤ 1000000) (hD : H D = none) (hl : H a = some (.lst xs))
    (hs : ∀ i x H', xs[i]? = some x → Same H H' → ∀ R : VK, (∀ H2, Same H' H2 → R (vN (F i)) H2) → te ((wipe σ [j]).set j (some x)) H' R)
    (hd : ∀ H', Same H H' → IL H' D ((List.range xs.length).map F) → Qd H') :
    ∃ W : Nat → Nat → Hp → Prop, (∃ m, W 0 m (upd H D (.lst []))) ∧ ∀ i m H, W i m H →
      ((Itl K a).stop i H ∧ Qd H) ∨ ((Itl K a).go i H ∧ ∃ Nx : Hp → Prop, (∀ H', Nx H' → ∃ m', m' < m ∧ W (i + 1) m' H') ∧ ∀ x H', (Itl K a).yld i H x H' → gName j x (wipe σ [j]) H' fun σ2 H2 => wipe σ2 [j] = wipe σ [j] ∧ tYes σ2 H2 fun b H3 =>
        if b = true then te σ2 H3 fun y H4 => ∃ acc, H4 D = some (.lst acc) ∧ acc.length < sizeLine ∧ Nx (upd H4 D (.lst (acc ++ [y]))) else Nx H3) :=
  lc_listE (fun i v _ => v = vN (F i)) (fun _ _ _ _ h _ => h) hn hD hl (fun i x H' hx s _ R q => hs i x H' hx s R fun H2 s2 => q _ H2 s2 rfl) fun H' vs s h1 h2 h3 => hd H' s (by
    show H' D = _
    rw [h1, nums_of h2 h3])
/-- whose items are lists of numbers -/
def EL (D : Addr) (F : Nat → List Nat) (i : Nat) (v : V) (H : Hp) : Prop := ∃ x, v = .ref x ∧ x ≠ D ∧ IL H x (F i)
theorem EL.mono {D : Addr} {F : Nat → List Nat} (i : Nat) (v : V) (H H' : Hp) (h : EL D F i v H) (s : SameX D H H') : EL D F i v H' := by
  obtain ⟨x, h1, h2, h3⟩ := h
  exact ⟨x, h1, h2, s _ _ h2 h3⟩
theorem refs_of : ∀ {vs : List V}, (∀ (i : Nat) (v : V), vs[i]? = some v → ∃ x, v = V.ref x) → ∃ as : List Addr, vs = as.map V.ref
  | [], _ => ⟨[], rfl⟩
  | v :: r, h => by
    obtain ⟨x, rfl⟩ := h 0 v rfl
    obtain ⟨as, rfl⟩ := refs_of (vs := r) fun i u hu => h (i + 1) u hu
    exact ⟨x :: as, rfl⟩
theorem ll_of {n : Nat} {F : Nat → List Nat} {vs : List V} (h1 : H D = some (.lst vs)) (hl : vs.length = n) (h : ∀ i v, vs[i]? = some v → EL D F i v H) : LL H D ((List.range n).map F) := by
  obtain ⟨as, rfl⟩ := refs_of fun i v hv => ⟨_, (h i v hv).choose_spec.1⟩
  rw [List.length_map] at hl
  refine ⟨as, h1, by rw [List.length_map, List.length_range, hl], fun i x l hx el => ?_⟩
  obtain ⟨y, e, _, hy⟩ := h i (.ref x) (by rw [List.getElem?_map, hx]; rfl)
  cases e
  have hi := (List.getElem?_eq_some_iff.mp hx).1
  rw [List.getElem?_map, List.getElem?_range (by omega)] at el
  cases el
  exact hy
theorem ne_acc {H : Hp} {D x : Addr} {o : HO} (h : H D = some o) (hx : H x = none) : x ≠ D := (ne_of_none h hx).symm
theorem lc_rangeL {n : Nat} (F : Nat → List Nat) (hn : n ≤ 1000000) (hD : H D = none)
    (hs : ∀ i H', i < n → Same H H' → ∀ R : VK, (∀ x H2, Same H' H2 → H' x = none → IL H2 x (F i) → R (.ref x) H2) → te ((wipe σ [j]).set j (some (vN i))) H' R)
    (hd : ∀ H', Same H H' → LL H' D ((List.range n).map F) → Qd H') :
    ∃ W : Nat → Nat → Hp → Prop, (∃ m, W 0 m (upd H D (.lst []))) ∧ ∀ i m H, W i m H →
      ((Itr 0 n).stop i H ∧ Qd H) ∨ ((Itr 0 n).go i H ∧ ∃ Nx : Hp → Prop, (∀ H', Nx H' → ∃ m', m' < m ∧ W (i + 1) m' H') ∧ ∀ x H', (Itr 0 n).yld i H x H' → gName j x (wipe σ [j]) H' fun σ2 H2 => wipe σ2 [j] = wipe σ [j] ∧ tYes σ2 H2 fun b H3 =>
        if b = true then te σ2 H3 fun y H4 => ∃ acc, H4 D = some (.lst acc) ∧ acc.length < sizeLine ∧ Nx (upd H4 D (.lst (acc ++ [y]))) else Nx H3) :=
  lc_rangeE (EL D F) EL.mono hn hD (fun i H' hi s ⟨acc, ha⟩ R q => hs i H' hi s R fun x H2 s2 hx hL => q _ H2 s2 ⟨x, rfl, ne_acc ha hx, hL⟩) fun H' vs s h1 h2 h3 => hd H' s (ll_of h1 h2 h3)
/-- .. all of them new -/
def LLF (H0 H : Hp) (a : Addr) (ll : List (List Nat)) : Prop := H0 a = none ∧ ∃ as : List Addr, H a = some (.lst (as.map V.ref)) ∧ as.length = ll.length ∧ ∀ (i : Nat) (x : Addr) (l : List Nat), as[i]? = some x → ll[i]? = some l → H0 x = none ∧ IL H x l
theorem LLF.ll {H0 H : Hp} {a : Addr} {ll : List (List Nat)} (h : LLF H0 H a ll) : LL H a ll := by
  obtain ⟨_, as, h1, h2, h3⟩ := h
  exact ⟨as, h1, h2, fun i x l e1 e2 => (h3 i x l e1 e2).2⟩
theorem LLF.off {H0 H : Hp} {a so : Addr} {ll : List (List Nat)} (h : LLF H0 H a ll) (hso : H0 so ≠ none) : LL (Off so H) a ll := by
  obtain ⟨h0, as, h1, h2, h3⟩ := h
  refine ⟨as, by rw [off_ne (ne_so hso h0)]; exact h1, h2, fun i x l e1 e2 => ?_⟩
  obtain ⟨g1, g2⟩ := h3 i x l e1 e2
  show Off so H x = _
  rw [off_ne (ne_so hso g1)]
  exact g2
theorem LLF.same {H0 H H' : Hp} {a : Addr} {ll : List (List Nat)} (h : LLF H0 H a ll) (s : Same H H') : LLF H0 H' a ll := by
  obtain ⟨h0, as, h1, h2, h3⟩ := h
  exact ⟨h0, as, s _ _ h1, h2, fun i x l e1 e2 => ⟨(h3 i x l e1 e2).1, s.il (h3 i x l e1 e2).2⟩⟩
theorem LLF.back {H0 H1 H : Hp} {a : Addr} {ll : List (List Nat)} (h : LLF H1 H a ll) (s : Same H0 H1) : LLF H0 H a ll := by
  obtain ⟨h0, as, h1, h2, h3⟩ := h
  exact ⟨s.free h0, as, h1, h2, fun i x l e1 e2 => ⟨s.free (h3 i x l e1 e2).1, (h3 i x l e1 e2).2⟩⟩
theorem lc_rangeLF {n : Nat} (F : Nat → List Nat) (hn : n ≤ 1000000) (hD : H D = none)
    (hs : ∀ i H', i < n → Same H H' → ∀ R : VK, (∀ x H2, Same H' H2 → H' x = none → IL H2 x (F i) → R (.ref x) H2) → te ((wipe σ [j]).set j (some (vN i))) H' R)
    (hd : ∀ H', Same H H' → LLF H H' D ((List.range n).map F) → Qd H') :
    ∃ W : Nat → Nat → Hp → Prop, (∃ m, W 0 m (upd H D (.lst []))) ∧ ∀ i m H, W i m H →
      ((Itr 0 n).stop i H ∧ Qd H) ∨ ((Itr 0 n).go i H ∧ ∃ Nx : Hp → Prop, (∀ H', Nx H' → ∃ m', m' < m ∧ W (i + 1) m' H') ∧ ∀ x H', (Itr 0 n).yld i H x H' → gName j x (wipe σ [j]) H' fun σ2 H2 => wipe σ2 [j] = wipe σ [j] ∧ tYes σ2 H2 fun b H3 =>
        if b = true then te σ2 H3 fun y H4 => ∃ acc, H4 D = some (.lst acc) ∧ acc.length < sizeLine ∧ Nx (upd H4 D (.lst (acc ++ [y]))) else Nx H3) :=
  lc_rangeE (fun i v H' => ∃ x, v = .ref x ∧ x ≠ D ∧ H x = none ∧ IL H' x (F i)) (fun i v H1 H2 h s => by
    obtain ⟨x, h1, h2, h3, h4⟩ := h
    exact ⟨x, h1, h2, h3, s _ _ h2 h4⟩) hn hD (fun i H' hi s ⟨acc, ha⟩ R q => hs i H' hi s R fun x H2 s2 hx hL => q _ H2 s2 ⟨x, rfl, ne_acc ha hx, s.free hx, hL⟩) fun H' vs s h1 h2 h3 => hd H' s (by
      obtain ⟨as, rfl⟩ := refs_of fun i v hv => ⟨_, (h3 i v hv).choose_spec.1⟩
      rw [List.length_map] at h2
      refine ⟨hD, as, h1, by rw [List.length_map, List.length_range, h2], fun i x l hx el => ?_⟩
      obtain ⟨y, e, _, hy0, hy⟩ := h3 i (.ref x) (by rw [List.getElem?_map, hx]; rfl)
      cases e
      have hi := (List.getElem?_eq_some_iff.mp hx).1
      rw [List.getElem?_map, List.getElem?_range (by omega)] at el
      cases el
      exact ⟨hy0, hy⟩)
theorem lc_listL {a : Addr} {xs : List V} (F : Nat → List Nat) (hn : xs.length ≤ 1000000) (hD : H D = none) (hl : H a = some (.lst xs))
    (hs : ∀ i x H', xs[i]? = some x → Same H H' → ∀ R : VK, (∀ x H2, Same H' H2 → H' x = none → IL H2 x (F i) → R (.ref x) H2) → te ((wipe σ [j]).set j (some x)) H' R)
    (hd : ∀ H', Same H H' → LL H' D ((List.range xs.length).map F) → Qd H') :
    ∃ W : Nat → Nat → Hp → Prop, (∃ m, W 0 m (upd H D (.lst []))) ∧ ∀ i m H, W i m H →
      ((Itl K a).stop i H ∧ Qd H) ∨ ((Itl K a).go i H ∧ ∃ Nx : Hp → Prop, (∀ H', Nx H' → ∃ m', m' < m ∧ W (i + 1) m' H') ∧ ∀ x H', (Itl K a).yld i H x H' → gName j x (wipe σ [j]) H' fun σ2 H2 => wipe σ2 [j] = wipe σ [j] ∧ tYes σ2 H2 fun b H3 =>
        if b = true then te σ2 H3 fun y H4 => ∃ acc, H4 D = some (.lst acc) ∧ acc.length < sizeLine ∧ Nx (upd H4 D (.lst (acc ++ [y]))) else Nx H3) :=
  lc_listE (EL D F) EL.mono hn hD hl (fun i x H' hx s ⟨acc, ha⟩ R q => hs i x H' hx s R fun x H2 s2 hx hL => q _ H2 s2 ⟨x, rfl, ne_acc ha hx, hL⟩) fun H' vs s h1 h2 h3 => hd H' s (ll_of h1 h2 h3)
end

/-! ### for -/
section
variable {K : PySem.W.Frag} {te : TE} {g : TG} {tb : TS} {D : Ends} {σ : L2.St} {H : Hp}
theorem rng_of {R : It → Hp → Prop} {n : Nat} (h : Vp te σ H (vN n)) (hn : n ≤ 1000000) (q : R (Itr 0 n) H) : iRng1 (tCons te tNil) σ H R := h _ ⟨_, rfl, (small_62 hn).1, (small_62 hn).2, q⟩
theorem lst_of {R : It → Hp → Prop} {a : Addr} {xs : List V} (h : Vp te σ H (.ref a)) (hl : H a = some (.lst xs)) (q : R (Itl K a) H) : iList K te σ H R := h _ ⟨a, rfl, ⟨_, SqL.of hl⟩, q⟩
theorem st_forR {n : Nat} (h : Vp te σ H (.int (n : Int))) (hn : n ≤ 1000000) (Pv : Nat → L2.St → Hp → Prop) (h0 : Pv 0 σ H)
    (hs : ∀ i σ H, i < n → Pv i σ H → g (vN i) σ H fun σ2 H2 => tb { D with nx := Pv (i + 1), ct := Pv (i + 1), bk := D.nx } σ2 H2) (hd : ∀ σ H, Pv n σ H → D.nx σ H) : tFor (iRng1 (tCons te tNil)) g tb D σ H := by
  refine h _ ?_
  refine ⟨_, rfl, (small_62 hn).1, (small_62 hn).2, ?_⟩
  exact for_range (lo := 0) (n := n) Pv h0 (fun i σ H hi p => by
    rw [Int.zero_add]
    exact hs i σ H hi p) hd
theorem sq_forR {n : Nat} {u : TS} (h : Vp te σ H (.int (n : Int))) (hn : n ≤ 1000000) (Pv : Nat → L2.St → Hp → Prop) (h0 : Pv 0 σ H)
    (hs : ∀ i σ H, i < n → Pv i σ H → g (vN i) σ H fun σ2 H2 => tb { D with nx := Pv (i + 1), ct := Pv (i + 1), bk := u D } σ2 H2) (hd : ∀ σ H, Pv n σ H → u D σ H) : tSeq (tFor (iRng1 (tCons te tNil)) g tb) u D σ H :=
  st_forR (D := { D with nx := u D }) h hn Pv h0 hs hd
theorem st_forL {a : Addr} {xs : List V} (h : Vp te σ H (.ref a)) (hl : H a = some (.lst xs)) (Pv : Nat → L2.St → Hp → Prop) (h0 : Pv 0 σ H) (hk : ∀ i σ H, i ≤ xs.length → Pv i σ H → H a = some (.lst xs))
    (hs : ∀ i x σ H, xs[i]? = some x → Pv i σ H → g x σ H fun σ2 H2 => tb { D with nx := Pv (i + 1), ct := Pv (i + 1), bk := D.nx } σ2 H2) (hd : ∀ σ H, Pv xs.length σ H → D.nx σ H) : tFor (iList K te) g tb D σ H := by
  refine h _ ?_
  exact ⟨a, rfl, ⟨_, SqL.of hl⟩, for_list (K := K) (a := a) (xs := xs) Pv h0 (fun i σ H hi p => SqL.of (hk i σ H hi p)) hs hd⟩
theorem sq_forL {a : Addr} {xs : List V} {u : TS} (h : Vp te σ H (.ref a)) (hl : H a = some (.lst xs)) (Pv : Nat → L2.St → Hp → Prop) (h0 : Pv 0 σ H) (hk : ∀ i σ H, i ≤ xs.length → Pv i σ H → H a = some (.lst xs))
    (hs : ∀ i x σ H, xs[i]? = some x → Pv i σ H → g x σ H fun σ2 H2 => tb { D with nx := Pv (i + 1), ct := Pv (i + 1), bk := u D } σ2 H2) (hd : ∀ σ H, Pv xs.length σ H → u D σ H) : tSeq (tFor (iList K te) g tb) u D σ H :=
  st_forL (D := { D with nx := u D }) h hl Pv h0 hk hs hd
end

/-! ### xs[i] op= e -/
theorem get_list {X : Cx} : PGet X (fun o i H Q => ∃ p xs k v, o = .ref p ∧ i = .int k ∧ H p = some (.lst xs) ∧ 0 ≤ k ∧ atI xs k = some v ∧ Q v H) := fun pins s σ H o i ov iv Q inv ho hi hr => by
  obtain ⟨p, xs, k, v, eo, ei, hlist, hpos, hat, hQ⟩ := hr
  subst eo ei
  have eov : ov = Value.ref p := ho
  obtain ⟨tok, eiv⟩ : ∃ t, iv = Value.int k t := hi
  subst eov eiv
  obtain ⟨its, vals, isl, small⟩ := inv.list (SqL.of hlist)
  obtain ⟨place, hseq, hplace, _, _, below⟩ := atI_get hat
  obtain ⟨item, hitem, rel⟩ := vals.get hplace
  have ek : k.toNat = place := by
    have := (seqIndex_of hpos below).symm.trans hseq
    exact Option.some.inj this
  have line := line63
  have bound : k < 2 ^ 63 := by omega
  exact getItem_listL isl.isList hpos bound (by rw [ek]; simpa using hitem) ⟨v, H, inv, rel, hQ⟩

/-! ### the same within a comprehension's block -/
theorem call_lenK {X : Cx} {K : PySem.W.Frag} (h : X.K = K) : CallR X (.builtin "len") (fun xs H Q => ∃ p ys, xs = [.ref p] ∧ (SqL K H p ys ∨ SqT K H p ys) ∧ Q (.int ys.length) H) := by
  subst h
  exact call_len_seq
theorem ix_listK {X : Cx} {K : PySem.W.Frag} (h : X.K = K) : IxR X (rIxL K) := by
  subst h
  exact ix_list

/-! ### a def that is called -/
structure Cal (P : Program) (w : World) (K : PySem.W.Frag) (mg : Str → Option Value) (base : Heap) (x : Str) (k : Nat) (ps : List Str) (sp : Sp) (f : Addr) (fd : FuncData) : Prop where
  ok : FnOk P w K mg base CX0 k f fd ps sp
  g : mg x = some (.ref f)
  kp : PySem.W.keepIn K (.ref f) = true
  b : Binds K fd ps []
theorem pcall {X : Cx} {x : Str} {k j : Nat} {ps : List Str} {sp : Sp} {f : Addr} {fd : FuncData} {e : Expr} {es : List Expr} {t : TA} {p pos : Pos} (C : Cal X.prog X.w X.K X.mg X.base x k ps sp f fd) (hr : Room j X.A) (hj : k ≤ j) (hg : Gl X x) (ha : PA X (e :: es) t)
    (hdb : (x == ("__debug__" : Str)) = false := by decide) (he : starEach (e :: es) X.env = (false, eval e X.env) :: starEach es X.env := by rfl) (hpl : (backTo pos (starEach es X.env)).any (·.1) = false := by rfl) : PE X (.Call (.Name x p) (e :: es) [] pos) (tCall sp [] E0 t) :=
  pe_call C.ok (hr.mono hj) hg C.g C.kp C.b .nil pass0 ha hdb he hpl
theorem pcall0 {X : Cx} {x : Str} {k j : Nat} {ps : List Str} {sp : Sp} {f : Addr} {fd : FuncData} {p pos : Pos} (C : Cal X.prog X.w X.K X.mg X.base x k ps sp f fd) (hr : Room j X.A) (hj : k ≤ j) (hg : Gl X x)
    (hdb : (x == ("__debug__" : Str)) = false := by decide) : PE X (.Call (.Name x p) [] [] pos) (tCall sp [] E0 tNil) :=
  pe_call0 C.ok (hr.mono hj) hg C.g C.kp C.b .nil pass0 hdb
/-- the built-ins' names are free -/
structure Blt (mg : Str → Option Value) : Prop where
  len : mg "len" = none
  range : mg "range" = none
  enumerate : mg "enumerate" = none
  sum : mg "sum" = none
  list : mg "list" = none
end PO

/-! The walk, 1: costs. -/
namespace PO
open PySem PySem.Spec PyProof.Rows L2
def topS (i : Nat) : Stmt := PySem.Challenge.pw_pairedoff_s01_answers.main.body.getD i (.Pass ⟨0, 0, 0, 0⟩)
abbrev s_cost : Stmt := topS 1
abbrev N_cost : List Str := ["liking", "x", "at", "other"]
theorem sc_cost : FnScope N_cost ["liking", "x"] (defScope s_cost) := ⟨rfl, rfl, rfl, by decide +kernel, rfl, by decide +kernel, by decide +kernel⟩
abbrev s_cost_row : Stmt := topS 2
abbrev N_cost_row : List Str := ["liking", "others", "x"]
theorem sc_cost_row : FnScope N_cost_row ["liking", "others"] (defScope s_cost_row) := ⟨rfl, rfl, rfl, by decide +kernel, rfl, by decide +kernel, by decide +kernel⟩
abbrev s_cost_side : Stmt := topS 3
abbrev N_cost_side : List Str := ["side", "others", "liking"]
theorem sc_cost_side : FnScope N_cost_side ["side", "others"] (defScope s_cost_side) := ⟨rfl, rfl, rfl, by decide +kernel, rfl, by decide +kernel, by decide +kernel⟩
abbrev s_cost_table : Stmt := topS 4
abbrev N_cost_table : List Str := ["lists"]
theorem sc_cost_table : FnScope N_cost_table ["lists"] (defScope s_cost_table) := ⟨rfl, rfl, rfl, by decide +kernel, rfl, by decide +kernel, by decide +kernel⟩
section
variable {P : Program} {w : World} {K : PySem.W.Frag} {mg : Str → Option Value} {base : Heap}
/-! ### loops -/
theorem for_enum {a : Addr} {xs : List V} {g : TG} {tb : TS} {D : Ends} {σ : L2.St} {H : Hp} (Pv : Nat → L2.St → Hp → Prop) (h0 : Pv 0 σ H) (hl : ∀ i σ H, i ≤ xs.length → Pv i σ H → SqL K H a xs)
    (hs : ∀ (i : Nat) x T σ H, xs[i]? = some x → H T = none → Pv i σ H → g (.ref T) σ (upd H T (.tup [.int (i : Int), x])) fun σ2 H2 => tb { D with nx := Pv (i + 1), ct := Pv (i + 1), bk := D.nx } σ2 H2) (hd : ∀ σ H, Pv xs.length σ H → D.nx σ H) :
    ∃ W : Nat → Nat → L2.St → Hp → Prop, (∃ m, W 0 m σ H) ∧ ∀ i m σ H, W i m σ H →
      ((Ite K a).stop i H ∧ D.nx σ H) ∨ ((Ite K a).go i H ∧ ∃ N : L2.St → Hp → Prop, (∀ σ' H', N σ' H' → ∃ m', m' < m ∧ W (i + 1) m' σ' H') ∧ ∀ x H', (Ite K a).yld i H x H' → g x σ H' fun σ2 H2 => tb { D with nx := N, ct := N, bk := D.nx } σ2 H2) := by
  refine ⟨fun t left τ G => t + left = xs.length ∧ Pv t τ G, ⟨xs.length, Nat.zero_add _, h0⟩, fun t left τ G hw => ?_⟩
  obtain ⟨hsum, hp⟩ := hw
  have seen : SqL K G a xs := hl t τ G (by omega) hp
  cases left with
  | zero =>
    have et : t = xs.length := hsum
    rw [et] at hp
    exact Or.inl ⟨⟨xs, seen, Nat.le_of_eq et.symm⟩, hd τ G hp⟩
  | succ left =>
    have at_t : xs[t]? = some (xs[t]'(by omega)) := List.getElem?_eq_getElem (by omega)
    refine Or.inr ⟨⟨xs, _, seen, at_t⟩, Pv (t + 1), fun τ' G' hp' => ⟨left, Nat.lt_succ_self _, by omega, hp'⟩, ?_⟩
    rintro v G' ⟨T, z, rfl, fresh, rfl, hz⟩
    exact hs t z T τ G (hz xs seen) fresh hp

/-! ### cost -/
theorem rank_found {l : List Nat} {i y : Nat} (h : l[i]? = some y) (hn : ∀ (j n : Nat), j < i → l[j]? = some n → n + 1 ≠ y + 1) : Mate.rank l (y + 1) = i := by
  have h1 := rank_at h
  have h2 := (List.getElem?_eq_some_iff.mp h).1
  have h3 := rank_get (l := l) (x := y) (by omega)
  apply Decidable.byContradiction
  intro q
  exact hn _ _ (by omega) h3 rfl
theorem rank_none {l : List Nat} {x : Nat} (hn : ∀ (j n : Nat), j < l.length → l[j]? = some n → n + 1 ≠ x) : Mate.rank l x = l.length := by
  cases x with
  | zero => rfl
  | succ y =>
    have h1 := rank_le l (y + 1)
    apply Decidable.byContradiction
    intro q
    exact hn _ _ (by omega) (rank_get (l := l) (x := y) (by omega)) rfl
def sp_cost (K : PySem.W.Frag) : Sp := fun vs H Q _ => ∃ (a : Addr) (l : List Nat) (x : Nat), vs = [.ref a, vN x] ∧ IL H a l ∧ ∀ H', Same H H' → Q (vN (Mate.rank l x)) H'
theorem ok_cost {f : Addr} {fd : FuncData} (F : Fun K "cost" "cost" s_cost f fd) (B : Blt mg) : FnOk P w K mg base CX0 1 f fd ["liking", "x"] (sp_cost K) := by
  refine F.ok sc_cost (fun vs H Q E h => ?_) (fun cdv A outer s H vs Q E hr h => ?_)
  · obtain ⟨a, l, x, rfl, _⟩ := h
    rfl
  · obtain ⟨a, l, x, rfl, hl, q⟩ := h
    refine ⟨_, (pss_cons (ps_for PassesOwn.never rfl (pi_enum (by rfl) B.enumerate (pa_cons (pv 0) pa_nil)) (pg_tup (by rfl) (pgs_cons (pg_name (i := 2) sc_cost.nd rfl (.inl rfl)) (pgs_cons (pg_name (i := 3) sc_cost.nd rfl (.inl rfl)) pgs_nil))) (pss_one (ps_if (pt_cmp (pc_eqI (pe_op op_add (pv 3) pe_int) (pv 1))) (pss_one (ps_ret (pv 2))) pss_nil)))
      (pss_one (ps_ret (pe_callB (call_lenK (K := K) rfl) (by rfl) B.len PySem.boot_len (pa_cons (pv 0) pa_nil))))), ?_⟩
    refine ⟨.ref a, rfl, a, nums l, rfl, hl.sq, for_enum (K := K) (a := a) (xs := nums l)
      (fun i σ H' => ∃ v2 v3, σ = [some (.ref a), some (vN x), v2, v3] ∧ Same H H' ∧ ∀ (j n : Nat), j < i → l[j]? = some n → n + 1 ≠ x)
      ⟨none, none, rfl, Same.refl H, fun j n hj => by omega⟩ (fun i σ H' _ ⟨_, _, _, s, _⟩ => (s.il hl).sq) ?_ ?_⟩
    · rintro i y T σ H' hi nT ⟨v2, v3, rfl, s, hn⟩
      have s' : Same H (upd H' T (.tup [.int (i : Int), y])) := s.new nT
      rw [List.getElem?_map] at hi
      obtain ⟨n, en, rfl⟩ := Option.map_eq_some_iff.mp hi
      refine ⟨T, _, rfl, SqT.of upd_same, rfl, _, _, rfl, _, _, rfl, rfl, ?_⟩
      refine st_if2 (vp_cmp (vp_add (vp_var rfl) vp_c) (vp_var rfl)) (fun c => ?_) (fun c => ?_)
      · have c' : n + 1 = x := by omega
        subst c'
        refine st_ret (vp_var rfl) ?_
        have := q _ s'
        rw [rank_found en hn] at this
        exact this
      · refine ⟨_, _, rfl, s', fun j m hj hm => ?_⟩
        by_cases e : j = i
        · subst e
          rw [en] at hm
          cases hm
          intro e
          apply c
          omega
        · exact hn j m (by omega) hm
    · rintro σ H' ⟨v2, v3, rfl, s, hn⟩
      rw [nums_len] at hn
      refine st_ret (vp_lenN (vp_var rfl) (s.il hl)) ?_
      have := q _ s
      rw [rank_none hn] at this
      exact this
/-! ### cost_row -/
def row (l : List Nat) (m : Nat) : List Nat := (List.range (m + 1)).map (Mate.rank l)
def sp_cost_row (K : PySem.W.Frag) : Sp := fun vs H Q _ => ∃ (a : Addr) (l : List Nat) (m : Nat), vs = [.ref a, vN m] ∧ IL H a l ∧ m ≤ 1000 ∧ ∀ (H' : Hp) (p : Addr), Same H H' → H p = none → IL H' p (row l m) → Q (.ref p) H'
theorem ok_cost_row {f : Addr} {fd : FuncData} (F : Fun K "cost_row" "cost_row" s_cost_row f fd) (B : Blt mg) {f_cost : Addr} {d_cost : FuncData} (c_cost : Cal P w K mg base "cost" 1 ["liking", "x"] (sp_cost K) f_cost d_cost) : FnOk P w K mg base CX0 2 f fd ["liking", "others"] (sp_cost_row K) := by
  refine F.ok sc_cost_row (fun vs H Q E h => ?_) (fun cdv A outer s H vs Q E hr h => ?_)
  · obtain ⟨a, l, x, rfl, _⟩ := h
    rfl
  · obtain ⟨a, l, m, rfl, hl, hm, q⟩ := h
    refine ⟨_, (pss_one (ps_ret (pe_lc (own := [("x", 2)]) (g := gName 2) (tt := tYes) rfl sc_cost_row.nd (pi_range1 (by rfl) B.range (pa_cons (pe_op op_add (pv 1) pe_int) pa_nil)) (blkOk_by (own := [("x", 2)]) (N := N_cost_row) (sc := defScope s_cost_row) (by decide +kernel)) (fun _ _ _ _ _ => pg_name (i := 2) sc_cost_row.nd rfl (.inl rfl)) (fun _ _ _ _ _ => pts_nil) (fun _ _ _ _ _ => (pcall c_cost hr (by decide) (by rfl) (pa_cons (pv 0) (pa_cons (pv 2) pa_nil))))))), ?_⟩
    refine (vp_add (vp_var (by rfl)) vp_c) _ ⟨((m + 1 : Nat) : Int), rfl, (small_62 (by omega)).1, (small_62 (by omega)).2, fun D hD => ?_⟩
    refine lc_rangeN (n := m + 1) (Mate.rank l) (by omega) hD (fun i H' hi s R q => ?_) (fun H' s hL => q H' D s hD hL)
    exact ⟨_, rfl, _, rfl, a, l, i, rfl, s.il hl, q⟩

/-! ### cost_side -/
def rows (ll : List (List Nat)) (m : Nat) : List (List Nat) := ll.map fun l => row l m
theorem map_range {A B : Type} (F : A → B) (d : A) : ∀ l : List A, ((List.range l.length).map fun i => F (l.getD i d)) = l.map F := fun l => by
  refine List.ext_getElem? fun i => ?_
  by_cases q : i < l.length
  · rw [List.getElem?_map, List.getElem?_map, List.getElem?_range q, getD_some (d := d) q]
    rfl
  · rw [List.getElem?_eq_none, List.getElem?_eq_none]
    · rw [List.length_map]
      omega
    · rw [List.length_map, List.length_range]
      omega
def sp_cost_side (K : PySem.W.Frag) : Sp := fun vs H Q _ => ∃ (a : Addr) (ll : List (List Nat)) (m : Nat), vs = [.ref a, vN m] ∧ LL H a ll ∧ ll.length ≤ 1000 ∧ m ≤ 1000 ∧ ∀ (H' : Hp) (p : Addr), Same H H' → H p = none → LL H' p (rows ll m) → Q (.ref p) H'
theorem ok_cost_side {f : Addr} {fd : FuncData} (F : Fun K "cost_side" "cost_side" s_cost_side f fd) (B : Blt mg) {f_cost_row : Addr} {d_cost_row : FuncData} (c_cost_row : Cal P w K mg base "cost_row" 2 ["liking", "others"] (sp_cost_row K) f_cost_row d_cost_row) : FnOk P w K mg base CX0 3 f fd ["side", "others"] (sp_cost_side K) := by
  refine F.ok sc_cost_side (fun vs H Q E h => ?_) (fun cdv A outer s H vs Q E hr h => ?_)
  · obtain ⟨a, l, x, rfl, _⟩ := h
    rfl
  · obtain ⟨a, ll, m, rfl, hl, hlen, hm, q⟩ := h
    refine ⟨_, (pss_one (ps_ret (pe_lc (own := [("liking", 2)]) (g := gName 2) (tt := tYes) rfl sc_cost_side.nd (pi_list (pv 0)) (blkOk_by (own := [("liking", 2)]) (N := N_cost_side) (sc := defScope s_cost_side) (by decide +kernel)) (fun _ _ _ _ _ => pg_name (i := 2) sc_cost_side.nd rfl (.inl rfl)) (fun _ _ _ _ _ => pts_nil) (fun _ _ _ _ _ => (pcall c_cost_row hr (by decide) (by rfl) (pa_cons (pv 2) (pa_cons (pv 1) pa_nil))))))), ?_⟩
    obtain ⟨as, h1, h2, h3⟩ := hl
    refine ⟨_, rfl, a, rfl, ⟨_, SqL.of h1⟩, fun D hD => ?_⟩
    refine lc_listL (a := a) (xs := as.map V.ref) (fun i => row (ll.getD i []) m) (by rw [List.length_map]; omega) hD h1 (fun i x H' hx s R q => ?_) (fun H' s hL => q H' D s hD ?_)
    · rw [List.getElem?_map] at hx
      obtain ⟨y, hy, rfl⟩ := Option.map_eq_some_iff.mp hx
      have hi := (List.getElem?_eq_some_iff.mp hy).1
      exact ⟨_, rfl, _, rfl, y, ll.getD i [], m, rfl, s.il (h3 i y _ hy (getD_some (by omega))), hm, fun H2 p s2 hp hL => q p H2 s2 hp hL⟩
    · rw [List.length_map, h2, map_range (fun l => row l m) []] at hL
      exact hL

/-! ### cost_table -/
def tab0 (k : Mate.Book) : List (List Nat) := rows k.here k.there.length
def tab1 (k : Mate.Book) : List (List Nat) := rows k.there k.here.length
def Bk (H : Hp) (a : Addr) (k : Mate.Book) : Prop := Duo H a k.here k.there
def Tb (H : Hp) (a : Addr) (k : Mate.Book) : Prop := Duo H a (tab0 k) (tab1 k)
theorem LL.len {K : PySem.W.Frag} {H : Hp} {a : Addr} {ll : List (List Nat)} (h : LL H a ll) : ∃ xs, SqL K H a xs ∧ xs.length = ll.length := by
  obtain ⟨as, h1, h2, _⟩ := h
  exact ⟨_, SqL.of h1, by rw [List.length_map, h2]⟩
theorem vp_lenL {σ : L2.St} {H : Hp} {ta : TE} {a : Addr} {ll : List (List Nat)} (ha : Vp ta σ H (.ref a)) (hs : LL H a ll) : Vp (tCB (fun xs H Q => ∃ p ys, xs = [.ref p] ∧ (SqL K H p ys ∨ SqT K H p ys) ∧ Q (.int ys.length) H) (tCons ta tNil)) σ H (.int (ll.length : Int)) := by
  obtain ⟨xs, h1, h2⟩ := LL.len (K := K) hs
  have := vp_len ha h1
  rw [h2] at this
  exact this
theorem vp_fst {σ : L2.St} {H : Hp} {ta : TE} {a : Addr} {xs : List V} {v : V} (ha : Vp ta σ H (.ref a)) (hs : SqL K H a (v :: xs)) : Vp (tOp (rIxL K) ta (tC (.int 0))) σ H v := vp_ix ha vp_c hs (atI_nat (j := 0) rfl)
theorem vp_snd {σ : L2.St} {H : Hp} {ta : TE} {a : Addr} {xs : List V} {u v : V} (ha : Vp ta σ H (.ref a)) (hs : SqL K H a (u :: v :: xs)) : Vp (tOp (rIxL K) ta (tC (.int 1))) σ H v := vp_ix ha vp_c hs (atI_nat (j := 1) rfl)
def sp_cost_table (K : PySem.W.Frag) : Sp := fun vs H Q _ => ∃ (a : Addr) (k : Mate.Book), vs = [.ref a] ∧ Bk H a k ∧ k.here.length ≤ 6 ∧ k.there.length ≤ 6 ∧ ∀ (H' : Hp) (p : Addr), Same H H' → Tb H' p k → Q (.ref p) H'
theorem ok_cost_table {f : Addr} {fd : FuncData} (F : Fun K "cost_table" "cost_table" s_cost_table f fd) (B : Blt mg) {f_cost_side : Addr} {d_cost_side : FuncData} (c_cost_side : Cal P w K mg base "cost_side" 3 ["side", "others"] (sp_cost_side K) f_cost_side d_cost_side) : FnOk P w K mg base CX0 4 f fd ["lists"] (sp_cost_table K) := by
  refine F.ok sc_cost_table (fun vs H Q E h => ?_) (fun cdv A outer s H vs Q E hr h => ?_)
  · obtain ⟨a, k, rfl, _⟩ := h
    rfl
  · obtain ⟨a, k, rfl, ⟨a0, a1, h1, h2, h3⟩, n6, m6, q⟩ := h
    refine ⟨_, (pss_one (ps_ret (pe_lst (pa_cons (pcall c_cost_side hr (by decide) (by rfl) (pa_cons (pe_ix (ix_listK (K := K) rfl) (pv 0) pe_int (fun _ _ => rfl)) (pa_cons (pe_callB (call_lenK (K := K) rfl) (by rfl) B.len PySem.boot_len (pa_cons (pe_ix (ix_listK (K := K) rfl) (pv 0) pe_int (fun _ _ => rfl)) pa_nil)) pa_nil))) (pa_cons (pcall c_cost_side hr (by decide) (by rfl) (pa_cons (pe_ix (ix_listK (K := K) rfl) (pv 0) pe_int (fun _ _ => rfl)) (pa_cons (pe_callB (call_lenK (K := K) rfl) (by rfl) B.len PySem.boot_len (pa_cons (pe_ix (ix_listK (K := K) rfl) (pv 0) pe_int (fun _ _ => rfl)) pa_nil)) pa_nil))) pa_nil))))), ?_⟩
    refine vp_fst (vp_var (by rfl)) (SqL.of h1) _ (vp_lenL (vp_snd (vp_var (by rfl)) (SqL.of h1)) h3 _ ?_)
    refine ⟨a0, k.here, k.there.length, rfl, h2, by omega, by omega, fun H1 p s1 hp hL => ?_⟩
    have g1 := s1 _ _ h1
    have g2 := s1.ll h2
    have g3 := s1.ll h3
    refine vp_snd (vp_var (by rfl)) (SqL.of g1) _ (vp_lenL (vp_fst (vp_var (by rfl)) (SqL.of g1)) g2 _ ?_)
    refine ⟨a1, k.there, k.here.length, rfl, g3, by omega, by omega, fun H2 p2 s2 hp2 hL2 => ?_⟩
    refine ⟨by show 2 ≤ sizeLine; decide, fun t ht => q _ t ((s1.trans s2).new ht) ⟨p, p2, upd_same, ?_, ?_⟩⟩
    · exact ((Same.refl H2).new ht).ll (s2.ll hL)
    · exact ((Same.refl H2).new ht).ll hL2
end
end PO

/-! The walk, 2: ways. -/
namespace PO
open PySem PySem.Spec PyProof.Rows L2
abbrev s_entry_back : Stmt := topS 6
abbrev N_entry_back : List Str := ["w", "j", "i"]
theorem sc_entry_back : FnScope N_entry_back ["w", "j"] (defScope s_entry_back) := ⟨rfl, rfl, rfl, by decide +kernel, rfl, by decide +kernel, by decide +kernel⟩
abbrev s_entry_of : Stmt := topS 7
abbrev N_entry_of : List Str := ["w", "s", "i"]
theorem sc_entry_of : FnScope N_entry_of ["w", "s", "i"] (defScope s_entry_of) := ⟨rfl, rfl, rfl, by decide +kernel, rfl, by decide +kernel, by decide +kernel⟩
abbrev s_mutual : Stmt := topS 8
abbrev N_mutual : List Str := ["table", "i", "j", "has_j", "has_i"]
theorem sc_mutual : FnScope N_mutual ["table", "i", "j"] (defScope s_mutual) := ⟨rfl, rfl, rfl, by decide +kernel, rfl, by decide +kernel, by decide +kernel⟩
abbrev s_fits : Stmt := topS 9
abbrev N_fits : List Str := ["table", "w", "i", "x"]
theorem sc_fits : FnScope N_fits ["table", "w", "i"] (defScope s_fits) := ⟨rfl, rfl, rfl, by decide +kernel, rfl, by decide +kernel, by decide +kernel⟩
abbrev s_is_way : Stmt := topS 10
abbrev N_is_way : List Str := ["table", "w", "i"]
theorem sc_is_way : FnScope N_is_way ["table", "w"] (defScope s_is_way) := ⟨rfl, rfl, rfl, by decide +kernel, rfl, by decide +kernel, by decide +kernel⟩
abbrev s_go_off : Stmt := topS 11
abbrev N_go_off : List Str := ["table", "w", "i", "j", "i_would", "j_would"]
theorem sc_go_off : FnScope N_go_off ["table", "w", "i", "j"] (defScope s_go_off) := ⟨rfl, rfl, rfl, by decide +kernel, rfl, by decide +kernel, by decide +kernel⟩
abbrev s_off_pairs : Stmt := topS 12
abbrev N_off_pairs : List Str := ["table", "w", "found", "i", "j"]
theorem sc_off_pairs : FnScope N_off_pairs ["table", "w"] (defScope s_off_pairs) := ⟨rfl, rfl, rfl, by decide +kernel, rfl, by decide +kernel, by decide +kernel⟩
abbrev s_way_cost : Stmt := topS 13
abbrev N_way_cost : List Str := ["table", "w", "s", "total", "i"]
theorem sc_way_cost : FnScope N_way_cost ["table", "w", "s"] (defScope s_way_cost) := ⟨rfl, rfl, rfl, by decide +kernel, rfl, by decide +kernel, by decide +kernel⟩

/-! ### a table's rows -/
theorem row_get {l : List Nat} {m x : Nat} (h : x ≤ m) : (row l m)[x]? = some (Mate.rank l x) := by
  unfold row
  rw [List.getElem?_map, List.getElem?_range (by omega)]
  rfl
theorem rows_get {ll : List (List Nat)} {m i : Nat} (h : i < ll.length) : (rows ll m)[i]? = some (row (ll.getD i []) m) := by
  unfold rows
  rw [List.getElem?_map, getD_some (d := []) h]
  rfl
theorem rows_len (ll : List (List Nat)) (m : Nat) : (rows ll m).length = ll.length := List.length_map _
section
variable {P : Program} {w : World} {K : PySem.W.Frag} {mg : Str → Option Value} {base : Heap}
/-- who stands where: the list of one of a side -/
def sl (k : Mate.Book) (s i : Nat) : List Nat := if s = 0 then k.list0 i else k.list1 i
def sn (k : Mate.Book) (s : Nat) : Nat := if s = 0 then k.here.length else k.there.length
theorem sn_zero (k : Mate.Book) : sn k 0 = k.here.length := rfl
theorem sn_one (k : Mate.Book) : sn k 1 = k.there.length := rfl
/-- the row of one of a side -/
theorem Tb.row {H : Hp} {a : Addr} {k : Mate.Book} (h : Tb H a k) {s i : Nat} (hs : s ≤ 1) (hi : i < sn k s) : ∃ x, IL H x (row (sl k s i) (sn k (1 - s))) ∧
    ∀ {ta ts ti : TE} {σ : L2.St}, Vp ta σ H (.ref a) → Vp ts σ H (vN s) → Vp ti σ H (vN i) → Vp (tOp (rIxL K) (tOp (rIxL K) ta ts) ti) σ H (.ref x) := by
  obtain ⟨a0, a1, h1, ⟨as0, g1, g2, g3⟩, ⟨as1, q1, q2, q3⟩⟩ := h
  rcases (by omega : s = 0 ∨ s = 1) with rfl | rfl
  · rw [sn_zero] at hi
    have hi' : i < as0.length := by
      rw [g2]
      exact (rows_len _ _).symm ▸ hi
    refine ⟨as0[i], g3 i _ _ (List.getElem?_eq_getElem hi') (rows_get hi), fun ha ht hx => ?_⟩
    exact vp_ix (vp_ix ha ht (SqL.of h1) (atI_nat (j := 0) rfl)) hx (SqL.of g1) (refs_at (List.getElem?_eq_getElem hi'))
  · rw [sn_one] at hi
    have hi' : i < as1.length := by
      rw [q2]
      exact (rows_len _ _).symm ▸ hi
    refine ⟨as1[i], q3 i _ _ (List.getElem?_eq_getElem hi') (rows_get hi), fun ha ht hx => ?_⟩
    exact vp_ix (vp_ix ha ht (SqL.of h1) (atI_nat (j := 1) rfl)) hx (SqL.of q1) (refs_at (List.getElem?_eq_getElem hi'))
/-- what it costs -/
theorem vp_tab {H : Hp} {a : Addr} {k : Mate.Book} (h : Tb H a k) {s i x : Nat} (hs : s ≤ 1) (hi : i < sn k s) (hx : x ≤ sn k (1 - s)) {ta ts ti tx : TE} {σ : L2.St} (va : Vp ta σ H (.ref a)) (vs : Vp ts σ H (vN s)) (vi : Vp ti σ H (vN i)) (vx : Vp tx σ H (vN x)) :
    Vp (tOp (rIxL K) (tOp (rIxL K) (tOp (rIxL K) ta ts) ti) tx) σ H (vN (Mate.rank (sl k s i) x)) := by
  obtain ⟨r, h1, h2⟩ := Tb.row (K := K) h hs hi
  exact vp_ixN (h2 va vs vi) vx h1 (row_get hx)
/-- the length of a side -/
theorem vp_tabLen {H : Hp} {a : Addr} {k : Mate.Book} (h : Tb H a k) {s : Nat} (hs : s ≤ 1) {ta ts : TE} {σ : L2.St} (va : Vp ta σ H (.ref a)) (vs : Vp ts σ H (vN s)) :
    Vp (tCB (fun xs H Q => ∃ p ys, xs = [.ref p] ∧ (SqL K H p ys ∨ SqT K H p ys) ∧ Q (.int ys.length) H) (tCons (tOp (rIxL K) ta ts) tNil)) σ H (.int (sn k s : Nat)) := by
  obtain ⟨a0, a1, h1, g, q⟩ := h
  rcases (by omega : s = 0 ∨ s = 1) with rfl | rfl
  · have := vp_lenL (K := K) (vp_ix (K := K) va vs (SqL.of h1) (atI_nat (j := 0) rfl)) g
    unfold tab0 at this
    rw [rows_len] at this
    exact this
  · have := vp_lenL (K := K) (vp_ix (K := K) va vs (SqL.of h1) (atI_nat (j := 1) rfl)) q
    unfold tab1 at this
    rw [rows_len] at this
    exact this

/-! ### entry_back, entry_of -/
def sp_entry_back (K : PySem.W.Frag) : Sp := fun vs H Q _ => ∃ (a : Addr) (l : List Nat) (j : Nat), vs = [.ref a, vN j] ∧ IL H a l ∧ l.length ≤ 1000000 ∧ ∀ H', Same H H' → Q (vN (Mate.Way.back l j)) H'
theorem ok_entry_back {f : Addr} {fd : FuncData} (F : Fun K "entry_back" "entry_back" s_entry_back f fd) (B : Blt mg) : FnOk P w K mg base CX0 1 f fd ["w", "j"] (sp_entry_back K) := by
  refine F.ok sc_entry_back (fun vs H Q E h => ?_) (fun cdv A outer s H vs Q E hr h => ?_)
  · obtain ⟨a, l, x, rfl, _⟩ := h
    rfl
  · obtain ⟨a, l, j, rfl, hl, hm, q⟩ := h
    refine ⟨_, (pss_cons (ps_for PassesOwn.never rfl (pi_range1 (by rfl) B.range (pa_cons (pe_callB (call_lenK (K := K) rfl) (by rfl) B.len PySem.boot_len (pa_cons (pv 0) pa_nil)) pa_nil)) (pg_name (i := 2) sc_entry_back.nd rfl (.inl rfl)) (pss_one (ps_if (pt_cmp (pc_eqI (pe_ix (ix_listK (K := K) rfl) (pv 0) (pv 2) (fun _ _ => rfl)) (pe_op op_add (pv 1) pe_int))) (pss_one (ps_ret (pe_op op_add (pv 2) pe_int))) pss_nil)))
      (pss_one (ps_ret pe_int))), ?_⟩
    refine sq_forR (vp_lenN (vp_var rfl) hl) hm (fun i σ H' => ∃ v2, σ = [some (.ref a), some (vN j), v2] ∧ H' = H ∧ ∀ (t : Nat), t < i → l[t]? ≠ some (j + 1)) ⟨none, rfl, rfl, fun t ht => by omega⟩ ?_ ?_
    · rintro i σ H' hi ⟨v2, rfl, rfl, hn⟩
      have e : l[i]? = some l[i] := List.getElem?_eq_getElem hi
      refine st_if2 (vp_cmp (vp_ixN (vp_var rfl) (vp_var rfl) hl e) (vp_add (vp_var rfl) vp_c)) (fun c => ?_) (fun c => ?_)
      · have c' : l[i] = j + 1 := by omega
        refine st_ret (vp_add (vp_var rfl) vp_c) ?_
        have := q _ (Same.refl _)
        rw [back_succ.mpr ⟨by rw [e, c'], hn⟩] at this
        exact this
      · refine ⟨_, rfl, rfl, fun t ht hq => ?_⟩
        by_cases z : t = i
        · subst z
          rw [e] at hq
          have := Option.some.inj hq
          omega
        · exact hn t (by omega) hq
    · rintro σ H' ⟨v2, rfl, rfl, hn⟩
      refine st_ret vp_c ?_
      have := q _ (Same.refl _)
      rw [back_not fun hm => ?_] at this
      · exact this
      · obtain ⟨t, ht⟩ := List.getElem?_of_mem hm
        exact hn t (List.getElem?_eq_some_iff.mp ht).1 ht
def sp_entry_of (K : PySem.W.Frag) : Sp := fun vs H Q _ => ∃ (a : Addr) (l : List Nat) (s i : Nat), vs = [.ref a, vN s, vN i] ∧ IL H a l ∧ l.length ≤ 1000000 ∧ (s = 0 → i < l.length) ∧ ∀ H', Same H H' → Q (vN (Mate.Book.with_ l s i)) H'
theorem ok_entry_of {f : Addr} {fd : FuncData} (F : Fun K "entry_of" "entry_of" s_entry_of f fd) (B : Blt mg) {f_entry_back : Addr} {d_entry_back : FuncData} (c_entry_back : Cal P w K mg base "entry_back" 1 ["w", "j"] (sp_entry_back K) f_entry_back d_entry_back) : FnOk P w K mg base CX0 2 f fd ["w", "s", "i"] (sp_entry_of K) := by
  refine F.ok sc_entry_of (fun vs H Q E h => ?_) (fun cdv A outer s H vs Q E hr h => ?_)
  · obtain ⟨a, l, s, i, rfl, _⟩ := h
    rfl
  · obtain ⟨a, l, s, i, rfl, hl, hm, hi, q⟩ := h
    refine ⟨_, (pss_cons (ps_if (pt_cmp (pc_eqI (pv 1) pe_int)) (pss_one (ps_ret (pe_ix (ix_listK (K := K) rfl) (pv 0) (pv 2) (fun _ _ => rfl)))) pss_nil)
      (pss_one (ps_ret (pcall c_entry_back hr (by decide) (by rfl) (pa_cons (pv 0) (pa_cons (pv 2) pa_nil)))))), ?_⟩
    refine st_if2 (vp_cmp (vp_var rfl) vp_c) (fun c => ?_) (fun c => ?_)
    · have c' : s = 0 := by omega
      subst c'
      exact st_ret (vp_ixN (vp_var rfl) (vp_var rfl) hl (some_of (hi rfl))) (q _ (Same.refl _))
    · have e : Mate.Book.with_ l s i = Mate.Way.back l i := if_neg (by omega)
      rw [e] at q
      exact ⟨_, rfl, _, rfl, a, l, i, rfl, hl, hm, q⟩

/-! ### mutual -/
def sp_mutual (K : PySem.W.Frag) : Sp := fun vs H Q _ => ∃ (a : Addr) (k : Mate.Book) (i j : Nat), vs = [.ref a, vN i, vN j] ∧ Tb H a k ∧ i < k.here.length ∧ j < k.there.length ∧ ∀ H', Same H H' → Q (.bl (k.may i j)) H'
theorem cast_lt {a b : Nat} : decide ((a : Int) < (b : Int)) = decide (a < b) := by
  by_cases h : a < b
  · rw [decide_eq_true h, decide_eq_true (by omega)]
  · rw [decide_eq_false h, decide_eq_false (by omega)]
theorem ok_mutual {f : Addr} {fd : FuncData} (F : Fun K "mutual" "mutual" s_mutual f fd) (B : Blt mg) : FnOk P w K mg base CX0 1 f fd ["table", "i", "j"] (sp_mutual K) := by
  refine F.ok sc_mutual (fun vs H Q E h => ?_) (fun cdv A outer s H vs Q E hr h => ?_)
  · obtain ⟨a, k, i, j, rfl, _⟩ := h
    rfl
  · obtain ⟨a, k, i, j, rfl, ht, hi, hj, q⟩ := h
    refine ⟨_, (pss_cons (ps_set (i := 3) sc_mutual.nd rfl (.inl rfl) (pe_cmp (pc_lt (pe_ix (ix_listK (K := K) rfl) (pe_ix (ix_listK (K := K) rfl) (pe_ix (ix_listK (K := K) rfl) (pv 0) pe_int (fun _ _ => rfl)) (pv 1) (fun _ _ => rfl)) (pe_op op_add (pv 2) pe_int) (fun _ _ => rfl)) (pe_ix (ix_listK (K := K) rfl) (pe_ix (ix_listK (K := K) rfl) (pe_ix (ix_listK (K := K) rfl) (pv 0) pe_int (fun _ _ => rfl)) (pv 1) (fun _ _ => rfl)) pe_int (fun _ _ => rfl)))))
      (pss_cons (ps_set (i := 4) sc_mutual.nd rfl (.inl rfl) (pe_cmp (pc_lt (pe_ix (ix_listK (K := K) rfl) (pe_ix (ix_listK (K := K) rfl) (pe_ix (ix_listK (K := K) rfl) (pv 0) pe_int (fun _ _ => rfl)) (pv 2) (fun _ _ => rfl)) (pe_op op_add (pv 1) pe_int) (fun _ _ => rfl)) (pe_ix (ix_listK (K := K) rfl) (pe_ix (ix_listK (K := K) rfl) (pe_ix (ix_listK (K := K) rfl) (pv 0) pe_int (fun _ _ => rfl)) (pv 2) (fun _ _ => rfl)) pe_int (fun _ _ => rfl)))))
      (pss_one (ps_ret (pe_and (pv 3) (pe_one (pv 4))))))), ?_⟩
    refine sq_set (vp_cmp (vp_tab ht (s := 0) (x := j + 1) (by omega) hi (by rw [sn_one] <;> omega) (vp_var rfl) vp_c (vp_var rfl) (vp_succ (vp_var rfl))) (vp_tab ht (s := 0) (x := 0) (by omega) hi (by omega) (vp_var rfl) vp_c (vp_var rfl) vp_c)) ?_
    refine sq_set (vp_cmp (vp_tab ht (s := 1) (x := i + 1) (by omega) hj (by rw [sn_zero] <;> omega) (vp_var rfl) vp_c (vp_var rfl) (vp_succ (vp_var rfl))) (vp_tab ht (s := 1) (x := 0) (by omega) hj (by omega) (vp_var rfl) vp_c (vp_var rfl) vp_c)) ?_
    have q' := q H (Same.refl _)
    rw [may_eq] at q'
    rw [cast_lt, cast_lt]
    refine ⟨_, rfl, _, rfl, ?_⟩
    show ite _ _ _
    cases e : decide (Mate.rank (sl k 0 i) (j + 1) < Mate.rank (sl k 0 i) 0) with
    | true =>
      refine iteT ⟨_, rfl, ?_⟩
      have e' : decide (Mate.rank (k.list0 i) (j + 1) < Mate.rank (k.list0 i) 0) = true := e
      rw [e', Bool.true_and] at q'
      exact q'
    | false =>
      refine iteF ?_
      have e' : decide (Mate.rank (k.list0 i) (j + 1) < Mate.rank (k.list0 i) 0) = false := e
      rw [e', Bool.false_and] at q'
      exact q'

/-! ### fits, is_way -/
/-- entry i of w is nobody, or one of side 1 whom none ahead has, both on the other's list -/
def fitsAt (k : Mate.Book) (w : List Nat) (i : Nat) : Bool := match w.getD i 0 with
  | 0 => true
  | b + 1 => decide (b < k.there.length) && (!(w.take i).contains (b + 1) && k.may i b)
theorem fitsAt_iff {k : Mate.Book} {w : List Nat} : k.fits w = true ↔ w.length = k.here.length ∧ ∀ i, i < w.length → fitsAt k w i = true := by
  rw [fits_iff]
  refine and_congr Iff.rfl ⟨fun h i hi => ?_, fun h a b e => ?_⟩
  · unfold fitsAt
    have e := some_of hi
    unfold Mate.Way.of_ at e
    cases q : w.getD i 0 with
    | zero => rfl
    | succ b =>
      rw [q] at e
      obtain ⟨h1, h2⟩ := h i b e
      have h3 : (w.take i).contains (b + 1) = false := by
        rw [Bool.eq_false_iff]
        intro z
        obtain ⟨j, hj⟩ := List.getElem?_of_mem (List.contains_iff_mem.mp z)
        have hl := (List.getElem?_eq_some_iff.mp hj).1
        rw [List.length_take] at hl
        rw [List.getElem?_take_of_lt (by omega)] at hj
        exact h2 j (by omega) hj
      show (decide (b < k.there.length) && (!(w.take i).contains (b + 1) && k.may i b)) = true
      rw [h3, h1, decide_eq_true (may_there h1)]
      rfl
  · have hl := (List.getElem?_eq_some_iff.mp e).1
    have q := h a hl
    unfold fitsAt at q
    have e2 : w.getD a 0 = b + 1 := of_some e
    rw [e2] at q
    simp only [Bool.and_eq_true] at q
    refine ⟨q.2.2, fun j hj z => ?_⟩
    have h3 : (w.take a).contains (b + 1) = true := List.contains_iff_mem.mpr (List.mem_of_getElem? (i := j) (by rw [List.getElem?_take_of_lt hj]; exact z))
    rw [h3] at q
    simp at q
theorem cut_take {xs : List V} {i : Nat} : cutV xs none (some (i : Int)) = xs.take i := by
  unfold cutV
  rw [HT.sIx_none, HT.sIx_nat, Nat.sub_zero, List.drop_zero]
  by_cases h : i ≤ xs.length
  · rw [Nat.min_eq_left h]
  · rw [Nat.min_eq_right (by omega), List.take_of_length_le (Nat.le_refl _), List.take_of_length_le (by omega)]
theorem inV_nums {x : Nat} : ∀ {l : List Nat}, inV (vN x) (nums l) = l.contains x
  | [] => rfl
  | y :: r => by
    have ih := inV_nums (x := x) (l := r)
    show (eqV (vN y) (vN x) || inV (vN x) (nums r)) = (y :: r).contains x
    rw [ih, List.contains_cons]
    congr 1
    show decide ((y : Int) = (x : Int)) = (x == y)
    by_cases h : x = y
    · subst h
      rw [decide_eq_true rfl, beq_self_eq_true]
    · rw [decide_eq_false (by omega), beq_false_of_ne h]
theorem flat_nums (l : List Nat) : (nums l).all flatV = true := by
  rw [List.all_eq_true]
  intro v hv
  obtain ⟨n, _, rfl⟩ := List.mem_map.mp hv
  rfl
def sp_fits (K : PySem.W.Frag) : Sp := fun vs H Q _ => ∃ (a b : Addr) (k : Mate.Book) (l : List Nat) (i : Nat), vs = [.ref a, .ref b, vN i] ∧ Tb H a k ∧ IL H b l ∧ i < l.length ∧ i < k.here.length ∧ ∀ H', Same H H' → Q (.bl (fitsAt k l i)) H'
theorem ok_fits {f : Addr} {fd : FuncData} (F : Fun K "fits" "fits" s_fits f fd) (B : Blt mg) {f_mutual : Addr} {d_mutual : FuncData} (c_mutual : Cal P w K mg base "mutual" 1 ["table", "i", "j"] (sp_mutual K) f_mutual d_mutual) : FnOk P w K mg base CX0 2 f fd ["table", "w", "i"] (sp_fits K) := by
  refine F.ok sc_fits (fun vs H Q E h => ?_) (fun cdv A outer s H vs Q E hr h => ?_)
  · obtain ⟨a, b, k, l, i, rfl, _⟩ := h
    rfl
  · obtain ⟨a, b, k, l, i, rfl, ht, hl, hi, hn, q⟩ := h
    refine ⟨_, (pss_cons (ps_set (i := 3) sc_fits.nd rfl (.inl rfl) (pe_ix (ix_listK (K := K) rfl) (pv 1) (pv 2) (fun _ _ => rfl)))
      (pss_cons (ps_if (pt_cmp (pc_eqI (pv 3) pe_int)) (pss_one (ps_ret pe_bl)) pss_nil)
      (pss_cons (ps_if (pt_cmp (pc_gt (pv 3) (pe_callB (call_lenK (K := K) rfl) (by rfl) B.len PySem.boot_len (pa_cons (pe_ix (ix_listK (K := K) rfl) (pv 0) pe_int (fun _ _ => rfl)) pa_nil)))) (pss_one (ps_ret pe_bl)) pss_nil)
      (pss_cons (ps_if (pt_cmpR op_in_seq (pv 3) (pe_slice sl_list (pv 1) po_none (po_some (pv 2))) (by rfl)) (pss_one (ps_ret pe_bl)) pss_nil)
      (pss_one (ps_ret (pcall c_mutual hr (by decide) (by rfl) (pa_cons (pv 0) (pa_cons (pv 2) (pa_cons (pe_op op_sub (pv 3) pe_int) pa_nil)))))))))), ?_⟩
    refine sq_set (vp_ixN (vp_var rfl) (vp_var rfl) hl (getD_some (d := 0) hi)) ?_
    unfold fitsAt at q
    refine sq_if2 (vp_cmp (vp_var rfl) vp_c) (fun c => ?_) (fun c => ?_)
    · have c' : l.getD i 0 = 0 := by omega
      rw [c'] at q
      exact st_ret vp_c (q _ (Same.refl _))
    · obtain ⟨x, ex⟩ : ∃ x, l.getD i 0 = x + 1 := ⟨l.getD i 0 - 1, by omega⟩
      rw [ex]
      rw [ex] at q
      dsimp only at q
      refine sq_if2 (vp_cmp (vp_var rfl) (vp_tabLen ht (s := 1) (by omega) (vp_var rfl) vp_c)) (fun c => ?_) (fun c => ?_)
      · rw [sn_one] at c
        rw [decide_eq_false (by omega), Bool.false_and] at q
        exact st_ret vp_c (q _ (Same.refl _))
      · rw [sn_one] at c
        rw [decide_eq_true (by omega), Bool.true_and] at q
        refine ⟨_, rfl, _, rfl, _, rfl, _, rfl, b, nums l, rfl, hl.sq, fun p hp => ?_⟩
        rw [cut_take, ← List.map_take]
        have s1 : Same H (upd H p (.lst (nums (l.take i)))) := (Same.refl H).new hp
        refine ⟨p, nums (l.take i), rfl, .inl (SqL.of upd_same), rfl, flat_nums _, _, rfl, ?_⟩
        show ite _ _ _
        rw [if_neg Bool.false_ne_true, inV_nums]
        cases z : (l.take i).contains (x + 1) with
        | true =>
          rw [z] at q
          exact iteT (st_ret vp_c (q _ s1))
        | false =>
          rw [z] at q
          refine iteF ?_
          refine ⟨_, rfl, _, rfl, vp_pred (vp_var rfl) _ ?_⟩
          exact ⟨a, k, i, x, rfl, s1.duo ht, hn, by omega, fun H' s2 => q _ (s1.trans s2)⟩
def sp_is_way (K : PySem.W.Frag) : Sp := fun vs H Q _ => ∃ (a b : Addr) (k : Mate.Book) (l : List Nat), vs = [.ref a, .ref b] ∧ Tb H a k ∧ IL H b l ∧ k.here.length ≤ 6 ∧ ∀ H', Same H H' → Q (.bl (k.fits l)) H'
theorem ok_is_way {f : Addr} {fd : FuncData} (F : Fun K "is_way" "is_way" s_is_way f fd) (B : Blt mg) {f_fits : Addr} {d_fits : FuncData} (c_fits : Cal P w K mg base "fits" 2 ["table", "w", "i"] (sp_fits K) f_fits d_fits) : FnOk P w K mg base CX0 3 f fd ["table", "w"] (sp_is_way K) := by
  refine F.ok sc_is_way (fun vs H Q E h => ?_) (fun cdv A outer s H vs Q E hr h => ?_)
  · obtain ⟨a, b, k, l, rfl, _⟩ := h
    rfl
  · obtain ⟨a, b, k, l, rfl, ht, hl, h6, q⟩ := h
    refine ⟨_, (pss_cons (ps_if (pt_cmp (pc_neI (pe_callB (call_lenK (K := K) rfl) (by rfl) B.len PySem.boot_len (pa_cons (pv 1) pa_nil)) (pe_callB (call_lenK (K := K) rfl) (by rfl) B.len PySem.boot_len (pa_cons (pe_ix (ix_listK (K := K) rfl) (pv 0) pe_int (fun _ _ => rfl)) pa_nil)))) (pss_one (ps_ret pe_bl)) pss_nil)
      (pss_cons (ps_for PassesOwn.never rfl (pi_range1 (by rfl) B.range (pa_cons (pe_callB (call_lenK (K := K) rfl) (by rfl) B.len PySem.boot_len (pa_cons (pv 1) pa_nil)) pa_nil)) (pg_name (i := 2) sc_is_way.nd rfl (.inl rfl)) (pss_one (ps_if (pt_not (pt_val (pcall c_fits hr (by decide) (by rfl) (pa_cons (pv 0) (pa_cons (pv 1) (pa_cons (pv 2) pa_nil)))))) (pss_one (ps_ret pe_bl)) pss_nil)))
      (pss_one (ps_ret pe_bl)))), ?_⟩
    refine sq_if (vp_cmp (vp_lenN (vp_var rfl) hl) (vp_tabLen ht (s := 0) (by omega) (vp_var rfl) vp_c)) ?_
    rw [sn_zero]
    by_cases c : l.length = k.here.length
    · rw [decide_eq_true (by omega)]
      refine iteF ?_
      refine sq_forR (vp_lenN (vp_var rfl) hl) (by omega) (fun i σ H' => ∃ v2, σ = [some (.ref a), some (.ref b), v2] ∧ Same H H' ∧ ∀ j, j < i → fitsAt k l j = true) ⟨none, rfl, Same.refl _, fun t ht => by omega⟩ ?_ ?_
      · rintro i σ H' hi ⟨v2, rfl, s, hn⟩
        refine ⟨_, rfl, _, rfl, _, rfl, a, b, k, l, i, rfl, s.duo ht, s.il hl, hi, by omega, fun H2 s2 => ⟨_, rfl, ?_⟩⟩
        cases z : fitsAt k l i with
        | true =>
          refine iteF ⟨_, rfl, s.trans s2, fun j hj => ?_⟩
          by_cases e : j = i
          · rw [e, z]
          · exact hn j (by omega)
        | false =>
          refine iteT (st_ret vp_c ?_)
          have e : k.fits l = false := by
            rw [Bool.eq_false_iff]
            intro y
            have := (fitsAt_iff.mp y).2 i hi
            rw [z] at this
            cases this
          rw [e] at q
          exact q _ (s.trans s2)
      · rintro σ H' ⟨v2, rfl, s, hn⟩
        refine st_ret vp_c ?_
        rw [fitsAt_iff.mpr ⟨c, hn⟩] at q
        exact q _ s
    · rw [decide_eq_false (by omega)]
      refine iteT (st_ret vp_c ?_)
      have e : k.fits l = false := by
        rw [Bool.eq_false_iff]
        intro y
        exact c (fitsAt_iff.mp y).1
      rw [e] at q
      exact q _ (Same.refl _)
end
end PO

/-! The walk, 3: who would go off; the stable ways. -/
namespace PO
open PySem PySem.Spec PyProof.Rows L2
abbrev s_longer : Stmt := topS 28
abbrev N_longer : List Str := ["table", "w", "i", "found", "j"]
theorem sc_longer : FnScope N_longer ["table", "w"] (defScope s_longer) := ⟨rfl, rfl, rfl, by decide +kernel, rfl, by decide +kernel, by decide +kernel⟩
abbrev s_torn : Stmt := topS 29
abbrev N_torn : List Str := ["table", "w", "last", "i"]
theorem sc_torn : FnScope N_torn ["table", "w"] (defScope s_torn) := ⟨rfl, rfl, rfl, by decide +kernel, rfl, by decide +kernel, by decide +kernel⟩
abbrev s_further : Stmt := topS 30
abbrev N_further : List Str := ["table", "begun", "found", "w", "v"]
theorem sc_further : FnScope N_further ["table", "begun"] (defScope s_further) := ⟨rfl, rfl, rfl, by decide +kernel, rfl, by decide +kernel, by decide +kernel⟩
abbrev s_stable_ways : Stmt := topS 31
abbrev N_stable_ways : List Str := ["table", "begun", "i", "w"]
theorem sc_stable_ways : FnScope N_stable_ways ["table"] (defScope s_stable_ways) := ⟨rfl, rfl, rfl, by decide +kernel, rfl, by decide +kernel, by decide +kernel⟩
section
variable {P : Program} {w : World} {K : PySem.W.Frag} {mg : Str → Option Value} {base : Heap}

/-! ### go_off -/
/-- the beginning of a way, by its numbers alone -/
structure WPre (k : Mate.Book) (l : List Nat) : Prop where
  len : l.length ≤ k.here.length
  le : ∀ (a p : Nat), l[a]? = some p → p ≤ k.there.length
theorem WPre.of_le {k : Mate.Book} {l : List Nat} (h : WPre k l) (a : Nat) : Mate.Way.of_ l a ≤ k.there.length := by
  by_cases q : a < l.length
  · exact h.le a _ (some_of q)
  · rw [of_out (by omega)]
    omega
/-- a table with few on both sides -/
structure Small (k : Mate.Book) : Prop where
  p : 0 < k.here.length
  n : k.here.length ≤ 6
  m : k.there.length ≤ 6
def sp_go_off (K : PySem.W.Frag) : Sp := fun vs H Q _ => ∃ (a b : Addr) (k : Mate.Book) (l : List Nat) (i j : Nat), vs = [.ref a, .ref b, vN i, vN j] ∧ Tb H a k ∧ IL H b l ∧ Small k ∧ WPre k l ∧ i < l.length ∧ j < k.there.length ∧ ∀ H', Same H H' → Q (.bl (k.off l i j)) H'
theorem and_val {c d : Bool} {σ : L2.St} {H : Hp} {Q : VK} {ta tb : TE} (va : Vp ta σ H (.bl c)) (vb : Vp tb σ H (.bl d)) (q : Q (.bl (c && d)) H) : tAndV ta tb σ H Q := by
  refine va _ ⟨c, rfl, ?_⟩
  cases c with
  | true =>
    refine iteT (vb _ ?_)
    exact q
  | false =>
    refine iteF ?_
    exact q
theorem ok_go_off {f : Addr} {fd : FuncData} (F : Fun K "go_off" "go_off" s_go_off f fd) (B : Blt mg) {f_entry_back : Addr} {d_entry_back : FuncData} (c_entry_back : Cal P w K mg base "entry_back" 1 ["w", "j"] (sp_entry_back K) f_entry_back d_entry_back) : FnOk P w K mg base CX0 2 f fd ["table", "w", "i", "j"] (sp_go_off K) := by
  refine F.ok sc_go_off (fun vs H Q E h => ?_) (fun cdv A outer s H vs Q E hr h => ?_)
  · obtain ⟨a, b, k, l, i, j, rfl, _⟩ := h
    rfl
  · obtain ⟨a, b, k, l, i, j, rfl, ht, hl, S, W, hi, hj, q⟩ := h
    have hn := S.n
    have hm := S.m
    have hw := W.len
    refine ⟨_, (pss_cons (ps_set (i := 4) sc_go_off.nd rfl (.inl rfl) (pe_cmp (pc_lt (pe_ix (ix_listK (K := K) rfl) (pe_ix (ix_listK (K := K) rfl) (pe_ix (ix_listK (K := K) rfl) (pv 0) pe_int (fun _ _ => rfl)) (pv 2) (fun _ _ => rfl)) (pe_op op_add (pv 3) pe_int) (fun _ _ => rfl)) (pe_ix (ix_listK (K := K) rfl) (pe_ix (ix_listK (K := K) rfl) (pe_ix (ix_listK (K := K) rfl) (pv 0) pe_int (fun _ _ => rfl)) (pv 2) (fun _ _ => rfl)) (pe_ix (ix_listK (K := K) rfl) (pv 1) (pv 2) (fun _ _ => rfl)) (fun _ _ => rfl)))))
      (pss_cons (ps_set (i := 5) sc_go_off.nd rfl (.inl rfl) (pe_cmp (pc_lt (pe_ix (ix_listK (K := K) rfl) (pe_ix (ix_listK (K := K) rfl) (pe_ix (ix_listK (K := K) rfl) (pv 0) pe_int (fun _ _ => rfl)) (pv 3) (fun _ _ => rfl)) (pe_op op_add (pv 2) pe_int) (fun _ _ => rfl)) (pe_ix (ix_listK (K := K) rfl) (pe_ix (ix_listK (K := K) rfl) (pe_ix (ix_listK (K := K) rfl) (pv 0) pe_int (fun _ _ => rfl)) (pv 3) (fun _ _ => rfl)) (pcall c_entry_back hr (by decide) (by rfl) (pa_cons (pv 1) (pa_cons (pv 3) pa_nil))) (fun _ _ => rfl)))))
      (pss_one (ps_ret (pe_and (pv 4) (pe_one (pv 5))))))), ?_⟩
    refine sq_set (vp_cmp (vp_tab ht (s := 0) (x := j + 1) (by omega) (by rw [sn_zero] <;> omega) (by rw [sn_one] <;> omega) (vp_var rfl) vp_c (vp_var rfl) (vp_succ (vp_var rfl))) (vp_tab ht (s := 0) (x := Mate.Way.of_ l i) (by omega) (by rw [sn_zero] <;> omega) (W.of_le i) (vp_var rfl) vp_c (vp_var rfl) (vp_ixN (vp_var rfl) (vp_var rfl) hl (some_of hi)))) ?_
    refine sq_of (cmp_of ?_)
    refine vp_tab ht (s := 1) (x := i + 1) (by omega) hj (by rw [sn_zero] <;> omega) (vp_var (by rfl)) vp_c (vp_var (by rfl)) (vp_succ (vp_var (by rfl))) _ ?_
    obtain ⟨x, hx, hv⟩ := Tb.row (K := K) ht (s := 1) (i := j) (by omega) hj
    refine op_of (hv (vp_var (by rfl)) vp_c (vp_var (by rfl)) _ ?_)
    refine call2 (vp_var (by rfl)) (vp_var (by rfl)) ?_
    refine ⟨b, l, j, rfl, hl, by omega, fun H1 s1 => ?_⟩
    refine ⟨x, _, _, _, rfl, rfl, SqL.of (s1 _ _ hx), nums_at (row_get (show Mate.Way.back l j ≤ sn k (1 - 1) from Nat.le_trans back_le hw)), _, _, rfl, rfl, ?_⟩
    refine rt_of (and_val (vp_var (by rfl)) (fun _ q => ⟨_, rfl, q⟩) ?_)
    have q' := q H1 s1
    rw [off_eq] at q'
    rw [cast_lt, cast_lt]
    exact q'

/-! ### off_pairs -/
def offsTo (k : Mate.Book) (l : List Nat) (i : Nat) : List (Nat × Nat) := (List.range i).flatMap fun a => ((List.range k.there.length).filter (k.off l a)).map fun b => (a, b)
def offsIn (k : Mate.Book) (l : List Nat) (i j : Nat) : List (Nat × Nat) := offsTo k l i ++ ((List.range j).filter (k.off l i)).map fun b => (i, b)
theorem offsTo_all (k : Mate.Book) (l : List Nat) : offsTo k l k.here.length = k.offs l := rfl
theorem offsIn_zero (k : Mate.Book) (l : List Nat) (i : Nat) : offsIn k l i 0 = offsTo k l i := by
  unfold offsIn
  rw [List.range_zero, List.filter_nil, List.map_nil, List.append_nil]
theorem offsIn_end (k : Mate.Book) (l : List Nat) (i : Nat) : offsIn k l i k.there.length = offsTo k l (i + 1) := by
  unfold offsIn offsTo
  rw [List.range_succ, List.flatMap_append, List.flatMap_cons, List.flatMap_nil, List.append_nil]
theorem offsIn_yes {k : Mate.Book} {l : List Nat} {i j : Nat} (h : k.off l i j = true) : offsIn k l i (j + 1) = offsIn k l i j ++ [(i, j)] := by
  unfold offsIn
  rw [List.range_succ, List.filter_append, List.filter_cons_of_pos h, List.map_append, ← List.append_assoc]
  rfl
theorem offsIn_no {k : Mate.Book} {l : List Nat} {i j : Nat} (h : k.off l i j = false) : offsIn k l i (j + 1) = offsIn k l i j := by
  unfold offsIn
  rw [List.range_succ, List.filter_append, List.filter_cons_of_neg (by rw [h]; exact Bool.false_ne_true), List.filter_nil, List.append_nil]
theorem offsTo_len (k : Mate.Book) (l : List Nat) (i : Nat) : (offsTo k l i).length ≤ i * k.there.length := by
  unfold offsTo
  have := flatMap_len (f := fun a => ((List.range k.there.length).filter (k.off l a)).map fun b => (a, b)) (c := k.there.length) (fun a => by
    rw [List.length_map]
    have := List.length_filter_le (k.off l a) (List.range k.there.length)
    rw [List.length_range] at this
    exact this) (List.range i)
  rw [List.length_range] at this
  exact this
theorem offsIn_len (k : Mate.Book) (l : List Nat) (i j : Nat) : (offsIn k l i j).length ≤ i * k.there.length + j := by
  unfold offsIn
  rw [List.length_append, List.length_map]
  have h1 := offsTo_len k l i
  have h2 := List.length_filter_le (k.off l i) (List.range j)
  rw [List.length_range] at h2
  omega
theorem small_mul {i m j : Nat} (hi : i ≤ 6) (hm : m ≤ 6) (hj : j ≤ 6) : i * m + j ≤ 1000 := by
  have := Nat.mul_le_mul hi hm
  omega
theorem PL.nil {H : Hp} {fo : Addr} : PL (upd H fo (.lst [])) fo [] := ⟨[], upd_same, rfl, fun i x p h => by simp at h⟩
theorem LL.nil {H : Hp} {fo : Addr} : LL (upd H fo (.lst [])) fo [] := ⟨[], upd_same, rfl, fun i x p h => by simp at h⟩
def sp_off_pairs (K : PySem.W.Frag) : Sp := fun vs H Q _ => ∃ (a b : Addr) (k : Mate.Book) (l : List Nat), vs = [.ref a, .ref b] ∧ Tb H a k ∧ IL H b l ∧ Small k ∧ WPre k l ∧ l.length = k.here.length ∧ ∀ (H' : Hp) (p : Addr), Same H H' → PL H' p (k.offs l) → Q (.ref p) H'
theorem ok_off_pairs {f : Addr} {fd : FuncData} (F : Fun K "off_pairs" "off_pairs" s_off_pairs f fd) (B : Blt mg) {f_go_off : Addr} {d_go_off : FuncData} (c_go_off : Cal P w K mg base "go_off" 2 ["table", "w", "i", "j"] (sp_go_off K) f_go_off d_go_off) : FnOk P w K mg base CX0 3 f fd ["table", "w"] (sp_off_pairs K) := by
  refine F.ok sc_off_pairs (fun vs H Q E h => ?_) (fun cdv A outer s H vs Q E hr h => ?_)
  · obtain ⟨a, b, k, l, rfl, _⟩ := h
    rfl
  · obtain ⟨a, b, k, l, rfl, ht, hl, S, W, hw, q⟩ := h
    have hn := S.n
    have hm := S.m
    refine ⟨_, (pss_cons (ps_set (i := 2) sc_off_pairs.nd rfl (.inl rfl) (pe_lst pa_nil))
      (pss_cons (ps_for PassesOwn.never rfl (pi_range1 (by rfl) B.range (pa_cons (pe_callB (call_lenK (K := K) rfl) (by rfl) B.len PySem.boot_len (pa_cons (pe_ix (ix_listK (K := K) rfl) (pv 0) pe_int (fun _ _ => rfl)) pa_nil)) pa_nil)) (pg_name (i := 3) sc_off_pairs.nd rfl (.inl rfl)) (pss_one (ps_for PassesOwn.never rfl (pi_range1 (by rfl) B.range (pa_cons (pe_callB (call_lenK (K := K) rfl) (by rfl) B.len PySem.boot_len (pa_cons (pe_ix (ix_listK (K := K) rfl) (pv 0) pe_int (fun _ _ => rfl)) pa_nil)) pa_nil)) (pg_name (i := 4) sc_off_pairs.nd rfl (.inl rfl)) (pss_one (ps_if (pt_val (pcall c_go_off hr (by decide) (by rfl) (pa_cons (pv 0) (pa_cons (pv 1) (pa_cons (pv 3) (pa_cons (pv 4) pa_nil)))))) (pss_one (ps_expr (pe_bm PySem.F.plainAttrs_list PySem.F.slot_list_append PySem.F.type_list_append mt_append (pv 2) (pa_cons (pe_tup (pa_cons (pv 3) (pa_cons (pv 4) pa_nil))) pa_nil)))) pss_nil)))))
      (pss_one (ps_ret (pv 2))))), ?_⟩
    refine sq_new fun fo no => ?_
    have s1 : Same H (upd H fo (.lst [])) := (Same.refl H).new no
    refine sq_forR (vp_tabLen (s1.duo ht) (s := 0) (by omega) (vp_var rfl) vp_c) (by rw [sn_zero] <;> omega)
      (fun i σ H' => ∃ v3 v4, σ = [some (.ref a), some (.ref b), some (.ref fo), v3, v4] ∧ Same H H' ∧ PL H' fo (offsTo k l i)) ⟨none, none, rfl, s1, PL.nil⟩ ?_ ?_
    · rintro i σ H1 hi ⟨v3, v4, rfl, s2, hp⟩
      rw [sn_zero] at hi
      refine st_forR (vp_tabLen (s2.duo ht) (s := 1) (by omega) (vp_var rfl) vp_c) (by rw [sn_one] <;> omega)
        (fun j σ H' => ∃ v4, σ = [some (.ref a), some (.ref b), some (.ref fo), some (vN i), v4] ∧ Same H H' ∧ PL H' fo (offsIn k l i j)) ⟨v4, rfl, s2, by rw [offsIn_zero]; exact hp⟩ ?_ ?_
      · rintro j σ H2 hj ⟨v4, rfl, s3, hp⟩
        rw [sn_one] at hj
        refine if_call (call4 (vp_var rfl) (vp_var rfl) (vp_var rfl) (vp_var rfl) ?_) ?_
        · refine ⟨a, b, k, l, i, j, rfl, s3.duo ht, s3.il hl, S, W, by omega, hj, fun H3 s4 => ⟨_, rfl, fun c => ?_, fun c => ?_⟩⟩
          · have hp3 := s4.pl hp
            refine ⟨.ref fo, rfl, .inl ⟨rfl, _, SqL.of hp3.choose_spec.1⟩, _, rfl, _, rfl, by show 2 ≤ sizeLine; decide, fun t nt => ?_⟩
            obtain ⟨as, e1, e2, e3⟩ := hp3.push (p := (i, j)) nt
            refine ⟨fo, _, _, rfl, rfl, e2, ?_, _, rfl, ((s3.trans s4).new nt).mut no, by rw [offsIn_yes c]; exact e3⟩
            rw [List.length_map, e1]
            have h1 := offsIn_len k l i j
            have h2 := small_mul (i := i) (m := k.there.length) (j := j) (by omega) hm (by omega)
            exact small_size (by omega)
          · exact ⟨_, rfl, s3.trans s4, by rw [offsIn_no c]; exact s4.pl hp⟩
        · rintro Q Q' z ⟨v1, h1, v2, h2, v3, h3, v4, h4, a, b, k, l, i, j, e, r1, r2, r3, r4, r5, r6, r7⟩
          exact ⟨v1, h1, v2, h2, v3, h3, v4, h4, a, b, k, l, i, j, e, r1, r2, r3, r4, r5, r6, fun H' s => z _ _ (r7 H' s)⟩
      · rintro σ H2 ⟨v4, rfl, s3, hp⟩
        rw [sn_one, offsIn_end] at hp
        exact ⟨_, _, rfl, s3, hp⟩
    · rintro σ H1 ⟨v3, v4, rfl, s2, hp⟩
      rw [sn_zero, offsTo_all] at hp
      exact st_ret (vp_var rfl) (q H1 fo s2 hp)
end
end PO

/-! The walk, 4: the stable ways. -/
namespace PO
open PySem PySem.Spec PyProof.Rows L2
section
variable {P : Program} {w : World} {K : PySem.W.Frag} {mg : Str → Option Value} {base : Heap}

/-! ### way_cost -/
def costS (k : Mate.Book) (s : Nat) (l : List Nat) : Nat := if s = 0 then k.cost0 l else k.cost1 l
def costTo (k : Mate.Book) (s : Nat) (l : List Nat) (i : Nat) : Nat := ((List.range i).map fun a => Mate.rank (sl k s a) (Mate.Book.with_ l s a)).sum
theorem costTo_succ (k : Mate.Book) (s : Nat) (l : List Nat) (i : Nat) : costTo k s l (i + 1) = costTo k s l i + Mate.rank (sl k s i) (Mate.Book.with_ l s i) := by
  unfold costTo
  rw [List.range_succ, List.map_append, List.sum_append]
  show _ + (_ + 0) = _
  rw [Nat.add_zero]
theorem costTo_all {k : Mate.Book} {s : Nat} {l : List Nat} (hs : s ≤ 1) : costTo k s l (sn k s) = costS k s l := by
  rcases (by omega : s = 0 ∨ s = 1) with rfl | rfl
  · show _ = ((List.range k.here.length).map fun a => Mate.rank (k.list0 a) (Mate.Way.of_ l a)).foldr (fun x y => x + y) 0
    rw [foldr_sum, Nat.add_zero]
    rfl
  · show _ = ((List.range k.there.length).map fun b => Mate.rank (k.list1 b) (Mate.Way.back l b)).foldr (fun x y => x + y) 0
    rw [foldr_sum, Nat.add_zero]
    rfl
theorem WPre.with_le {k : Mate.Book} {l : List Nat} (h : WPre k l) {s : Nat} (hs : s ≤ 1) (i : Nat) : Mate.Book.with_ l s i ≤ sn k (1 - s) := by
  rcases (by omega : s = 0 ∨ s = 1) with rfl | rfl
  · exact h.of_le i
  · exact Nat.le_trans back_le h.len
def sp_way_cost (K : PySem.W.Frag) : Sp := fun vs H Q _ => ∃ (a b : Addr) (k : Mate.Book) (l : List Nat) (s : Nat), vs = [.ref a, .ref b, vN s] ∧ Tb H a k ∧ IL H b l ∧ Small k ∧ WPre k l ∧ l.length = k.here.length ∧ s ≤ 1 ∧ ∀ H', Same H H' → Q (vN (costS k s l)) H'
theorem sn_le {k : Mate.Book} (S : Small k) (s : Nat) : sn k s ≤ 6 := by
  unfold sn
  have := S.n
  have := S.m
  split <;> assumption
theorem ok_way_cost {f : Addr} {fd : FuncData} (F : Fun K "way_cost" "way_cost" s_way_cost f fd) (B : Blt mg) {f_entry_of : Addr} {d_entry_of : FuncData} (c_entry_of : Cal P w K mg base "entry_of" 2 ["w", "s", "i"] (sp_entry_of K) f_entry_of d_entry_of) : FnOk P w K mg base CX0 3 f fd ["table", "w", "s"] (sp_way_cost K) := by
  refine F.ok sc_way_cost (fun vs H Q E h => ?_) (fun cdv A outer s H vs Q E hr h => ?_)
  · obtain ⟨a, b, k, l, s, rfl, _⟩ := h
    rfl
  · obtain ⟨a, b, k, l, s, rfl, ht, hl, S, W, hw, hs, q⟩ := h
    have hn := S.n
    have hm := S.m
    have h6 := sn_le S s
    refine ⟨_, (pss_cons (ps_set (i := 3) sc_way_cost.nd rfl (.inl rfl) pe_int)
      (pss_cons (ps_for PassesOwn.never rfl (pi_range1 (by rfl) B.range (pa_cons (pe_callB (call_lenK (K := K) rfl) (by rfl) B.len PySem.boot_len (pa_cons (pe_ix (ix_listK (K := K) rfl) (pv 0) (pv 2) (fun _ _ => rfl)) pa_nil)) pa_nil)) (pg_name (i := 4) sc_way_cost.nd rfl (.inl rfl)) (pss_one (ps_aug (i := 3) sc_way_cost.nd rfl (.inl rfl) (pe_ix (ix_listK (K := K) rfl) (pe_ix (ix_listK (K := K) rfl) (pe_ix (ix_listK (K := K) rfl) (pv 0) (pv 2) (fun _ _ => rfl)) (pv 4) (fun _ _ => rfl)) (pcall c_entry_of hr (by decide) (by rfl) (pa_cons (pv 1) (pa_cons (pv 2) (pa_cons (pv 4) pa_nil)))) (fun _ _ => rfl)) ip_add)))
      (pss_one (ps_ret (pv 3))))), ?_⟩
    refine sq_set vp_c ?_
    refine sq_forR (vp_tabLen ht hs (vp_var rfl) (vp_var rfl)) (by omega)
      (fun i σ H' => ∃ v4, σ = [some (.ref a), some (.ref b), some (vN s), some (vN (costTo k s l i)), v4] ∧ Same H H') ⟨none, rfl, Same.refl _⟩ ?_ ?_
    · rintro i σ H1 hi ⟨v4, rfl, s1⟩
      refine ⟨vN (costTo k s l i), rfl, ?_⟩
      obtain ⟨x, hx, hv⟩ := Tb.row (K := K) (s1.duo ht) (s := s) (i := i) hs hi
      refine op_of (hv (vp_var (by rfl)) (vp_var (by rfl)) (vp_var (by rfl)) _ ?_)
      refine call3 (vp_var (by rfl)) (vp_var (by rfl)) (vp_var (by rfl)) ?_
      refine ⟨b, l, s, i, rfl, s1.il hl, by omega, fun e => ?_, fun H2 s2 => ?_⟩
      · subst e
        rw [sn_zero] at hi
        omega
      · refine ⟨x, _, _, _, rfl, rfl, SqL.of (s2 _ _ hx), nums_at (row_get (W.with_le hs i)), _, _, rfl, rfl, some (vN i), ?_, s1.trans s2⟩
        rw [costTo_succ]
        rfl
    · rintro σ H1 ⟨v4, rfl, s1⟩
      refine st_ret (vp_var rfl) ?_
      rw [costTo_all hs]
      exact q _ s1

/-! ### longer -/
def extTo (k : Mate.Book) (l : List Nat) (j : Nat) : List (List Nat) := (0 :: (((List.range j).filter fun b => k.may l.length b && !l.contains (b + 1)).map fun b => b + 1)).map fun p => l ++ [p]
theorem extTo_all (k : Mate.Book) (l : List Nat) : extTo k l k.there.length = ext k l := rfl
theorem filter_yes {p : Nat → Bool} {j : Nat} (h : p j = true) : (List.range (j + 1)).filter p = (List.range j).filter p ++ [j] := by
  rw [List.range_succ, List.filter_append, List.filter_cons_of_pos h]
  rfl
theorem filter_no {p : Nat → Bool} {j : Nat} (h : p j = false) : (List.range (j + 1)).filter p = (List.range j).filter p := by
  rw [List.range_succ, List.filter_append, List.filter_cons_of_neg (by rw [h]; exact Bool.false_ne_true), List.filter_nil, List.append_nil]
theorem extTo_yes {k : Mate.Book} {l : List Nat} {j : Nat} (h : (k.may l.length j && !l.contains (j + 1)) = true) : extTo k l (j + 1) = extTo k l j ++ [l ++ [j + 1]] := by
  unfold extTo
  rw [filter_yes (p := fun b => k.may l.length b && !l.contains (b + 1)) h, List.map_append, List.map_cons, List.map_cons, List.map_append]
  rfl
theorem extTo_no {k : Mate.Book} {l : List Nat} {j : Nat} (h : (k.may l.length j && !l.contains (j + 1)) = false) : extTo k l (j + 1) = extTo k l j := by
  unfold extTo
  rw [filter_no (p := fun b => k.may l.length b && !l.contains (b + 1)) h]
theorem extTo_ne {k : Mate.Book} {l : List Nat} {j : Nat} : ∀ x ∈ extTo k l j, x ≠ [] := by
  intro x hx e
  obtain ⟨p, _, rfl⟩ := List.mem_map.mp hx
  simp at e
theorem extTo_len (k : Mate.Book) (l : List Nat) (j : Nat) : (extTo k l j).length ≤ j + 1 := by
  unfold extTo
  rw [List.length_map, List.length_cons, List.length_map]
  have := List.length_filter_le (fun b => k.may l.length b && !l.contains (b + 1)) (List.range j)
  rw [List.length_range] at this
  omega
/-- a list of numbers, one more behind it -/
theorem cat1 {σ : L2.St} {H : Hp} {ta te : TE} {a : Addr} {l : List Nat} {p : Nat} {Q : VK} (va : Vp ta σ H (.ref a)) (hl : IL H a l) (h6 : l.length ≤ 1000) (ve : ∀ H', Vp te σ H' (vN p)) (q : ∀ H' x, Same H H' → H x = none → IL H' x (l ++ [p]) → Q (.ref x) H') :
    tOp rCat ta (tLst (tCons te tNil)) σ H Q := by
  refine va _ (ve H _ ⟨by show 1 ≤ sizeLine; decide, fun b nb => ?_⟩)
  have s1 : Same H (upd H b (.lst [vN p])) := (Same.refl H).new nb
  refine ⟨a, b, nums l, [vN p], rfl, rfl, s1.il hl, upd_same, ?_, fun x nx => q _ x (s1.new nx) (s1.free nx) ?_⟩
  · rw [nums_len]
    exact Nat.le_of_lt (small_size (by show l.length + 1 ≤ 1000000; omega))
  · show upd _ x _ x = _
    rw [upd_same, nums, nums, List.map_append]
    rfl
def sp_longer (K : PySem.W.Frag) : Sp := fun vs H Q _ => ∃ (a b : Addr) (k : Mate.Book) (l : List Nat), vs = [.ref a, .ref b] ∧ Tb H a k ∧ IL H b l ∧ Small k ∧ l.length < k.here.length ∧ ∀ (H' : Hp) (p : Addr), Same H H' → H p = none → LL H' p (ext k l) → Q (.ref p) H'

theorem ok_longer {f : Addr} {fd : FuncData} (F : Fun K "longer" "longer" s_longer f fd) (B : Blt mg) {f_mutual : Addr} {d_mutual : FuncData} (c_mutual : Cal P w K mg base "mutual" 1 ["table", "i", "j"] (sp_mutual K) f_mutual d_mutual) : FnOk P w K mg base CX0 2 f fd ["table", "w"] (sp_longer K) := by
  refine F.ok sc_longer (fun vs H Q E h => ?_) (fun cdv A outer s H vs Q E hr h => ?_)
  · obtain ⟨a, b, k, l, rfl, _⟩ := h
    rfl
  · obtain ⟨a, b, k, l, rfl, ht, hl, S, hw, q⟩ := h
    have hn := S.n
    have hm := S.m
    refine ⟨_, (pss_cons (ps_set (i := 2) sc_longer.nd rfl (.inl rfl) (pe_callB (call_lenK (K := K) rfl) (by rfl) B.len PySem.boot_len (pa_cons (pv 1) pa_nil)))
      (pss_cons (ps_set (i := 3) sc_longer.nd rfl (.inl rfl) (pe_lst (pa_cons (pe_op op_cat (pv 1) (pe_lst (pa_cons pe_int pa_nil))) pa_nil)))
      (pss_cons (ps_for PassesOwn.never rfl (pi_range1 (by rfl) B.range (pa_cons (pe_callB (call_lenK (K := K) rfl) (by rfl) B.len PySem.boot_len (pa_cons (pe_ix (ix_listK (K := K) rfl) (pv 0) pe_int (fun _ _ => rfl)) pa_nil)) pa_nil)) (pg_name (i := 4) sc_longer.nd rfl (.inl rfl)) (pss_one (ps_if (PW.pt (pw_and (pt_val (pcall c_mutual hr (by decide) (by rfl) (pa_cons (pv 0) (pa_cons (pv 2) (pa_cons (pv 4) pa_nil))))) (pw_and1 (pt_cmpR op_notIn_seq (pe_op op_add (pv 4) pe_int) (pv 1) (by rfl))))) (pss_one (ps_expr (pe_bm PySem.F.plainAttrs_list PySem.F.slot_list_append PySem.F.type_list_append mt_append (pv 3) (pa_cons (pe_op op_cat (pv 1) (pe_lst (pa_cons (pe_op op_add (pv 4) pe_int) pa_nil))) pa_nil)))) pss_nil)))
      (pss_one (ps_ret (pv 3)))))), ?_⟩
    refine sq_set (vp_lenN (vp_var rfl) hl) ?_
    refine cat1 (vp_var (by rfl)) hl (by omega) (fun _ => vp_c (v := vN 0)) fun H1 x s1 nx hx => ?_
    refine ⟨by show 1 ≤ sizeLine; decide, fun fo nfo => ?_⟩
    have no : H fo = none := s1.free nfo
    have s2 : Same H (upd H1 fo (.lst [.ref x])) := s1.new nfo
    have hL0 : LL (upd H1 fo (.lst [.ref x])) fo (extTo k l 0) := by
      refine ⟨[x], upd_same, rfl, fun i y z e1 e2 => ?_⟩
      cases i with
      | succ i => simp at e1
      | zero =>
        cases e1
        cases e2
        exact ((Same.refl H1).new nfo).il hx
    refine sq_forR (vp_tabLen (s2.duo ht) (s := 1) (by omega) (vp_var rfl) vp_c) (by rw [sn_one] <;> omega)
      (fun j σ H' => ∃ v4, σ = [some (.ref a), some (.ref b), some (vN l.length), some (.ref fo), v4] ∧ Same H H' ∧ LL H' fo (extTo k l j)) ⟨none, rfl, s2, hL0⟩ ?_ ?_
    · rintro j σ H2 hj ⟨v4, rfl, s3, hp⟩
      rw [sn_one] at hj
      refine call3 (vp_var (by rfl)) (vp_var (by rfl)) (vp_var (by rfl)) ?_
      refine ⟨a, k, l.length, j, rfl, s3.duo ht, hw, hj, fun H3 s4 => ⟨_, rfl, ?_⟩⟩
      have hp3 := s4.ll hp
      have s5 := s3.trans s4
      cases c : k.may l.length j with
      | false =>
        refine iteF (iteF ⟨_, rfl, s5, ?_⟩)
        rw [extTo_no (by rw [c]; rfl)]
        exact hp3
      | true =>
        refine iteT (vp_succ (vp_var (by rfl)) _ ?_)
        refine ⟨_, rfl, b, nums l, rfl, .inl (SqL.of (s5.il hl)), rfl, flat_nums _, _, rfl, ?_⟩
        show ite _ _ _
        rw [if_pos rfl, inV_nums]
        cases d : l.contains (j + 1) with
        | true =>
          refine iteF ⟨_, rfl, s5, ?_⟩
          rw [extTo_no (by rw [c, d]; rfl)]
          exact hp3
        | false =>
          refine iteT ?_
          refine ⟨.ref fo, rfl, .inl ⟨rfl, _, SqL.of hp3.choose_spec.1⟩, ?_⟩
          refine cat1 (vp_var (by rfl)) (s5.il hl) (by omega) (fun _ => vp_succ (vp_var (by rfl))) fun H4 x s6 nx hx => ?_
          obtain ⟨as, e1, e2, e3⟩ := (s6.ll hp3).push extTo_ne hx (by simp)
          refine ⟨fo, _, _, rfl, rfl, e2, ?_, _, rfl, (s5.trans s6).mut no, ?_⟩
          · rw [List.length_map, e1]
            have := extTo_len k l j
            exact small_size (by omega)
          · rw [extTo_yes (by rw [c, d]; rfl)]
            exact e3
    · rintro σ H1 ⟨v4, rfl, s3, hp⟩
      rw [sn_one, extTo_all] at hp
      exact st_ret (vp_var rfl) (q H1 fo s3 no hp)
end
end PO

/-! The walk, 5: the stable ways. -/
namespace PO
open PySem PySem.Spec PyProof.Rows L2
section
variable {P : Program} {w : World} {K : PySem.W.Frag} {mg : Str → Option Value} {base : Heap}

/-! ### torn -/
/-- the test twice in torn: an entry that is somebody, and the two would go off -/
theorem off_test {σ : L2.St} {H : Hp} {t1 t2 tr ti : TE} {a b : Addr} {k : Mate.Book} {l : List Nat} {r i : Nat} {Q : Bool → Hp → Prop} (ht : Tb H a k) (hl : IL H b l) (S : Small k) (W : WPre k l) (hr : r < l.length) (hi : i < l.length)
    (v1 : Vp t1 σ H (.ref a)) (v2 : Vp t2 σ H (.ref b)) (vr : Vp tr σ H (vN r)) (vi : Vp ti σ H (vN i)) (q : ∀ H', Same H H' → Q (decide (0 < Mate.Way.of_ l r) && k.off l i (Mate.Way.of_ l r - 1)) H') :
    tAnd (tB (tGt (tOp (rIxL K) t2 tr) (tC (.int 0)))) (tB (tCall (sp_go_off K) [] E0 (tCons t1 (tCons t2 (tCons ti (tCons (tOp (rI0 fun i j => .int (i - j)) (tOp (rIxL K) t2 tr) (tC (.int 1))) tNil)))))) σ H Q := by
  have vw : Vp (tOp (rIxL K) t2 tr) σ H (vN (Mate.Way.of_ l r)) := vp_ixN v2 vr hl (some_of hr)
  refine and_of (tB_of (vp_cmp vw vp_c _ ?_))
  refine ⟨_, rfl, ?_⟩
  have hx := W.of_le r
  cases e : Mate.Way.of_ l r with
  | zero =>
    rw [e] at q
    exact if_F (decide_eq_false (by omega)) (q H (Same.refl H))
  | succ x =>
    rw [e] at q vw hx
    refine if_T (decide_eq_true (by omega)) ?_
    refine call4 v1 v2 vi (vp_pred vw) ?_
    refine ⟨a, b, k, l, i, x, rfl, ht, hl, S, W, hi, by omega, fun H1 s1 => ⟨_, rfl, ?_⟩⟩
    have := q H1 s1
    rw [decide_eq_true (by omega), Bool.true_and, Nat.add_sub_cancel] at this
    exact this
def tornAt (k : Mate.Book) (l : List Nat) (i : Nat) : Bool := (decide (0 < Mate.Way.of_ l (l.length - 1)) && k.off l i (Mate.Way.of_ l (l.length - 1) - 1)) || (decide (0 < Mate.Way.of_ l i) && k.off l (l.length - 1) (Mate.Way.of_ l i - 1))
theorem torn_at (k : Mate.Book) (l : List Nat) : torn k l = (List.range (l.length - 1)).any (tornAt k l) := rfl
def sp_torn (K : PySem.W.Frag) : Sp := fun vs H Q _ => ∃ (a b : Addr) (k : Mate.Book) (l : List Nat), vs = [.ref a, .ref b] ∧ Tb H a k ∧ IL H b l ∧ Small k ∧ WPre k l ∧ 0 < l.length ∧ ∀ H', Same H H' → Q (.bl (torn k l)) H'
theorem ok_torn {f : Addr} {fd : FuncData} (F : Fun K "torn" "torn" s_torn f fd) (B : Blt mg) {f_go_off : Addr} {d_go_off : FuncData} (c_go_off : Cal P w K mg base "go_off" 2 ["table", "w", "i", "j"] (sp_go_off K) f_go_off d_go_off) : FnOk P w K mg base CX0 3 f fd ["table", "w"] (sp_torn K) := by
  refine F.ok sc_torn (fun vs H Q E h => ?_) (fun cdv A outer s H vs Q E hr h => ?_)
  · obtain ⟨a, b, k, l, rfl, _⟩ := h
    rfl
  · obtain ⟨a, b, k, l, rfl, ht, hl, S, W, hp, q⟩ := h
    have hn := S.n
    have hw := W.len
    refine ⟨_, (pss_cons (ps_set (i := 2) sc_torn.nd rfl (.inl rfl) (pe_op op_sub (pe_callB (call_lenK (K := K) rfl) (by rfl) B.len PySem.boot_len (pa_cons (pv 1) pa_nil)) pe_int))
      (pss_cons (ps_for PassesOwn.never rfl (pi_range1 (by rfl) B.range (pa_cons (pv 2) pa_nil)) (pg_name (i := 3) sc_torn.nd rfl (.inl rfl)) (pss_cons (ps_if (PW.pt (pw_and (pt_cmp (pc_gt (pe_ix (ix_listK (K := K) rfl) (pv 1) (pv 2) (fun _ _ => rfl)) pe_int)) (pw_and1 (pt_val (pcall c_go_off hr (by decide) (by rfl) (pa_cons (pv 0) (pa_cons (pv 1) (pa_cons (pv 3) (pa_cons (pe_op op_sub (pe_ix (ix_listK (K := K) rfl) (pv 1) (pv 2) (fun _ _ => rfl)) pe_int) pa_nil))))))))) (pss_one (ps_ret pe_bl)) pss_nil)
      (pss_one (ps_if (PW.pt (pw_and (pt_cmp (pc_gt (pe_ix (ix_listK (K := K) rfl) (pv 1) (pv 3) (fun _ _ => rfl)) pe_int)) (pw_and1 (pt_val (pcall c_go_off hr (by decide) (by rfl) (pa_cons (pv 0) (pa_cons (pv 1) (pa_cons (pv 2) (pa_cons (pe_op op_sub (pe_ix (ix_listK (K := K) rfl) (pv 1) (pv 3) (fun _ _ => rfl)) pe_int) pa_nil))))))))) (pss_one (ps_ret pe_bl)) pss_nil))))
      (pss_one (ps_ret pe_bl)))), ?_⟩
    have el : V.int ((l.length : Int) - 1) = vN (l.length - 1) := by
      show V.int _ = V.int _
      rw [show (l.length : Int) - 1 = ((l.length - 1 : Nat) : Int) by omega]
    refine sq_set ((vp_sub (vp_lenN (vp_var rfl) hl) vp_c).to el) ?_
    refine sq_forR (vp_var rfl) (by omega)
      (fun i σ H' => ∃ v3, σ = [some (.ref a), some (.ref b), some (vN (l.length - 1)), v3] ∧ Same H H' ∧ ∀ j, j < i → tornAt k l j = false) ⟨none, rfl, Same.refl _, fun j hj => by omega⟩ ?_ ?_
    · rintro i σ H1 hi ⟨v3, rfl, s1, hno⟩
      have yes : tornAt k l i = true → torn k l = true := fun e => by
        rw [torn_at]
        exact List.any_eq_true.mpr ⟨i, List.mem_range.mpr hi, e⟩
      refine off_test (s1.duo ht) (s1.il hl) S W (r := l.length - 1) (i := i) (by omega) (by omega) (vp_var (by rfl)) (vp_var (by rfl)) (vp_var (by rfl)) (vp_var (by rfl)) fun H2 s2 => ?_
      cases c1 : (decide (0 < Mate.Way.of_ l (l.length - 1)) && k.off l i (Mate.Way.of_ l (l.length - 1) - 1)) with
      | true =>
        refine iteT (st_ret vp_c ?_)
        rw [yes (by unfold tornAt; rw [c1]; rfl)] at q
        exact q _ (s1.trans s2)
      | false =>
        refine iteF ?_
        have s3 := s1.trans s2
        refine off_test (s3.duo ht) (s3.il hl) S W (r := i) (i := l.length - 1) (by omega) (by omega) (vp_var (by rfl)) (vp_var (by rfl)) (vp_var (by rfl)) (vp_var (by rfl)) fun H4 s4 => ?_
        cases c2 : (decide (0 < Mate.Way.of_ l i) && k.off l (l.length - 1) (Mate.Way.of_ l i - 1)) with
        | true =>
          refine iteT (st_ret vp_c ?_)
          rw [yes (by unfold tornAt; rw [c1, c2]; rfl)] at q
          exact q _ (s3.trans s4)
        | false =>
          refine iteF ⟨_, rfl, s3.trans s4, fun j hj => ?_⟩
          by_cases e : j = i
          · rw [e]
            unfold tornAt
            rw [c1, c2]
            rfl
          · exact hno j (by omega)
    · rintro σ H1 ⟨v3, rfl, s1, hno⟩
      refine st_ret vp_c ?_
      have e : torn k l = false := by
        rw [torn_at, Bool.eq_false_iff]
        intro z
        obtain ⟨j, hj, e⟩ := List.any_eq_true.mp z
        rw [hno j (List.mem_range.mp hj)] at e
        cases e
      rw [e] at q
      exact q _ s1

/-! ### further -/
theorem WPre.of_fits {k : Mate.Book} {l : List Nat} (h : FitsPre k l) (hl : l.length ≤ k.here.length) : WPre k l := ⟨hl, fun _ _ e => all_le h e⟩
theorem take_snoc {A : Type} {l : List A} {i : Nat} {x : A} (h : l[i]? = some x) : l.take (i + 1) = l.take i ++ [x] := by
  rw [List.take_add_one, h]
  rfl
theorem further_snoc (k : Mate.Book) (ll : List (List Nat)) (l : List Nat) : further k (ll ++ [l]) = further k ll ++ longer k l := by
  unfold further
  rw [List.flatMap_append, List.flatMap_cons, List.flatMap_nil, List.append_nil]
theorem further_ne {k : Mate.Book} {ll : List (List Nat)} : ∀ x ∈ further k ll, x ≠ [] := by
  intro x hx
  obtain ⟨l, _, h⟩ := List.mem_flatMap.mp hx
  obtain ⟨p, _, rfl⟩ := List.mem_map.mp (List.mem_filter.mp h).1
  simp
theorem further_len {k : Mate.Book} (ll : List (List Nat)) : (further k ll).length ≤ ll.length * (k.there.length + 1) :=
  flatMap_len (f := longer k) (c := k.there.length + 1) (fun l => Nat.le_trans (List.length_filter_le _ _) (ext_len k l)) ll
def sp_further (K : PySem.W.Frag) : Sp := fun vs H Q _ => ∃ (a b : Addr) (k : Mate.Book) (ll : List (List Nat)) (n : Nat), vs = [.ref a, .ref b] ∧ Tb H a k ∧ LL H b ll ∧ Small k ∧ (∀ l ∈ ll, l.length = n ∧ FitsPre k l) ∧ n < k.here.length ∧ ll.length ≤ 20000 ∧ ∀ (H' : Hp) (p : Addr), Same H H' → LL H' p (further k ll) → Q (.ref p) H'
theorem ok_further {f : Addr} {fd : FuncData} (F : Fun K "further" "further" s_further f fd) (B : Blt mg) {f_longer : Addr} {d_longer : FuncData} (c_longer : Cal P w K mg base "longer" 2 ["table", "w"] (sp_longer K) f_longer d_longer) {f_torn : Addr} {d_torn : FuncData} (c_torn : Cal P w K mg base "torn" 3 ["table", "w"] (sp_torn K) f_torn d_torn) : FnOk P w K mg base CX0 4 f fd ["table", "begun"] (sp_further K) := by
  refine F.ok sc_further (fun vs H Q E h => ?_) (fun cdv A outer s H vs Q E hr h => ?_)
  · obtain ⟨a, b, k, l, n, rfl, _⟩ := h
    rfl
  · obtain ⟨a, b, k, ll, n, rfl, ht, hl, S, W, hw, hlen, q⟩ := h
    have hn := S.n
    have hm := S.m
    obtain ⟨as, h1, h2, h3⟩ := hl
    refine ⟨_, (pss_cons (ps_set (i := 2) sc_further.nd rfl (.inl rfl) (pe_lst pa_nil))
      (pss_cons (ps_for PassesOwn.never rfl (pi_list (pv 1)) (pg_name (i := 3) sc_further.nd rfl (.inl rfl)) (pss_one (ps_for PassesOwn.never rfl (pi_list (pcall c_longer hr (by decide) (by rfl) (pa_cons (pv 0) (pa_cons (pv 3) pa_nil)))) (pg_name (i := 4) sc_further.nd rfl (.inl rfl)) (pss_one (ps_if (pt_not (pt_val (pcall c_torn hr (by decide) (by rfl) (pa_cons (pv 0) (pa_cons (pv 4) pa_nil))))) (pss_one (ps_expr (pe_bm PySem.F.plainAttrs_list PySem.F.slot_list_append PySem.F.type_list_append mt_append (pv 2) (pa_cons (pv 4) pa_nil)))) pss_nil)))))
      (pss_one (ps_ret (pv 2))))), ?_⟩
    refine sq_new fun fo no => ?_
    have s1 : Same H (upd H fo (.lst [])) := (Same.refl H).new no
    refine sq_forL (vp_var rfl) (s1 _ _ h1)
      (fun i σ H' => i ≤ as.length ∧ ∃ v3 v4, σ = [some (.ref a), some (.ref b), some (.ref fo), v3, v4] ∧ Same H H' ∧ LL H' fo (further k (ll.take i))) ⟨by omega, none, none, rfl, s1, LL.nil⟩ (fun i σ H' _ ⟨_, _, _, _, s, _⟩ => s _ _ h1) ?_ ?_
    · rintro i x σ H1 hx ⟨_, v3, v4, rfl, s2, hp⟩
      rw [List.getElem?_map] at hx
      obtain ⟨y, hy, rfl⟩ := Option.map_eq_some_iff.mp hx
      have hi := (List.getElem?_eq_some_iff.mp hy).1
      have hll : ll[i]? = some (ll.getD i []) := getD_some (by omega)
      obtain ⟨w1, w2⟩ := W _ (List.mem_of_getElem? hll)
      have hy3 : IL H y (ll.getD i []) := h3 i y _ hy hll
      have hlast := take_snoc hll
      generalize ll.getD i [] = l at w1 w2 hy3 hlast
      refine call2 (vp_var (by rfl)) (vp_var (by rfl)) ?_
      refine ⟨a, y, k, l, rfl, s2.duo ht, s2.il hy3, S, by omega, fun H2 e s3 ne he => ?_⟩
      obtain ⟨es, g1, g2, g3⟩ := he
      have nef : e ≠ fo := ne_acc hp.choose_spec.1 ne
      have nfo := s3 _ _ hp.choose_spec.1
      have s4 := s2.trans s3
      refine ⟨e, rfl, ⟨_, SqL.of g1⟩, for_list (K := K) (a := e) (xs := es.map V.ref)
        (fun j σ H' => ∃ v4, σ = [some (.ref a), some (.ref b), some (.ref fo), some (.ref y), v4] ∧ SameX fo H2 H' ∧ Same H H' ∧ LL H' fo (further k (ll.take i) ++ ((ext k l).take j).filter fun v => !torn k v)) ?_ ?_ ?_ ?_⟩
      · refine ⟨v4, rfl, SameX.refl _ _, s4, ?_⟩
        rw [List.take_zero, List.filter_nil, List.append_nil]
        exact s3.ll hp
      · rintro j σ H3 _ ⟨_, _, s, _⟩
        exact SqL.of (s _ _ nef g1)
      · rintro j z σ H3 hz ⟨v4, rfl, s5, s6, hp⟩
        rw [List.getElem?_map] at hz
        obtain ⟨u, hu, rfl⟩ := Option.map_eq_some_iff.mp hz
        have hj := (List.getElem?_eq_some_iff.mp hu).1
        have hv : (ext k l)[j]? = some ((ext k l).getD j []) := getD_some (by omega)
        have hmem := List.mem_of_getElem? hv
        have hu2 : IL H2 u ((ext k l).getD j []) := g3 j u _ hu hv
        have huf : u ≠ fo := by
          obtain ⟨p, _, e⟩ := List.mem_map.mp hmem
          refine ne_of hu2 nfo fun z => nums_inj_ref ?_ (HO.lst.inj z)
          rw [← e]
          simp
        have hu3 : IL H3 u ((ext k l).getD j []) := s5 _ _ huf hu2
        have hlast2 := take_snoc hv
        generalize (ext k l).getD j [] = v at hmem hu2 hu3 hlast2
        have vl : v.length = n + 1 := by
          obtain ⟨p, _, rfl⟩ := List.mem_map.mp hmem
          rw [List.length_append, w1]
          rfl
        have vw : WPre k v := .of_fits (fits_ext w2 hmem) (by omega)
        refine call2 (vp_var (by rfl)) (vp_var (by rfl)) ?_
        refine ⟨a, u, k, v, rfl, s6.duo ht, hu3, S, vw, by omega, fun H4 s7 => ⟨_, rfl, ?_⟩⟩
        have hp4 := s7.ll hp
        cases c : torn k v with
        | true =>
          refine iteF ⟨_, rfl, s5.trans s7, s6.trans s7, ?_⟩
          rw [hlast2, List.filter_append, List.filter_cons_of_neg (by rw [c]; exact Bool.false_ne_true), List.filter_nil, List.append_nil]
          exact hp4
        | false =>
          refine iteT ?_
          have nv : v ≠ [] := by
            intro e
            rw [e] at vl
            cases vl
          obtain ⟨bs, e1, e2, e3⟩ := hp4.push (fun x hx => by
            rcases List.mem_append.mp hx with hx | hx
            · exact further_ne x hx
            · obtain ⟨p, _, rfl⟩ := List.mem_map.mp (List.mem_of_mem_take (List.mem_filter.mp hx).1)
              simp) (s7.il hu3) nv
          refine ⟨.ref fo, rfl, .inl ⟨rfl, _, SqL.of e2⟩, _, rfl, fo, _, _, rfl, rfl, e2, ?_, _, rfl, ?_, (s6.trans s7).mut no, ?_⟩
          · rw [List.length_map, e1, List.length_append]
            have b1 := further_len (k := k) (ll.take i)
            have b2 := List.length_filter_le (fun v => !torn k v) ((ext k l).take j)
            have b3 := ext_len k l
            rw [List.length_take] at b1 b2
            have b4 : min i ll.length * (k.there.length + 1) ≤ 20000 * 7 := Nat.mul_le_mul (by omega) (by omega)
            exact small_size (by omega)
          · exact s5.mut s7
          · rw [hlast2, List.filter_append, List.filter_cons_of_pos (by rw [c]; rfl), List.filter_nil, ← List.append_assoc]
            exact e3
      · rintro σ H3 ⟨v4, rfl, s5, s6, hp⟩
        rw [List.length_map, g2, List.take_length] at hp
        refine ⟨by omega, _, _, rfl, s6, ?_⟩
        rw [hlast, further_snoc]
        exact hp
    · rintro σ H1 ⟨_, v3, v4, rfl, s2, hp⟩
      rw [List.length_map, h2, List.take_length] at hp
      exact st_ret (vp_var rfl) (q H1 fo s2 hp)
end
end PO

/-! The walk, 6: all stable ways. -/
namespace PO
open PySem PySem.Spec PyProof.Rows L2
section
variable {P : Program} {w : World} {K : PySem.W.Frag} {mg : Str → Option Value} {base : Heap}
theorem begun_small {k : Mate.Book} (S : Small k) {i : Nat} (hi : i ≤ 5) : (begun k i).length ≤ 20000 := by
  have h1 := begun_len k i
  have h2 : (k.there.length + 1) ^ i ≤ 7 ^ i := Nat.pow_le_pow_left (by have := S.m; omega) i
  have h3 : (7 : Nat) ^ i ≤ 7 ^ 5 := Nat.pow_le_pow_right (by decide) hi
  have h4 : (7 : Nat) ^ 5 ≤ 20000 := by decide
  omega
theorem begun_small6 {k : Mate.Book} (S : Small k) {i : Nat} (hi : i ≤ 6) : (begun k i).length ≤ 200000 := by
  have h1 := begun_len k i
  have h2 : (k.there.length + 1) ^ i ≤ 7 ^ i := Nat.pow_le_pow_left (by have := S.m; omega) i
  have h3 : (7 : Nat) ^ i ≤ 7 ^ 6 := Nat.pow_le_pow_right (by decide) hi
  have h4 : (7 : Nat) ^ 6 ≤ 200000 := by decide
  omega
theorem all_small {k : Mate.Book} (S : Small k) : k.all.length ≤ 200000 := by
  rw [← ways_all]
  exact Nat.le_trans (List.length_filter_le _ _) (begun_small6 S S.n)
def sp_stable_ways (K : PySem.W.Frag) : Sp := fun vs H Q _ => ∃ (a : Addr) (k : Mate.Book), vs = [.ref a] ∧ Tb H a k ∧ Small k ∧ ∀ (H' : Hp) (p : Addr), Same H H' → LL H' p k.all → Q (.ref p) H'
theorem PL.len {K : PySem.W.Frag} {H : Hp} {a : Addr} {ps : List (Nat × Nat)} (h : PL H a ps) : ∃ xs, SqL K H a xs ∧ xs.length = ps.length := by
  obtain ⟨as, h1, h2, _⟩ := h
  exact ⟨_, SqL.of h1, by rw [List.length_map, h2]⟩
theorem ok_stable_ways {f : Addr} {fd : FuncData} (F : Fun K "stable_ways" "stable_ways" s_stable_ways f fd) (B : Blt mg) {f_further : Addr} {d_further : FuncData} (c_further : Cal P w K mg base "further" 4 ["table", "begun"] (sp_further K) f_further d_further) {f_off_pairs : Addr} {d_off_pairs : FuncData} (c_off_pairs : Cal P w K mg base "off_pairs" 3 ["table", "w"] (sp_off_pairs K) f_off_pairs d_off_pairs) : FnOk P w K mg base CX0 5 f fd ["table"] (sp_stable_ways K) := by
  refine F.ok sc_stable_ways (fun vs H Q E h => ?_) (fun cdv A outer s H vs Q E hr h => ?_)
  · obtain ⟨a, k, rfl, _⟩ := h
    rfl
  · obtain ⟨a, k, rfl, ht, S, q⟩ := h
    have hn := S.n
    have hm := S.m
    refine ⟨_, (pss_cons (ps_set (i := 1) sc_stable_ways.nd rfl (.inl rfl) (pe_lst (pa_cons (pe_lst pa_nil) pa_nil)))
      (pss_cons (ps_for PassesOwn.never rfl (pi_range1 (by rfl) B.range (pa_cons (pe_callB (call_lenK (K := K) rfl) (by rfl) B.len PySem.boot_len (pa_cons (pe_ix (ix_listK (K := K) rfl) (pv 0) pe_int (fun _ _ => rfl)) pa_nil)) pa_nil)) (pg_name (i := 2) sc_stable_ways.nd rfl (.inl rfl)) (pss_one (ps_set (i := 1) sc_stable_ways.nd rfl (.inl rfl) (pcall c_further hr (by decide) (by rfl) (pa_cons (pv 0) (pa_cons (pv 1) pa_nil))))))
      (pss_one (ps_ret (pe_lc (own := [("w", 3)]) (g := gName 3) rfl sc_stable_ways.nd (pi_list (pv 1)) (blkOk_by (own := [("w", 3)]) (N := N_stable_ways) (sc := defScope s_stable_ways) (by decide +kernel)) (fun _ _ _ _ _ => pg_name (i := 3) sc_stable_ways.nd rfl (.inl rfl)) (fun _ _ _ _ _ => (pts_one (pt_cmp (pc_eqI (pe_callB (call_lenK (K := K) rfl) (by rfl) B.len PySem.boot_len (pa_cons (pcall c_off_pairs hr (by decide) (by rfl) (pa_cons (pv 0) (pa_cons (pv 3) pa_nil))) pa_nil)) pe_int)))) (fun _ _ _ _ _ => (pv 3))))))), ?_⟩
    -- the empty beginning
    refine ⟨Nat.zero_le _, fun p0 n0 => ⟨by show 1 ≤ sizeLine; decide, fun p1 n1 => ?_⟩⟩
    have s1 : Same H (upd (upd H p0 (.lst [])) p1 (.lst [.ref p0])) := ((Same.refl H).new n0).new n1
    have hL0 : LL (upd (upd H p0 (.lst [])) p1 (.lst [.ref p0])) p1 (begun k 0) := by
      refine ⟨[p0], upd_same, rfl, fun i x l e1 e2 => ?_⟩
      cases i with
      | succ i => simp at e1
      | zero =>
        cases e1
        cases e2
        show upd _ _ _ _ = _
        rw [upd_ne (ne_of_none upd_same n1), upd_same]
        rfl
    refine sq_forR (vp_tabLen (s1.duo ht) (s := 0) (by omega) (vp_var rfl) vp_c) (by rw [sn_zero] <;> omega)
      (fun i σ H' => ∃ x v2 v3, σ = [some (.ref a), some (.ref x), v2, v3] ∧ Same H H' ∧ LL H' x (begun k i)) ⟨p1, none, none, rfl, s1, hL0⟩ ?_ ?_
    · rintro i σ H1 hi ⟨x, v2, v3, rfl, s2, hL⟩
      rw [sn_zero] at hi
      refine call2 (vp_var (by rfl)) (vp_var (by rfl)) ?_
      exact ⟨a, x, k, begun k i, i, rfl, s2.duo ht, hL, S, fun l hl => mem_begun hl, hi, begun_small S (by omega), fun H2 y s3 hy => ⟨y, _, _, rfl, s2.trans s3, hy⟩⟩
    · rintro σ H1 ⟨x, v2, v3, rfl, s2, hL⟩
      rw [sn_zero] at hL
      have W : ∀ l ∈ begun k k.here.length, l.length = k.here.length ∧ FitsPre k l := fun l hl => mem_begun hl
      have hlen := begun_small6 S hn
      have hall := ways_all k
      unfold ways at hall
      generalize begun k k.here.length = ll at hL W hlen hall
      obtain ⟨as, h1, h2, h3⟩ := hL
      refine ⟨_, rfl, x, rfl, ⟨_, SqL.of h1⟩, fun D nD => ?_⟩
      refine lc_list (K := K) (a := x) (xs := as.map V.ref) (fun i H' => i ≤ as.length ∧ Same H1 H' ∧ LL H' D ((ll.take i).filter fun w => decide ((k.offs w).length = 0))) ?_ ?_ ?_ ?_
      · refine ⟨by omega, (Same.refl H1).new nD, ?_⟩
        rw [List.take_zero]
        exact LL.nil
      · rintro i H2 _ ⟨_, s, _⟩
        exact SqL.of (s _ _ h1)
      · rintro i z H2 hz ⟨_, s3, hD⟩
        rw [List.getElem?_map] at hz
        obtain ⟨y, hy, rfl⟩ := Option.map_eq_some_iff.mp hz
        have hi := (List.getElem?_eq_some_iff.mp hy).1
        have hv : ll[i]? = some (ll.getD i []) := getD_some (by omega)
        have hmem := List.mem_of_getElem? hv
        have hy3 : IL H1 y (ll.getD i []) := h3 i y _ hy hv
        have hlast := take_snoc hv
        generalize ll.getD i [] = l at hmem hy3 hlast
        obtain ⟨w1, w2⟩ := W l hmem
        refine ⟨rfl, ?_⟩
        refine call2 (vp_var (by rfl)) (vp_var (by rfl)) ?_
        refine ⟨a, y, k, l, rfl, (s2.trans s3).duo ht, s3.il hy3, S, .of_fits w2 (by omega), w1, fun H3 o s4 ho => ?_⟩
        obtain ⟨xs, g1, g2⟩ := PL.len (K := K) ho
        refine ⟨o, xs, rfl, .inl g1, _, _, rfl, rfl, _, rfl, ?_⟩
        rw [g2]
        have hD3 := s4.ll hD
        have nl : l ≠ [] := by
          intro e
          rw [e] at w1
          have := S.p
          rw [← w1] at this
          cases this
        by_cases c : (k.offs l).length = 0
        · refine if_T (decide_eq_true (by omega)) ?_
          obtain ⟨bs, e1, e2, e3⟩ := hD3.push (fun x hx => by
            obtain ⟨u1, u2⟩ := W x (List.mem_of_mem_take (List.mem_filter.mp hx).1)
            intro e
            rw [e] at u1
            have := S.p
            rw [← u1] at this
            cases this) (s4.il (s3.il hy3)) nl
          refine ⟨_, rfl, _, e2, ?_, by omega, (s3.trans s4).mut nD, ?_⟩
          · rw [List.length_map, e1]
            refine small_size (Nat.le_trans (List.length_filter_le _ _) ?_)
            rw [List.length_take]
            omega
          · rw [hlast, List.filter_append, List.filter_cons_of_pos (by rw [decide_eq_true c]), List.filter_nil]
            exact e3
        · refine if_F (decide_eq_false (by omega)) ⟨by omega, s3.trans s4, ?_⟩
          rw [hlast, List.filter_append, List.filter_cons_of_neg (by rw [decide_eq_false c]; exact Bool.false_ne_true), List.filter_nil, List.append_nil]
          exact hD3
      · rintro H2 ⟨_, s3, hD⟩
        rw [List.length_map, h2, List.take_length, hall] at hD
        exact q H2 D (s2.trans s3) hD
end
end PO

/-! The walk, 7: picks. -/
namespace PO
open PySem PySem.Spec PyProof.Rows L2
abbrev s_first_least : Stmt := topS 33
abbrev N_first_least : List Str := ["numbers", "at", "k"]
theorem sc_first_least : FnScope N_first_least ["numbers"] (defScope s_first_least) := ⟨rfl, rfl, rfl, by decide +kernel, rfl, by decide +kernel, by decide +kernel⟩
abbrev s_best_way : Stmt := topS 34
abbrev N_best_way : List Str := ["table", "s", "ways", "at", "w"]
theorem sc_best_way : FnScope N_best_way ["table", "s"] (defScope s_best_way) := ⟨rfl, rfl, rfl, by decide +kernel, rfl, by decide +kernel, by decide +kernel⟩
abbrev s_fair_way : Stmt := topS 35
abbrev N_fair_way : List Str := ["table", "ways", "totals", "at", "w"]
theorem sc_fair_way : FnScope N_fair_way ["table"] (defScope s_fair_way) := ⟨rfl, rfl, rfl, by decide +kernel, rfl, by decide +kernel, by decide +kernel⟩
abbrev s_chosen : Stmt := topS 36
abbrev N_chosen : List Str := ["row", "x", "a", "b"]
theorem sc_chosen : FnScope N_chosen ["row", "x", "a", "b"] (defScope s_chosen) := ⟨rfl, rfl, rfl, by decide +kernel, rfl, by decide +kernel, by decide +kernel⟩
abbrev s_picked : Stmt := topS 37
abbrev N_picked : List Str := ["table", "x", "v", "w", "i"]
theorem sc_picked : FnScope N_picked ["table", "x", "v", "w"] (defScope s_picked) := ⟨rfl, rfl, rfl, by decide +kernel, rfl, by decide +kernel, by decide +kernel⟩
abbrev s_together : Stmt := topS 38
abbrev N_together : List Str := ["ways", "i", "j", "w"]
theorem sc_together : FnScope N_together ["ways", "i", "j"] (defScope s_together) := ⟨rfl, rfl, rfl, by decide +kernel, rfl, by decide +kernel, by decide +kernel⟩
abbrev s_common_pairs : Stmt := topS 39
abbrev N_common_pairs : List Str := ["table", "ways", "found", "i", "j"]
theorem sc_common_pairs : FnScope N_common_pairs ["table"] (defScope s_common_pairs) := ⟨rfl, rfl, rfl, by decide +kernel, rfl, by decide +kernel, by decide +kernel⟩
section
variable {P : Program} {w : World} {K : PySem.W.Frag} {mg : Str → Option Value} {base : Heap}

/-! ### first_least -/
def sp_first_least (K : PySem.W.Frag) : Sp := fun vs H Q _ => ∃ (a : Addr) (l : List Nat), vs = [.ref a] ∧ IL H a l ∧ l ≠ [] ∧ l.length ≤ 1000000 ∧ ∀ H', Same H H' → Q (vN (firstLeast l)) H'
theorem ok_first_least {f : Addr} {fd : FuncData} (F : Fun K "first_least" "first_least" s_first_least f fd) (B : Blt mg) : FnOk P w K mg base CX0 1 f fd ["numbers"] (sp_first_least K) := by
  refine F.ok sc_first_least (fun vs H Q E h => ?_) (fun cdv A outer s H vs Q E hr h => ?_)
  · obtain ⟨a, l, rfl, _⟩ := h
    rfl
  · obtain ⟨a, l, rfl, hl, hne, hlen, q⟩ := h
    refine ⟨_, (pss_cons (ps_set (i := 1) sc_first_least.nd rfl (.inl rfl) pe_int)
      (pss_cons (ps_for PassesOwn.never rfl (pi_range1 (by rfl) B.range (pa_cons (pe_callB (call_lenK (K := K) rfl) (by rfl) B.len PySem.boot_len (pa_cons (pv 0) pa_nil)) pa_nil)) (pg_name (i := 2) sc_first_least.nd rfl (.inl rfl)) (pss_one (ps_if (pt_cmp (pc_lt (pe_ix (ix_listK (K := K) rfl) (pv 0) (pv 2) (fun _ _ => rfl)) (pe_ix (ix_listK (K := K) rfl) (pv 0) (pv 1) (fun _ _ => rfl)))) (pss_one (ps_set (i := 1) sc_first_least.nd rfl (.inl rfl) (pv 2))) pss_nil)))
      (pss_one (ps_ret (pv 1))))), ?_⟩
    refine sq_set vp_c ?_
    refine sq_forR (vp_lenN (vp_var rfl) hl) hlen (fun i σ H' => ∃ v2, σ = [some (.ref a), some (vN (leastTo l i)), v2] ∧ H' = H) ⟨none, rfl, rfl⟩ ?_ ?_
    · rintro i σ H1 hi ⟨v2, rfl, rfl⟩
      have hat := leastTo_lt hne (i := i) (by omega)
      have hs := leastTo_succ l i
      refine st_if2 (vp_cmp (vp_ixN (vp_var rfl) (vp_var rfl) hl (getD_some (d := 0) hi)) (vp_ixN (vp_var rfl) (vp_var rfl) hl (getD_some (d := 0) hat))) (fun c => ?_) (fun c => ?_)
      · rw [if_pos (by omega)] at hs
        refine ⟨_, rfl, some (vN i), ?_, rfl⟩
        rw [hs]
        rfl
      · rw [if_neg (by omega)] at hs
        refine ⟨some (vN i), ?_, rfl⟩
        rw [hs]
        rfl
    · rintro σ H1 ⟨v2, rfl, rfl⟩
      exact st_ret (vp_var rfl) (q _ (Same.refl _))

/-! ### best_way, fair_way -/
theorem all_get {k : Mate.Book} {i : Nat} (hi : i < k.all.length) : k.all.getD i [] ∈ k.all := by
  rw [List.getD_eq_getElem?_getD, List.getElem?_eq_getElem hi]
  exact List.getElem_mem hi
theorem all_pre {k : Mate.Book} {l : List Nat} (h : l ∈ k.all) : WPre k l ∧ l.length = k.here.length := by
  obtain ⟨h1, h2⟩ := fits_iff.mp (mem_all.mp h).1
  exact ⟨.of_fits h2 (Nat.le_of_eq h1), h1⟩
theorem best_eq {k : Mate.Book} {s : Nat} : k.all.getD (firstLeast (k.all.map (costS k s))) [] = k.best s := by
  rw [least_eq _ (all_ne k)]
  unfold Mate.Book.best
  congr 1
  funext l
  unfold costS
  split <;> rfl
theorem fair_eq {k : Mate.Book} : k.all.getD (firstLeast (k.all.map fun l => k.cost0 l + k.cost1 l)) [] = k.fair := least_eq (fun l => k.cost0 l + k.cost1 l) (all_ne k)
def sp_best_way (K : PySem.W.Frag) : Sp := fun vs H Q _ => ∃ (a : Addr) (k : Mate.Book) (s : Nat), vs = [.ref a, vN s] ∧ Tb H a k ∧ Small k ∧ s ≤ 1 ∧ ∀ (H' : Hp) (p : Addr), Same H H' → IL H' p (k.best s) → Q (.ref p) H'
theorem ok_best_way {f : Addr} {fd : FuncData} (F : Fun K "best_way" "best_way" s_best_way f fd) (B : Blt mg) {f_stable_ways : Addr} {d_stable_ways : FuncData} (c_stable_ways : Cal P w K mg base "stable_ways" 5 ["table"] (sp_stable_ways K) f_stable_ways d_stable_ways) {f_first_least : Addr} {d_first_least : FuncData} (c_first_least : Cal P w K mg base "first_least" 1 ["numbers"] (sp_first_least K) f_first_least d_first_least) {f_way_cost : Addr} {d_way_cost : FuncData} (c_way_cost : Cal P w K mg base "way_cost" 3 ["table", "w", "s"] (sp_way_cost K) f_way_cost d_way_cost) : FnOk P w K mg base CX0 6 f fd ["table", "s"] (sp_best_way K) := by
  refine F.ok sc_best_way (fun vs H Q E h => ?_) (fun cdv A outer s H vs Q E hr h => ?_)
  · obtain ⟨a, k, s, rfl, _⟩ := h
    rfl
  · obtain ⟨a, k, s, rfl, ht, S, hs, q⟩ := h
    have hall := all_small S
    refine ⟨_, (pss_cons (ps_set (i := 2) sc_best_way.nd rfl (.inl rfl) (pcall c_stable_ways hr (by decide) (by rfl) (pa_cons (pv 0) pa_nil)))
      (pss_cons (ps_set (i := 3) sc_best_way.nd rfl (.inl rfl) (pcall c_first_least hr (by decide) (by rfl) (pa_cons (pe_lc (own := [("w", 4)]) (g := gName 4) (tt := tYes) rfl sc_best_way.nd (pi_list (pv 2)) (blkOk_by (own := [("w", 4)]) (N := N_best_way) (sc := defScope s_best_way) (by decide +kernel)) (fun _ _ _ _ _ => pg_name (i := 4) sc_best_way.nd rfl (.inl rfl)) (fun _ _ _ _ _ => pts_nil) (fun _ _ _ _ _ => (pcall c_way_cost hr (by decide) (by rfl) (pa_cons (pv 0) (pa_cons (pv 4) (pa_cons (pv 1) pa_nil)))))) pa_nil)))
      (pss_one (ps_ret (pe_ix (ix_listK (K := K) rfl) (pv 2) (pv 3) (fun _ _ => rfl)))))), ?_⟩
    refine sq_of (call1 (vp_var (by rfl)) ?_)
    refine ⟨a, k, rfl, ht, S, fun H1 x s1 hx => ?_⟩
    obtain ⟨as, h1, h2, h3⟩ := hx
    refine ⟨_, rfl, x, rfl, ⟨_, SqL.of h1⟩, fun D nD => ?_⟩
    refine lc_listN (a := x) (xs := as.map V.ref) (fun i => costS k s (k.all.getD i [])) (by rw [List.length_map]; omega) nD h1 (fun i z H2 hz s2 R r => ?_) (fun H2 s2 hD => ?_)
    · rw [List.getElem?_map] at hz
      obtain ⟨y, hy, rfl⟩ := Option.map_eq_some_iff.mp hz
      have hi := (List.getElem?_eq_some_iff.mp hy).1
      obtain ⟨w1, w2⟩ := all_pre (all_get (k := k) (i := i) (by omega))
      refine call3 (vp_var (by rfl)) (vp_var (by rfl)) (vp_var (by rfl)) ?_
      exact ⟨a, y, k, _, s, rfl, (s1.trans s2).duo ht, s2.il (h3 i y _ hy (getD_some (by omega))), S, w1, w2, hs, r⟩
    · rw [List.length_map, h2, map_range (costS k s) []] at hD
      refine ⟨D, _, rfl, hD, fun e => all_ne k (List.map_eq_nil_iff.mp e), by rw [List.length_map]; omega, fun H3 s3 => ?_⟩
      have hlt := firstLeast_lt (costS k s) (all_ne k)
      have hb := best_eq (k := k) (s := s)
      have hg := h3 (firstLeast (k.all.map (costS k s))) _ _ (List.getElem?_eq_getElem (by omega)) (getD_some (d := []) hlt)
      rw [hb] at hg
      exact st_ret (vp_ix (vp_var rfl) (vp_var rfl) (SqL.of (s3 _ _ (s2 _ _ h1))) (refs_at (List.getElem?_eq_getElem (by omega)))) (q _ _ (s1.trans (s2.trans s3)) (s3.il (s2.il hg)))
def sp_fair_way (K : PySem.W.Frag) : Sp := fun vs H Q _ => ∃ (a : Addr) (k : Mate.Book), vs = [.ref a] ∧ Tb H a k ∧ Small k ∧ ∀ (H' : Hp) (p x : Addr), Same H H' → H' p = some (.tup [vN (k.cost0 k.fair + k.cost1 k.fair), .ref x]) → IL H' x k.fair → Q (.ref p) H'
theorem ok_fair_way {f : Addr} {fd : FuncData} (F : Fun K "fair_way" "fair_way" s_fair_way f fd) (B : Blt mg) {f_stable_ways : Addr} {d_stable_ways : FuncData} (c_stable_ways : Cal P w K mg base "stable_ways" 5 ["table"] (sp_stable_ways K) f_stable_ways d_stable_ways) {f_first_least : Addr} {d_first_least : FuncData} (c_first_least : Cal P w K mg base "first_least" 1 ["numbers"] (sp_first_least K) f_first_least d_first_least) {f_way_cost : Addr} {d_way_cost : FuncData} (c_way_cost : Cal P w K mg base "way_cost" 3 ["table", "w", "s"] (sp_way_cost K) f_way_cost d_way_cost) : FnOk P w K mg base CX0 6 f fd ["table"] (sp_fair_way K) := by
  refine F.ok sc_fair_way (fun vs H Q E h => ?_) (fun cdv A outer s H vs Q E hr h => ?_)
  · obtain ⟨a, k, rfl, _⟩ := h
    rfl
  · obtain ⟨a, k, rfl, ht, S, q⟩ := h
    have hall := all_small S
    refine ⟨_, (pss_cons (ps_set (i := 1) sc_fair_way.nd rfl (.inl rfl) (pcall c_stable_ways hr (by decide) (by rfl) (pa_cons (pv 0) pa_nil)))
      (pss_cons (ps_setLc (i := 2) (own := [("w", 4)]) (g := gName 4) (tt := tYes) rfl sc_fair_way.nd rfl rfl (sw_true rfl rfl rfl (by decide +kernel)) (pi_list (pv 1)) (blkOk_by (own := [("w", 4)]) (N := N_fair_way) (sc := defScope s_fair_way) (by decide +kernel)) (fun _ _ _ _ _ => pg_name (i := 4) sc_fair_way.nd rfl (.inl rfl)) (fun _ _ _ _ _ => pts_nil) (fun _ _ _ _ _ => (pe_op op_add (pcall c_way_cost hr (by decide) (by rfl) (pa_cons (pv 0) (pa_cons (pv 4) (pa_cons pe_int pa_nil)))) (pcall c_way_cost hr (by decide) (by rfl) (pa_cons (pv 0) (pa_cons (pv 4) (pa_cons pe_int pa_nil)))))))
      (pss_cons (ps_set (i := 3) sc_fair_way.nd rfl (.inl rfl) (pcall c_first_least hr (by decide) (by rfl) (pa_cons (pv 2) pa_nil)))
      (pss_one (ps_ret (pe_tup (pa_cons (pe_ix (ix_listK (K := K) rfl) (pv 2) (pv 3) (fun _ _ => rfl)) (pa_cons (pe_ix (ix_listK (K := K) rfl) (pv 1) (pv 3) (fun _ _ => rfl)) pa_nil)))))))), ?_⟩
    refine sq_of (call1 (vp_var (by rfl)) ?_)
    refine ⟨a, k, rfl, ht, S, fun H1 x s1 hx => ?_⟩
    obtain ⟨as, h1, h2, h3⟩ := hx
    refine ⟨_, rfl, x, rfl, ⟨_, SqL.of h1⟩, fun D nD => ?_⟩
    refine lc_listN (a := x) (xs := as.map V.ref) (fun i => k.cost0 (k.all.getD i []) + k.cost1 (k.all.getD i [])) (by rw [List.length_map]; omega) nD h1 (fun i z H2 hz s2 R r => ?_) (fun H2 s2 hD => ?_)
    · rw [List.getElem?_map] at hz
      obtain ⟨y, hy, rfl⟩ := Option.map_eq_some_iff.mp hz
      have hi := (List.getElem?_eq_some_iff.mp hy).1
      obtain ⟨w1, w2⟩ := all_pre (all_get (k := k) (i := i) (by omega))
      have ht2 := (s1.trans s2).duo ht
      have hy2 := s2.il (h3 i y _ hy (getD_some (d := []) (by omega)))
      refine op_of (call3 (vp_var (by rfl)) (vp_var (by rfl)) (vp_c (v := vN 0)) ?_)
      refine ⟨a, y, k, _, 0, rfl, ht2, hy2, S, w1, w2, by omega, fun H3 s3 => ?_⟩
      refine call3 (vp_var (by rfl)) (vp_var (by rfl)) (vp_c (v := vN 1)) ?_
      exact ⟨a, y, k, _, 1, rfl, s3.duo ht2, s3.il hy2, S, w1, w2, by omega, fun H4 s4 => ⟨_, _, rfl, rfl, r _ (s3.trans s4)⟩⟩
    · rw [List.length_map, h2, map_range (fun l => k.cost0 l + k.cost1 l) []] at hD
      refine sq_of (call1 (vp_var (by rfl)) ?_)
      refine ⟨D, _, rfl, hD, fun e => all_ne k (List.map_eq_nil_iff.mp e), by rw [List.length_map]; omega, fun H3 s3 => ?_⟩
      have hlt := firstLeast_lt (fun l => k.cost0 l + k.cost1 l) (all_ne k)
      have hb := fair_eq (k := k)
      have hg := h3 (firstLeast (k.all.map fun l => k.cost0 l + k.cost1 l)) _ _ (List.getElem?_eq_getElem (by omega)) (getD_some (d := []) hlt)
      have hv : (k.all.map fun l => k.cost0 l + k.cost1 l)[firstLeast (k.all.map fun l => k.cost0 l + k.cost1 l)]? = some (k.cost0 k.fair + k.cost1 k.fair) := by
        rw [List.getElem?_map, getD_some (d := []) hlt, hb]
        rfl
      rw [hb] at hg
      refine rt_of ?_
      refine vp_ixN (vp_var (by rfl)) (vp_var (by rfl)) (s3.il hD) hv _ ?_
      refine vp_ix (vp_var (by rfl)) (vp_var (by rfl)) (SqL.of (s3 _ _ (s2 _ _ h1))) (refs_at (List.getElem?_eq_getElem (by omega))) _ ?_
      refine ⟨by show 2 ≤ sizeLine; decide, fun t nt => ?_⟩
      exact q _ t _ ((s1.trans (s2.trans s3)).new nt) upd_same (((Same.refl H3).new nt).il (s3.il (s2.il hg)))

/-! ### chosen, picked -/
def sp_chosen (K : PySem.W.Frag) : Sp := fun vs H Q _ => ∃ (r : Addr) (l : List Nat) (x a b : Nat), vs = [.ref r, vN x, vN a, vN b] ∧ IL H r l ∧ a < l.length ∧ b < l.length ∧ ∀ H', Same H H' → Q (vN (chosenB (fun i => l.getD i 0) x a b)) H'
theorem ok_chosen {f : Addr} {fd : FuncData} (F : Fun K "chosen" "chosen" s_chosen f fd) (B : Blt mg) : FnOk P w K mg base CX0 1 f fd ["row", "x", "a", "b"] (sp_chosen K) := by
  refine F.ok sc_chosen (fun vs H Q E h => ?_) (fun cdv A outer s H vs Q E hr h => ?_)
  · obtain ⟨r, l, x, a, b, rfl, _⟩ := h
    rfl
  · obtain ⟨r, l, x, a, b, rfl, hl, ha, hb, q⟩ := h
    refine ⟨_, (pss_cons (ps_if (pt_cmp (pc_eqI (pv 1) pe_int)) (pss_cons (ps_if (pt_cmp (pc_lt (pe_ix (ix_listK (K := K) rfl) (pv 0) (pv 3) (fun _ _ => rfl)) (pe_ix (ix_listK (K := K) rfl) (pv 0) (pv 2) (fun _ _ => rfl)))) (pss_one (ps_ret (pv 3))) pss_nil)
      (pss_one (ps_ret (pv 2)))) pss_nil)
      (pss_cons (ps_if (pt_cmp (pc_gt (pe_ix (ix_listK (K := K) rfl) (pv 0) (pv 3) (fun _ _ => rfl)) (pe_ix (ix_listK (K := K) rfl) (pv 0) (pv 2) (fun _ _ => rfl)))) (pss_one (ps_ret (pv 3))) pss_nil)
      (pss_one (ps_ret (pv 2))))), ?_⟩
    have q' := q H (Same.refl H)
    unfold chosenB at q'
    dsimp only at q'
    refine sq_if2 (vp_cmp (vp_var rfl) vp_c) (fun c => ?_) (fun c => ?_)
    · rw [if_pos (by omega)] at q'
      refine sq_if2 (vp_cmp (vp_ixN (vp_var rfl) (vp_var rfl) hl (getD_some (d := 0) hb)) (vp_ixN (vp_var rfl) (vp_var rfl) hl (getD_some (d := 0) ha))) (fun d => ?_) (fun d => ?_)
      · rw [if_pos (by omega)] at q'
        exact st_ret (vp_var rfl) q'
      · rw [if_neg (by omega)] at q'
        exact st_ret (vp_var rfl) q'
    · rw [if_neg (by omega)] at q'
      refine sq_if2 (vp_cmp (vp_ixN (vp_var rfl) (vp_var rfl) hl (getD_some (d := 0) hb)) (vp_ixN (vp_var rfl) (vp_var rfl) hl (getD_some (d := 0) ha))) (fun d => ?_) (fun d => ?_)
      · rw [if_pos (by omega)] at q'
        exact st_ret (vp_var rfl) q'
      · rw [if_neg (by omega)] at q'
        exact st_ret (vp_var rfl) q'
theorem chosenB_congr {r r' : Nat → Nat} {x a b : Nat} (h1 : r a = r' a) (h2 : r b = r' b) : chosenB r x a b = chosenB r' x a b := by
  unfold chosenB
  simp only [h1, h2]
def sp_picked (K : PySem.W.Frag) : Sp := fun vs H Q _ => ∃ (a b c : Addr) (k : Mate.Book) (x : Nat) (v w : List Nat), vs = [.ref a, vN x, .ref b, .ref c] ∧ Tb H a k ∧ Small k ∧ IL H b v ∧ IL H c w ∧ v ∈ k.all ∧ w ∈ k.all ∧ x ≤ 1 ∧ ∀ (H' : Hp) (p : Addr), Same H H' → IL H' p (k.pick (x == 1) v w) → Q (.ref p) H'
theorem ok_picked {f : Addr} {fd : FuncData} (F : Fun K "picked" "picked" s_picked f fd) (B : Blt mg) {f_chosen : Addr} {d_chosen : FuncData} (c_chosen : Cal P w K mg base "chosen" 1 ["row", "x", "a", "b"] (sp_chosen K) f_chosen d_chosen) : FnOk P w K mg base CX0 2 f fd ["table", "x", "v", "w"] (sp_picked K) := by
  refine F.ok sc_picked (fun vs H Q E h => ?_) (fun cdv A outer s H vs Q E hr h => ?_)
  · obtain ⟨a, b, c, k, x, v, w, rfl, _⟩ := h
    rfl
  · obtain ⟨a, b, c, k, x, v, w, rfl, ht, S, hv, hw, mv, mw, hx, q⟩ := h
    have hn := S.n
    obtain ⟨v1, v2⟩ := all_pre mv
    obtain ⟨w1, w2⟩ := all_pre mw
    refine ⟨_, (pss_one (ps_ret (pe_lc (own := [("i", 4)]) (g := gName 4) (tt := tYes) rfl sc_picked.nd (pi_range1 (by rfl) B.range (pa_cons (pe_callB (call_lenK (K := K) rfl) (by rfl) B.len PySem.boot_len (pa_cons (pe_ix (ix_listK (K := K) rfl) (pv 0) pe_int (fun _ _ => rfl)) pa_nil)) pa_nil)) (blkOk_by (own := [("i", 4)]) (N := N_picked) (sc := defScope s_picked) (by decide +kernel)) (fun _ _ _ _ _ => pg_name (i := 4) sc_picked.nd rfl (.inl rfl)) (fun _ _ _ _ _ => pts_nil) (fun _ _ _ _ _ => (pcall c_chosen hr (by decide) (by rfl) (pa_cons (pe_ix (ix_listK (K := K) rfl) (pe_ix (ix_listK (K := K) rfl) (pv 0) pe_int (fun _ _ => rfl)) (pv 4) (fun _ _ => rfl)) (pa_cons (pv 1) (pa_cons (pe_ix (ix_listK (K := K) rfl) (pv 2) (pv 4) (fun _ _ => rfl)) (pa_cons (pe_ix (ix_listK (K := K) rfl) (pv 3) (pv 4) (fun _ _ => rfl)) pa_nil))))))))), ?_⟩
    refine rt_of ?_
    refine rng_of (vp_tabLen ht (s := 0) (by omega) (vp_var (by rfl)) (vp_c (v := vN 0))) (by rw [sn_zero] <;> omega) fun D hD => ?_
    refine lc_rangeN (n := k.here.length) (fun i => chosenB (Mate.rank (k.list0 i)) x (Mate.Way.of_ v i) (Mate.Way.of_ w i)) (by omega) hD (fun i H' hi s R r => ?_) (fun H' s hL => ?_)
    · obtain ⟨z, hz, hzv⟩ := Tb.row (K := K) (s.duo ht) (s := 0) (i := i) (by omega) hi
      refine call4 (hzv (vp_var (by rfl)) (vp_c (v := vN 0)) (vp_var (by rfl))) (vp_var (by rfl)) (vp_ixN (vp_var (by rfl)) (vp_var (by rfl)) (s.il hv) (some_of (by omega))) (vp_ixN (vp_var (by rfl)) (vp_var (by rfl)) (s.il hw) (some_of (by omega))) ?_
      have e1 := v1.of_le i
      have e2 := w1.of_le i
      have hrl : (row (sl k 0 i) (sn k (1 - 0))).length = k.there.length + 1 := by
        unfold row
        rw [List.length_map, List.length_range]
        rfl
      refine ⟨z, _, x, _, _, rfl, hz, by omega, by omega, fun H2 s2 => ?_⟩
      have g : ∀ y, y ≤ k.there.length → (row (sl k 0 i) (sn k (1 - 0))).getD y 0 = Mate.rank (k.list0 i) y := fun y hy => by
        rw [List.getD_eq_getElem?_getD, row_get (show y ≤ sn k (1 - 0) from hy)]
        rfl
      rw [chosenB_congr (r := fun i_1 => (row (sl k 0 i) (sn k (1 - 0))).getD i_1 0) (r' := Mate.rank (k.list0 i)) (g _ e1) (g _ e2)]
      exact r H2 s2
    · refine q H' D s ?_
      rw [pick_eq mv mw hx] at hL
      exact hL

/-! ### together, common_pairs -/
def sp_together (K : PySem.W.Frag) : Sp := fun vs H Q _ => ∃ (a : Addr) (ll : List (List Nat)) (i j : Nat), vs = [.ref a, vN i, vN j] ∧ LL H a ll ∧ (∀ l ∈ ll, i < l.length) ∧ ∀ H', Same H H' → Q (.bl (ll.any fun w => Mate.Way.of_ w i == j + 1)) H'
theorem ok_together {f : Addr} {fd : FuncData} (F : Fun K "together" "together" s_together f fd) (B : Blt mg) : FnOk P w K mg base CX0 1 f fd ["ways", "i", "j"] (sp_together K) := by
  refine F.ok sc_together (fun vs H Q E h => ?_) (fun cdv A outer s H vs Q E hr h => ?_)
  · obtain ⟨a, l, i, j, rfl, _⟩ := h
    rfl
  · obtain ⟨a, ll, i, j, rfl, hl, hi, q⟩ := h
    obtain ⟨as, h1, h2, h3⟩ := hl
    refine ⟨_, (pss_cons (ps_for PassesOwn.never rfl (pi_list (pv 0)) (pg_name (i := 3) sc_together.nd rfl (.inl rfl)) (pss_one (ps_if (pt_cmp (pc_eqI (pe_ix (ix_listK (K := K) rfl) (pv 3) (pv 1) (fun _ _ => rfl)) (pe_op op_add (pv 2) pe_int))) (pss_one (ps_ret pe_bl)) pss_nil)))
      (pss_one (ps_ret pe_bl))), ?_⟩
    refine sq_forL (vp_var rfl) h1 (fun n σ H' => ∃ v3, σ = [some (.ref a), some (vN i), some (vN j), v3] ∧ H' = H ∧ ∀ (t : Nat) l, t < n → ll[t]? = some l → (Mate.Way.of_ l i == j + 1) = false) ⟨none, rfl, rfl, fun t l ht => by omega⟩ (fun n σ H' _ ⟨_, _, e, _⟩ => e ▸ h1) ?_ ?_
    · rintro n x σ H1 hx ⟨v3, rfl, rfl, hno⟩
      rw [List.getElem?_map] at hx
      obtain ⟨y, hy, rfl⟩ := Option.map_eq_some_iff.mp hx
      have hn := (List.getElem?_eq_some_iff.mp hy).1
      have hv : ll[n]? = some (ll.getD n []) := getD_some (by omega)
      have hmem := List.mem_of_getElem? hv
      have hy3 := h3 n y _ hy hv
      generalize ll.getD n [] = l at hv hmem hy3
      refine st_if2 (vp_cmp (vp_ixN (vp_var rfl) (vp_var rfl) hy3 (some_of (hi l hmem))) (vp_add (vp_var rfl) vp_c)) (fun c => ?_) (fun c => ?_)
      · refine st_ret vp_c ?_
        have e : (ll.any fun w => Mate.Way.of_ w i == j + 1) = true := List.any_eq_true.mpr ⟨l, hmem, beq_iff_eq.mpr (by omega)⟩
        rw [e] at q
        exact q _ (Same.refl _)
      · refine ⟨_, rfl, rfl, fun t u ht hu => ?_⟩
        by_cases e : t = n
        · rw [e, hv] at hu
          cases hu
          rw [beq_eq_false_iff_ne]
          omega
        · exact hno t u (by omega) hu
    · rintro σ H1 ⟨v3, rfl, rfl, hno⟩
      refine st_ret vp_c ?_
      have e : (ll.any fun w => Mate.Way.of_ w i == j + 1) = false := by
        rw [List.any_eq_false]
        intro l hl
        obtain ⟨t, ht⟩ := List.getElem?_of_mem hl
        have htl := (List.getElem?_eq_some_iff.mp ht).1
        rw [hno t l (by rw [List.length_map]; omega) ht]
        exact Bool.false_ne_true
      rw [e] at q
      exact q _ (Same.refl _)

/-- pairs by a test, row by row -/
def prTo (f : Nat → Nat → Bool) (m i : Nat) : List (Nat × Nat) := (List.range i).flatMap fun a => ((List.range m).filter (f a)).map fun b => (a, b)
def prIn (f : Nat → Nat → Bool) (m i j : Nat) : List (Nat × Nat) := prTo f m i ++ ((List.range j).filter (f i)).map fun b => (i, b)
theorem prIn_zero (f : Nat → Nat → Bool) (m i : Nat) : prIn f m i 0 = prTo f m i := by
  unfold prIn
  rw [List.range_zero, List.filter_nil, List.map_nil, List.append_nil]
theorem prIn_end (f : Nat → Nat → Bool) (m i : Nat) : prIn f m i m = prTo f m (i + 1) := by
  unfold prIn prTo
  rw [List.range_succ, List.flatMap_append, List.flatMap_cons, List.flatMap_nil, List.append_nil]
theorem prIn_yes {f : Nat → Nat → Bool} {m i j : Nat} (h : f i j = true) : prIn f m i (j + 1) = prIn f m i j ++ [(i, j)] := by
  unfold prIn
  rw [filter_yes h, List.map_append, ← List.append_assoc]
  rfl
theorem prIn_no {f : Nat → Nat → Bool} {m i j : Nat} (h : f i j = false) : prIn f m i (j + 1) = prIn f m i j := by
  unfold prIn
  rw [filter_no h]
theorem prTo_len (f : Nat → Nat → Bool) (m i : Nat) : (prTo f m i).length ≤ i * m := by
  unfold prTo
  have := flatMap_len (f := fun a => ((List.range m).filter (f a)).map fun b => (a, b)) (c := m) (fun a => by
    rw [List.length_map]
    have := List.length_filter_le (f a) (List.range m)
    rw [List.length_range] at this
    exact this) (List.range i)
  rw [List.length_range] at this
  exact this
theorem prIn_len (f : Nat → Nat → Bool) (m i j : Nat) : (prIn f m i j).length ≤ i * m + j := by
  unfold prIn
  rw [List.length_append, List.length_map]
  have h1 := prTo_len f m i
  have h2 := List.length_filter_le (f i) (List.range j)
  rw [List.length_range] at h2
  omega
def goes (k : Mate.Book) (i j : Nat) : Bool := k.all.any fun w => Mate.Way.of_ w i == j + 1
theorem pairs_eq (k : Mate.Book) : prTo (goes k) k.there.length k.here.length = k.pairs := rfl
def sp_common_pairs (K : PySem.W.Frag) : Sp := fun vs H Q _ => ∃ (a : Addr) (k : Mate.Book), vs = [.ref a] ∧ Tb H a k ∧ Small k ∧ ∀ (H' : Hp) (p : Addr), Same H H' → PL H' p k.pairs → Q (.ref p) H'
theorem ok_common_pairs {f : Addr} {fd : FuncData} (F : Fun K "common_pairs" "common_pairs" s_common_pairs f fd) (B : Blt mg) {f_stable_ways : Addr} {d_stable_ways : FuncData} (c_stable_ways : Cal P w K mg base "stable_ways" 5 ["table"] (sp_stable_ways K) f_stable_ways d_stable_ways) {f_together : Addr} {d_together : FuncData} (c_together : Cal P w K mg base "together" 1 ["ways", "i", "j"] (sp_together K) f_together d_together) : FnOk P w K mg base CX0 6 f fd ["table"] (sp_common_pairs K) := by
  refine F.ok sc_common_pairs (fun vs H Q E h => ?_) (fun cdv A outer s H vs Q E hr h => ?_)
  · obtain ⟨a, k, rfl, _⟩ := h
    rfl
  · obtain ⟨a, k, rfl, ht, S, q⟩ := h
    have hn := S.n
    have hm := S.m
    refine ⟨_, (pss_cons (ps_set (i := 1) sc_common_pairs.nd rfl (.inl rfl) (pcall c_stable_ways hr (by decide) (by rfl) (pa_cons (pv 0) pa_nil)))
      (pss_cons (ps_set (i := 2) sc_common_pairs.nd rfl (.inl rfl) (pe_lst pa_nil))
      (pss_cons (ps_for PassesOwn.never rfl (pi_range1 (by rfl) B.range (pa_cons (pe_callB (call_lenK (K := K) rfl) (by rfl) B.len PySem.boot_len (pa_cons (pe_ix (ix_listK (K := K) rfl) (pv 0) pe_int (fun _ _ => rfl)) pa_nil)) pa_nil)) (pg_name (i := 3) sc_common_pairs.nd rfl (.inl rfl)) (pss_one (ps_for PassesOwn.never rfl (pi_range1 (by rfl) B.range (pa_cons (pe_callB (call_lenK (K := K) rfl) (by rfl) B.len PySem.boot_len (pa_cons (pe_ix (ix_listK (K := K) rfl) (pv 0) pe_int (fun _ _ => rfl)) pa_nil)) pa_nil)) (pg_name (i := 4) sc_common_pairs.nd rfl (.inl rfl)) (pss_one (ps_if (pt_val (pcall c_together hr (by decide) (by rfl) (pa_cons (pv 1) (pa_cons (pv 3) (pa_cons (pv 4) pa_nil))))) (pss_one (ps_expr (pe_bm PySem.F.plainAttrs_list PySem.F.slot_list_append PySem.F.type_list_append mt_append (pv 2) (pa_cons (pe_tup (pa_cons (pv 3) (pa_cons (pv 4) pa_nil))) pa_nil)))) pss_nil)))))
      (pss_one (ps_ret (pv 2)))))), ?_⟩
    refine sq_of (call1 (vp_var (by rfl)) ?_)
    refine ⟨a, k, rfl, ht, S, fun H0 b s0 hb => ?_⟩
    refine sq_new fun fo no' => ?_
    have no : H fo = none := s0.free no'
    have s1 : Same H0 (upd H0 fo (.lst [])) := (Same.refl H0).new no'
    refine sq_forR (vp_tabLen ((s0.trans s1).duo ht) (s := 0) (by omega) (vp_var rfl) vp_c) (by rw [sn_zero] <;> omega)
      (fun i σ H' => ∃ v3 v4, σ = [some (.ref a), some (.ref b), some (.ref fo), v3, v4] ∧ Same H0 H' ∧ PL H' fo (prTo (goes k) k.there.length i)) ⟨none, none, rfl, s1, PL.nil⟩ ?_ ?_
    · rintro i σ H1 hi ⟨v3, v4, rfl, s2, hp⟩
      rw [sn_zero] at hi
      refine st_forR (vp_tabLen ((s0.trans s2).duo ht) (s := 1) (by omega) (vp_var rfl) vp_c) (by rw [sn_one] <;> omega)
        (fun j σ H' => ∃ v4, σ = [some (.ref a), some (.ref b), some (.ref fo), some (vN i), v4] ∧ Same H0 H' ∧ PL H' fo (prIn (goes k) k.there.length i j)) ⟨v4, rfl, s2, by rw [prIn_zero]; exact hp⟩ ?_ ?_
      · rintro j σ H2 hj ⟨v4, rfl, s3, hp⟩
        rw [sn_one] at hj
        refine if_call (call3 (vp_var rfl) (vp_var rfl) (vp_var rfl) ?_) ?_
        · refine ⟨b, k.all, i, j, rfl, s3.ll hb, fun l hl => by rw [all_len hl]; exact hi, fun H3 s4 => ⟨_, rfl, fun c => ?_, fun c => ?_⟩⟩
          · have hp3 := s4.pl hp
            refine ⟨.ref fo, rfl, .inl ⟨rfl, _, SqL.of hp3.choose_spec.1⟩, _, rfl, _, rfl, by show 2 ≤ sizeLine; decide, fun t nt => ?_⟩
            obtain ⟨as, e1, e2, e3⟩ := hp3.push (p := (i, j)) nt
            refine ⟨fo, _, _, rfl, rfl, e2, ?_, _, rfl, ((s3.trans s4).new nt).mut no', by rw [prIn_yes (f := goes k) c]; exact e3⟩
            rw [List.length_map, e1]
            have h1 := prIn_len (goes k) k.there.length i j
            have h2 := small_mul (i := i) (m := k.there.length) (j := j) (by omega) hm (by omega)
            exact small_size (by omega)
          · exact ⟨_, rfl, s3.trans s4, by rw [prIn_no (f := goes k) c]; exact s4.pl hp⟩
        · rintro Q Q' z ⟨v1, h1, v2, h2, v3, h3, a, ll, i, j, e, r1, r2, r3⟩
          exact ⟨v1, h1, v2, h2, v3, h3, a, ll, i, j, e, r1, r2, fun H' s => z _ _ (r3 H' s)⟩
      · rintro σ H2 ⟨v4, rfl, s3, hp⟩
        rw [sn_one, prIn_end] at hp
        exact ⟨_, _, rfl, s3, hp⟩
    · rintro σ H1 ⟨v3, v4, rfl, s2, hp⟩
      rw [sn_zero, pairs_eq] at hp
      exact st_ret (vp_var rfl) (q H1 fo (s0.trans s2) hp)
end
end PO

/-! The walk, 8: the askings. -/
namespace PO
open PySem PySem.Spec PyProof.Rows L2
abbrev s_next_asker : Stmt := topS 15
abbrev N_next_asker : List Str := ["own", "at", "held", "i"]
theorem sc_next_asker : FnScope N_next_asker ["own", "at", "held"] (defScope s_next_asker) := ⟨rfl, rfl, rfl, by decide +kernel, rfl, by decide +kernel, by decide +kernel⟩
abbrev s_takes : Stmt := topS 16
abbrev N_takes : List Str := ["liking", "held_entry", "i"]
theorem sc_takes : FnScope N_takes ["liking", "held_entry", "i"] (defScope s_takes) := ⟨rfl, rfl, rfl, by decide +kernel, rfl, by decide +kernel, by decide +kernel⟩
abbrev s_all_askings : Stmt := topS 17
abbrev N_all_askings : List Str := ["lists", "s", "own", "other", "at", "held", "i", "j", "liking", "k"]
theorem sc_all_askings : FnScope N_all_askings ["lists", "s"] (defScope s_all_askings) := ⟨rfl, rfl, rfl, by decide +kernel, rfl, by decide +kernel, by decide +kernel⟩
section
variable {P : Program} {w : World} {K : PySem.W.Frag} {mg : Str → Option Value} {base : Heap}

/-! ### next_asker -/
def optI : Option Nat → V
  | some i => vN i
  | none => .int (-1)
theorem find_snoc {p : Nat → Bool} {n i : Nat} (hi : i < n) (h : p i = true) (hn : ∀ j, j < i → p j = false) : (List.range n).find? p = some i := by
  rw [List.find?_range_eq_some]
  exact ⟨h, List.mem_range.mpr hi, fun j hj => by rw [hn j hj]; rfl⟩
theorem find_none {p : Nat → Bool} {n : Nat} (hn : ∀ j, j < n → p j = false) : (List.range n).find? p = none := by
  rw [List.find?_eq_none]
  intro j hj
  rw [hn j (List.mem_range.mp hj)]
  exact Bool.false_ne_true
def sp_next_asker (K : PySem.W.Frag) : Sp := fun vs H Q _ => ∃ (a b c : Addr) (ll : List (List Nat)) (at_ held : List Nat), vs = [.ref a, .ref b, .ref c] ∧ LL H a ll ∧ IL H b at_ ∧ IL H c held ∧ ll.length ≤ 1000 ∧ at_.length = ll.length ∧ held.length ≤ 1000 ∧ ∀ H', Same H H' → Q (optI (nextAsker ll at_ held)) H'
theorem ok_next_asker {f : Addr} {fd : FuncData} (F : Fun K "next_asker" "next_asker" s_next_asker f fd) (B : Blt mg) {f_entry_back : Addr} {d_entry_back : FuncData} (c_entry_back : Cal P w K mg base "entry_back" 1 ["w", "j"] (sp_entry_back K) f_entry_back d_entry_back) : FnOk P w K mg base CX0 2 f fd ["own", "at", "held"] (sp_next_asker K) := by
  refine F.ok sc_next_asker (fun vs H Q E h => ?_) (fun cdv A outer s H vs Q E hr h => ?_)
  · obtain ⟨a, b, c, l, x, y, rfl, _⟩ := h
    rfl
  · obtain ⟨a, b, c, ll, at_, held, rfl, hl, ha, hh, l1, l2, l3, q⟩ := h
    obtain ⟨as, h1, h2, h3⟩ := hl.get
    refine ⟨_, (pss_cons (ps_for PassesOwn.never rfl (pi_range1 (by rfl) B.range (pa_cons (pe_callB (call_lenK (K := K) rfl) (by rfl) B.len PySem.boot_len (pa_cons (pv 0) pa_nil)) pa_nil)) (pg_name (i := 3) sc_next_asker.nd rfl (.inl rfl)) (pss_one (ps_if (PW.pt (pw_and (pt_cmp (pc_lt (pe_ix (ix_listK (K := K) rfl) (pv 1) (pv 3) (fun _ _ => rfl)) (pe_callB (call_lenK (K := K) rfl) (by rfl) B.len PySem.boot_len (pa_cons (pe_ix (ix_listK (K := K) rfl) (pv 0) (pv 3) (fun _ _ => rfl)) pa_nil)))) (pw_and1 (pt_cmp (pc_eqI (pcall c_entry_back hr (by decide) (by rfl) (pa_cons (pv 2) (pa_cons (pv 3) pa_nil))) pe_int))))) (pss_one (ps_ret (pv 3))) pss_nil)))
      (pss_one (ps_ret (pe_un un_neg pe_int)))), ?_⟩
    refine sq_forR (vp_lenL (vp_var rfl) hl) (by omega) (fun i σ H' => ∃ v3, σ = [some (.ref a), some (.ref b), some (.ref c), v3] ∧ Same H H' ∧ ∀ j, j < i → mayAsk ll at_ held j = false) ⟨none, rfl, Same.refl _, fun j hj => by omega⟩ ?_ ?_
    · rintro i σ H1 hi ⟨v3, rfl, s1, hno⟩
      obtain ⟨x, hx, hL⟩ := h3 i hi
      have go : mayAsk ll at_ held i = false → ∀ H', Same H H' → ∃ v3, ([some (.ref a), some (.ref b), some (.ref c), some (vN i)] : L2.St) = [some (.ref a), some (.ref b), some (.ref c), v3] ∧ Same H H' ∧ ∀ j, j < i + 1 → mayAsk ll at_ held j = false := fun e H' s => ⟨_, rfl, s, fun j hj => by
        by_cases z : j = i
        · rw [z, e]
        · exact hno j (by omega)⟩
      refine and_of (tB_of (vp_cmp (vp_ixN (vp_var (by rfl)) (vp_var (by rfl)) (s1.il ha) (getD_some (d := 0) (by omega))) (vp_lenN (vp_ix (vp_var (by rfl)) (vp_var (by rfl)) (SqL.of (s1 _ _ h1)) (refs_at hx)) (s1.il hL)) _ ⟨_, rfl, ?_⟩))
      by_cases c1 : at_.getD i 0 < (ll.getD i []).length
      · refine if_T (decide_eq_true (by omega)) ?_
        refine tB_of (cmp_of (call2 (vp_var (by rfl)) (vp_var (by rfl)) ?_))
        refine ⟨c, held, i, rfl, s1.il hh, by omega, fun H2 s2 => ⟨_, _, rfl, rfl, _, rfl, ?_⟩⟩
        by_cases c2 : Mate.Way.back held i = 0
        · refine if_T (decide_eq_true (by omega)) (st_ret (vp_var rfl) ?_)
          have e : mayAsk ll at_ held i = true := by
            unfold mayAsk
            rw [decide_eq_true c1, decide_eq_true c2]
            rfl
          unfold nextAsker at q
          rw [find_snoc hi e hno] at q
          exact q _ (s1.trans s2)
        · refine if_F (decide_eq_false (by omega)) (go ?_ _ (s1.trans s2))
          unfold mayAsk
          rw [decide_eq_false c2, Bool.and_false]
      · refine if_F (decide_eq_false (by omega)) (if_F rfl (go ?_ _ s1))
        unfold mayAsk
        rw [decide_eq_false c1, Bool.false_and]
    · rintro σ H1 ⟨v3, rfl, s1, hno⟩
      unfold nextAsker at q
      rw [find_none hno] at q
      refine rt_of ?_
      exact ⟨1, rfl, q _ s1⟩

/-! ### takes -/
def sp_takes (K : PySem.W.Frag) : Sp := fun vs H Q _ => ∃ (a : Addr) (l : List Nat) (e i : Nat), vs = [.ref a, vN e, vN i] ∧ IL H a l ∧ ∀ H', Same H H' → Q (.bl (decide (Mate.rank l (i + 1) < Mate.rank l e))) H'
theorem ok_takes {f : Addr} {fd : FuncData} (F : Fun K "takes" "takes" s_takes f fd) (B : Blt mg) {f_cost : Addr} {d_cost : FuncData} (c_cost : Cal P w K mg base "cost" 1 ["liking", "x"] (sp_cost K) f_cost d_cost) : FnOk P w K mg base CX0 2 f fd ["liking", "held_entry", "i"] (sp_takes K) := by
  refine F.ok sc_takes (fun vs H Q E h => ?_) (fun cdv A outer s H vs Q E hr h => ?_)
  · obtain ⟨a, l, x, y, rfl, _⟩ := h
    rfl
  · obtain ⟨a, l, e, i, rfl, hl, q⟩ := h
    refine ⟨_, (pss_one (ps_ret (pe_cmp (pc_lt (pcall c_cost hr (by decide) (by rfl) (pa_cons (pv 0) (pa_cons (pe_op op_add (pv 2) pe_int) pa_nil))) (pcall c_cost hr (by decide) (by rfl) (pa_cons (pv 0) (pa_cons (pv 1) pa_nil))))))), ?_⟩
    refine rt_of (cmp_of (call2 (vp_var (by rfl)) (vp_succ (vp_var (by rfl))) ?_))
    refine ⟨a, l, i + 1, rfl, hl, fun H1 s1 => ?_⟩
    refine call2 (vp_var (by rfl)) (vp_var (by rfl)) ?_
    refine ⟨a, l, e, rfl, s1.il hl, fun H2 s2 => ⟨_, _, rfl, rfl, ?_⟩⟩
    have := q _ (s1.trans s2)
    rw [← cast_lt] at this
    exact this

/-! ### all_askings -/
theorem Bk.side {H : Hp} {a : Addr} {k : Mate.Book} (h : Bk H a k) {s : Nat} (hs : s ≤ 1) : ∃ x, LL H x (k.side s) ∧ ∀ {ta ts : TE} {σ : L2.St}, Vp ta σ H (.ref a) → Vp ts σ H (vN s) → Vp (tOp (rIxL K) ta ts) σ H (.ref x) := by
  obtain ⟨a0, a1, h1, h2, h3⟩ := h
  rcases (by omega : s = 0 ∨ s = 1) with rfl | rfl
  · exact ⟨a0, h2, fun va vs => vp_ix va vs (SqL.of h1) (atI_nat (j := 0) rfl)⟩
  · exact ⟨a1, h3, fun va vs => vp_ix va vs (SqL.of h1) (atI_nat (j := 1) rfl)⟩
theorem vp_other {σ : L2.St} {H : Hp} {ts : TE} {s : Nat} (hs : s ≤ 1) (v : Vp ts σ H (vN s)) : Vp (tOp (rI0 fun i j => .int (i - j)) (tC (.int 1)) ts) σ H (vN (1 - s)) := (vp_sub (m := 1) vp_c v).to (by
  show V.int _ = V.int _
  rw [show (1 : Int) - (s : Int) = ((1 - s : Nat) : Int) by omega])
/-- the book as the asking side sees it -/
def seen (k : Mate.Book) (s : Nat) : Mate.Book := if s = 0 then k else k.turned
theorem seen_here (k : Mate.Book) {s : Nat} (hs : s ≤ 1) : (seen k s).here = k.side s := by
  rcases (by omega : s = 0 ∨ s = 1) with rfl | rfl <;> rfl
theorem seen_there (k : Mate.Book) {s : Nat} (hs : s ≤ 1) : (seen k s).there = k.side (1 - s) := by
  rcases (by omega : s = 0 ∨ s = 1) with rfl | rfl <;> rfl
theorem seen_asks (k : Mate.Book) (s : Nat) : k.asks s = (seen k s).asking (seen k s).most (seen k s).begun := rfl
structure Sees (h : Mate.Book) : Prop where
  n : h.here.length ≤ 6
  m : h.there.length ≤ 6
  len : ∀ l ∈ h.here, l.length ≤ 2000
  lt : ∀ l ∈ h.here, ∀ b ∈ l, b < h.there.length
theorem Wf.sees {k : Mate.Book} (W : Wf k) (s : Nat) : Sees (seen k s) := by
  unfold seen
  split
  · exact ⟨W.n, W.m, fun l hl => (W.h0 l hl).1, fun l hl => (W.h0 l hl).2⟩
  · exact ⟨W.m, W.n, fun l hl => (W.h1 l hl).1, fun l hl => (W.h1 l hl).2⟩
theorem zeros_range {A : Type} (l : List A) : ((List.range l.length).map fun _ => (0 : Nat)) = l.map fun _ => 0 := by
  refine List.ext_getElem? fun i => ?_
  rw [List.getElem?_map, List.getElem?_map]
  by_cases q : i < l.length
  · rw [List.getElem?_range q, List.getElem?_eq_getElem q]
    rfl
  · rw [List.getElem?_eq_none (by rw [List.length_range]; omega), List.getElem?_eq_none (by omega)]
    rfl
theorem turned_zeros {A : Type} (l : List A) (m : Nat) : Mate.Way.turned (l.map fun _ => 0) m = (List.range m).map fun _ => 0 := by
  unfold Mate.Way.turned
  refine List.map_congr_left fun b _ => ?_
  refine back_not fun h => ?_
  obtain ⟨_, _, e⟩ := List.mem_map.mp h
  cases e
theorem way_range {l : List Nat} {n : Nat} (h : l.length = n) : ((List.range n).map fun i => Mate.Way.of_ l i) = l := by
  subst h
  refine List.ext_getElem? fun i => ?_
  by_cases q : i < l.length
  · rw [List.getElem?_map, List.getElem?_range q, some_of q]
    rfl
  · rw [List.getElem?_eq_none (by rw [List.length_map, List.length_range]; omega), List.getElem?_eq_none (by omega)]
theorem sum_cast : ∀ l : List Nat, (l.map fun (n : Nat) => (n : Int)).sum = (l.sum : Nat)
  | [] => rfl
  | x :: r => by
    rw [List.map_cons, List.sum_cons, List.sum_cons, sum_cast r]
    omega
theorem nums_ints (l : List Nat) : nums l = (l.map fun (n : Nat) => (n : Int)).map V.int := by
  rw [List.map_map]
  rfl
theorem nums_set (l : List Nat) (i n : Nat) : nums (l.set i n) = (nums l).set i (vN n) := List.map_set
theorem ixN_nat {n i : Nat} (h : i < n) : ixN n (i : Int) = some i := by
  unfold ixN
  rw [if_pos (by omega), if_pos (by omega)]
  rfl
def sp_all_askings (K : PySem.W.Frag) : Sp := fun vs H Q _ => ∃ (a : Addr) (k : Mate.Book) (s : Nat), vs = [.ref a, vN s] ∧ Bk H a k ∧ Wf k ∧ s ≤ 1 ∧ ∀ (H' : Hp) (p x : Addr), Same H H' → H' p = some (.tup [vN (k.asks s).1, .ref x]) → IL H' x (k.asks s).2.way → Q (.ref p) H'
/-- what holds ahead of each turn: m is the fuel that is left -/
structure Turn8 (h : Mate.Book) (H : Hp) (a s o p t u : Addr) (m : Nat) (σ : L2.St) (H' : Hp) : Prop where
  same : Same H H'
  ex : ∃ (st : Mate.Asking) (v7 v8 v9 : Option V), AInv h st ∧ (h.here.map fun l => l.length).sum < m + st.asked.sum ∧ (h.asking h.most h.begun).2 = (h.asking m st).2 ∧
    IL H' t st.asked ∧ IL H' u (Mate.Way.turned st.way h.there.length) ∧ σ = [some (.ref a), some (vN s), some (.ref o), some (.ref p), some (.ref t), some (.ref u), some (optI (nextAsker h.here st.asked (Mate.Way.turned st.way h.there.length))), v7, v8, v9]
theorem ok_all_askings {f : Addr} {fd : FuncData} (F : Fun K "all_askings" "all_askings" s_all_askings f fd) (B : Blt mg) {f_next_asker : Addr} {d_next_asker : FuncData} (c_next_asker : Cal P w K mg base "next_asker" 2 ["own", "at", "held"] (sp_next_asker K) f_next_asker d_next_asker) {f_takes : Addr} {d_takes : FuncData} (c_takes : Cal P w K mg base "takes" 2 ["liking", "held_entry", "i"] (sp_takes K) f_takes d_takes) {f_entry_back : Addr} {d_entry_back : FuncData} (c_entry_back : Cal P w K mg base "entry_back" 1 ["w", "j"] (sp_entry_back K) f_entry_back d_entry_back) : FnOk P w K mg base CX0 3 f fd ["lists", "s"] (sp_all_askings K) := by
  refine F.ok sc_all_askings (fun vs H Q E h => ?_) (fun cdv A outer s H vs Q E hr h => ?_)
  · obtain ⟨a, k, s, rfl, _⟩ := h
    rfl
  · obtain ⟨a, k, s, rfl, hk, W, hs, q⟩ := h
    refine ⟨_, (pss_cons (ps_set (i := 2) sc_all_askings.nd rfl (.inl rfl) (pe_ix (ix_listK (K := K) rfl) (pv 0) (pv 1) (fun _ _ => rfl)))
      (pss_cons (ps_set (i := 3) sc_all_askings.nd rfl (.inl rfl) (pe_ix (ix_listK (K := K) rfl) (pv 0) (pe_op op_sub pe_int (pv 1)) (fun _ _ => rfl)))
      (pss_cons (ps_setLc (i := 4) (own := [("liking", 8)]) (g := gName 8) (tt := tYes) rfl sc_all_askings.nd rfl rfl (sw_true rfl rfl rfl (by decide +kernel)) (pi_list (pv 2)) (blkOk_by (own := [("liking", 8)]) (N := N_all_askings) (sc := defScope s_all_askings) (by decide +kernel)) (fun _ _ _ _ _ => pg_name (i := 8) sc_all_askings.nd rfl (.inl rfl)) (fun _ _ _ _ _ => pts_nil) (fun _ _ _ _ _ => pe_int))
      (pss_cons (ps_set (i := 5) sc_all_askings.nd rfl (.inr rfl) (pe_lc (own := [("liking", 8)]) (g := gName 8) (tt := tYes) rfl sc_all_askings.nd (pi_list (pv 3)) (blkOk_by (own := [("liking", 8)]) (N := N_all_askings) (sc := defScope s_all_askings) (by decide +kernel)) (fun _ _ _ _ _ => pg_name (i := 8) sc_all_askings.nd rfl (.inl rfl)) (fun _ _ _ _ _ => pts_nil) (fun _ _ _ _ _ => pe_int)))
      (pss_cons (ps_set (i := 6) sc_all_askings.nd rfl (.inl rfl) (pcall c_next_asker hr (by decide) (by rfl) (pa_cons (pv 2) (pa_cons (pv 4) (pa_cons (pv 5) pa_nil)))))
      (pss_cons (ps_while PassesOwn.never (pt_cmp (pc_ge (pv 6) pe_int)) (pss_cons (ps_set (i := 7) sc_all_askings.nd rfl (.inl rfl) (pe_ix (ix_listK (K := K) rfl) (pe_ix (ix_listK (K := K) rfl) (pv 2) (pv 6) (fun _ _ => rfl)) (pe_ix (ix_listK (K := K) rfl) (pv 4) (pv 6) (fun _ _ => rfl)) (fun _ _ => rfl)))
      (pss_cons (ps_augS (pv 4) (pv 6) get_list pe_int ip_add set_list)
      (pss_cons (ps_if (pt_val (pcall c_takes hr (by decide) (by rfl) (pa_cons (pe_ix (ix_listK (K := K) rfl) (pv 3) (pv 7) (fun _ _ => rfl)) (pa_cons (pe_ix (ix_listK (K := K) rfl) (pv 5) (pv 7) (fun _ _ => rfl)) (pa_cons (pv 6) pa_nil))))) (pss_one (ps_asg (pe_op op_add (pv 6) pe_int) (pg_sub (pv 5) (pv 7) set_list))) pss_nil)
      (pss_one (ps_set (i := 6) sc_all_askings.nd rfl (.inl rfl) (pcall c_next_asker hr (by decide) (by rfl) (pa_cons (pv 2) (pa_cons (pv 4) (pa_cons (pv 5) pa_nil))))))))))
      (pss_one (ps_ret (pe_tup (pa_cons (pe_callB (cr_sum rfl) (by rfl) B.sum (by decide +kernel) (pa_cons (pv 4) pa_nil)) (pa_cons (pe_lc (own := [("k", 9)]) (g := gName 9) (tt := tYes) rfl sc_all_askings.nd (pi_range1 (by rfl) B.range (pa_cons (pe_callB (call_lenK (K := K) rfl) (by rfl) B.len PySem.boot_len (pa_cons (pv 2) pa_nil)) pa_nil)) (blkOk_by (own := [("k", 9)]) (N := N_all_askings) (sc := defScope s_all_askings) (by decide +kernel)) (fun _ _ _ _ _ => pg_name (i := 9) sc_all_askings.nd rfl (.inl rfl)) (fun _ _ _ _ _ => pts_nil) (fun _ _ _ _ _ => (pcall c_entry_back hr (by decide) (by rfl) (pa_cons (pv 5) (pa_cons (pv 9) pa_nil))))) pa_nil))))))))))), ?_⟩
    obtain ⟨o, ho, vo⟩ := Bk.side (K := K) hk hs
    obtain ⟨p, hp, vp⟩ := Bk.side (K := K) hk (s := 1 - s) (by omega)
    refine sq_set (vo (vp_var rfl) (vp_var rfl)) ?_
    refine sq_set (vp (vp_var rfl) (vp_other hs (vp_var rfl))) ?_
    rw [seen_asks] at q
    rw [← seen_here k hs] at ho
    rw [← seen_there k hs] at hp
    have Z := W.sees s
    generalize seen k s = h at q ho hp Z
    obtain ⟨zn, zm, zl, zt⟩ := Z
    obtain ⟨fin1, fin2, fin3⟩ := asks_ok h
    obtain ⟨os, o1, o2, o3⟩ := ho.get
    obtain ⟨ps, p1, p2, p3⟩ := hp.get
    refine sq_of (lst_of (vp_var (by rfl)) o1 fun t nt => ?_)
    refine lc_listN (a := o) (xs := os.map V.ref) (fun _ => 0) (by rw [List.length_map]; omega) nt o1 (fun i x H' _ s R r => r H' (Same.refl _)) (fun H1 s1 ht => ?_)
    rw [List.length_map, o2, zeros_range] at ht
    refine sq_of (lst_of (vp_var (by rfl)) (s1 _ _ p1) fun u nu => ?_)
    refine lc_listN (a := p) (xs := ps.map V.ref) (fun _ => 0) (by rw [List.length_map]; omega) nu (s1 _ _ p1) (fun i x H' _ s R r => r H' (Same.refl _)) (fun H2 s2 hu => ?_)
    rw [List.length_map, p2, ← turned_zeros h.here] at hu
    have nu' : H u = none := s1.free nu
    have tu : t ≠ u := ne_of_none ht nu
    refine sq_of (call3 (vp_var (by rfl)) (vp_var (by rfl)) (vp_var (by rfl)) ?_)
    refine ⟨o, t, u, h.here, _, _, rfl, (s1.trans s2).ll ho, s2.il ht, hu, by omega, List.length_map .., ?_, fun H3 s3 => ?_⟩
    · unfold Mate.Way.turned
      rw [List.length_map, List.length_range]
      omega
    refine ⟨Turn8 h H a s o p t u, ⟨h.most, (s1.trans s2).trans s3, h.begun, none, none, none, inv_begun h, by rw [most_eq]; omega, rfl, s3.il (s2.il ht), s3.il hu, rfl⟩, ?_⟩
    rintro m σ H4 ⟨s4, st, v7, v8, v9, I, hm, hfin, hat, hheld, rfl⟩
    cases nx : nextAsker h.here st.asked (Mate.Way.turned st.way h.there.length) with
    | none =>
      refine tB_of (vp_cmp (m := -1) (vp_var (by rfl)) vp_c _ ⟨_, rfl, if_F rfl ?_⟩)
      have en := next_none zt I nx
      rw [asking_end en] at hfin
      rw [hfin] at q fin3
      -- the tuple: the sum, the entries
      refine ⟨_, rfl, t, st.asked.map fun (n : Nat) => (n : Int), rfl, SqL.of (nums_ints st.asked ▸ hat), ?_⟩
      have hol : (os.map V.ref).length ≤ 1000000 := by
        rw [List.length_map]
        omega
      refine ⟨.ref o, rfl, o, _, rfl, .inl (SqL.of (s4 _ _ o1)), _, rfl, (small_62 hol).1, (small_62 hol).2, fun D nD => ?_⟩
      refine lc_rangeN (n := (os.map V.ref).length) (fun i => Mate.Way.of_ st.way i) hol nD (fun i H' hi s R r => ?_) (fun H5 s5 hL => ?_)
      · refine call2 (vp_var (by rfl)) (vp_var (by rfl)) ?_
        refine ⟨u, _, i, rfl, s.il hheld, ?_, fun H6 s6 => ?_⟩
        · unfold Mate.Way.turned
          rw [List.length_map, List.length_range]
          omega
        · rw [back_turned I.one (inv_lt zt I)]
          exact r _ s6
      · refine ⟨by show 2 ≤ sizeLine; decide, fun z nz => ?_⟩
        rw [way_range (by rw [List.length_map, o2]; exact I.lw)] at hL
        refine q _ z D ((s4.trans s5).new nz) ?_ (((Same.refl H5).new nz).il hL)
        rw [upd_same, sum_cast, ← fin3]
    | some i =>
      refine tB_of (vp_cmp (m := (i : Int)) (vp_var (by rfl)) vp_c _ ⟨_, rfl, if_T (decide_eq_true (by omega)) ?_⟩)
      obtain ⟨hi, st', hask, hfs⟩ := next_some zt I nx
      have I' := ask_inv I hask
      obtain ⟨w0, b, hb, ea, hw⟩ := ask_spec hask
      have hsum := ask_sum I hask
      have hle := inv_sum I
      obtain ⟨m', rfl⟩ : ∃ m', m = m' + 1 := ⟨m - 1, by omega⟩
      rw [asking_step hfs] at hfin
      refine ⟨Turn8 h H a s o p t u m', fun σ' H' hn => ⟨m', by omega, hn⟩, ?_⟩
      obtain ⟨ox, oy, oL⟩ := o3 i hi
      have hbm : b < h.there.length := zt _ (List.mem_of_getElem? (getD_some hi)) b (List.mem_of_getElem? hb)
      obtain ⟨px, py, pL⟩ := p3 b hbm
      -- who is asked
      refine sq_set (vp_ixN (vp_ix (vp_var rfl) (vp_var rfl) (SqL.of (s4 _ _ o1)) (refs_at oy)) (vp_ixN (vp_var rfl) (vp_var rfl) hat (getD_some (d := 0) (by rw [I.la]; exact hi))) (s4.il oL) hb) ?_
      have hai : st.asked[i]? = some (st.asked.getD i 0) := getD_some (by rw [I.la]; exact hi)
      -- one asking more
      refine ⟨_, rfl, _, rfl, ⟨t, nums st.asked, (i : Int), _, rfl, rfl, hat, by omega, nums_at hai, _, _, rfl, rfl, t, nums st.asked, (i : Int), i, rfl, rfl, hat, ixN_nat (by rw [nums_len, I.la]; exact hi), ?_⟩⟩
      have hat5 : IL (upd H4 t (.lst ((nums st.asked).set i (.int ((st.asked.getD i 0 : Int) + 1))))) t st'.asked := by
        show upd _ _ _ _ = _
        rw [upd_same, ea, nums_set]
        rfl
      have s5 : Same H (upd H4 t (.lst ((nums st.asked).set i (.int ((st.asked.getD i 0 : Int) + 1))))) := s4.mut nt
      have hheld5 : IL (upd H4 t (.lst ((nums st.asked).set i (.int ((st.asked.getD i 0 : Int) + 1))))) u (Mate.Way.turned st.way h.there.length) := by
        show upd _ _ _ _ = _
        rw [upd_ne tu.symm]
        exact hheld
      generalize upd H4 t (.lst ((nums st.asked).set i (.int ((st.asked.getD i 0 : Int) + 1)))) = H5 at hat5 s5 hheld5
      have hback : (Mate.Way.turned st.way h.there.length)[b]? = some (Mate.Way.back st.way b) := by
        unfold Mate.Way.turned
        rw [List.getElem?_map, List.getElem?_range hbm]
        rfl
      -- the next turn's state, once held is as it is to be
      have go : ∀ (H6 : Hp) (v7 v8 v9 : Option V), Same H H6 → IL H6 t st'.asked → IL H6 u (Mate.Way.turned st'.way h.there.length) →
          (tAsg (tCall (sp_next_asker K) [] E0 (tCons (tVar 2) (tCons (tVar 4) (tCons (tVar 5) tNil)))) (gName 6)) { nx := Turn8 h H a s o p t u m', rt := Q, bk := fun _ _ => True, ct := fun _ _ => True } [some (.ref a), some (vN s), some (.ref o), some (.ref p), some (.ref t), some (.ref u), some (vN i), some (vN b), v8, v9] H6 := by
        intro H6 v7 v8 v9 s6 hat6 hheld6
        refine call3 (vp_var (by rfl)) (vp_var (by rfl)) (vp_var (by rfl)) ?_
        refine ⟨o, t, u, h.here, _, _, rfl, s6.ll ho, hat6, hheld6, by omega, I'.la, ?_, fun H7 s7 => ⟨s6.trans s7, st', some (vN b), v8, v9, I', by omega, hfin, s7.il hat6, s7.il hheld6, rfl⟩⟩
        unfold Mate.Way.turned
        rw [List.length_map, List.length_range]
        omega
      refine ifc_of (call3 (vp_ix (vp_var rfl) (vp_var rfl) (SqL.of (s5 _ _ p1)) (refs_at py)) (vp_ixN (vp_var rfl) (vp_var rfl) hheld5 hback) (vp_var rfl) ?_)
      refine ⟨px, _, _, i, rfl, s5.il pL, fun H6 s6 => ⟨_, rfl, ?_⟩⟩
      cases c : decide (Mate.rank (h.there.getD b []) (i + 1) < Mate.rank (h.there.getD b []) (Mate.Way.back st.way b)) with
      | true =>
        refine iteT ?_
        rcases hw with ⟨hr, hw⟩ | ⟨hr, hw⟩
        · · refine vp_succ (vp_var (by rfl)) _ ?_
            refine ⟨_, rfl, _, rfl, u, _, (b : Int), b, rfl, rfl, s6.il hheld5, ixN_nat ?_, ?_⟩
            · unfold Mate.Way.turned
              rw [nums_len, List.length_map, List.length_range]
              exact hbm
            · refine go _ v7 v8 v9 ((s5.trans s6).mut nu') ?_ ?_
              · show upd _ _ _ _ = _
                rw [upd_ne tu]
                exact s6.il hat5
              · show upd _ _ _ _ = _
                rw [upd_same, hw, turned_taken (by rw [I.lw]; exact hi) I.one w0, nums_set]
        · exact absurd (of_decide_eq_true c) hr
      | false =>
        refine iteF ?_
        rcases hw with ⟨hr, hw⟩ | ⟨hr, hw⟩
        · exact absurd hr (of_decide_eq_false c)
        · exact go _ v7 v8 v9 (s5.trans s6) (s6.il hat5) (by rw [hw]; exact s6.il hheld5)
end
end PO

/-! The walk, 9: likings. -/
namespace PO
open PySem PySem.Spec PyProof.Rows L2
abbrev s_nobody_yet : Stmt := topS 19
abbrev N_nobody_yet : List Str := []
theorem sc_nobody_yet : FnScope N_nobody_yet [] (defScope s_nobody_yet) := ⟨rfl, rfl, rfl, by decide +kernel, rfl, by decide +kernel, by decide +kernel⟩
abbrev s_blank : Stmt := topS 20
abbrev N_blank : List Str := ["n", "m", "i", "j"]
theorem sc_blank : FnScope N_blank ["n", "m"] (defScope s_blank) := ⟨rfl, rfl, rfl, by decide +kernel, rfl, by decide +kernel, by decide +kernel⟩
abbrev s_is_begun : Stmt := topS 21
abbrev N_is_begun : List Str := ["lists"]
theorem sc_is_begun : FnScope N_is_begun ["lists"] (defScope s_is_begun) := ⟨rfl, rfl, rfl, by decide +kernel, rfl, by decide +kernel, by decide +kernel⟩
abbrev s_swapped : Stmt := topS 22
abbrev N_swapped : List Str := ["lists", "s", "i", "liking", "side"]
theorem sc_swapped : FnScope N_swapped ["lists", "s", "i", "liking"] (defScope s_swapped) := ⟨rfl, rfl, rfl, by decide +kernel, rfl, by decide +kernel, by decide +kernel⟩
abbrev s_listable : Stmt := topS 23
abbrev N_listable : List Str := ["liking", "others", "k"]
theorem sc_listable : FnScope N_listable ["liking", "others"] (defScope s_listable) := ⟨rfl, rfl, rfl, by decide +kernel, rfl, by decide +kernel, by decide +kernel⟩
abbrev s_refusal_of_side : Stmt := topS 24
abbrev N_refusal_of_side : List Str := ["s"]
theorem sc_refusal_of_side : FnScope N_refusal_of_side ["s"] (defScope s_refusal_of_side) := ⟨rfl, rfl, rfl, by decide +kernel, rfl, by decide +kernel, by decide +kernel⟩
abbrev s_refusal_of_one : Stmt := topS 25
abbrev N_refusal_of_one : List Str := ["lists", "s", "i"]
theorem sc_refusal_of_one : FnScope N_refusal_of_one ["lists", "s", "i"] (defScope s_refusal_of_one) := ⟨rfl, rfl, rfl, by decide +kernel, rfl, by decide +kernel, by decide +kernel⟩
abbrev s_refusal_of_list : Stmt := topS 26
abbrev N_refusal_of_list : List Str := ["lists", "s", "i", "liking", "refusal"]
theorem sc_refusal_of_list : FnScope N_refusal_of_list ["lists", "s", "i", "liking"] (defScope s_refusal_of_list) := ⟨rfl, rfl, rfl, by decide +kernel, rfl, by decide +kernel, by decide +kernel⟩
abbrev s_told : Stmt := topS 44
abbrev N_told : List Str := ["number", "row"]
theorem sc_told : FnScope N_told ["number", "row"] (defScope s_told) := ⟨rfl, rfl, rfl, by decide +kernel, rfl, by decide +kernel, by decide +kernel⟩
abbrev s_flat : Stmt := topS 45
abbrev N_flat : List Str := ["pairs", "row", "i", "j"]
theorem sc_flat : FnScope N_flat ["pairs"] (defScope s_flat) := ⟨rfl, rfl, rfl, by decide +kernel, rfl, by decide +kernel, by decide +kernel⟩
section
variable {P : Program} {w : World} {K : PySem.W.Frag} {mg : Str → Option Value} {base : Heap}

def sp_nobody_yet (K : PySem.W.Frag) : Sp := fun vs H Q _ => vs = [] ∧ ∀ (H' : Hp) (p : Addr), Same H H' → Bk H' p ⟨[], []⟩ → (∀ so, H so ≠ none → Bk (Off so H') p ⟨[], []⟩) → Q (.ref p) H'
theorem small2 : (2 : Nat) ≤ sizeLine := by decide
theorem ok_nobody_yet {f : Addr} {fd : FuncData} (F : Fun K "nobody_yet" "nobody_yet" s_nobody_yet f fd) (B : Blt mg) : FnOk P w K mg base CX0 1 f fd [] (sp_nobody_yet K) := by
  refine F.ok sc_nobody_yet (fun vs H Q E h => ?_) (fun cdv A outer s H vs Q E hr h => ?_)
  · obtain ⟨rfl, _⟩ := h
    rfl
  · obtain ⟨rfl, q⟩ := h
    refine ⟨_, (pss_one (ps_ret (pe_lst (pa_cons (pe_lst pa_nil) (pa_cons (pe_lst pa_nil) pa_nil))))), ?_⟩
    refine ⟨Nat.zero_le _, fun x nx => ⟨Nat.zero_le _, fun y ny => ⟨small2, fun z nz => ?_⟩⟩⟩
    have s1 : Same H (upd H x (.lst [])) := (Same.refl H).new nx
    have fx : LLF H (upd (upd (upd H x (.lst [])) y (.lst [])) z (.lst [.ref x, .ref y])) x [] := LLF.same ⟨nx, [], upd_same, rfl, fun i x l e => by simp at e⟩ (((Same.refl _).new ny).new nz)
    have fy : LLF H (upd (upd (upd H x (.lst [])) y (.lst [])) z (.lst [.ref x, .ref y])) y [] := LLF.same ⟨s1.free ny, [], upd_same, rfl, fun i x l e => by simp at e⟩ ((Same.refl _).new nz)
    refine q _ z ((s1.new ny).new nz) ⟨x, y, upd_same, fx.ll, fy.ll⟩ fun so hso => ⟨x, y, ?_, fx.off hso, fy.off hso⟩
    rw [off_ne (ne_so hso ((s1.new ny).free nz)), upd_same]

/-! ### blank -/
def sp_blank (K : PySem.W.Frag) : Sp := fun vs H Q _ => ∃ n m : Nat, vs = [vN n, vN m] ∧ n ≤ 6 ∧ m ≤ 6 ∧ ∀ (H' : Hp) (p : Addr), Same H H' → Bk H' p ⟨List.replicate n [], List.replicate m []⟩ → (∀ so, H so ≠ none → Bk (Off so H') p ⟨List.replicate n [], List.replicate m []⟩) → Q (.ref p) H'
theorem map_nil (n : Nat) : ((List.range n).map fun _ => ([] : List Nat)) = List.replicate n [] := by
  rw [List.map_const', List.length_range]
theorem ok_blank {f : Addr} {fd : FuncData} (F : Fun K "blank" "blank" s_blank f fd) (B : Blt mg) : FnOk P w K mg base CX0 1 f fd ["n", "m"] (sp_blank K) := by
  refine F.ok sc_blank (fun vs H Q E h => ?_) (fun cdv A outer s H vs Q E hr h => ?_)
  · obtain ⟨n, m, rfl, _⟩ := h
    rfl
  · obtain ⟨n, m, rfl, hn, hm, q⟩ := h
    refine ⟨_, (pss_one (ps_ret (pe_lst (pa_cons (pe_lc (own := [("i", 2)]) (g := gName 2) (tt := tYes) rfl sc_blank.nd (pi_range1 (by rfl) B.range (pa_cons (pv 0) pa_nil)) (blkOk_by (own := [("i", 2)]) (N := N_blank) (sc := defScope s_blank) (by decide +kernel)) (fun _ _ _ _ _ => pg_name (i := 2) sc_blank.nd rfl (.inl rfl)) (fun _ _ _ _ _ => pts_nil) (fun _ _ _ _ _ => (pe_lst pa_nil))) (pa_cons (pe_lc (own := [("j", 3)]) (g := gName 3) (tt := tYes) rfl sc_blank.nd (pi_range1 (by rfl) B.range (pa_cons (pv 1) pa_nil)) (blkOk_by (own := [("j", 3)]) (N := N_blank) (sc := defScope s_blank) (by decide +kernel)) (fun _ _ _ _ _ => pg_name (i := 3) sc_blank.nd rfl (.inl rfl)) (fun _ _ _ _ _ => pts_nil) (fun _ _ _ _ _ => (pe_lst pa_nil))) pa_nil))))), ?_⟩
    refine ⟨_, rfl, _, rfl, (small_62 (by omega)).1, (small_62 (by omega)).2, fun x nx => ?_⟩
    refine lc_rangeLF (n := n) (fun _ => []) (by omega) nx (fun i H' hi s R r => ⟨Nat.zero_le _, fun y ny => r y _ ((Same.refl H').new ny) ny upd_same⟩) (fun H1 s1 hx => ?_)
    refine ⟨_, rfl, _, rfl, (small_62 (by omega)).1, (small_62 (by omega)).2, fun y ny => ?_⟩
    refine lc_rangeLF (n := m) (fun _ => []) (by omega) ny (fun i H' hi s R r => ⟨Nat.zero_le _, fun y ny => r y _ ((Same.refl H').new ny) ny upd_same⟩) (fun H2 s2 hy => ?_)
    rw [map_nil] at hx hy
    refine ⟨small2, fun z nz => ?_⟩
    have fx := hx.same (s2.new nz (o := .lst [.ref x, .ref y]))
    have fy := (hy.same ((Same.refl H2).new nz (o := .lst [.ref x, .ref y]))).back s1
    refine q _ z ((s1.trans s2).new nz) ⟨x, y, upd_same, fx.ll, fy.ll⟩ fun so hso => ⟨x, y, ?_, fx.off hso, fy.off hso⟩
    rw [off_ne (ne_so hso ((s1.trans s2).free nz)), upd_same]

/-! ### is_begun -/
def sp_is_begun (K : PySem.W.Frag) : Sp := fun vs H Q _ => ∃ (a : Addr) (k : Mate.Book), vs = [.ref a] ∧ Bk H a k ∧ ∀ H', Same H H' → Q (.bl (decide (0 < k.here.length))) H'
theorem ok_is_begun {f : Addr} {fd : FuncData} (F : Fun K "is_begun" "is_begun" s_is_begun f fd) (B : Blt mg) : FnOk P w K mg base CX0 1 f fd ["lists"] (sp_is_begun K) := by
  refine F.ok sc_is_begun (fun vs H Q E h => ?_) (fun cdv A outer s H vs Q E hr h => ?_)
  · obtain ⟨a, k, rfl, _⟩ := h
    rfl
  · obtain ⟨a, k, rfl, ⟨a0, a1, h1, h2, h3⟩, q⟩ := h
    refine ⟨_, (pss_one (ps_ret (pe_cmp (pc_gt (pe_callB (call_lenK (K := K) rfl) (by rfl) B.len PySem.boot_len (pa_cons (pe_ix (ix_listK (K := K) rfl) (pv 0) pe_int (fun _ _ => rfl)) pa_nil)) pe_int)))), ?_⟩
    refine st_ret ((vp_cmp (vp_lenL (vp_fst (vp_var rfl) (SqL.of h1)) h2) vp_c).to ?_) (q _ (Same.refl _))
    show V.bl (decide ((0 : Int) < (k.here.length : Int))) = _
    rw [show (0 : Int) = ((0 : Nat) : Int) from rfl, cast_lt]

/-! ### swapped -/
def sp_swapped (K : PySem.W.Frag) : Sp := fun vs H Q _ => ∃ (a b : Addr) (k : Mate.Book) (s i : Nat) (l : List Nat), vs = [.ref a, vN s, vN i, .ref b] ∧ Bk H a k ∧ IL H b l ∧ s ≤ 1 ∧ i < (k.side s).length ∧ ∀ (H' : Hp) (p : Addr), Same H H' → Bk H' p (k.set s i l) → (∀ so, H so ≠ none → Bk (Off so H) a k → Bk (Off so H') p (k.set s i l)) → Q (.ref p) H'
/-- a list of lists, one of which is another: the old ones where they stood -/
theorem LL.set {H H' : Hp} {o t y : Addr} {ll : List (List Nat)} {i : Nat} {l : List Nat} {as : List Addr} (h2 : as.length = ll.length) (h3 : ∀ (i : Nat) (x : Addr) (l : List Nat), as[i]? = some x → ll[i]? = some l → IL H x l) (s : Same H H') (ht : H' t = some (.lst ((as.map V.ref).set i (.ref y)))) (hy : IL H' y l) : LL H' t (ll.set i l) := by
  refine ⟨as.set i y, by rw [ht, List.map_set], by rw [List.length_set, List.length_set, h2], fun j x z e1 e2 => ?_⟩
  rw [List.getElem?_set] at e1 e2
  by_cases e : i = j
  · subst e
    rw [if_pos rfl] at e1 e2
    split at e1
    · split at e2
      · cases e1
        cases e2
        exact hy
      · cases e2
    · cases e1
  · rw [if_neg e] at e1 e2
    exact s.il (h3 j x z e1 e2)
theorem ok_swapped {f : Addr} {fd : FuncData} (F : Fun K "swapped" "swapped" s_swapped f fd) (B : Blt mg) : FnOk P w K mg base CX0 1 f fd ["lists", "s", "i", "liking"] (sp_swapped K) := by
  refine F.ok sc_swapped (fun vs H Q E h => ?_) (fun cdv A outer s H vs Q E hr h => ?_)
  · obtain ⟨a, b, k, s, i, l, rfl, _⟩ := h
    rfl
  · obtain ⟨a, b, k, s, i, l, rfl, hk, hl, hs, hi, q⟩ := h
    have hk' := hk
    obtain ⟨a0, a1, h1, h2, h3⟩ := hk'
    obtain ⟨o, ho, eo0, vo⟩ : ∃ o, LL H o (k.side s) ∧ o = (if s = 0 then a0 else a1) ∧ ∀ {ta ts : TE} {σ : L2.St}, Vp ta σ H (.ref a) → Vp ts σ H (vN s) → Vp (tOp (rIxL K) ta ts) σ H (.ref o) := by
      rcases (by omega : s = 0 ∨ s = 1) with rfl | rfl
      · exact ⟨a0, h2, rfl, fun va vs => vp_ix va vs (SqL.of h1) (atI_nat (j := 0) rfl)⟩
      · exact ⟨a1, h3, rfl, fun va vs => vp_ix va vs (SqL.of h1) (atI_nat (j := 1) rfl)⟩
    obtain ⟨as, o1, o2, o3⟩ := ho
    refine ⟨_, (pss_cons (ps_set (i := 4) sc_swapped.nd rfl (.inl rfl) (pe_callTy call_list_of (by rfl) B.list (by decide +kernel) (pa_cons (pe_ix (ix_listK (K := K) rfl) (pv 0) (pv 1) (fun _ _ => rfl)) pa_nil)))
      (pss_cons (ps_asg (pe_callTy call_list_of (by rfl) B.list (by decide +kernel) (pa_cons (pv 3) pa_nil)) (pg_sub (pv 4) (pv 2) set_list))
      (pss_cons (ps_if (pt_cmp (pc_eqI (pv 1) pe_int)) (pss_one (ps_ret (pe_lst (pa_cons (pv 4) (pa_cons (pe_ix (ix_listK (K := K) rfl) (pv 0) pe_int (fun _ _ => rfl)) pa_nil))))) pss_nil)
      (pss_one (ps_ret (pe_lst (pa_cons (pe_ix (ix_listK (K := K) rfl) (pv 0) pe_int (fun _ _ => rfl)) (pa_cons (pv 4) pa_nil)))))))), ?_⟩
    -- the side copied
    refine sq_of (vo (vp_var (by rfl)) (vp_var (by rfl)) _ ?_)
    refine ⟨o, _, rfl, .inl (SqL.of o1), fun t nt => ?_⟩
    have s1 : Same H (upd H t (.lst (as.map V.ref))) := (Same.refl H).new nt
    -- the list copied into it
    refine ⟨_, rfl, b, _, rfl, .inl (SqL.of (s1.il hl)), fun y ny => ?_⟩
    have s2 : Same H (upd (upd H t (.lst (as.map V.ref))) y (.lst (nums l))) := s1.new ny
    have ty : t ≠ y := ne_of_none upd_same ny
    refine ⟨_, rfl, _, rfl, t, as.map V.ref, (i : Int), i, rfl, rfl, by rw [upd_ne ty, upd_same], ixN_nat (by rw [List.length_map, o2]; exact hi), ?_⟩
    have s3 : Same H (upd (upd (upd H t (.lst (as.map V.ref))) y (.lst (nums l))) t (.lst ((as.map V.ref).set i (.ref y)))) := s2.mut nt
    have hT : ∀ so, H so ≠ none → LL (Off so H) o (k.side s) → LL (Off so (upd (upd (upd H t (.lst (as.map V.ref))) y (.lst (nums l))) t (.lst ((as.map V.ref).set i (.ref y))))) t ((k.side s).set i l) := fun so hso ho' => by
      obtain ⟨as', g1, g2, g3⟩ := ho'
      have e := (off_some g1).2
      rw [o1] at e
      have e2 : as.map V.ref = as'.map V.ref := HO.lst.inj (Option.some.inj e)
      rw [e2]
      rw [e2] at s3
      refine LL.set (o := o) g2 g3 (s3.off so) (by rw [off_ne (ne_so hso nt), upd_same]) ?_
      show Off so _ y = _
      rw [off_ne (ne_so hso (s1.free ny)), upd_ne ty.symm, upd_same]
    have hL : LL (upd (upd (upd H t (.lst (as.map V.ref))) y (.lst (nums l))) t (.lst ((as.map V.ref).set i (.ref y)))) t ((k.side s).set i l) :=
      LL.set (o := o) o2 o3 s3 upd_same (by
        show upd _ _ _ _ = _
        rw [upd_ne ty.symm, upd_same])
    generalize upd (upd (upd H t (.lst (as.map V.ref))) y (.lst (nums l))) t (.lst ((as.map V.ref).set i (.ref y))) = H3 at s3 hL hT
    have oside : ∀ so, Bk (Off so H) a k → LL (Off so H) o (k.side s) ∧ LL (Off so H) a0 k.here ∧ LL (Off so H) a1 k.there := fun so hb => by
      obtain ⟨b0, b1, g1, g2, g3⟩ := hb
      have e := (off_some g1).2
      rw [h1] at e
      have e2 : [V.ref a0, V.ref a1] = [V.ref b0, V.ref b1] := HO.lst.inj (Option.some.inj e)
      cases e2
      have eo := eo0
      rcases (by omega : s = 0 ∨ s = 1) with rfl | rfl
      · rw [eo]
        exact ⟨g2, g2, g3⟩
      · rw [eo]
        exact ⟨g3, g2, g3⟩
    unfold Mate.Book.set at q
    rcases (by omega : s = 0 ∨ s = 1) with rfl | rfl
    · rw [if_pos rfl] at q
      refine sq_if0 (vp_cmp (vp_var rfl) vp_c) (fun _ => ?_) (fun e => by cases e)
      refine ⟨_, rfl, vp_snd (vp_var (by rfl)) (SqL.of (s3 _ _ h1)) _ ⟨small2, fun z nz => ?_⟩⟩
      refine q _ z (s3.new nz) ⟨t, a1, upd_same, ((Same.refl _).new nz).ll hL, (s3.new nz).ll h3⟩ fun so hso hb => ?_
      obtain ⟨g1, g2, g3⟩ := oside so hb
      exact ⟨t, a1, by rw [off_ne (ne_so hso (s3.free nz)), upd_same], (((Same.refl _).new nz).off so).ll (hT so hso g1), ((s3.new nz).off so).ll g3⟩
    · rw [if_neg (by omega)] at q
      refine sq_if0 (vp_cmp (vp_var rfl) vp_c) (fun e => by cases e) (fun _ => ?_)
      refine rt_of (vp_fst (vp_var (by rfl)) (SqL.of (s3 _ _ h1)) _ ⟨_, rfl, small2, fun z nz => ?_⟩)
      refine q _ z (s3.new nz) ⟨a0, t, upd_same, (s3.new nz).ll h2, ((Same.refl _).new nz).ll hL⟩ fun so hso hb => ?_
      obtain ⟨g1, g2, g3⟩ := oside so hb
      exact ⟨a0, t, by rw [off_ne (ne_so hso (s3.free nz)), upd_same], ((s3.new nz).off so).ll g2, (((Same.refl _).new nz).off so).ll (hT so hso g1)⟩

/-! ### listable -/
def sp_listable (K : PySem.W.Frag) : Sp := fun vs H Q _ => ∃ (a : Addr) (l : List Nat) (m : Nat), vs = [.ref a, vN m] ∧ IL H a l ∧ l.length ≤ 2000 ∧ ∀ H', Same H H' → Q (.bl (okList m l)) H'
theorem ok_listable {f : Addr} {fd : FuncData} (F : Fun K "listable" "listable" s_listable f fd) (B : Blt mg) : FnOk P w K mg base CX0 1 f fd ["liking", "others"] (sp_listable K) := by
  refine F.ok sc_listable (fun vs H Q E h => ?_) (fun cdv A outer s H vs Q E hr h => ?_)
  · obtain ⟨a, l, m, rfl, _⟩ := h
    rfl
  · obtain ⟨a, l, m, rfl, hl, hlen, q⟩ := h
    refine ⟨_, (pss_cons (ps_for PassesOwn.never rfl (pi_range1 (by rfl) B.range (pa_cons (pe_callB (call_lenK (K := K) rfl) (by rfl) B.len PySem.boot_len (pa_cons (pv 0) pa_nil)) pa_nil)) (pg_name (i := 2) sc_listable.nd rfl (.inl rfl)) (pss_cons (ps_if (pt_cmp (pc_ge (pe_ix (ix_listK (K := K) rfl) (pv 0) (pv 2) (fun _ _ => rfl)) (pv 1))) (pss_one (ps_ret pe_bl)) pss_nil)
      (pss_one (ps_if (pt_cmpR op_in_seq (pe_ix (ix_listK (K := K) rfl) (pv 0) (pv 2) (fun _ _ => rfl)) (pe_slice sl_list (pv 0) po_none (po_some (pv 2))) (by rfl)) (pss_one (ps_ret pe_bl)) pss_nil))))
      (pss_one (ps_ret pe_bl))), ?_⟩
    refine sq_forR (vp_lenN (vp_var rfl) hl) (by omega) (fun i σ H' => ∃ v2, σ = [some (.ref a), some (vN m), v2] ∧ Same H H' ∧ ∀ j, j < i → okAt l m j = true) ⟨none, rfl, Same.refl _, fun t ht => by omega⟩ ?_ ?_
    · rintro i σ H1 hi ⟨v2, rfl, s1, hno⟩
      have bad : okAt l m i = false → okList m l = false := fun e => by
        rw [Bool.eq_false_iff]
        intro z
        have := okList_iff.mp z i hi
        rw [e] at this
        cases this
      refine sq_if2 (vp_cmp (vp_ixN (vp_var rfl) (vp_var rfl) (s1.il hl) (getD_some (d := 0) hi)) (vp_var rfl)) (fun c => ?_) (fun c => ?_)
      · refine st_ret vp_c ?_
        rw [bad (by unfold okAt; rw [decide_eq_false (by omega), Bool.false_and])] at q
        exact q _ s1
      · refine vp_ixN (vp_var (by rfl)) (vp_var (by rfl)) (s1.il hl) (getD_some (d := 0) hi) _ ?_
        refine ⟨_, rfl, _, rfl, _, rfl, a, nums l, rfl, (s1.il hl).sq, fun p hp => ?_⟩
        rw [cut_take, ← List.map_take]
        have s2 : Same H (upd H1 p (.lst (nums (l.take i)))) := s1.new hp
        refine ⟨p, nums (l.take i), rfl, .inl (SqL.of upd_same), rfl, flat_nums _, _, rfl, ?_⟩
        show ite _ _ _
        rw [if_neg Bool.false_ne_true, inV_nums]
        cases z : (l.take i).contains (l.getD i 0) with
        | true =>
          refine iteT (st_ret vp_c ?_)
          rw [bad (by unfold okAt; rw [z, Bool.not_true, Bool.and_false])] at q
          exact q _ s2
        | false =>
          refine iteF ⟨_, rfl, s2, fun j hj => ?_⟩
          by_cases e : j = i
          · rw [e]
            unfold okAt
            rw [z, decide_eq_true (by omega)]
            rfl
          · exact hno j (by omega)
    · rintro σ H1 ⟨v2, rfl, s1, hno⟩
      refine st_ret vp_c ?_
      rw [okList_iff.mpr hno] at q
      exact q _ s1

/-! ### refusals -/
def refS (s : Nat) : Int := if 1 < s then -1 else 0
def refO (k : Mate.Book) (s i : Nat) : Int := if 1 < s then -1 else if (k.side s).length ≤ i then -4 else 0
def refL (k : Mate.Book) (s i : Nat) (l : List Nat) : Int := if refO k s i < 0 then refO k s i else if k.listOk s l = false then -1 else 0
def sp_refusal_of_side (K : PySem.W.Frag) : Sp := fun vs H Q _ => ∃ s : Nat, vs = [vN s] ∧ ∀ H', Same H H' → Q (.int (refS s)) H'
theorem rt_neg {D : Ends} {σ : L2.St} {H : Hp} {n : Int} (q : D.rt (.int (-n)) H) : tRet (tUn (rU fun i => .int (-i)) (tC (.int n))) D σ H := ⟨n, rfl, q⟩
theorem ok_refusal_of_side {f : Addr} {fd : FuncData} (F : Fun K "refusal_of_side" "refusal_of_side" s_refusal_of_side f fd) (B : Blt mg) : FnOk P w K mg base CX0 1 f fd ["s"] (sp_refusal_of_side K) := by
  refine F.ok sc_refusal_of_side (fun vs H Q E h => ?_) (fun cdv A outer s H vs Q E hr h => ?_)
  · obtain ⟨s, rfl, _⟩ := h
    rfl
  · obtain ⟨s, rfl, q⟩ := h
    refine ⟨_, (pss_cons (ps_if (pt_cmp (pc_gt (pv 0) pe_int)) (pss_one (ps_ret (pe_un un_neg pe_int))) pss_nil)
      (pss_one (ps_ret pe_int))), ?_⟩
    have q' := q _ (Same.refl H)
    unfold refS at q'
    refine sq_if2 (vp_cmp (vp_var rfl) vp_c) (fun c => ?_) (fun c => ?_)
    · rw [if_pos (by omega)] at q'
      exact rt_neg q'
    · rw [if_neg (by omega)] at q'
      exact st_ret vp_c q'
def sp_refusal_of_one (K : PySem.W.Frag) : Sp := fun vs H Q _ => ∃ (a : Addr) (k : Mate.Book) (s i : Nat), vs = [.ref a, vN s, vN i] ∧ Bk H a k ∧ ∀ H', Same H H' → Q (.int (refO k s i)) H'
theorem ok_refusal_of_one {f : Addr} {fd : FuncData} (F : Fun K "refusal_of_one" "refusal_of_one" s_refusal_of_one f fd) (B : Blt mg) : FnOk P w K mg base CX0 1 f fd ["lists", "s", "i"] (sp_refusal_of_one K) := by
  refine F.ok sc_refusal_of_one (fun vs H Q E h => ?_) (fun cdv A outer s H vs Q E hr h => ?_)
  · obtain ⟨a, k, s, i, rfl, _⟩ := h
    rfl
  · obtain ⟨a, k, s, i, rfl, hk, q⟩ := h
    refine ⟨_, (pss_cons (ps_if (pt_cmp (pc_gt (pv 1) pe_int)) (pss_one (ps_ret (pe_un un_neg pe_int))) pss_nil)
      (pss_cons (ps_if (pt_cmp (pc_ge (pv 2) (pe_callB (call_lenK (K := K) rfl) (by rfl) B.len PySem.boot_len (pa_cons (pe_ix (ix_listK (K := K) rfl) (pv 0) (pv 1) (fun _ _ => rfl)) pa_nil)))) (pss_one (ps_ret (pe_un un_neg pe_int))) pss_nil)
      (pss_one (ps_ret pe_int)))), ?_⟩
    have q' := q _ (Same.refl H)
    unfold refO at q'
    refine sq_if2 (vp_cmp (vp_var rfl) vp_c) (fun c => ?_) (fun c => ?_)
    · rw [if_pos (by omega)] at q'
      exact rt_neg q'
    · rw [if_neg (by omega)] at q'
      obtain ⟨o, ho, vo⟩ := Bk.side (K := K) hk (s := s) (by omega)
      refine sq_if2 (vp_cmp (vp_var rfl) (vp_lenL (vo (vp_var rfl) (vp_var rfl)) ho)) (fun c => ?_) (fun c => ?_)
      · rw [if_pos (by omega)] at q'
        exact rt_neg q'
      · rw [if_neg (by omega)] at q'
        exact st_ret vp_c q'
def sp_refusal_of_list (K : PySem.W.Frag) : Sp := fun vs H Q _ => ∃ (a b : Addr) (k : Mate.Book) (s i : Nat) (l : List Nat), vs = [.ref a, vN s, vN i, .ref b] ∧ Bk H a k ∧ IL H b l ∧ l.length ≤ 2000 ∧ ∀ H', Same H H' → Q (.int (refL k s i l)) H'
theorem ok_refusal_of_list {f : Addr} {fd : FuncData} (F : Fun K "refusal_of_list" "refusal_of_list" s_refusal_of_list f fd) (B : Blt mg) {f_refusal_of_one : Addr} {d_refusal_of_one : FuncData} (c_refusal_of_one : Cal P w K mg base "refusal_of_one" 1 ["lists", "s", "i"] (sp_refusal_of_one K) f_refusal_of_one d_refusal_of_one) {f_listable : Addr} {d_listable : FuncData} (c_listable : Cal P w K mg base "listable" 1 ["liking", "others"] (sp_listable K) f_listable d_listable) : FnOk P w K mg base CX0 2 f fd ["lists", "s", "i", "liking"] (sp_refusal_of_list K) := by
  refine F.ok sc_refusal_of_list (fun vs H Q E h => ?_) (fun cdv A outer s H vs Q E hr h => ?_)
  · obtain ⟨a, b, k, s, i, l, rfl, _⟩ := h
    rfl
  · obtain ⟨a, b, k, s, i, l, rfl, hk, hl, hlen, q⟩ := h
    refine ⟨_, (pss_cons (ps_set (i := 4) sc_refusal_of_list.nd rfl (.inl rfl) (pcall c_refusal_of_one hr (by decide) (by rfl) (pa_cons (pv 0) (pa_cons (pv 1) (pa_cons (pv 2) pa_nil)))))
      (pss_cons (ps_if (pt_cmp (pc_lt (pv 4) pe_int)) (pss_one (ps_ret (pv 4))) pss_nil)
      (pss_cons (ps_if (pt_not (pt_val (pcall c_listable hr (by decide) (by rfl) (pa_cons (pv 3) (pa_cons (pe_callB (call_lenK (K := K) rfl) (by rfl) B.len PySem.boot_len (pa_cons (pe_ix (ix_listK (K := K) rfl) (pv 0) (pe_op op_sub pe_int (pv 1)) (fun _ _ => rfl)) pa_nil)) pa_nil))))) (pss_one (ps_ret (pe_un un_neg pe_int))) pss_nil)
      (pss_one (ps_ret pe_int))))), ?_⟩
    unfold refL at q
    refine sq_of (call3 (vp_var (by rfl)) (vp_var (by rfl)) (vp_var (by rfl)) ?_)
    refine ⟨a, k, s, i, rfl, hk, fun H1 s1 => ?_⟩
    refine sq_if2 (vp_cmp (m := refO k s i) (vp_var rfl) vp_c) (fun c => ?_) (fun c => ?_)
    · rw [if_pos c] at q
      exact st_ret (vp_var rfl) (q _ s1)
    · rw [if_neg c] at q
      have hs : s ≤ 1 := by
        unfold refO at c
        apply Decidable.byContradiction
        intro z
        rw [if_pos (by omega)] at c
        exact c (by decide)
      obtain ⟨o, ho, vo⟩ := Bk.side (K := K) (s1.duo hk) (s := 1 - s) (by omega)
      refine ⟨_, rfl, vp_lenL (vo (vp_var (by rfl)) (vp_other hs (vp_var (by rfl)))) ho _ ?_⟩
      refine ⟨b, l, _, rfl, s1.il hl, hlen, fun H2 s2 => ⟨_, rfl, ?_⟩⟩
      rw [← listOk_eq]
      cases z : k.listOk s l with
      | true =>
        rw [z, if_neg (by decide)] at q
        exact iteF (q _ (s1.trans s2))
      | false =>
        rw [z, if_pos rfl] at q
        exact iteT (rt_neg (q _ (s1.trans s2)))

/-! ### told, flat -/
def sp_told (K : PySem.W.Frag) : Sp := fun vs H Q _ => ∃ (a : Addr) (n : Nat) (l : List Nat), vs = [vN n, .ref a] ∧ IL H a l ∧ l.length ≤ 100000 ∧ ∀ (H' : Hp) (p : Addr), Same H H' → H p = none → IL H' p (n :: l.length :: l) → Q (.ref p) H'
theorem ok_told {f : Addr} {fd : FuncData} (F : Fun K "told" "told" s_told f fd) (B : Blt mg) : FnOk P w K mg base CX0 1 f fd ["number", "row"] (sp_told K) := by
  refine F.ok sc_told (fun vs H Q E h => ?_) (fun cdv A outer s H vs Q E hr h => ?_)
  · obtain ⟨a, n, l, rfl, _⟩ := h
    rfl
  · obtain ⟨a, n, l, rfl, hl, hlen, q⟩ := h
    refine ⟨_, (pss_one (ps_ret (pe_op op_cat (pe_lst (pa_cons (pv 0) (pa_cons (pe_callB (call_lenK (K := K) rfl) (by rfl) B.len PySem.boot_len (pa_cons (pv 1) pa_nil)) pa_nil))) (pv 1)))), ?_⟩
    refine ⟨_, rfl, vp_lenN (vp_var (by rfl)) hl _ ⟨small2, fun x nx => ?_⟩⟩
    have s1 : Same H (upd H x (.lst [vN n, vN l.length])) := (Same.refl H).new nx
    refine ⟨_, rfl, x, a, [vN n, vN l.length], nums l, rfl, rfl, upd_same, s1.il hl, ?_, fun z nz => ?_⟩
    · rw [nums_len]
      exact Nat.le_of_lt (small_size (by show 2 + l.length ≤ 1000000; omega))
    · exact q _ z (s1.new nz) (s1.free nz) upd_same
theorem flat_snoc (ps : List (Nat × Nat)) (p : Nat × Nat) : Mate.flat (ps ++ [p]) = Mate.flat ps ++ [p.1, p.2] := by
  unfold Mate.flat
  rw [List.flatMap_append, List.flatMap_cons, List.flatMap_nil, List.append_nil]
theorem flat_len (ps : List (Nat × Nat)) : (Mate.flat ps).length = 2 * ps.length := by
  induction ps with
  | nil => rfl
  | cons p r ih =>
    show (p.1 :: p.2 :: Mate.flat r).length = _
    rw [List.length_cons, List.length_cons, List.length_cons, ih]
    omega
def sp_flat (K : PySem.W.Frag) : Sp := fun vs H Q _ => ∃ (a : Addr) (ps : List (Nat × Nat)), vs = [.ref a] ∧ PL H a ps ∧ ps.length ≤ 10000 ∧ ∀ (H' : Hp) (p : Addr), Same H H' → IL H' p (Mate.flat ps) → Q (.ref p) H'
theorem ok_flat {f : Addr} {fd : FuncData} (F : Fun K "flat" "flat" s_flat f fd) (B : Blt mg) : FnOk P w K mg base CX0 1 f fd ["pairs"] (sp_flat K) := by
  refine F.ok sc_flat (fun vs H Q E h => ?_) (fun cdv A outer s H vs Q E hr h => ?_)
  · obtain ⟨a, ps, rfl, _⟩ := h
    rfl
  · obtain ⟨a, ps, rfl, ⟨as, h1, h2, h3⟩, hlen, q⟩ := h
    refine ⟨_, (pss_cons (ps_set (i := 1) sc_flat.nd rfl (.inl rfl) (pe_lst pa_nil))
      (pss_cons (ps_for PassesOwn.never rfl (pi_list (pv 0)) (pg_tup (by rfl) (pgs_cons (pg_name (i := 2) sc_flat.nd rfl (.inl rfl)) (pgs_cons (pg_name (i := 3) sc_flat.nd rfl (.inl rfl)) pgs_nil))) (pss_cons (ps_expr (pe_bm PySem.F.plainAttrs_list PySem.F.slot_list_append PySem.F.type_list_append mt_append (pv 1) (pa_cons (pv 2) pa_nil)))
      (pss_one (ps_expr (pe_bm PySem.F.plainAttrs_list PySem.F.slot_list_append PySem.F.type_list_append mt_append (pv 1) (pa_cons (pv 3) pa_nil))))))
      (pss_one (ps_ret (pv 1))))), ?_⟩
    refine sq_new fun fo no => ?_
    have s1 : Same H (upd H fo (.lst [])) := (Same.refl H).new no
    refine sq_forL (vp_var rfl) (s1 _ _ h1)
      (fun i σ H' => i ≤ as.length ∧ ∃ v2 v3, σ = [some (.ref a), some (.ref fo), v2, v3] ∧ Same H H' ∧ IL H' fo (Mate.flat (ps.take i))) ⟨by omega, none, none, rfl, s1, upd_same⟩ (fun i σ H' _ ⟨_, _, _, _, s, _⟩ => s _ _ h1) ?_ ?_
    · rintro i x σ H1 hx ⟨_, v2, v3, rfl, s2, hp⟩
      rw [List.getElem?_map] at hx
      obtain ⟨y, hy, rfl⟩ := Option.map_eq_some_iff.mp hx
      have hi := (List.getElem?_eq_some_iff.mp hy).1
      have hv : ps[i]? = some ps[i] := List.getElem?_eq_getElem (by omega)
      have hy3 := s2 _ _ (h3 i y _ hy hv)
      have hlast := take_snoc hv
      have hsz : (Mate.flat (ps.take i)).length ≤ 20000 := by
        rw [flat_len, List.length_take]
        omega
      generalize ps[i] = p at hy3 hlast
      refine ⟨y, _, rfl, SqT.of hy3, rfl, _, _, rfl, _, _, rfl, rfl, ?_⟩
      refine ⟨.ref fo, rfl, .inl ⟨rfl, _, SqL.of hp⟩, _, rfl, fo, _, _, rfl, rfl, hp, by rw [nums_len]; exact small_size (by omega), ?_⟩
      refine ⟨.ref fo, rfl, .inl ⟨rfl, _, SqL.of upd_same⟩, _, rfl, fo, _, _, rfl, rfl, upd_same, ?_, ?_⟩
      · rw [List.length_append, nums_len]
        exact small_size (by show _ + 1 ≤ 1000000; omega)
      · refine ⟨by omega, _, _, rfl, (s2.mut no).mut no, ?_⟩
        show upd _ _ _ _ = _
        rw [upd_same, hlast, flat_snoc]
        show _ = some (HO.lst (nums (Mate.flat (ps.take i) ++ [p.1, p.2])))
        rw [nums, nums, List.map_append, List.append_assoc]
        rfl
    · rintro σ H1 ⟨_, v2, v3, rfl, s2, hp⟩
      rw [List.length_map, h2, List.take_length] at hp
      exact st_ret (vp_var rfl) (q H1 fo s2 hp)
end
end PO

/-! The walk, 10: the calls that tell. -/
namespace PO
open PySem PySem.Spec PyProof.Rows L2
abbrev s_liked : Stmt := topS 49
abbrev N_liked : List Str := ["lists", "s", "i", "refusal"]
theorem sc_liked : FnScope N_liked ["lists", "s", "i"] (defScope s_liked) := ⟨rfl, rfl, rfl, by decide +kernel, rfl, by decide +kernel, by decide +kernel⟩
abbrev s_offs : Stmt := topS 50
abbrev N_offs : List Str := ["lists", "w", "table", "found"]
theorem sc_offs : FnScope N_offs ["lists", "w"] (defScope s_offs) := ⟨rfl, rfl, rfl, by decide +kernel, rfl, by decide +kernel, by decide +kernel⟩
abbrev s_count_ways : Stmt := topS 51
abbrev N_count_ways : List Str := ["lists"]
theorem sc_count_ways : FnScope N_count_ways ["lists"] (defScope s_count_ways) := ⟨rfl, rfl, rfl, by decide +kernel, rfl, by decide +kernel, by decide +kernel⟩
abbrev s_way : Stmt := topS 52
abbrev N_way : List Str := ["lists", "i", "ways"]
theorem sc_way : FnScope N_way ["lists", "i"] (defScope s_way) := ⟨rfl, rfl, rfl, by decide +kernel, rfl, by decide +kernel, by decide +kernel⟩
abbrev s_best : Stmt := topS 53
abbrev N_best : List Str := ["lists", "s", "refusal"]
theorem sc_best : FnScope N_best ["lists", "s"] (defScope s_best) := ⟨rfl, rfl, rfl, by decide +kernel, rfl, by decide +kernel, by decide +kernel⟩
abbrev s_fair : Stmt := topS 54
abbrev N_fair : List Str := ["lists", "total", "found"]
theorem sc_fair : FnScope N_fair ["lists"] (defScope s_fair) := ⟨rfl, rfl, rfl, by decide +kernel, rfl, by decide +kernel, by decide +kernel⟩
abbrev s_pick : Stmt := topS 55
abbrev N_pick : List Str := ["lists", "x", "i", "j", "table", "ways"]
theorem sc_pick : FnScope N_pick ["lists", "x", "i", "j"] (defScope s_pick) := ⟨rfl, rfl, rfl, by decide +kernel, rfl, by decide +kernel, by decide +kernel⟩
abbrev s_pairs : Stmt := topS 56
abbrev N_pairs : List Str := ["lists", "found"]
theorem sc_pairs : FnScope N_pairs ["lists"] (defScope s_pairs) := ⟨rfl, rfl, rfl, by decide +kernel, rfl, by decide +kernel, by decide +kernel⟩
abbrev s_asks : Stmt := topS 57
abbrev N_asks : List Str := ["lists", "s", "refusal", "many", "entries"]
theorem sc_asks : FnScope N_asks ["lists", "s"] (defScope s_asks) := ⟨rfl, rfl, rfl, by decide +kernel, rfl, by decide +kernel, by decide +kernel⟩
abbrev s_wish : Stmt := topS 58
abbrev N_wish : List Str := ["lists", "s", "i", "liking", "refusal", "wished", "now", "then", "own"]
theorem sc_wish : FnScope N_wish ["lists", "s", "i", "liking"] (defScope s_wish) := ⟨rfl, rfl, rfl, by decide +kernel, rfl, by decide +kernel, by decide +kernel⟩
section
variable {P : Program} {w : World} {K : PySem.W.Frag} {mg : Str → Option Value} {base : Heap}
/-! ### answers -/
def AL (H : Hp) (a : Addr) (zs : List Int) : Prop := H a = some (.lst (zs.map V.int))
abbrev shown (a : Mate.Answer) : List Int := MateNeutral.shown a
theorem _root_.L2.Same.al {H H' : Hp} (s : Same H H') {a : Addr} {l : List Int} (h : AL H a l) : AL H' a l := s _ _ h
theorem shown_says (z : Int) : shown (Mate.says z) = [z] := rfl
theorem shown_told (n : Nat) (l : List Nat) : (shown ⟨(n : Int), [l]⟩).map V.int = nums (n :: l.length :: l) := by
  show V.int n :: (((l.length : Int) :: l.map fun (n : Nat) => (n : Int)) ++ []).map V.int = _
  rw [List.append_nil, List.map_cons, List.map_map]
  rfl
theorem IL.told {H : Hp} {p : Addr} {n : Nat} {l : List Nat} (h : IL H p (n :: l.length :: l)) : AL H p (shown ⟨(n : Int), [l]⟩) := by
  show _ = some (HO.lst ((shown ⟨(n : Int), [l]⟩).map V.int))
  rw [shown_told]
  exact h
/-- [z] -/
theorem rt_one {D : Ends} {σ : L2.St} {H : Hp} {te : TE} {z : Int} (h : Vp te σ H (.int z)) (q : ∀ (H' : Hp) (p : Addr), Same H H' → H p = none → AL H' p [z] → D.rt (.ref p) H') : tRet (tLst (tCons te tNil)) D σ H :=
  h _ ⟨by show 1 ≤ sizeLine; decide, fun p np => q _ p ((Same.refl H).new np) np upd_same⟩
theorem vp_neg {σ : L2.St} {H : Hp} {n : Int} : Vp (tUn (rU fun i => .int (-i)) (tC (.int n))) σ H (.int (-n)) := fun Q q => ⟨n, rfl, q⟩
/-- what a call answers -/
abbrev says2 (k : Mate.Book) (c : Mate.Call) : List Int := shown (Mate.step (some k) c).2
def Ret (Q : VK) (H : Hp) (zs : List Int) : Prop := ∀ (H' : Hp) (p : Addr), Same H H' → H p = none → AL H' p zs → Q (.ref p) H'
theorem Ret.same {Q : VK} {H H1 : Hp} {zs : List Int} (r : Ret Q H zs) (s : Same H H1) : Ret Q H1 zs := fun H' p s' n h => r H' p (s.trans s') (s.free n) h
theorem Wf.small {k : Mate.Book} (W : Wf k) : Small k := ⟨W.p, W.n, W.m⟩
/-- an answer of a number and a list, the list at hand -/
theorem told_of {D : Ends} {σ : L2.St} {H : Hp} {ta tb : TE} {a : Addr} {n : Nat} {l : List Nat} (va : Vp ta σ H (vN n)) (vb : Vp tb σ H (.ref a)) (hl : IL H a l) (h6 : l.length ≤ 100000) (r : Ret D.rt H (shown ⟨(n : Int), [l]⟩)) : tRet (tCall (sp_told K) [] E0 (tCons ta (tCons tb tNil))) D σ H :=
  call2 va vb ⟨a, n, l, rfl, hl, h6, fun H' p s n h => r H' p s n h.told⟩

theorem told_call {D : Ends} {σ : L2.St} {H : Hp} {ta tb : TE} (h : ta σ H fun x H1 => tb σ H1 fun y H2 => sp_told K [x, y] H2 D.rt E0) : tRet (tCall (sp_told K) [] E0 (tCons ta (tCons tb tNil))) D σ H := h
theorem sq_asgOf {D : Ends} {σ : L2.St} {H : Hp} {te : TE} {g : TG} {u : TS} (h : te σ H fun x H1 => g x σ H1 (u D)) : tSeq (tAsg te g) u D σ H := h

/-! ### liked -/
theorem refO_eq (k : Mate.Book) (s i : Nat) (f : Mate.Book → Mate.State × Mate.Answer) : Mate.ofOne (some k) s i f = if refO k s i < 0 then (some k, Mate.says (refO k s i)) else f k := by
  show (if 1 < s then (some k, Mate.says (-1)) else if (k.side s).length ≤ i then (some k, Mate.says (-4)) else f k) = _
  unfold refO
  by_cases h1 : 1 < s
  · rw [if_pos h1, if_pos h1, if_pos (by decide)]
  · rw [if_neg h1, if_neg h1]
    by_cases h2 : (k.side s).length ≤ i
    · rw [if_pos h2, if_pos h2, if_pos (by decide)]
    · rw [if_neg h2, if_neg h2, if_neg (by decide)]
theorem refO_no {k : Mate.Book} {s i : Nat} (h : ¬ refO k s i < 0) : s ≤ 1 ∧ i < (k.side s).length := by
  unfold refO at h
  by_cases h1 : 1 < s
  · rw [if_pos h1] at h
    exact absurd (by decide) h
  · rw [if_neg h1] at h
    by_cases h2 : (k.side s).length ≤ i
    · rw [if_pos h2] at h
      exact absurd (by decide) h
    · exact ⟨by omega, by omega⟩
theorem Wf.side_len {k : Mate.Book} (W : Wf k) {s i : Nat} (hs : s ≤ 1) (hi : i < (k.side s).length) : ((k.side s).getD i []).length ≤ 2000 := by
  have e := getD_some (d := ([] : List Nat)) hi
  have hm := List.mem_of_getElem? e
  rcases (by omega : s = 0 ∨ s = 1) with rfl | rfl
  · exact (W.h0 _ hm).1
  · exact (W.h1 _ hm).1
/-- the list of one of a side -/
theorem Bk.one {H : Hp} {a : Addr} {k : Mate.Book} (h : Bk H a k) {s i : Nat} (hs : s ≤ 1) (hi : i < (k.side s).length) : ∃ x, IL H x ((k.side s).getD i []) ∧ ∀ {ta ts ti : TE} {σ : L2.St}, Vp ta σ H (.ref a) → Vp ts σ H (vN s) → Vp ti σ H (vN i) → Vp (tOp (rIxL K) (tOp (rIxL K) ta ts) ti) σ H (.ref x) := by
  obtain ⟨o, ho, vo⟩ := Bk.side (K := K) h hs
  obtain ⟨as, h1, h2, h3⟩ := ho.get
  obtain ⟨x, e, hx⟩ := h3 i hi
  exact ⟨x, hx, fun va vs vi => vp_ix (vo va vs) vi (SqL.of h1) (refs_at e)⟩
def sp_liked (K : PySem.W.Frag) : Sp := fun vs H Q _ => ∃ (a : Addr) (k : Mate.Book) (s i : Nat), vs = [.ref a, vN s, vN i] ∧ Bk H a k ∧ Wf k ∧ Ret Q H (says2 k (.liked s i))
theorem ok_liked {f : Addr} {fd : FuncData} (F : Fun K "liked" "liked" s_liked f fd) (B : Blt mg) {f_refusal_of_one : Addr} {d_refusal_of_one : FuncData} (c_refusal_of_one : Cal P w K mg base "refusal_of_one" 1 ["lists", "s", "i"] (sp_refusal_of_one K) f_refusal_of_one d_refusal_of_one) {f_told : Addr} {d_told : FuncData} (c_told : Cal P w K mg base "told" 1 ["number", "row"] (sp_told K) f_told d_told) : FnOk P w K mg base CX0 2 f fd ["lists", "s", "i"] (sp_liked K) := by
  refine F.ok sc_liked (fun vs H Q E h => ?_) (fun cdv A outer s H vs Q E hr h => ?_)
  · obtain ⟨a, k, s, i, rfl, _⟩ := h
    rfl
  · obtain ⟨a, k, s, i, rfl, hk, W, q⟩ := h
    refine ⟨_, (pss_cons (ps_set (i := 3) sc_liked.nd rfl (.inl rfl) (pcall c_refusal_of_one hr (by decide) (by rfl) (pa_cons (pv 0) (pa_cons (pv 1) (pa_cons (pv 2) pa_nil)))))
      (pss_cons (ps_if (pt_cmp (pc_lt (pv 3) pe_int)) (pss_one (ps_ret (pe_lst (pa_cons (pv 3) pa_nil)))) pss_nil)
      (pss_one (ps_ret (pcall c_told hr (by decide) (by rfl) (pa_cons (pe_callB (call_lenK (K := K) rfl) (by rfl) B.len PySem.boot_len (pa_cons (pe_ix (ix_listK (K := K) rfl) (pe_ix (ix_listK (K := K) rfl) (pv 0) (pv 1) (fun _ _ => rfl)) (pv 2) (fun _ _ => rfl)) pa_nil)) (pa_cons (pe_ix (ix_listK (K := K) rfl) (pe_ix (ix_listK (K := K) rfl) (pv 0) (pv 1) (fun _ _ => rfl)) (pv 2) (fun _ _ => rfl)) pa_nil))))))), ?_⟩
    have e : Mate.step (some k) (.liked s i) = _ := refO_eq k s i _
    unfold says2 at q
    rw [e] at q
    refine sq_of (call3 (vp_var (by rfl)) (vp_var (by rfl)) (vp_var (by rfl)) ?_)
    refine ⟨a, k, s, i, rfl, hk, fun H1 s1 => ?_⟩
    refine sq_if2 (vp_cmp (m := refO k s i) (vp_var rfl) vp_c) (fun c => ?_) (fun c => ?_)
    · rw [if_pos c] at q
      exact rt_one (vp_var rfl) (q.same s1)
    · rw [if_neg c] at q
      obtain ⟨hs, hi⟩ := refO_no c
      obtain ⟨x, hx, vx⟩ := Bk.one (K := K) (s1.duo hk) hs hi
      refine told_of (vp_lenN (vx (vp_var rfl) (vp_var rfl) (vp_var rfl)) hx) (vx (vp_var rfl) (vp_var rfl) (vp_var rfl)) hx (Nat.le_trans (W.side_len hs hi) (by decide)) (q.same s1)

/-! ### offs -/
def sp_offs (K : PySem.W.Frag) : Sp := fun vs H Q _ => ∃ (a b : Addr) (k : Mate.Book) (l : List Nat), vs = [.ref a, .ref b] ∧ Bk H a k ∧ Wf k ∧ IL H b l ∧ Ret Q H (says2 k (.offs l))
theorem vp_lenP {σ : L2.St} {H : Hp} {ta : TE} {a : Addr} {ps : List (Nat × Nat)} (ha : Vp ta σ H (.ref a)) (hs : PL H a ps) : Vp (tCB (fun xs H Q => ∃ p ys, xs = [.ref p] ∧ (SqL K H p ys ∨ SqT K H p ys) ∧ Q (.int ys.length) H) (tCons ta tNil)) σ H (.int (ps.length : Int)) := by
  obtain ⟨xs, h1, h2⟩ := PL.len (K := K) hs
  have := vp_len ha h1
  rw [h2] at this
  exact this
/-- an answer of pairs: how many, then they -/
theorem told_pairs {D : Ends} {σ : L2.St} {H : Hp} {ta : TE} {a : Addr} {ps : List (Nat × Nat)} (va : Vp ta σ H (.ref a)) (hp : PL H a ps) (h6 : ps.length ≤ 1000) (r : Ret D.rt H (shown ⟨(ps.length : Int), [Mate.flat ps]⟩)) :
    tRet (tCall (sp_told K) [] E0 (tCons (tCB (fun xs H Q => ∃ p ys, xs = [.ref p] ∧ (SqL K H p ys ∨ SqT K H p ys) ∧ Q (.int ys.length) H) (tCons ta tNil)) (tCons (tCall (sp_flat K) [] E0 (tCons ta tNil)) tNil))) D σ H := by
  refine told_call (vp_lenP va hp _ (va _ ?_))
  exact ⟨a, ps, rfl, hp, by omega, fun H1 x s1 hx => ⟨x, ps.length, Mate.flat ps, rfl, hx, by rw [flat_len]; omega, fun H' p s n h => r H' p (s1.trans s) (s1.free n) h.told⟩⟩
theorem offs_len {k : Mate.Book} (W : Wf k) (l : List Nat) : (k.offs l).length ≤ 1000 := by
  have h1 := offsTo_len k l k.here.length
  have h2 := small_mul (i := k.here.length) (m := k.there.length) (j := 0) W.n W.m (by omega)
  rw [offsTo_all] at h1
  omega
theorem pairs_len {k : Mate.Book} (W : Wf k) : k.pairs.length ≤ 1000 := by
  have h1 := prTo_len (goes k) k.there.length k.here.length
  have h2 := small_mul (i := k.here.length) (m := k.there.length) (j := 0) W.n W.m (by omega)
  rw [pairs_eq] at h1
  omega
/-- the costs are asked for -/
theorem table_of {σ : L2.St} {H : Hp} {ta : TE} {a : Addr} {k : Mate.Book} {Q : VK} (va : Vp ta σ H (.ref a)) (hk : Bk H a k) (W : Wf k) (q : ∀ (H' : Hp) (p : Addr), Same H H' → Tb H' p k → Q (.ref p) H') : tCall (sp_cost_table K) [] E0 (tCons ta tNil) σ H Q :=
  call1 va ⟨a, k, rfl, hk, W.n, W.m, q⟩
theorem ok_offs {f : Addr} {fd : FuncData} (F : Fun K "offs" "offs" s_offs f fd) (B : Blt mg) {f_cost_table : Addr} {d_cost_table : FuncData} (c_cost_table : Cal P w K mg base "cost_table" 4 ["lists"] (sp_cost_table K) f_cost_table d_cost_table) {f_off_pairs : Addr} {d_off_pairs : FuncData} (c_off_pairs : Cal P w K mg base "off_pairs" 3 ["table", "w"] (sp_off_pairs K) f_off_pairs d_off_pairs) {f_told : Addr} {d_told : FuncData} (c_told : Cal P w K mg base "told" 1 ["number", "row"] (sp_told K) f_told d_told) {f_is_way : Addr} {d_is_way : FuncData} (c_is_way : Cal P w K mg base "is_way" 3 ["table", "w"] (sp_is_way K) f_is_way d_is_way) {f_flat : Addr} {d_flat : FuncData} (c_flat : Cal P w K mg base "flat" 1 ["pairs"] (sp_flat K) f_flat d_flat) : FnOk P w K mg base CX0 5 f fd ["lists", "w"] (sp_offs K) := by
  refine F.ok sc_offs (fun vs H Q E h => ?_) (fun cdv A outer s H vs Q E hr h => ?_)
  · obtain ⟨a, b, k, l, rfl, _⟩ := h
    rfl
  · obtain ⟨a, b, k, l, rfl, hk, W, hl, q⟩ := h
    refine ⟨_, (pss_cons (ps_set (i := 2) sc_offs.nd rfl (.inl rfl) (pcall c_cost_table hr (by decide) (by rfl) (pa_cons (pv 0) pa_nil)))
      (pss_cons (ps_if (pt_not (pt_val (pcall c_is_way hr (by decide) (by rfl) (pa_cons (pv 2) (pa_cons (pv 1) pa_nil))))) (pss_one (ps_ret (pe_lst (pa_cons (pe_un un_neg pe_int) pa_nil)))) pss_nil)
      (pss_cons (ps_set (i := 3) sc_offs.nd rfl (.inl rfl) (pcall c_off_pairs hr (by decide) (by rfl) (pa_cons (pv 2) (pa_cons (pv 1) pa_nil))))
      (pss_one (ps_ret (pcall c_told hr (by decide) (by rfl) (pa_cons (pe_callB (call_lenK (K := K) rfl) (by rfl) B.len PySem.boot_len (pa_cons (pv 3) pa_nil)) (pa_cons (pcall c_flat hr (by decide) (by rfl) (pa_cons (pv 3) pa_nil)) pa_nil)))))))), ?_⟩
    have e : (Mate.step (some k) (.offs l)).2 = if k.fits l = false then Mate.says (-1) else ⟨((k.offs l).length : Nat), [Mate.flat (k.offs l)]⟩ := rfl
    unfold says2 at q
    rw [e] at q
    refine sq_of (table_of (vp_var (by rfl)) hk W fun H1 t s1 ht => ?_)
    refine ⟨_, rfl, _, rfl, t, b, k, l, rfl, ht, s1.il hl, W.n, fun H2 s2 => ⟨_, rfl, ?_⟩⟩
    cases c : k.fits l with
    | false =>
      rw [c, if_pos rfl] at q
      exact iteT (rt_one vp_neg (q.same (s1.trans s2)))
    | true =>
      rw [c, if_neg (by decide)] at q
      refine iteF ?_
      obtain ⟨hw, hf⟩ := fits_iff.mp c
      refine sq_of (call2 (vp_var (by rfl)) (vp_var (by rfl)) ?_)
      refine ⟨t, b, k, l, rfl, s2.duo ht, s2.il (s1.il hl), W.small, .of_fits hf (Nat.le_of_eq hw), hw, fun H3 x s3 hx => ?_⟩
      exact told_pairs (vp_var rfl) hx (offs_len W l) (q.same ((s1.trans s2).trans s3))

/-! ### count_ways, way, best, fair, pick, pairs, asks -/
def sp_count_ways (K : PySem.W.Frag) : Sp := fun vs H Q _ => ∃ (a : Addr) (k : Mate.Book), vs = [.ref a] ∧ Bk H a k ∧ Wf k ∧ Ret Q H (says2 k .count)
theorem ok_count_ways {f : Addr} {fd : FuncData} (F : Fun K "count_ways" "count_ways" s_count_ways f fd) (B : Blt mg) {f_stable_ways : Addr} {d_stable_ways : FuncData} (c_stable_ways : Cal P w K mg base "stable_ways" 5 ["table"] (sp_stable_ways K) f_stable_ways d_stable_ways) {f_cost_table : Addr} {d_cost_table : FuncData} (c_cost_table : Cal P w K mg base "cost_table" 4 ["lists"] (sp_cost_table K) f_cost_table d_cost_table) : FnOk P w K mg base CX0 6 f fd ["lists"] (sp_count_ways K) := by
  refine F.ok sc_count_ways (fun vs H Q E h => ?_) (fun cdv A outer s H vs Q E hr h => ?_)
  · obtain ⟨a, k, rfl, _⟩ := h
    rfl
  · obtain ⟨a, k, rfl, hk, W, q⟩ := h
    refine ⟨_, (pss_one (ps_ret (pe_lst (pa_cons (pe_callB (call_lenK (K := K) rfl) (by rfl) B.len PySem.boot_len (pa_cons (pcall c_stable_ways hr (by decide) (by rfl) (pa_cons (pcall c_cost_table hr (by decide) (by rfl) (pa_cons (pv 0) pa_nil)) pa_nil)) pa_nil)) pa_nil)))), ?_⟩
    refine table_of (vp_var (by rfl)) hk W fun H1 t s1 ht => ?_
    refine ⟨t, k, rfl, ht, W.small, fun H2 x s2 hx => ?_⟩
    obtain ⟨xs, h1, h2⟩ := LL.len (K := K) hx
    refine ⟨x, xs, rfl, .inl h1, by show 1 ≤ sizeLine; decide, fun p np => ?_⟩
    rw [h2]
    exact q _ p ((s1.trans s2).new np) ((s1.trans s2).free np) upd_same
def sp_way (K : PySem.W.Frag) : Sp := fun vs H Q _ => ∃ (a : Addr) (k : Mate.Book) (i : Nat), vs = [.ref a, vN i] ∧ Bk H a k ∧ Wf k ∧ Ret Q H (says2 k (.way i))
/-- one of the ways -/
theorem LL.at {H : Hp} {a : Addr} {ll : List (List Nat)} (h : LL H a ll) {i : Nat} (hi : i < ll.length) : ∃ x, IL H x (ll.getD i []) ∧ ∀ {ta ti : TE} {σ : L2.St}, Vp ta σ H (.ref a) → Vp ti σ H (vN i) → Vp (tOp (rIxL K) ta ti) σ H (.ref x) := by
  obtain ⟨as, h1, h2, h3⟩ := h.get
  obtain ⟨x, e, hx⟩ := h3 i hi
  exact ⟨x, hx, fun va vi => vp_ix va vi (SqL.of h1) (refs_at e)⟩
/-- how many on side 0 -/
theorem vp_here {σ : L2.St} {H : Hp} {ta : TE} {a : Addr} {k : Mate.Book} (hk : Bk H a k) (va : Vp ta σ H (.ref a)) : Vp (tCB (fun xs H Q => ∃ p ys, xs = [.ref p] ∧ (SqL K H p ys ∨ SqT K H p ys) ∧ Q (.int ys.length) H) (tCons (tOp (rIxL K) ta (tC (.int 0))) tNil)) σ H (vN k.here.length) := by
  obtain ⟨a0, a1, h1, h2, h3⟩ := hk
  exact vp_lenL (vp_fst va (SqL.of h1)) h2
theorem shown_lists {k : Mate.Book} {l : List Nat} (h : l.length = k.here.length) : shown (Mate.lists l) = shown ⟨(k.here.length : Int), [l]⟩ := by
  unfold Mate.lists
  rw [h]
theorem ok_way {f : Addr} {fd : FuncData} (F : Fun K "way" "way" s_way f fd) (B : Blt mg) {f_stable_ways : Addr} {d_stable_ways : FuncData} (c_stable_ways : Cal P w K mg base "stable_ways" 5 ["table"] (sp_stable_ways K) f_stable_ways d_stable_ways) {f_told : Addr} {d_told : FuncData} (c_told : Cal P w K mg base "told" 1 ["number", "row"] (sp_told K) f_told d_told) {f_cost_table : Addr} {d_cost_table : FuncData} (c_cost_table : Cal P w K mg base "cost_table" 4 ["lists"] (sp_cost_table K) f_cost_table d_cost_table) : FnOk P w K mg base CX0 6 f fd ["lists", "i"] (sp_way K) := by
  refine F.ok sc_way (fun vs H Q E h => ?_) (fun cdv A outer s H vs Q E hr h => ?_)
  · obtain ⟨a, k, i, rfl, _⟩ := h
    rfl
  · obtain ⟨a, k, i, rfl, hk, W, q⟩ := h
    refine ⟨_, (pss_cons (ps_set (i := 2) sc_way.nd rfl (.inl rfl) (pcall c_stable_ways hr (by decide) (by rfl) (pa_cons (pcall c_cost_table hr (by decide) (by rfl) (pa_cons (pv 0) pa_nil)) pa_nil)))
      (pss_cons (ps_if (pt_cmp (pc_ge (pv 1) (pe_callB (call_lenK (K := K) rfl) (by rfl) B.len PySem.boot_len (pa_cons (pv 2) pa_nil)))) (pss_one (ps_ret (pe_lst (pa_cons (pe_un un_neg pe_int) pa_nil)))) pss_nil)
      (pss_one (ps_ret (pcall c_told hr (by decide) (by rfl) (pa_cons (pe_callB (call_lenK (K := K) rfl) (by rfl) B.len PySem.boot_len (pa_cons (pe_ix (ix_listK (K := K) rfl) (pv 0) pe_int (fun _ _ => rfl)) pa_nil)) (pa_cons (pe_ix (ix_listK (K := K) rfl) (pv 2) (pv 1) (fun _ _ => rfl)) pa_nil))))))), ?_⟩
    have e : (Mate.step (some k) (.way i)).2 = match k.all[i]? with | none => Mate.says (-4) | some w => Mate.lists w := rfl
    unfold says2 at q
    rw [e] at q
    refine sq_of (table_of (vp_var (by rfl)) hk W fun H1 t s1 ht => ?_)
    refine ⟨t, k, rfl, ht, W.small, fun H2 x s2 hx => ?_⟩
    have s3 := s1.trans s2
    refine sq_if2 (vp_cmp (vp_var rfl) (vp_lenL (vp_var rfl) hx)) (fun c => ?_) (fun c => ?_)
    · rw [List.getElem?_eq_none (by omega)] at q
      exact rt_one vp_neg (q.same s3)
    · have hi : i < k.all.length := by omega
      rw [getD_some (d := []) hi] at q
      obtain ⟨y, hy, vy⟩ := LL.at (K := K) hx hi
      have hl := all_len (all_get hi)
      dsimp only at q
      rw [shown_lists hl] at q
      exact told_of (vp_here (s3.duo hk) (vp_var rfl)) (vy (vp_var rfl) (vp_var rfl)) hy (by rw [hl]; have := W.n; omega) (q.same s3)
def sp_best (K : PySem.W.Frag) : Sp := fun vs H Q _ => ∃ (a : Addr) (k : Mate.Book) (s : Nat), vs = [.ref a, vN s] ∧ Bk H a k ∧ Wf k ∧ Ret Q H (says2 k (.best s))
theorem best_mem (k : Mate.Book) (s : Nat) : k.best s ∈ k.all := leastBy_mem _ (all_ne k)
theorem fair_mem (k : Mate.Book) : k.fair ∈ k.all := leastBy_mem _ (all_ne k)
theorem ok_best {f : Addr} {fd : FuncData} (F : Fun K "best" "best" s_best f fd) (B : Blt mg) {f_refusal_of_side : Addr} {d_refusal_of_side : FuncData} (c_refusal_of_side : Cal P w K mg base "refusal_of_side" 1 ["s"] (sp_refusal_of_side K) f_refusal_of_side d_refusal_of_side) {f_told : Addr} {d_told : FuncData} (c_told : Cal P w K mg base "told" 1 ["number", "row"] (sp_told K) f_told d_told) {f_best_way : Addr} {d_best_way : FuncData} (c_best_way : Cal P w K mg base "best_way" 6 ["table", "s"] (sp_best_way K) f_best_way d_best_way) {f_cost_table : Addr} {d_cost_table : FuncData} (c_cost_table : Cal P w K mg base "cost_table" 4 ["lists"] (sp_cost_table K) f_cost_table d_cost_table) : FnOk P w K mg base CX0 7 f fd ["lists", "s"] (sp_best K) := by
  refine F.ok sc_best (fun vs H Q E h => ?_) (fun cdv A outer s H vs Q E hr h => ?_)
  · obtain ⟨a, k, s, rfl, _⟩ := h
    rfl
  · obtain ⟨a, k, s, rfl, hk, W, q⟩ := h
    refine ⟨_, (pss_cons (ps_set (i := 2) sc_best.nd rfl (.inl rfl) (pcall c_refusal_of_side hr (by decide) (by rfl) (pa_cons (pv 1) pa_nil)))
      (pss_cons (ps_if (pt_cmp (pc_lt (pv 2) pe_int)) (pss_one (ps_ret (pe_lst (pa_cons (pv 2) pa_nil)))) pss_nil)
      (pss_one (ps_ret (pcall c_told hr (by decide) (by rfl) (pa_cons (pe_callB (call_lenK (K := K) rfl) (by rfl) B.len PySem.boot_len (pa_cons (pe_ix (ix_listK (K := K) rfl) (pv 0) pe_int (fun _ _ => rfl)) pa_nil)) (pa_cons (pcall c_best_way hr (by decide) (by rfl) (pa_cons (pcall c_cost_table hr (by decide) (by rfl) (pa_cons (pv 0) pa_nil)) (pa_cons (pv 1) pa_nil))) pa_nil))))))), ?_⟩
    have e : (Mate.step (some k) (.best s)).2 = if 1 < s then Mate.says (-1) else Mate.lists (k.best s) := rfl
    unfold says2 at q
    rw [e] at q
    refine sq_of (call1 (vp_var (by rfl)) ?_)
    refine ⟨s, rfl, fun H1 s1 => ?_⟩
    refine sq_if2 (vp_cmp (m := refS s) (vp_var rfl) vp_c) (fun c => ?_) (fun c => ?_)
    · have hs : 1 < s := by
        unfold refS at c
        apply Decidable.byContradiction
        intro z
        rw [if_neg z] at c
        exact absurd c (by decide)
      rw [if_pos hs] at q
      refine rt_one (vp_var rfl) ?_
      unfold refS
      rw [if_pos hs]
      exact q.same s1
    · have hs : ¬ 1 < s := by
        intro z
        unfold refS at c
        rw [if_pos z] at c
        exact absurd (by decide) c
      rw [if_neg hs, shown_lists (all_len (best_mem k s))] at q
      refine told_call (vp_here (s1.duo hk) (vp_var (by rfl)) _ ?_)
      refine table_of (vp_var (by rfl)) (s1.duo hk) W fun H2 t s2 ht => ?_
      refine ⟨_, rfl, t, k, s, rfl, ht, W.small, by omega, fun H3 x s3 hx => ?_⟩
      exact ⟨x, _, _, rfl, hx, by rw [all_len (best_mem k s)]; have := W.n; omega, fun H' p s4 n h => q _ p (((s1.trans s2).trans s3).trans s4) (((s1.trans s2).trans s3).free n) h.told⟩
def sp_fair (K : PySem.W.Frag) : Sp := fun vs H Q _ => ∃ (a : Addr) (k : Mate.Book), vs = [.ref a] ∧ Bk H a k ∧ Wf k ∧ Ret Q H (says2 k .fair)
theorem ok_fair {f : Addr} {fd : FuncData} (F : Fun K "fair" "fair" s_fair f fd) (B : Blt mg) {f_fair_way : Addr} {d_fair_way : FuncData} (c_fair_way : Cal P w K mg base "fair_way" 6 ["table"] (sp_fair_way K) f_fair_way d_fair_way) {f_told : Addr} {d_told : FuncData} (c_told : Cal P w K mg base "told" 1 ["number", "row"] (sp_told K) f_told d_told) {f_cost_table : Addr} {d_cost_table : FuncData} (c_cost_table : Cal P w K mg base "cost_table" 4 ["lists"] (sp_cost_table K) f_cost_table d_cost_table) : FnOk P w K mg base CX0 7 f fd ["lists"] (sp_fair K) := by
  refine F.ok sc_fair (fun vs H Q E h => ?_) (fun cdv A outer s H vs Q E hr h => ?_)
  · obtain ⟨a, k, rfl, _⟩ := h
    rfl
  · obtain ⟨a, k, rfl, hk, W, q⟩ := h
    refine ⟨_, (pss_cons (ps_asg (pcall c_fair_way hr (by decide) (by rfl) (pa_cons (pcall c_cost_table hr (by decide) (by rfl) (pa_cons (pv 0) pa_nil)) pa_nil)) (pg_tup (by rfl) (pgs_cons (pg_name (i := 1) sc_fair.nd rfl (.inl rfl)) (pgs_cons (pg_name (i := 2) sc_fair.nd rfl (.inl rfl)) pgs_nil))))
      (pss_one (ps_ret (pcall c_told hr (by decide) (by rfl) (pa_cons (pv 1) (pa_cons (pv 2) pa_nil)))))), ?_⟩
    refine table_of (vp_var (by rfl)) hk W fun H1 t s1 ht => ?_
    refine ⟨t, k, rfl, ht, W.small, fun H2 p x s2 hp hx => ?_⟩
    refine ⟨p, _, rfl, SqT.of hp, rfl, _, _, rfl, _, _, rfl, rfl, ?_⟩
    exact told_of (vp_var rfl) (vp_var rfl) hx (by rw [all_len (fair_mem k)]; have := W.n; omega) (q.same (s1.trans s2))
def sp_pick (K : PySem.W.Frag) : Sp := fun vs H Q _ => ∃ (a : Addr) (k : Mate.Book) (x i j : Nat), vs = [.ref a, vN x, vN i, vN j] ∧ Bk H a k ∧ Wf k ∧ Ret Q H (says2 k (.pick x i j))
theorem ok_pick {f : Addr} {fd : FuncData} (F : Fun K "pick" "pick" s_pick f fd) (B : Blt mg) {f_cost_table : Addr} {d_cost_table : FuncData} (c_cost_table : Cal P w K mg base "cost_table" 4 ["lists"] (sp_cost_table K) f_cost_table d_cost_table) {f_stable_ways : Addr} {d_stable_ways : FuncData} (c_stable_ways : Cal P w K mg base "stable_ways" 5 ["table"] (sp_stable_ways K) f_stable_ways d_stable_ways) {f_told : Addr} {d_told : FuncData} (c_told : Cal P w K mg base "told" 1 ["number", "row"] (sp_told K) f_told d_told) {f_picked : Addr} {d_picked : FuncData} (c_picked : Cal P w K mg base "picked" 2 ["table", "x", "v", "w"] (sp_picked K) f_picked d_picked) : FnOk P w K mg base CX0 6 f fd ["lists", "x", "i", "j"] (sp_pick K) := by
  refine F.ok sc_pick (fun vs H Q E h => ?_) (fun cdv A outer s H vs Q E hr h => ?_)
  · obtain ⟨a, k, x, i, j, rfl, _⟩ := h
    rfl
  · obtain ⟨a, k, x, i, j, rfl, hk, W, q⟩ := h
    refine ⟨_, (pss_cons (ps_if (pt_cmp (pc_gt (pv 1) pe_int)) (pss_one (ps_ret (pe_lst (pa_cons (pe_un un_neg pe_int) pa_nil)))) pss_nil)
      (pss_cons (ps_set (i := 4) sc_pick.nd rfl (.inl rfl) (pcall c_cost_table hr (by decide) (by rfl) (pa_cons (pv 0) pa_nil)))
      (pss_cons (ps_set (i := 5) sc_pick.nd rfl (.inl rfl) (pcall c_stable_ways hr (by decide) (by rfl) (pa_cons (pv 4) pa_nil)))
      (pss_cons (ps_if (PW.pt (pw_or (pt_cmp (pc_ge (pv 2) (pe_callB (call_lenK (K := K) rfl) (by rfl) B.len PySem.boot_len (pa_cons (pv 5) pa_nil)))) (pw_or1 (pt_cmp (pc_ge (pv 3) (pe_callB (call_lenK (K := K) rfl) (by rfl) B.len PySem.boot_len (pa_cons (pv 5) pa_nil))))))) (pss_one (ps_ret (pe_lst (pa_cons (pe_un un_neg pe_int) pa_nil)))) pss_nil)
      (pss_one (ps_ret (pcall c_told hr (by decide) (by rfl) (pa_cons (pe_callB (call_lenK (K := K) rfl) (by rfl) B.len PySem.boot_len (pa_cons (pe_ix (ix_listK (K := K) rfl) (pv 0) pe_int (fun _ _ => rfl)) pa_nil)) (pa_cons (pcall c_picked hr (by decide) (by rfl) (pa_cons (pv 4) (pa_cons (pv 1) (pa_cons (pe_ix (ix_listK (K := K) rfl) (pv 5) (pv 2) (fun _ _ => rfl)) (pa_cons (pe_ix (ix_listK (K := K) rfl) (pv 5) (pv 3) (fun _ _ => rfl)) pa_nil))))) pa_nil))))))))), ?_⟩
    have e : (Mate.step (some k) (.pick x i j)).2 = if 1 < x then Mate.says (-1) else match k.all[i]?, k.all[j]? with | some v, some w => Mate.lists (k.pick (x == 1) v w) | _, _ => Mate.says (-4) := rfl
    unfold says2 at q
    rw [e] at q
    refine sq_if2 (vp_cmp (vp_var rfl) vp_c) (fun c => ?_) (fun c => ?_)
    · rw [if_pos (by omega)] at q
      exact rt_one vp_neg q
    · rw [if_neg (by omega)] at q
      refine sq_of (table_of (vp_var (by rfl)) hk W fun H1 t s1 ht => ?_)
      refine sq_of (call1 (vp_var (by rfl)) ?_)
      refine ⟨t, k, rfl, ht, W.small, fun H2 y s2 hy => ?_⟩
      have s3 := s1.trans s2
      refine sq_ifT (tp_or (tp_cmp (vp_var rfl) (vp_lenL (vp_var rfl) hy)) (tp_cmp (vp_var rfl) (vp_lenL (vp_var rfl) hy))) (fun d => ?_) (fun d => ?_)
      · rw [Bool.or_eq_true, decide_eq_true_eq, decide_eq_true_eq] at d
        have e4 : (match k.all[i]?, k.all[j]? with | some v, some w => Mate.lists (k.pick (x == 1) v w) | _, _ => Mate.says (-4)) = Mate.says (-4) := by
          rcases d with d | d
          · rw [List.getElem?_eq_none (l := k.all) (i := i) (by omega)]
          · rw [List.getElem?_eq_none (l := k.all) (i := j) (by omega)]
            cases k.all[i]? <;> rfl
        rw [e4] at q
        exact rt_one vp_neg (q.same s3)
      · rw [Bool.or_eq_false_iff, decide_eq_false_iff_not, decide_eq_false_iff_not] at d
        have hi : i < k.all.length := by omega
        have hj : j < k.all.length := by omega
        rw [getD_some (d := []) hi, getD_some (d := []) hj] at q
        dsimp only at q
        have hlen : (k.pick (x == 1) (k.all.getD i []) (k.all.getD j [])).length = k.here.length := by
          unfold Mate.Book.pick
          rw [List.length_map, List.length_range]
        rw [shown_lists hlen] at q
        obtain ⟨v, hv, vv⟩ := LL.at (K := K) hy hi
        obtain ⟨u, hu, vu⟩ := LL.at (K := K) hy hj
        refine told_call (vp_here (s3.duo hk) (vp_var (by rfl)) _ ?_)
        refine call4 (vp_var (by rfl)) (vp_var (by rfl)) (vv (vp_var (by rfl)) (vp_var (by rfl))) (vu (vp_var (by rfl)) (vp_var (by rfl))) ?_
        refine ⟨t, v, u, k, x, _, _, rfl, s2.duo ht, W.small, hv, hu, all_get hi, all_get hj, by omega, fun H3 z s4 hz => ?_⟩
        exact ⟨z, _, _, rfl, hz, by rw [hlen]; have := W.n; omega, fun H' p s5 n h => q _ p ((s3.trans s4).trans s5) ((s3.trans s4).free n) h.told⟩
def sp_pairs (K : PySem.W.Frag) : Sp := fun vs H Q _ => ∃ (a : Addr) (k : Mate.Book), vs = [.ref a] ∧ Bk H a k ∧ Wf k ∧ Ret Q H (says2 k .pairs)
theorem ok_pairs {f : Addr} {fd : FuncData} (F : Fun K "pairs" "pairs" s_pairs f fd) (B : Blt mg) {f_common_pairs : Addr} {d_common_pairs : FuncData} (c_common_pairs : Cal P w K mg base "common_pairs" 6 ["table"] (sp_common_pairs K) f_common_pairs d_common_pairs) {f_told : Addr} {d_told : FuncData} (c_told : Cal P w K mg base "told" 1 ["number", "row"] (sp_told K) f_told d_told) {f_cost_table : Addr} {d_cost_table : FuncData} (c_cost_table : Cal P w K mg base "cost_table" 4 ["lists"] (sp_cost_table K) f_cost_table d_cost_table) {f_flat : Addr} {d_flat : FuncData} (c_flat : Cal P w K mg base "flat" 1 ["pairs"] (sp_flat K) f_flat d_flat) : FnOk P w K mg base CX0 7 f fd ["lists"] (sp_pairs K) := by
  refine F.ok sc_pairs (fun vs H Q E h => ?_) (fun cdv A outer s H vs Q E hr h => ?_)
  · obtain ⟨a, k, rfl, _⟩ := h
    rfl
  · obtain ⟨a, k, rfl, hk, W, q⟩ := h
    refine ⟨_, (pss_cons (ps_set (i := 1) sc_pairs.nd rfl (.inl rfl) (pcall c_common_pairs hr (by decide) (by rfl) (pa_cons (pcall c_cost_table hr (by decide) (by rfl) (pa_cons (pv 0) pa_nil)) pa_nil)))
      (pss_one (ps_ret (pcall c_told hr (by decide) (by rfl) (pa_cons (pe_callB (call_lenK (K := K) rfl) (by rfl) B.len PySem.boot_len (pa_cons (pv 1) pa_nil)) (pa_cons (pcall c_flat hr (by decide) (by rfl) (pa_cons (pv 1) pa_nil)) pa_nil)))))), ?_⟩
    refine sq_of (table_of (vp_var (by rfl)) hk W fun H1 t s1 ht => ?_)
    refine ⟨t, k, rfl, ht, W.small, fun H2 x s2 hx => ?_⟩
    exact told_pairs (vp_var rfl) hx (pairs_len W) (q.same (s1.trans s2))
def sp_asks (K : PySem.W.Frag) : Sp := fun vs H Q _ => ∃ (a : Addr) (k : Mate.Book) (s : Nat), vs = [.ref a, vN s] ∧ Bk H a k ∧ Wf k ∧ Ret Q H (says2 k (.asks s))
theorem asks_len {k : Mate.Book} (W : Wf k) (s : Nat) : (k.asks s).2.way.length ≤ 6 := by
  rw [seen_asks, (asks_ok (seen k s)).1.lw]
  exact (W.sees s).n
theorem ok_asks {f : Addr} {fd : FuncData} (F : Fun K "asks" "asks" s_asks f fd) (B : Blt mg) {f_refusal_of_side : Addr} {d_refusal_of_side : FuncData} (c_refusal_of_side : Cal P w K mg base "refusal_of_side" 1 ["s"] (sp_refusal_of_side K) f_refusal_of_side d_refusal_of_side) {f_all_askings : Addr} {d_all_askings : FuncData} (c_all_askings : Cal P w K mg base "all_askings" 3 ["lists", "s"] (sp_all_askings K) f_all_askings d_all_askings) {f_told : Addr} {d_told : FuncData} (c_told : Cal P w K mg base "told" 1 ["number", "row"] (sp_told K) f_told d_told) : FnOk P w K mg base CX0 4 f fd ["lists", "s"] (sp_asks K) := by
  refine F.ok sc_asks (fun vs H Q E h => ?_) (fun cdv A outer s H vs Q E hr h => ?_)
  · obtain ⟨a, k, s, rfl, _⟩ := h
    rfl
  · obtain ⟨a, k, s, rfl, hk, W, q⟩ := h
    refine ⟨_, (pss_cons (ps_set (i := 2) sc_asks.nd rfl (.inl rfl) (pcall c_refusal_of_side hr (by decide) (by rfl) (pa_cons (pv 1) pa_nil)))
      (pss_cons (ps_if (pt_cmp (pc_lt (pv 2) pe_int)) (pss_one (ps_ret (pe_lst (pa_cons (pv 2) pa_nil)))) pss_nil)
      (pss_cons (ps_asg (pcall c_all_askings hr (by decide) (by rfl) (pa_cons (pv 0) (pa_cons (pv 1) pa_nil))) (pg_tup (by rfl) (pgs_cons (pg_name (i := 3) sc_asks.nd rfl (.inl rfl)) (pgs_cons (pg_name (i := 4) sc_asks.nd rfl (.inl rfl)) pgs_nil))))
      (pss_one (ps_ret (pcall c_told hr (by decide) (by rfl) (pa_cons (pv 3) (pa_cons (pv 4) pa_nil)))))))), ?_⟩
    have e : (Mate.step (some k) (.asks s)).2 = if 1 < s then Mate.says (-1) else ⟨((k.asks s).1 : Nat), [(k.asks s).2.way]⟩ := rfl
    unfold says2 at q
    rw [e] at q
    refine sq_of (call1 (vp_var (by rfl)) ?_)
    refine ⟨s, rfl, fun H1 s1 => ?_⟩
    refine sq_if2 (vp_cmp (m := refS s) (vp_var rfl) vp_c) (fun c => ?_) (fun c => ?_)
    · have hs : 1 < s := by
        unfold refS at c
        apply Decidable.byContradiction
        intro z
        rw [if_neg z] at c
        exact absurd c (by decide)
      rw [if_pos hs] at q
      refine rt_one (vp_var rfl) ?_
      unfold refS
      rw [if_pos hs]
      exact q.same s1
    · have hs : ¬ 1 < s := by
        intro z
        unfold refS at c
        rw [if_pos z] at c
        exact absurd (by decide) c
      rw [if_neg hs] at q
      refine sq_asgOf (call2 (vp_var (by rfl)) (vp_var (by rfl)) ?_)
      refine ⟨a, k, s, rfl, s1.duo hk, W, by omega, fun H2 p x s2 hp hx => ?_⟩
      refine ⟨p, _, rfl, SqT.of hp, rfl, _, _, rfl, _, _, rfl, rfl, ?_⟩
      exact told_of (vp_var rfl) (vp_var rfl) hx (Nat.le_trans (asks_len W s) (by decide)) (q.same (s1.trans s2))

/-! ### wish -/
theorem with_pre {k : Mate.Book} {l : List Nat} (hl : l.length = k.here.length) {s i : Nat} (hs : s ≤ 1) (hi : i < (k.side s).length) : s = 0 → i < l.length := fun e => by
  subst e
  rw [hl]
  exact hi
def sp_wish (K : PySem.W.Frag) : Sp := fun vs H Q _ => ∃ (a b : Addr) (k : Mate.Book) (s i : Nat) (l : List Nat), vs = [.ref a, vN s, vN i, .ref b] ∧ Bk H a k ∧ Wf k ∧ IL H b l ∧ l.length ≤ 2000 ∧ Ret Q H (says2 k (.wish s i l))
theorem set_here (k : Mate.Book) (s i : Nat) (l : List Nat) : (k.set s i l).here.length = k.here.length := by
  unfold Mate.Book.set
  split
  · exact List.length_set
  · rfl
/-- an answer of a number and two -/
theorem told_two {D : Ends} {σ : L2.St} {H : Hp} {tz tx ty : TE} {z x y : Nat} (vz : Vp tz σ H (vN z)) (vx : Vp tx σ H (vN x)) (vy : Vp ty σ H (vN y)) (r : Ret D.rt H (shown ⟨(z : Int), [[x, y]]⟩)) :
    tRet (tCall (sp_told K) [] E0 (tCons tz (tCons (tLst (tCons tx (tCons ty tNil))) tNil))) D σ H := by
  refine told_call (vz _ (vx _ (vy _ ?_)))
  exact ⟨small2, fun p np => ⟨p, z, [x, y], rfl, upd_same, by show 2 ≤ 100000; decide, fun H' p s n h => r H' p (((Same.refl H).new np).trans s) (((Same.refl H).new np).free n) h.told⟩⟩
theorem ok_wish {f : Addr} {fd : FuncData} (F : Fun K "wish" "wish" s_wish f fd) (B : Blt mg) {f_refusal_of_list : Addr} {d_refusal_of_list : FuncData} (c_refusal_of_list : Cal P w K mg base "refusal_of_list" 2 ["lists", "s", "i", "liking"] (sp_refusal_of_list K) f_refusal_of_list d_refusal_of_list) {f_swapped : Addr} {d_swapped : FuncData} (c_swapped : Cal P w K mg base "swapped" 1 ["lists", "s", "i", "liking"] (sp_swapped K) f_swapped d_swapped) {f_entry_of : Addr} {d_entry_of : FuncData} (c_entry_of : Cal P w K mg base "entry_of" 2 ["w", "s", "i"] (sp_entry_of K) f_entry_of d_entry_of) {f_told : Addr} {d_told : FuncData} (c_told : Cal P w K mg base "told" 1 ["number", "row"] (sp_told K) f_told d_told) {f_best_way : Addr} {d_best_way : FuncData} (c_best_way : Cal P w K mg base "best_way" 6 ["table", "s"] (sp_best_way K) f_best_way d_best_way) {f_cost : Addr} {d_cost : FuncData} (c_cost : Cal P w K mg base "cost" 1 ["liking", "x"] (sp_cost K) f_cost d_cost) {f_cost_table : Addr} {d_cost_table : FuncData} (c_cost_table : Cal P w K mg base "cost_table" 4 ["lists"] (sp_cost_table K) f_cost_table d_cost_table) : FnOk P w K mg base CX0 7 f fd ["lists", "s", "i", "liking"] (sp_wish K) := by
  refine F.ok sc_wish (fun vs H Q E h => ?_) (fun cdv A outer s H vs Q E hr h => ?_)
  · obtain ⟨a, b, k, s, i, l, rfl, _⟩ := h
    rfl
  · obtain ⟨a, b, k, s, i, l, rfl, hk, W, hl, hlen, q⟩ := h
    refine ⟨_, (pss_cons (ps_set (i := 4) sc_wish.nd rfl (.inl rfl) (pcall c_refusal_of_list hr (by decide) (by rfl) (pa_cons (pv 0) (pa_cons (pv 1) (pa_cons (pv 2) (pa_cons (pv 3) pa_nil))))))
      (pss_cons (ps_if (pt_cmp (pc_lt (pv 4) pe_int)) (pss_one (ps_ret (pe_lst (pa_cons (pv 4) pa_nil)))) pss_nil)
      (pss_cons (ps_set (i := 5) sc_wish.nd rfl (.inl rfl) (pcall c_swapped hr (by decide) (by rfl) (pa_cons (pv 0) (pa_cons (pv 1) (pa_cons (pv 2) (pa_cons (pv 3) pa_nil))))))
      (pss_cons (ps_set (i := 6) sc_wish.nd rfl (.inl rfl) (pcall c_entry_of hr (by decide) (by rfl) (pa_cons (pcall c_best_way hr (by decide) (by rfl) (pa_cons (pcall c_cost_table hr (by decide) (by rfl) (pa_cons (pv 0) pa_nil)) (pa_cons (pv 1) pa_nil))) (pa_cons (pv 1) (pa_cons (pv 2) pa_nil)))))
      (pss_cons (ps_set (i := 7) sc_wish.nd rfl (.inl rfl) (pcall c_entry_of hr (by decide) (by rfl) (pa_cons (pcall c_best_way hr (by decide) (by rfl) (pa_cons (pcall c_cost_table hr (by decide) (by rfl) (pa_cons (pv 5) pa_nil)) (pa_cons (pv 1) pa_nil))) (pa_cons (pv 1) (pa_cons (pv 2) pa_nil)))))
      (pss_cons (ps_set (i := 8) sc_wish.nd rfl (.inl rfl) (pe_ix (ix_listK (K := K) rfl) (pe_ix (ix_listK (K := K) rfl) (pv 0) (pv 1) (fun _ _ => rfl)) (pv 2) (fun _ _ => rfl)))
      (pss_cons (ps_if (pt_cmp (pc_lt (pcall c_cost hr (by decide) (by rfl) (pa_cons (pv 8) (pa_cons (pv 7) pa_nil))) (pcall c_cost hr (by decide) (by rfl) (pa_cons (pv 8) (pa_cons (pv 6) pa_nil))))) (pss_one (ps_ret (pcall c_told hr (by decide) (by rfl) (pa_cons pe_int (pa_cons (pe_lst (pa_cons (pv 6) (pa_cons (pv 7) pa_nil))) pa_nil))))) pss_nil)
      (pss_one (ps_ret (pcall c_told hr (by decide) (by rfl) (pa_cons pe_int (pa_cons (pe_lst (pa_cons (pv 6) (pa_cons (pv 7) pa_nil))) pa_nil)))))))))))), ?_⟩
    have e : Mate.step (some k) (.wish s i l) = _ := refO_eq k s i _
    unfold says2 at q
    rw [e] at q
    refine sq_of (call4 (vp_var (by rfl)) (vp_var (by rfl)) (vp_var (by rfl)) (vp_var (by rfl)) ?_)
    refine ⟨a, b, k, s, i, l, rfl, hk, hl, hlen, fun H1 s1 => ?_⟩
    refine sq_if2 (vp_cmp (m := refL k s i l) (vp_var rfl) vp_c) (fun c => ?_) (fun c => ?_)
    · refine rt_one (vp_var rfl) ?_
      unfold refL at c ⊢
      by_cases d : refO k s i < 0
      · rw [if_pos d] at q ⊢
        exact q.same s1
      · rw [if_neg d] at q c ⊢
        by_cases f : k.listOk s l = false
        · rw [if_pos f] at q ⊢
          exact q.same s1
        · rw [if_neg f] at c
          exact absurd c (by decide)
    · have d : ¬ refO k s i < 0 := fun z => by
        unfold refL at c
        rw [if_pos z] at c
        exact c z
      have f : ¬ k.listOk s l = false := fun z => by
        unfold refL at c
        rw [if_neg d, if_pos z] at c
        exact c (by decide)
      rw [if_neg d, if_neg f] at q
      dsimp only at q
      obtain ⟨hs, hi⟩ := refO_no d
      have f' : k.listOk s l = true := by
        cases z : k.listOk s l with
        | true => rfl
        | false => exact absurd z f
      have W2 : Wf (k.set s i l) := W.set hs hlen (listOk_lt f')
      have lb := all_len (best_mem k s)
      have lb2 := all_len (best_mem (k.set s i l) s)
      rw [set_here] at lb2
      have hn := W.n
      -- the state as wished
      refine sq_of (call4 (vp_var (by rfl)) (vp_var (by rfl)) (vp_var (by rfl)) (vp_var (by rfl)) ?_)
      refine ⟨a, b, k, s, i, l, rfl, s1.duo hk, s1.il hl, hs, hi, fun H2 x s2 hx _ => ?_⟩
      have t2 := s1.trans s2
      -- with whom as it is
      refine sq_of (table_of (vp_var (by rfl)) (t2.duo hk) W fun H3 t s3 ht => ?_)
      refine ⟨_, rfl, t, k, s, rfl, ht, W.small, hs, fun H4 y s4 hy => ?_⟩
      refine ⟨_, rfl, _, rfl, y, _, s, i, rfl, hy, by omega, with_pre lb hs hi, fun H5 s5 => ?_⟩
      have t5 := ((t2.trans s3).trans s4).trans s5
      -- with whom if it were so
      refine sq_of (table_of (vp_var (by rfl)) (((s3.trans s4).trans s5).duo hx) W2 fun H6 t' s6 ht' => ?_)
      refine ⟨_, rfl, t', k.set s i l, s, rfl, ht', W2.small, hs, fun H7 y' s7 hy' => ?_⟩
      refine ⟨_, rfl, _, rfl, y', _, s, i, rfl, hy', by omega, with_pre lb2 hs hi, fun H8 s8 => ?_⟩
      have t8 := ((t5.trans s6).trans s7).trans s8
      -- their list as it is
      obtain ⟨o, ho, vo⟩ := Bk.one (K := K) (t8.duo hk) hs hi
      refine sq_set (vo (vp_var rfl) (vp_var rfl) (vp_var rfl)) ?_
      generalize Mate.Book.with_ (k.best s) s i = p at q
      generalize Mate.Book.with_ ((k.set s i l).best s) s i = r at q
      generalize (k.side s).getD i [] = own at q ho
      refine call2 (vp_var (by rfl)) (vp_var (by rfl)) ?_
      refine ⟨o, own, r, rfl, ho, fun H9 s9 => ?_⟩
      refine call2 (vp_var (by rfl)) (vp_var (by rfl)) ?_
      refine ⟨o, own, p, rfl, s9.il ho, fun H10 s10 => ⟨_, _, rfl, rfl, _, rfl, ?_⟩⟩
      have t10 := (t8.trans s9).trans s10
      by_cases g : Mate.rank own r < Mate.rank own p
      · rw [if_pos g] at q
        refine if_T (decide_eq_true (by omega)) ?_
        exact told_two (vp_c (v := vN 1)) (vp_var rfl) (vp_var rfl) (q.same t10)
      · rw [if_neg g] at q
        refine if_F (decide_eq_false (by omega)) ?_
        exact told_two (vp_c (v := vN 0)) (vp_var rfl) (vp_var rfl) (q.same t10)
end
end PO

/-! The walk, 11: the turn of a line. -/
namespace PO
open PySem PySem.Spec PyProof.Rows L2
abbrev s_begin : Stmt := topS 47
abbrev N_begin : List Str := ["lists", "n", "m"]
theorem sc_begin : FnScope N_begin ["lists", "n", "m"] (defScope s_begin) := ⟨rfl, rfl, rfl, by decide +kernel, rfl, by decide +kernel, by decide +kernel⟩
abbrev s_likes : Stmt := topS 48
abbrev N_likes : List Str := ["lists", "s", "i", "liking", "refusal"]
theorem sc_likes : FnScope N_likes ["lists", "s", "i", "liking"] (defScope s_likes) := ⟨rfl, rfl, rfl, by decide +kernel, rfl, by decide +kernel, by decide +kernel⟩
abbrev s_telling : Stmt := topS 59
abbrev N_telling : List Str := ["lists", "number", "numbers", "row"]
theorem sc_telling : FnScope N_telling ["lists", "number", "numbers", "row"] (defScope s_telling) := ⟨rfl, rfl, rfl, by decide +kernel, rfl, by decide +kernel, by decide +kernel⟩
abbrev s_turn : Stmt := topS 60
abbrev N_turn : List Str := ["lists", "number", "numbers", "row"]
theorem sc_turn : FnScope N_turn ["lists", "number", "numbers", "row"] (defScope s_turn) := ⟨rfl, rfl, rfl, by decide +kernel, rfl, by decide +kernel, by decide +kernel⟩
section
variable {P : Program} {w : World} {K : PySem.W.Frag} {mg : Str → Option Value} {base : Heap}
/-! ### telling -/
def sp_telling (K : PySem.W.Frag) : Sp := fun vs H Q _ => ∃ (a b c : Addr) (k : Mate.Book) (n : Nat) (ns r : List Nat) (x : Mate.Call), vs = [.ref a, vN n, .ref b, .ref c] ∧ Bk H a k ∧ Wf k ∧ IL H b ns ∧ IL H c r ∧ r.length ≤ 2000 ∧ 2 ≤ n ∧ IsCall n ns r x ∧ Ret Q H (says2 k x)
/-- an if that isn't so: a number that is another -/
theorem sq_num {σ : L2.St} {H : Hp} {D : Ends} {i n m : Nat} {t u : TS} (h : σ[i]? = some (some (vN n))) (e : n ≠ m) (q : u D σ H) : tSeq (tIfS (tB (tEqI (tVar i) (tC (.int (m : Int))))) t tNext) u D σ H :=
  sq_if2 (vp_cmp (vp_var h) vp_c) (fun c => absurd (by omega) e) (fun _ => q)
theorem sq_isnum {σ : L2.St} {H : Hp} {D : Ends} {i n : Nat} {t u : TS} (h : σ[i]? = some (some (vN n))) (q : t { D with nx := u D } σ H) : tSeq (tIfS (tB (tEqI (tVar i) (tC (.int (n : Int))))) t tNext) u D σ H :=
  sq_if2 (vp_cmp (vp_var h) vp_c) (fun _ => q) (fun c => absurd rfl c)
theorem ok_telling {f : Addr} {fd : FuncData} (F : Fun K "telling" "telling" s_telling f fd) (B : Blt mg) {f_wish : Addr} {d_wish : FuncData} (c_wish : Cal P w K mg base "wish" 7 ["lists", "s", "i", "liking"] (sp_wish K) f_wish d_wish) {f_liked : Addr} {d_liked : FuncData} (c_liked : Cal P w K mg base "liked" 2 ["lists", "s", "i"] (sp_liked K) f_liked d_liked) {f_offs : Addr} {d_offs : FuncData} (c_offs : Cal P w K mg base "offs" 5 ["lists", "w"] (sp_offs K) f_offs d_offs) {f_count_ways : Addr} {d_count_ways : FuncData} (c_count_ways : Cal P w K mg base "count_ways" 6 ["lists"] (sp_count_ways K) f_count_ways d_count_ways) {f_way : Addr} {d_way : FuncData} (c_way : Cal P w K mg base "way" 6 ["lists", "i"] (sp_way K) f_way d_way) {f_best : Addr} {d_best : FuncData} (c_best : Cal P w K mg base "best" 7 ["lists", "s"] (sp_best K) f_best d_best) {f_fair : Addr} {d_fair : FuncData} (c_fair : Cal P w K mg base "fair" 7 ["lists"] (sp_fair K) f_fair d_fair) {f_pick : Addr} {d_pick : FuncData} (c_pick : Cal P w K mg base "pick" 6 ["lists", "x", "i", "j"] (sp_pick K) f_pick d_pick) {f_pairs : Addr} {d_pairs : FuncData} (c_pairs : Cal P w K mg base "pairs" 7 ["lists"] (sp_pairs K) f_pairs d_pairs) {f_asks : Addr} {d_asks : FuncData} (c_asks : Cal P w K mg base "asks" 4 ["lists", "s"] (sp_asks K) f_asks d_asks) : FnOk P w K mg base CX0 8 f fd ["lists", "number", "numbers", "row"] (sp_telling K) := by
  refine F.ok sc_telling (fun vs H Q E h => ?_) (fun cdv A outer s H vs Q E hr h => ?_)
  · obtain ⟨a, b, c, k, n, ns, r, x, rfl, _⟩ := h
    rfl
  · obtain ⟨a, b, c, k, n, ns, r, x, rfl, hk, W, hb, hc, hlen, hn, hx, q⟩ := h
    refine ⟨_, (pss_cons (ps_if (pt_cmp (pc_eqI (pv 1) pe_int)) (pss_one (ps_ret (pcall c_liked hr (by decide) (by rfl) (pa_cons (pv 0) (pa_cons (pe_ix (ix_listK (K := K) rfl) (pv 2) pe_int (fun _ _ => rfl)) (pa_cons (pe_ix (ix_listK (K := K) rfl) (pv 2) pe_int (fun _ _ => rfl)) pa_nil)))))) pss_nil)
      (pss_cons (ps_if (pt_cmp (pc_eqI (pv 1) pe_int)) (pss_one (ps_ret (pcall c_offs hr (by decide) (by rfl) (pa_cons (pv 0) (pa_cons (pv 3) pa_nil))))) pss_nil)
      (pss_cons (ps_if (pt_cmp (pc_eqI (pv 1) pe_int)) (pss_one (ps_ret (pcall c_count_ways hr (by decide) (by rfl) (pa_cons (pv 0) pa_nil)))) pss_nil)
      (pss_cons (ps_if (pt_cmp (pc_eqI (pv 1) pe_int)) (pss_one (ps_ret (pcall c_way hr (by decide) (by rfl) (pa_cons (pv 0) (pa_cons (pe_ix (ix_listK (K := K) rfl) (pv 2) pe_int (fun _ _ => rfl)) pa_nil))))) pss_nil)
      (pss_cons (ps_if (pt_cmp (pc_eqI (pv 1) pe_int)) (pss_one (ps_ret (pcall c_best hr (by decide) (by rfl) (pa_cons (pv 0) (pa_cons (pe_ix (ix_listK (K := K) rfl) (pv 2) pe_int (fun _ _ => rfl)) pa_nil))))) pss_nil)
      (pss_cons (ps_if (pt_cmp (pc_eqI (pv 1) pe_int)) (pss_one (ps_ret (pcall c_fair hr (by decide) (by rfl) (pa_cons (pv 0) pa_nil)))) pss_nil)
      (pss_cons (ps_if (pt_cmp (pc_eqI (pv 1) pe_int)) (pss_one (ps_ret (pcall c_pick hr (by decide) (by rfl) (pa_cons (pv 0) (pa_cons (pe_ix (ix_listK (K := K) rfl) (pv 2) pe_int (fun _ _ => rfl)) (pa_cons (pe_ix (ix_listK (K := K) rfl) (pv 2) pe_int (fun _ _ => rfl)) (pa_cons (pe_ix (ix_listK (K := K) rfl) (pv 2) pe_int (fun _ _ => rfl)) pa_nil))))))) pss_nil)
      (pss_cons (ps_if (pt_cmp (pc_eqI (pv 1) pe_int)) (pss_one (ps_ret (pcall c_pairs hr (by decide) (by rfl) (pa_cons (pv 0) pa_nil)))) pss_nil)
      (pss_cons (ps_if (pt_cmp (pc_eqI (pv 1) pe_int)) (pss_one (ps_ret (pcall c_asks hr (by decide) (by rfl) (pa_cons (pv 0) (pa_cons (pe_ix (ix_listK (K := K) rfl) (pv 2) pe_int (fun _ _ => rfl)) pa_nil))))) pss_nil)
      (pss_one (ps_ret (pcall c_wish hr (by decide) (by rfl) (pa_cons (pv 0) (pa_cons (pe_ix (ix_listK (K := K) rfl) (pv 2) pe_int (fun _ _ => rfl)) (pa_cons (pe_ix (ix_listK (K := K) rfl) (pv 2) pe_int (fun _ _ => rfl)) (pa_cons (pv 3) pa_nil)))))))))))))))), ?_⟩
    cases hx with
    | begin_ => omega
    | likes => omega
    | liked i j =>
      refine sq_isnum (n := 2) rfl ?_
      refine rt_of (call3 (vp_var (by rfl)) (vp_ixN (j := 0) (vp_var (by rfl)) vp_c hb rfl) (vp_ixN (j := 1) (vp_var (by rfl)) vp_c hb rfl) ?_)
      exact ⟨a, k, i, j, rfl, hk, W, q⟩
    | offs =>
      refine sq_num (m := 2) rfl (by decide) (sq_isnum (n := 3) rfl ?_)
      refine rt_of (call2 (vp_var (by rfl)) (vp_var (by rfl)) ?_)
      exact ⟨a, c, k, r, rfl, hk, W, hc, q⟩
    | count =>
      refine sq_num (m := 2) rfl (by decide) (sq_num (m := 3) rfl (by decide) (sq_isnum (n := 4) rfl ?_))
      refine rt_of (call1 (vp_var (by rfl)) ?_)
      exact ⟨a, k, rfl, hk, W, q⟩
    | way i =>
      refine sq_num (m := 2) rfl (by decide) (sq_num (m := 3) rfl (by decide) (sq_num (m := 4) rfl (by decide) (sq_isnum (n := 5) rfl ?_)))
      refine rt_of (call2 (vp_var (by rfl)) (vp_ixN (j := 0) (vp_var (by rfl)) vp_c hb rfl) ?_)
      exact ⟨a, k, i, rfl, hk, W, q⟩
    | best i =>
      refine sq_num (m := 2) rfl (by decide) (sq_num (m := 3) rfl (by decide) (sq_num (m := 4) rfl (by decide) (sq_num (m := 5) rfl (by decide) (sq_isnum (n := 6) rfl ?_))))
      refine rt_of (call2 (vp_var (by rfl)) (vp_ixN (j := 0) (vp_var (by rfl)) vp_c hb rfl) ?_)
      exact ⟨a, k, i, rfl, hk, W, q⟩
    | fair =>
      refine sq_num (m := 2) rfl (by decide) (sq_num (m := 3) rfl (by decide) (sq_num (m := 4) rfl (by decide) (sq_num (m := 5) rfl (by decide) (sq_num (m := 6) rfl (by decide) (sq_isnum (n := 7) rfl ?_)))))
      refine rt_of (call1 (vp_var (by rfl)) ?_)
      exact ⟨a, k, rfl, hk, W, q⟩
    | pick x i j =>
      refine sq_num (m := 2) rfl (by decide) (sq_num (m := 3) rfl (by decide) (sq_num (m := 4) rfl (by decide) (sq_num (m := 5) rfl (by decide) (sq_num (m := 6) rfl (by decide) (sq_num (m := 7) rfl (by decide) (sq_isnum (n := 8) rfl ?_))))))
      refine rt_of (call4 (vp_var (by rfl)) (vp_ixN (j := 0) (vp_var (by rfl)) vp_c hb rfl) (vp_ixN (j := 1) (vp_var (by rfl)) vp_c hb rfl) (vp_ixN (j := 2) (vp_var (by rfl)) vp_c hb rfl) ?_)
      exact ⟨a, k, x, i, j, rfl, hk, W, q⟩
    | pairs =>
      refine sq_num (m := 2) rfl (by decide) (sq_num (m := 3) rfl (by decide) (sq_num (m := 4) rfl (by decide) (sq_num (m := 5) rfl (by decide) (sq_num (m := 6) rfl (by decide) (sq_num (m := 7) rfl (by decide) (sq_num (m := 8) rfl (by decide) (sq_isnum (n := 9) rfl ?_)))))))
      refine rt_of (call1 (vp_var (by rfl)) ?_)
      exact ⟨a, k, rfl, hk, W, q⟩
    | asks i =>
      refine sq_num (m := 2) rfl (by decide) (sq_num (m := 3) rfl (by decide) (sq_num (m := 4) rfl (by decide) (sq_num (m := 5) rfl (by decide) (sq_num (m := 6) rfl (by decide) (sq_num (m := 7) rfl (by decide) (sq_num (m := 8) rfl (by decide) (sq_num (m := 9) rfl (by decide) (sq_isnum (n := 10) rfl ?_))))))))
      refine rt_of (call2 (vp_var (by rfl)) (vp_ixN (j := 0) (vp_var (by rfl)) vp_c hb rfl) ?_)
      exact ⟨a, k, i, rfl, hk, W, q⟩
    | wish i j =>
      refine sq_num (m := 2) rfl (by decide) (sq_num (m := 3) rfl (by decide) (sq_num (m := 4) rfl (by decide) (sq_num (m := 5) rfl (by decide) (sq_num (m := 6) rfl (by decide) (sq_num (m := 7) rfl (by decide) (sq_num (m := 8) rfl (by decide) (sq_num (m := 9) rfl (by decide) (sq_num (m := 10) rfl (by decide) ?_))))))))
      refine rt_of (call4 (vp_var (by rfl)) (vp_ixN (j := 0) (vp_var (by rfl)) vp_c hb rfl) (vp_ixN (j := 1) (vp_var (by rfl)) vp_c hb rfl) (vp_var (by rfl)) ?_)
      exact ⟨a, c, k, i, j, r, rfl, hk, W, hc, hlen, q⟩

/-! ### the state -/
def bookOf (S : Mate.State) : Mate.Book := S.getD ⟨[], []⟩
def SR (H : Hp) (a : Addr) (S : Mate.State) : Prop := Bk H a (bookOf S) ∧ ∀ k, S = some k → Wf k
theorem SR.same {H H' : Hp} {a : Addr} {S : Mate.State} (h : SR H a S) (s : Same H H') : SR H' a S := ⟨s.duo h.1, h.2⟩
/-- where one object isn't seen, the state stands as before -/
def Apart (H H' : Hp) (a x : Addr) (S S' : Mate.State) : Prop := ∀ so, H so ≠ none → SR (Off so H) a S → SR (Off so H') x S'
theorem Apart.of_same {H H' : Hp} {a : Addr} {S : Mate.State} (s : Same H H') : Apart H H' a a S S := fun so _ h => h.same (s.off so)
/-- a tuple of the state and the answer -/
def Ret2 (Q : VK) (H : Hp) (a : Addr) (S : Mate.State) (z : Mate.State × Mate.Answer) : Prop := ∀ (H' : Hp) (p x y : Addr), Same H H' → H y = none → H' p = some (.tup [.ref x, .ref y]) → SR H' x z.1 → Apart H H' a x S z.1 → AL H' y (shown z.2) → Q (.ref p) H'
theorem Ret2.same {Q : VK} {H H1 : Hp} {a : Addr} {S : Mate.State} {z : Mate.State × Mate.Answer} (r : Ret2 Q H a S z) (s : Same H H1) : Ret2 Q H1 a S z := fun H' p x y s' n h1 h2 h3 h4 => r H' p x y (s.trans s') (s.free n) h1 h2 (fun so hso hS => h3 so (fun e => hso (s.free e)) (hS.same (s.off so))) h4
theorem tup_of {σ : L2.St} {H : Hp} {ta tb : TE} {Q : VK} (h : ta σ H fun x H1 => tb σ H1 fun y H2 => [x, y].length ≤ sizeLine ∧ ∀ p, H2 p = none → Q (.ref p) (upd H2 p (.tup [x, y]))) : tTup (tCons ta (tCons tb tNil)) σ H Q := h
theorem lst1_of {σ : L2.St} {H : Hp} {te : TE} {v : V} {Q : VK} (ve : Vp te σ H v) (q : ∀ p, H p = none → Q (.ref p) (upd H p (.lst [v]))) : tLst (tCons te tNil) σ H Q := ve _ ⟨by show 1 ≤ sizeLine; decide, q⟩
/-- the state stays, a number is answered -/
theorem rt_ref {D : Ends} {σ : L2.St} {H : Hp} {ta te : TE} {a : Addr} {S : Mate.State} {z : Int} (va : Vp ta σ H (.ref a)) (ve : Vp te σ H (.int z)) (hS : SR H a S) (r : Ret2 D.rt H a S (S, Mate.says z)) : tRet (tTup (tCons ta (tCons (tLst (tCons te tNil)) tNil))) D σ H := by
  refine rt_of (va _ (ve _ ⟨by show 1 ≤ sizeLine; decide, fun p np => ⟨small2, fun t nt => ?_⟩⟩))
  have s1 : Same H (upd H p (.lst [V.int z])) := (Same.refl H).new np
  exact r _ t a p (s1.new nt) np upd_same (hS.same (s1.new nt)) (.of_same (s1.new nt)) (((Same.refl _).new nt).al upd_same)
def sp_begin (K : PySem.W.Frag) : Sp := fun vs H Q _ => ∃ (a : Addr) (S : Mate.State) (n m : Nat), vs = [.ref a, vN n, vN m] ∧ SR H a S ∧ Ret2 Q H a S (Mate.step S (.begin_ n m))
theorem ok_begin {f : Addr} {fd : FuncData} (F : Fun K "begin" "begin" s_begin f fd) (B : Blt mg) {f_blank : Addr} {d_blank : FuncData} (c_blank : Cal P w K mg base "blank" 1 ["n", "m"] (sp_blank K) f_blank d_blank) : FnOk P w K mg base CX0 2 f fd ["lists", "n", "m"] (sp_begin K) := by
  refine F.ok sc_begin (fun vs H Q E h => ?_) (fun cdv A outer s H vs Q E hr h => ?_)
  · obtain ⟨a, S, n, m, rfl, _⟩ := h
    rfl
  · obtain ⟨a, S, n, m, rfl, hS, q⟩ := h
    refine ⟨_, (pss_cons (ps_if (PW.pt (pw_or (pt_cmp (pc_lt (pv 1) pe_int)) (pw_or (pt_cmp (pc_gt (pv 1) pe_int)) (pw_or (pt_cmp (pc_lt (pv 2) pe_int)) (pw_or1 (pt_cmp (pc_gt (pv 2) pe_int))))))) (pss_one (ps_ret (pe_tup (pa_cons (pv 0) (pa_cons (pe_lst (pa_cons (pe_un un_neg pe_int) pa_nil)) pa_nil))))) pss_nil)
      (pss_one (ps_ret (pe_tup (pa_cons (pcall c_blank hr (by decide) (by rfl) (pa_cons (pv 1) (pa_cons (pv 2) pa_nil))) (pa_cons (pe_lst (pa_cons pe_int pa_nil)) pa_nil)))))), ?_⟩
    have e : Mate.step S (.begin_ n m) = if n = 0 ∨ Mate.SIDE < n ∨ m = 0 ∨ Mate.SIDE < m then (S, Mate.says (-1)) else (some ⟨List.replicate n [], List.replicate m []⟩, Mate.says 0) := rfl
    rw [e] at q
    have eS : Mate.SIDE = 6 := rfl
    rw [eS] at q
    refine sq_ifT (tp_or (tp_cmp (vp_var rfl) vp_c) (tp_or (tp_cmp (vp_var rfl) vp_c) (tp_or (tp_cmp (vp_var rfl) vp_c) (tp_cmp (vp_var rfl) vp_c)))) (fun d => ?_) (fun d => ?_)
    · rw [Bool.or_eq_true, Bool.or_eq_true, Bool.or_eq_true, decide_eq_true_eq, decide_eq_true_eq, decide_eq_true_eq, decide_eq_true_eq] at d
      rw [if_pos (by omega)] at q
      exact rt_ref (vp_var rfl) vp_neg hS q
    · rw [Bool.or_eq_false_iff, Bool.or_eq_false_iff, Bool.or_eq_false_iff, decide_eq_false_iff_not, decide_eq_false_iff_not, decide_eq_false_iff_not, decide_eq_false_iff_not] at d
      rw [if_neg (by omega)] at q
      refine rt_of ?_
      refine call2 (vp_var (by rfl)) (vp_var (by rfl)) ?_
      refine ⟨n, m, rfl, by omega, by omega, fun H1 x s1 hx hoff => ⟨by show 1 ≤ sizeLine; decide, fun p np => ⟨small2, fun t nt => ?_⟩⟩⟩
      have s2 : Same H1 (upd H1 p (.lst [V.int 0])) := (Same.refl H1).new np
      refine q _ t x p (s1.trans (s2.new nt)) (s1.free np) upd_same ⟨(s2.new nt).duo hx, fun k e => ?_⟩ (fun so hso _ => ⟨((s2.new nt).off so).duo (hoff so hso), fun k e => ?_⟩) (((Same.refl _).new nt).al upd_same)
      · cases e
        exact Wf.blank (by omega) (by omega) (by omega)
      · cases e
        exact Wf.blank (by omega) (by omega) (by omega)
def sp_likes (K : PySem.W.Frag) : Sp := fun vs H Q _ => ∃ (a b : Addr) (k : Mate.Book) (s i : Nat) (l : List Nat), vs = [.ref a, vN s, vN i, .ref b] ∧ Bk H a k ∧ Wf k ∧ IL H b l ∧ l.length ≤ 2000 ∧ Ret2 Q H a (some k) (Mate.step (some k) (.likes s i l))
theorem ok_likes {f : Addr} {fd : FuncData} (F : Fun K "likes" "likes" s_likes f fd) (B : Blt mg) {f_refusal_of_list : Addr} {d_refusal_of_list : FuncData} (c_refusal_of_list : Cal P w K mg base "refusal_of_list" 2 ["lists", "s", "i", "liking"] (sp_refusal_of_list K) f_refusal_of_list d_refusal_of_list) {f_swapped : Addr} {d_swapped : FuncData} (c_swapped : Cal P w K mg base "swapped" 1 ["lists", "s", "i", "liking"] (sp_swapped K) f_swapped d_swapped) : FnOk P w K mg base CX0 3 f fd ["lists", "s", "i", "liking"] (sp_likes K) := by
  refine F.ok sc_likes (fun vs H Q E h => ?_) (fun cdv A outer s H vs Q E hr h => ?_)
  · obtain ⟨a, b, k, s, i, l, rfl, _⟩ := h
    rfl
  · obtain ⟨a, b, k, s, i, l, rfl, hk, W, hl, hlen, q⟩ := h
    refine ⟨_, (pss_cons (ps_set (i := 4) sc_likes.nd rfl (.inl rfl) (pcall c_refusal_of_list hr (by decide) (by rfl) (pa_cons (pv 0) (pa_cons (pv 1) (pa_cons (pv 2) (pa_cons (pv 3) pa_nil))))))
      (pss_cons (ps_if (pt_cmp (pc_lt (pv 4) pe_int)) (pss_one (ps_ret (pe_tup (pa_cons (pv 0) (pa_cons (pe_lst (pa_cons (pv 4) pa_nil)) pa_nil))))) pss_nil)
      (pss_one (ps_ret (pe_tup (pa_cons (pcall c_swapped hr (by decide) (by rfl) (pa_cons (pv 0) (pa_cons (pv 1) (pa_cons (pv 2) (pa_cons (pv 3) pa_nil))))) (pa_cons (pe_lst (pa_cons (pe_callB (call_lenK (K := K) rfl) (by rfl) B.len PySem.boot_len (pa_cons (pv 3) pa_nil)) pa_nil)) pa_nil))))))), ?_⟩
    have e : Mate.step (some k) (.likes s i l) = _ := refO_eq k s i _
    rw [e] at q
    have hS : SR H a (some k) := ⟨hk, fun k' e => by cases e; exact W⟩
    refine sq_of (call4 (vp_var (by rfl)) (vp_var (by rfl)) (vp_var (by rfl)) (vp_var (by rfl)) ?_)
    refine ⟨a, b, k, s, i, l, rfl, hk, hl, hlen, fun H1 s1 => ?_⟩
    refine sq_if2 (vp_cmp (m := refL k s i l) (vp_var rfl) vp_c) (fun c => ?_) (fun c => ?_)
    · refine rt_ref (S := some k) (z := refL k s i l) (vp_var rfl) (vp_var rfl) (hS.same s1) ?_
      unfold refL at c ⊢
      by_cases d : refO k s i < 0
      · rw [if_pos d] at q ⊢
        exact q.same s1
      · rw [if_neg d] at q c ⊢
        by_cases f : k.listOk s l = false
        · rw [if_pos f] at q ⊢
          exact q.same s1
        · rw [if_neg f] at c
          exact absurd c (by decide)
    · have d : ¬ refO k s i < 0 := fun z => by
        unfold refL at c
        rw [if_pos z] at c
        exact c z
      have f : ¬ k.listOk s l = false := fun z => by
        unfold refL at c
        rw [if_neg d, if_pos z] at c
        exact c (by decide)
      rw [if_neg d, if_neg f] at q
      obtain ⟨hs, hi⟩ := refO_no d
      have f' : k.listOk s l = true := by
        cases z : k.listOk s l with
        | true => rfl
        | false => exact absurd z f
      have W2 : Wf (k.set s i l) := W.set hs hlen (listOk_lt f')
      refine rt_of (tup_of (call4 (vp_var (by rfl)) (vp_var (by rfl)) (vp_var (by rfl)) (vp_var (by rfl)) ?_))
      refine ⟨a, b, k, s, i, l, rfl, s1.duo hk, s1.il hl, hs, hi, fun H2 x s2 hx hoff => ?_⟩
      refine lst1_of (vp_lenN (vp_var (by rfl)) (s2.il (s1.il hl))) fun p np => ⟨small2, fun t nt => ?_⟩
      have s3 : Same H2 (upd H2 p (.lst [V.int (l.length : Int)])) := (Same.refl H2).new np
      refine q _ t x p ((s1.trans s2).trans (s3.new nt)) ((s1.trans s2).free np) upd_same ⟨(s3.new nt).duo hx, fun k' e => ?_⟩ (fun so hso hS2 => ⟨((s3.new nt).off so).duo (hoff so (fun e => hso (s1.free e)) ((s1.off so).duo hS2.1)), fun k e => ?_⟩) (((Same.refl _).new nt).al upd_same)
      · cases e
        exact W2
      · cases e
        exact W2

/-! ### turn -/
def sp_turn (K : PySem.W.Frag) : Sp := fun vs H Q _ => ∃ (a b c : Addr) (S : Mate.State) (n : Nat) (ns r : List Nat) (x : Mate.Call), vs = [.ref a, vN n, .ref b, .ref c] ∧ SR H a S ∧ IL H b ns ∧ IL H c r ∧ r.length ≤ 2000 ∧ IsCall n ns r x ∧ Ret2 Q H a S (Mate.step S x)
/-- a call that isn't begin, before any begin -/
theorem step_none {n : Nat} {ns r : List Nat} {x : Mate.Call} (h : IsCall n ns r x) (hn : n ≠ 0) : Mate.step none x = (none, Mate.says (-9)) := by
  cases h <;> first | rfl | exact absurd rfl hn
theorem step_same {n : Nat} {ns r : List Nat} {x : Mate.Call} (h : IsCall n ns r x) (hn : 2 ≤ n) (k : Mate.Book) : (Mate.step (some k) x).1 = some k := by
  have one : ∀ (s i : Nat) (f : Mate.Book → Mate.Answer), (Mate.ofOne (some k) s i fun k' => (some k, f k')).1 = some k := fun s i f => by
    rw [refO_eq]
    split <;> rfl
  cases h with
  | begin_ => omega
  | likes => omega
  | liked a b => exact one a b _
  | wish a b => 
    show (Mate.ofOne (some k) a b _).1 = some k
    rw [refO_eq]
    split
    · rfl
    · split <;> rfl
  | _ => rfl
theorem ok_turn {f : Addr} {fd : FuncData} (F : Fun K "turn" "turn" s_turn f fd) (B : Blt mg) {f_begin : Addr} {d_begin : FuncData} (c_begin : Cal P w K mg base "begin" 2 ["lists", "n", "m"] (sp_begin K) f_begin d_begin) {f_is_begun : Addr} {d_is_begun : FuncData} (c_is_begun : Cal P w K mg base "is_begun" 1 ["lists"] (sp_is_begun K) f_is_begun d_is_begun) {f_likes : Addr} {d_likes : FuncData} (c_likes : Cal P w K mg base "likes" 3 ["lists", "s", "i", "liking"] (sp_likes K) f_likes d_likes) {f_telling : Addr} {d_telling : FuncData} (c_telling : Cal P w K mg base "telling" 8 ["lists", "number", "numbers", "row"] (sp_telling K) f_telling d_telling) : FnOk P w K mg base CX0 9 f fd ["lists", "number", "numbers", "row"] (sp_turn K) := by
  refine F.ok sc_turn (fun vs H Q E h => ?_) (fun cdv A outer s H vs Q E hr h => ?_)
  · obtain ⟨a, b, c, S, n, ns, r, x, rfl, _⟩ := h
    rfl
  · obtain ⟨a, b, c, S, n, ns, r, x, rfl, hS, hb, hc, hlen, hx, q⟩ := h
    refine ⟨_, (pss_cons (ps_if (pt_cmp (pc_eqI (pv 1) pe_int)) (pss_one (ps_ret (pcall c_begin hr (by decide) (by rfl) (pa_cons (pv 0) (pa_cons (pe_ix (ix_listK (K := K) rfl) (pv 2) pe_int (fun _ _ => rfl)) (pa_cons (pe_ix (ix_listK (K := K) rfl) (pv 2) pe_int (fun _ _ => rfl)) pa_nil)))))) pss_nil)
      (pss_cons (ps_if (pt_not (pt_val (pcall c_is_begun hr (by decide) (by rfl) (pa_cons (pv 0) pa_nil)))) (pss_one (ps_ret (pe_tup (pa_cons (pv 0) (pa_cons (pe_lst (pa_cons (pe_un un_neg pe_int) pa_nil)) pa_nil))))) pss_nil)
      (pss_cons (ps_if (pt_cmp (pc_eqI (pv 1) pe_int)) (pss_one (ps_ret (pcall c_likes hr (by decide) (by rfl) (pa_cons (pv 0) (pa_cons (pe_ix (ix_listK (K := K) rfl) (pv 2) pe_int (fun _ _ => rfl)) (pa_cons (pe_ix (ix_listK (K := K) rfl) (pv 2) pe_int (fun _ _ => rfl)) (pa_cons (pv 3) pa_nil))))))) pss_nil)
      (pss_one (ps_ret (pe_tup (pa_cons (pv 0) (pa_cons (pcall c_telling hr (by decide) (by rfl) (pa_cons (pv 0) (pa_cons (pv 1) (pa_cons (pv 2) (pa_cons (pv 3) pa_nil))))) pa_nil)))))))), ?_⟩
    by_cases h0 : n = 0
    · subst h0
      cases hx with
      | begin_ i j =>
        refine sq_isnum (n := 0) rfl ?_
        refine rt_of (call3 (vp_var (by rfl)) (vp_ixN (j := 0) (vp_var (by rfl)) vp_c hb rfl) (vp_ixN (j := 1) (vp_var (by rfl)) vp_c hb rfl) ?_)
        exact ⟨a, S, i, j, rfl, hS, q⟩
    · refine sq_num (m := 0) rfl h0 ?_
      refine ⟨_, rfl, a, bookOf S, rfl, hS.1, fun H1 s1 => ⟨_, rfl, ?_⟩⟩
      have hS1 := hS.same s1
      cases S with
      | none =>
        rw [step_none hx h0] at q
        exact iteT (rt_ref (vp_var rfl) vp_neg hS1 (q.same s1))
      | some k =>
        have W := hS.2 k rfl
        refine if_F (by
          show (!decide (0 < k.here.length)) = false
          rw [decide_eq_true W.p]
          rfl) ?_
        by_cases h1 : n = 1
        · subst h1
          cases hx with
          | likes i j =>
            refine sq_isnum (n := 1) rfl ?_
            refine rt_of (call4 (vp_var (by rfl)) (vp_ixN (j := 0) (vp_var (by rfl)) vp_c (s1.il hb) rfl) (vp_ixN (j := 1) (vp_var (by rfl)) vp_c (s1.il hb) rfl) (vp_var (by rfl)) ?_)
            exact ⟨a, c, k, i, j, r, rfl, s1.duo hS.1, W, s1.il hc, hlen, q.same s1⟩
        · refine sq_num (m := 1) rfl h1 ?_
          have h2 : 2 ≤ n := by omega
          refine rt_of (tup_of (vp_var (by rfl) _ ?_))
          refine call4 (vp_var (by rfl)) (vp_var (by rfl)) (vp_var (by rfl)) (vp_var (by rfl)) ?_
          refine ⟨a, b, c, k, n, ns, r, x, rfl, s1.duo hS.1, W, s1.il hb, s1.il hc, hlen, h2, hx, fun H2 y s2 ny hy => ⟨small2, fun t nt => ?_⟩⟩
          have e1 := step_same hx h2 k
          refine q _ t a y ((s1.trans s2).new nt) (s1.free ny) upd_same ?_ ?_ (((Same.refl _).new nt).al hy)
          · rw [e1]
            exact hS1.same (s2.new nt)
          · rw [e1]
            exact .of_same ((s1.trans s2).new nt)
end
end PO

/-! The walk, 12: a line of calls. -/
namespace PO
open PySem PySem.Spec PyProof.Rows L2
abbrev s_call_at : Stmt := topS 43
abbrev N_call_at : List Str := ["calls", "at", "number", "first", "last", "behind"]
theorem sc_call_at : FnScope N_call_at ["calls", "at"] (defScope s_call_at) := ⟨rfl, rfl, rfl, by decide +kernel, rfl, by decide +kernel, by decide +kernel⟩
abbrev s_answers : Stmt := topS 62
abbrev N_answers : List Str := ["calls", "said", "lists", "at", "number", "numbers", "row", "behind", "answer"]
theorem sc_answers : FnScope N_answers ["calls"] (defScope s_answers) := ⟨rfl, rfl, rfl, by decide +kernel, rfl, by decide +kernel, by decide +kernel⟩
section
variable {P : Program} {w : World} {K : PySem.W.Frag} {mg : Str → Option Value} {base : Heap}
/-! ### slices -/
theorem cut_mid {xs : List V} {i j : Nat} (h1 : i ≤ j) (h2 : j ≤ xs.length) : cutV xs (some (i : Int)) (some (j : Int)) = (xs.drop i).take (j - i) := by
  unfold cutV
  rw [HT.sIx_nat, HT.sIx_nat, Nat.min_eq_left h2, Nat.min_eq_left (by omega : i ≤ xs.length)]
theorem cut_nums {l : List Nat} {i n : Nat} (h : i + n ≤ l.length) : cutV (nums l) (some (i : Int)) (some ((i + n : Nat) : Int)) = nums ((l.drop i).take n) := by
  rw [cut_mid (by omega) (by rw [nums_len]; exact h), show i + n - i = n by omega, ← List.map_drop, ← List.map_take]

/-! ### call_at -/
def sp_call_at (K : PySem.W.Frag) : Sp := fun vs H Q _ => ∃ (a : Addr) (l : List Nat) (pos p : Nat) (ns row : List Nat) (behind : Nat), vs = [.ref a, vN pos] ∧ SqL K H a (nums l) ∧ At l pos p ns row behind ∧
  ∀ (H' : Hp) (t x y : Addr), Same H H' → H' t = some (.tup [vN p, .ref x, .ref y, vN behind]) → IL H' x ns → IL H' y row → Q (.ref t) H'
theorem vp_plus {σ : L2.St} {H : Hp} {ta tb : TE} {m n : Nat} (ha : Vp ta σ H (vN m)) (hb : Vp tb σ H (vN n)) : Vp (tOp (rI0 fun i j => .int (i + j)) ta tb) σ H (vN (m + n)) := (vp_add ha hb).to rfl
theorem ok_call_at {f : Addr} {fd : FuncData} (F : Fun K "call_at" "call_at" s_call_at f fd) {t_NUMBERS t_ROWS : Addr} (m_NUMBERS : mg "NUMBERS" = some (.ref t_NUMBERS)) (m_ROWS : mg "ROWS" = some (.ref t_ROWS))
    (q_NUMBERS : ∀ H, SqT K H t_NUMBERS (nums tabN)) (q_ROWS : ∀ H, SqT K H t_ROWS (nums tabR)) : FnOk P w K mg base CX0 1 f fd ["calls", "at"] (sp_call_at K) := by
  refine F.ok sc_call_at (fun vs H Q E h => ?_) (fun cdv A outer s H vs Q E hr h => ?_)
  · obtain ⟨a, l, pos, p, ns, row, behind, rfl, _⟩ := h
    rfl
  · obtain ⟨a, l, pos, p, ns, row, behind, rfl, hl, ⟨hp, n, k, tN, tR, hb, rfl, hrow⟩, q⟩ := h
    refine ⟨_, (pss_cons (ps_set (i := 2) sc_call_at.nd rfl (.inl rfl) (pe_ix (ix_listK (K := K) rfl) (pv 0) (pv 1) (fun _ _ => rfl)))
      (pss_cons (ps_set (i := 3) sc_call_at.nd rfl (.inl rfl) (pe_op op_add (pv 1) pe_int))
      (pss_cons (ps_set (i := 4) sc_call_at.nd rfl (.inl rfl) (pe_op op_add (pv 3) (pe_ix ix_tup (pe_glob (v := .ref t_NUMBERS) (by rfl) m_NUMBERS rfl) (pv 2) (fun _ _ => rfl))))
      (pss_cons (ps_if (pt_cmp (pc_eqI (pe_ix ix_tup (pe_glob (v := .ref t_ROWS) (by rfl) m_ROWS rfl) (pv 2) (fun _ _ => rfl)) pe_int)) (pss_one (ps_ret (pe_tup (pa_cons (pv 2) (pa_cons (pe_slice sl_list (pv 0) (po_some (pv 3)) (po_some (pv 4))) (pa_cons (pe_lst pa_nil) (pa_cons (pv 4) pa_nil))))))) pss_nil)
      (pss_cons (ps_set (i := 5) sc_call_at.nd rfl (.inl rfl) (pe_op op_add (pe_op op_add (pv 4) pe_int) (pe_ix (ix_listK (K := K) rfl) (pv 0) (pv 4) (fun _ _ => rfl))))
      (pss_one (ps_ret (pe_tup (pa_cons (pv 2) (pa_cons (pe_slice sl_list (pv 0) (po_some (pv 3)) (po_some (pv 4))) (pa_cons (pe_slice sl_list (pv 0) (po_some (pe_op op_add (pv 4) pe_int)) (po_some (pv 5))) (pa_cons (pv 5) pa_nil)))))))))))), ?_⟩
    refine sq_set (vp_ix (vp_var rfl) (vp_var rfl) hl (nums_at hp)) ?_
    refine sq_set (vp_succ (vp_var rfl)) ?_
    refine sq_set (vp_plus (vp_var rfl) (vp_ixT (v := vN n) vp_c (vp_var rfl) (q_NUMBERS H) (nums_at tN))) ?_
    rcases hrow with ⟨rfl, rfl, rfl⟩ | ⟨rfl, c, hc, hcl, rfl, rfl⟩
    · refine sq_if2 (vp_cmp (vp_ixT (v := vN 0) vp_c (vp_var rfl) (q_ROWS H) (nums_at tR)) vp_c) (fun _ => ?_) (fun c => absurd rfl c)
      refine ⟨_, rfl, _, rfl, _, rfl, _, rfl, _, rfl, _, rfl, a, nums l, rfl, hl, fun x nx => ?_⟩
      rw [cut_nums hb]
      have s1 : Same H (upd H x (.lst (nums ((l.drop (pos + 1)).take n)))) := (Same.refl H).new nx
      refine ⟨Nat.zero_le _, fun y ny => ⟨_, rfl, by show 4 ≤ sizeLine; decide, fun t nt => ?_⟩⟩
      refine q _ t x y ((s1.new ny).new nt) upd_same ?_ ?_
      · exact (((Same.refl _).new ny).new nt).il upd_same
      · exact ((Same.refl _).new nt).il upd_same
    · refine sq_if2 (vp_cmp (vp_ixT (v := vN 1) vp_c (vp_var rfl) (q_ROWS H) (nums_at tR)) vp_c) (fun c => absurd c (by decide)) (fun _ => ?_)
      refine sq_set (vp_plus (vp_succ (vp_var rfl)) (vp_ix (v := vN c) (vp_var rfl) (vp_var rfl) hl (nums_at hc))) ?_
      refine ⟨_, rfl, _, rfl, _, rfl, _, rfl, _, rfl, _, rfl, a, nums l, rfl, hl, fun x nx => ?_⟩
      rw [cut_nums hb]
      have s1 : Same H (upd H x (.lst (nums ((l.drop (pos + 1)).take n)))) := (Same.refl H).new nx
      refine ⟨_, rfl, vp_succ (vp_var (by rfl)) _ ⟨_, rfl, _, rfl, _, rfl, a, nums l, rfl, s1.seq hl, fun y ny => ?_⟩⟩
      rw [cut_nums hcl]
      refine ⟨_, rfl, by show 4 ≤ sizeLine; decide, fun t nt => ?_⟩
      refine q _ t x y ((s1.new ny).new nt) upd_same ?_ ?_
      · exact (((Same.refl _).new ny).new nt).il upd_same
      · exact ((Same.refl _).new nt).il upd_same

/-! ### answers -/
def sp_answers (K : PySem.W.Frag) : Sp := fun vs H Q _ => ∃ (a : Addr) (l : List Nat), vs = [.ref a] ∧ SqL K H a (nums l) ∧ PyWrpair.answers_asked (cast l) = true ∧ ∀ (H' : Hp) (p : Addr), AL H' p (PyWrpair.answers (cast l)) → Q (.ref p) H'
/-- ahead of each turn -/
structure Line (l : List Nat) (all : List Int) (H : Hp) (a so : Addr) (m : Nat) (σ : L2.St) (H' : Hp) : Prop where
  same : Same H H'
  ex : ∃ (pos f : Nat) (S : Mate.State) (raw : List (List (List Int))) (zs : List Int) (x : Addr) (v4 v5 v6 v7 v8 : Option V), m = raw.length ∧ pos ≤ l.length ∧ PyFlat.calls PyWrpair.shape f (cast (l.drop pos)) = some raw ∧
    (∀ c ∈ raw, PyInside.call PyWrpair.bound c = true) ∧ all = zs ++ toldOf S raw ∧ SR (Off so H') x S ∧ AL H' so zs ∧ σ = [some (.ref a), some (.ref so), some (.ref x), some (vN pos), v4, v5, v6, v7, v8]
theorem size_ten {n : Nat} (h : n ≤ 10000000) : n < sizeLine := by
  rw [sizeLine_eq]
  omega
theorem ok_answers {f : Addr} {fd : FuncData} (F : Fun K "answers" "answers" s_answers f fd) (B : Blt mg) {f_nobody_yet : Addr} {d_nobody_yet : FuncData} (c_nobody_yet : Cal P w K mg base "nobody_yet" 1 [] (sp_nobody_yet K) f_nobody_yet d_nobody_yet) {f_call_at : Addr} {d_call_at : FuncData} (c_call_at : Cal P w K mg base "call_at" 1 ["calls", "at"] (sp_call_at K) f_call_at d_call_at) {f_turn : Addr} {d_turn : FuncData} (c_turn : Cal P w K mg base "turn" 9 ["lists", "number", "numbers", "row"] (sp_turn K) f_turn d_turn) : FnOk P w K mg base CX0 10 f fd ["calls"] (sp_answers K) := by
  refine F.ok sc_answers (fun vs H Q E h => ?_) (fun cdv A outer s H vs Q E hr h => ?_)
  · obtain ⟨a, l, rfl, _⟩ := h
    rfl
  · obtain ⟨a, l, rfl, hl, hask, q⟩ := h
    obtain ⟨raw, hraw, hin, hans, hten⟩ := asked_is hask
    refine ⟨_, (pss_cons (ps_set (i := 1) sc_answers.nd rfl (.inl rfl) (pe_lst pa_nil))
      (pss_cons (ps_set (i := 2) sc_answers.nd rfl (.inl rfl) (pcall0 c_nobody_yet hr (by decide) (by rfl)))
      (pss_cons (ps_set (i := 3) sc_answers.nd rfl (.inl rfl) pe_int)
      (pss_cons (ps_while PassesOwn.never (pt_cmp (pc_lt (pv 3) (pe_callB (call_lenK (K := K) rfl) (by rfl) B.len PySem.boot_len (pa_cons (pv 0) pa_nil)))) (pss_cons (ps_asg (pcall c_call_at hr (by decide) (by rfl) (pa_cons (pv 0) (pa_cons (pv 3) pa_nil))) (pg_tup (by rfl) (pgs_cons (pg_name (i := 4) sc_answers.nd rfl (.inl rfl)) (pgs_cons (pg_name (i := 5) sc_answers.nd rfl (.inl rfl)) (pgs_cons (pg_name (i := 6) sc_answers.nd rfl (.inl rfl)) (pgs_cons (pg_name (i := 7) sc_answers.nd rfl (.inl rfl)) pgs_nil))))))
      (pss_cons (ps_asg (pcall c_turn hr (by decide) (by rfl) (pa_cons (pv 2) (pa_cons (pv 4) (pa_cons (pv 5) (pa_cons (pv 6) pa_nil))))) (pg_tup (by rfl) (pgs_cons (pg_name (i := 2) sc_answers.nd rfl (.inl rfl)) (pgs_cons (pg_name (i := 8) sc_answers.nd rfl (.inl rfl)) pgs_nil))))
      (pss_cons (ps_expr (pe_bm PySem.F.plainAttrs_list PySem.F.slot_list_append PySem.F.type_list_append mt_append (pv 1) (pa_cons (pe_callB (call_lenK (K := K) rfl) (by rfl) B.len PySem.boot_len (pa_cons (pv 8) pa_nil)) pa_nil)))
      (pss_cons (ps_expr (pe_bm PySem.F.plainAttrs_list PySem.F.slot_list_extend PySem.F.type_list_extend mt_extend (pv 1) (pa_cons (pv 8) pa_nil)))
      (pss_one (ps_set (i := 3) sc_answers.nd rfl (.inl rfl) (pv 7))))))))
      (pss_one (ps_ret (pv 1))))))), ?_⟩
    refine sq_new fun so no => ?_
    have s0 : Same H (upd H so (.lst [])) := (Same.refl H).new no
    refine sq_of ⟨rfl, fun H1 x s1 _ hoff => ?_⟩
    have hso1 : AL H1 so [] := s1 _ _ upd_same
    refine sq_set vp_c ?_
    refine ⟨Line l (PyWrpair.answers (cast l)) H a so, ⟨raw.length, s0.trans s1, 0, _, none, raw, [], x, none, none, none, none, none, rfl, Nat.zero_le _, hraw, hin, hans, ⟨hoff so (by rw [upd_same]; exact fun e => by cases e), fun k e => by cases e⟩, hso1, rfl⟩, ?_⟩
    clear hraw hin hans raw
    rintro m σ H2 ⟨s2, pos, fu, S, raw, zs, y, v4, v5, v6, v7, v8, rfl, hpos, hraw, hin, hans, hS, hso, rfl⟩
    have hl2 : SqL K H2 a (nums l) := s2.seq hl
    have vlen := vp_len (K := K) (ta := tVar 0) (σ := [some (.ref a), some (.ref so), some (.ref y), some (vN pos), v4, v5, v6, v7, v8]) (vp_var rfl) hl2
    rw [nums_len] at vlen
    refine tB_of (vp_cmp (vp_var (by rfl)) vlen _ ⟨_, rfl, ?_⟩)
    by_cases c : pos < l.length
    · refine if_T (decide_eq_true (by omega)) ?_
      obtain ⟨p, ns, row, behind, call, c0, raw', f', hat, hcall, hrow, rfl, hco, hraw'⟩ := read_one c hraw hin
      have hbe : behind ≤ l.length := by
        obtain ⟨n, k, _, _, h3, _, h4⟩ := hat.ex
        rcases h4 with ⟨_, _, rfl⟩ | ⟨_, q, _, h5, _, rfl⟩
        · exact h3
        · exact h5
      rw [told_cons hco] at hans
      refine ⟨Line l (PyWrpair.answers (cast l)) H a so raw'.length, fun σ' H' hn => ⟨raw'.length, by rw [List.length_cons]; omega, hn⟩, ?_⟩
      -- the call that stands there
      refine sq_asgOf (call2 (vp_var (by rfl)) (vp_var (by rfl)) ?_)
      refine ⟨a, l, pos, p, ns, row, behind, rfl, hl2, hat, fun H3 t x1 x2 s3 ht hx1 hx2 => ?_⟩
      refine ⟨t, _, rfl, SqT.of ht, rfl, _, _, rfl, _, _, rfl, _, _, rfl, _, _, rfl, rfl, ?_⟩
      -- its turn
      refine sq_asgOf (call4 (vp_var (by rfl)) (vp_var (by rfl)) (vp_var (by rfl)) (vp_var (by rfl)) ?_)
      refine ⟨y, x1, x2, S, p, ns, row, call, rfl, (hS.same (off_same so H2)).same s3, hx1, hx2, hrow, hcall, fun H4 t2 x3 x4 s4 n4 ht2 _ hap hA4 => ?_⟩
      refine ⟨t2, _, rfl, SqT.of ht2, rfl, _, _, rfl, _, _, rfl, rfl, ?_⟩
      have hso4 : AL H4 so zs := s4.al (s3.al hso)
      have hS4 : SR (Off so H4) x3 (Mate.step S call).1 := hap so (by rw [s3 _ _ hso]; exact fun e => by cases e) (hS.same (s3.off so))
      have nx4 : x4 ≠ so := ne_acc (s3 _ _ hso) n4
      have s24 := (s2.trans s3).trans s4
      have hA4' : AL H4 x4 (MateNeutral.shown (Mate.step S call).2) := hA4
      clear hA4
      generalize MateNeutral.shown (Mate.step S call).2 = ans at hans hA4'
      have htot : zs.length + 1 + ans.length ≤ 10000000 := by
        have e := congrArg List.length hans
        rw [List.length_append, List.length_append, List.length_cons] at e
        omega
      -- how many are answered
      refine ⟨.ref so, rfl, .inl ⟨rfl, _, SqL.of hso4⟩, _, rfl, x4, _, rfl, .inl (SqL.of hA4'), so, _, _, rfl, rfl, hso4, by rw [List.length_map]; exact size_ten (by omega), ?_⟩
      -- what is answered
      have hA5 : upd H4 so (.lst (zs.map V.int ++ [V.int ((ans.map V.int).length : Nat)])) x4 = some (.lst (ans.map V.int)) := by
        rw [upd_ne nx4]
        exact hA4'
      refine ⟨.ref so, rfl, .inl ⟨rfl, _, SqL.of upd_same⟩, _, rfl, so, x4, _, _, rfl, rfl, upd_same, hA5, ?_, ?_⟩
      · rw [List.length_append, List.length_map, List.length_map]
        exact Nat.le_of_lt (size_ten (by show zs.length + 1 + ans.length ≤ 10000000; exact htot))
      -- on to the next
      refine st_set (vp_var rfl) ?_
      refine ⟨(s24.mut no).mut no, behind, f', (Mate.step S call).1, raw', zs ++ (((ans.length : Nat) : Int) :: ans), x3, _, _, _, _, _, rfl, hbe, hraw', fun c hc => hin c (List.mem_cons_of_mem _ hc), ?_, ?_, ?_, rfl⟩
      · rw [hans, List.append_assoc]
      · rw [off_upd, off_upd]
        exact hS4
      · show upd _ _ _ _ = _
        rw [upd_same, List.length_map, List.map_append, List.append_assoc]
        rfl
    · refine if_F (decide_eq_false (by omega)) ?_
      have hend : l.drop pos = [] := List.drop_of_length_le (by omega)
      rw [hend] at hraw
      have er := calls_nil hraw
      subst er
      refine ⟨_, rfl, q H2 so ?_⟩
      rw [hans]
      show AL H2 so (zs ++ [])
      rw [List.append_nil]
      exact hso
end
end PO

/-! The end: what the top has written; the row. -/
namespace PO
open PySem PySem.Spec PyProof.Rows L2
def valsB : List Nat → List Value → Bool
  | [], [] => true
  | n :: r, .int i _ :: u => (i == (n : Int)) && valsB r u
  | _, _ => false
theorem valsB_ok : ∀ {l : List Nat} {us : List Value}, valsB l us = true → Vals (nums l) us
  | [], [], _ => .nil
  | n :: r, u :: us, h => by
    cases u with
    | int i t =>
      have h' : ((i == (n : Int)) && valsB r us) = true := h
      rw [Bool.and_eq_true, beq_iff_eq] at h'
      obtain ⟨h1, h2⟩ := h'
      subst h1
      exact .cons ⟨t, rfl⟩ (valsB_ok h2)
    | _ => cases h
  | [], _ :: _, h => by cases h
  | _ :: _, [], h => by cases h
theorem tup_at {K : PySem.W.Frag} {t : Addr} {od : Option Addr} {its : Array Value} {n : Nat} {sl : Array (Option Value)} {l : List Nat} (h : K.lookup t = some ⟨.type "tuple", od, .seq its n, sl⟩) (hv : valsB l its.toList = true) (hz : its.size ≤ sizeLine) : ∀ H, SqT K H t (nums l) :=
  fun H => .inr ⟨_, its, n, h, rfl, rfl, hz, valsB_ok hv⟩
theorem all_mk {P : Program} {w : World} {K : PySem.W.Frag} {h : Heap} {mg : Str → Option Value} {fa : Addr} (X : K.In h) (G : h.Ns mainGlobals mg) (hfa : mg "answers" = some (.ref fa))
    {f_cost : Addr} {oc_cost : Value} {od_cost an_cost : Option Addr} {sl_cost : Array (Option Value)} {kV_cost dc_cost pm_cost cd_cost ct_cost : Value}
    (a_cost : PySem.W.nsIn K mainGlobals "cost" = some (some (.ref f_cost))) (l_cost : K.lookup f_cost = some ⟨oc_cost, od_cost, .func (PySem.W.fnOf "cost" "cost" (defArgs s_cost) (defBody s_cost) (defScope s_cost) .none kV_cost dc_cost pm_cost an_cost cd_cost ct_cost), sl_cost⟩) (c_cost : PySem.W.codeIn K cd_cost "cost" = true) (k_cost : PySem.W.keepIn K (.ref f_cost) = true)
    {f_cost_row : Addr} {oc_cost_row : Value} {od_cost_row an_cost_row : Option Addr} {sl_cost_row : Array (Option Value)} {kV_cost_row dc_cost_row pm_cost_row cd_cost_row ct_cost_row : Value}
    (a_cost_row : PySem.W.nsIn K mainGlobals "cost_row" = some (some (.ref f_cost_row))) (l_cost_row : K.lookup f_cost_row = some ⟨oc_cost_row, od_cost_row, .func (PySem.W.fnOf "cost_row" "cost_row" (defArgs s_cost_row) (defBody s_cost_row) (defScope s_cost_row) .none kV_cost_row dc_cost_row pm_cost_row an_cost_row cd_cost_row ct_cost_row), sl_cost_row⟩) (c_cost_row : PySem.W.codeIn K cd_cost_row "cost_row" = true) (k_cost_row : PySem.W.keepIn K (.ref f_cost_row) = true)
    {f_cost_side : Addr} {oc_cost_side : Value} {od_cost_side an_cost_side : Option Addr} {sl_cost_side : Array (Option Value)} {kV_cost_side dc_cost_side pm_cost_side cd_cost_side ct_cost_side : Value}
    (a_cost_side : PySem.W.nsIn K mainGlobals "cost_side" = some (some (.ref f_cost_side))) (l_cost_side : K.lookup f_cost_side = some ⟨oc_cost_side, od_cost_side, .func (PySem.W.fnOf "cost_side" "cost_side" (defArgs s_cost_side) (defBody s_cost_side) (defScope s_cost_side) .none kV_cost_side dc_cost_side pm_cost_side an_cost_side cd_cost_side ct_cost_side), sl_cost_side⟩) (c_cost_side : PySem.W.codeIn K cd_cost_side "cost_side" = true) (k_cost_side : PySem.W.keepIn K (.ref f_cost_side) = true)
    {f_cost_table : Addr} {oc_cost_table : Value} {od_cost_table an_cost_table : Option Addr} {sl_cost_table : Array (Option Value)} {kV_cost_table dc_cost_table pm_cost_table cd_cost_table ct_cost_table : Value}
    (a_cost_table : PySem.W.nsIn K mainGlobals "cost_table" = some (some (.ref f_cost_table))) (l_cost_table : K.lookup f_cost_table = some ⟨oc_cost_table, od_cost_table, .func (PySem.W.fnOf "cost_table" "cost_table" (defArgs s_cost_table) (defBody s_cost_table) (defScope s_cost_table) .none kV_cost_table dc_cost_table pm_cost_table an_cost_table cd_cost_table ct_cost_table), sl_cost_table⟩) (c_cost_table : PySem.W.codeIn K cd_cost_table "cost_table" = true) (k_cost_table : PySem.W.keepIn K (.ref f_cost_table) = true)
    {f_entry_back : Addr} {oc_entry_back : Value} {od_entry_back an_entry_back : Option Addr} {sl_entry_back : Array (Option Value)} {kV_entry_back dc_entry_back pm_entry_back cd_entry_back ct_entry_back : Value}
    (a_entry_back : PySem.W.nsIn K mainGlobals "entry_back" = some (some (.ref f_entry_back))) (l_entry_back : K.lookup f_entry_back = some ⟨oc_entry_back, od_entry_back, .func (PySem.W.fnOf "entry_back" "entry_back" (defArgs s_entry_back) (defBody s_entry_back) (defScope s_entry_back) .none kV_entry_back dc_entry_back pm_entry_back an_entry_back cd_entry_back ct_entry_back), sl_entry_back⟩) (c_entry_back : PySem.W.codeIn K cd_entry_back "entry_back" = true) (k_entry_back : PySem.W.keepIn K (.ref f_entry_back) = true)
    {f_entry_of : Addr} {oc_entry_of : Value} {od_entry_of an_entry_of : Option Addr} {sl_entry_of : Array (Option Value)} {kV_entry_of dc_entry_of pm_entry_of cd_entry_of ct_entry_of : Value}
    (a_entry_of : PySem.W.nsIn K mainGlobals "entry_of" = some (some (.ref f_entry_of))) (l_entry_of : K.lookup f_entry_of = some ⟨oc_entry_of, od_entry_of, .func (PySem.W.fnOf "entry_of" "entry_of" (defArgs s_entry_of) (defBody s_entry_of) (defScope s_entry_of) .none kV_entry_of dc_entry_of pm_entry_of an_entry_of cd_entry_of ct_entry_of), sl_entry_of⟩) (c_entry_of : PySem.W.codeIn K cd_entry_of "entry_of" = true) (k_entry_of : PySem.W.keepIn K (.ref f_entry_of) = true)
    {f_mutual : Addr} {oc_mutual : Value} {od_mutual an_mutual : Option Addr} {sl_mutual : Array (Option Value)} {kV_mutual dc_mutual pm_mutual cd_mutual ct_mutual : Value}
    (a_mutual : PySem.W.nsIn K mainGlobals "mutual" = some (some (.ref f_mutual))) (l_mutual : K.lookup f_mutual = some ⟨oc_mutual, od_mutual, .func (PySem.W.fnOf "mutual" "mutual" (defArgs s_mutual) (defBody s_mutual) (defScope s_mutual) .none kV_mutual dc_mutual pm_mutual an_mutual cd_mutual ct_mutual), sl_mutual⟩) (c_mutual : PySem.W.codeIn K cd_mutual "mutual" = true) (k_mutual : PySem.W.keepIn K (.ref f_mutual) = true)
    {f_fits : Addr} {oc_fits : Value} {od_fits an_fits : Option Addr} {sl_fits : Array (Option Value)} {kV_fits dc_fits pm_fits cd_fits ct_fits : Value}
    (a_fits : PySem.W.nsIn K mainGlobals "fits" = some (some (.ref f_fits))) (l_fits : K.lookup f_fits = some ⟨oc_fits, od_fits, .func (PySem.W.fnOf "fits" "fits" (defArgs s_fits) (defBody s_fits) (defScope s_fits) .none kV_fits dc_fits pm_fits an_fits cd_fits ct_fits), sl_fits⟩) (c_fits : PySem.W.codeIn K cd_fits "fits" = true) (k_fits : PySem.W.keepIn K (.ref f_fits) = true)
    {f_is_way : Addr} {oc_is_way : Value} {od_is_way an_is_way : Option Addr} {sl_is_way : Array (Option Value)} {kV_is_way dc_is_way pm_is_way cd_is_way ct_is_way : Value}
    (a_is_way : PySem.W.nsIn K mainGlobals "is_way" = some (some (.ref f_is_way))) (l_is_way : K.lookup f_is_way = some ⟨oc_is_way, od_is_way, .func (PySem.W.fnOf "is_way" "is_way" (defArgs s_is_way) (defBody s_is_way) (defScope s_is_way) .none kV_is_way dc_is_way pm_is_way an_is_way cd_is_way ct_is_way), sl_is_way⟩) (c_is_way : PySem.W.codeIn K cd_is_way "is_way" = true) (k_is_way : PySem.W.keepIn K (.ref f_is_way) = true)
    {f_go_off : Addr} {oc_go_off : Value} {od_go_off an_go_off : Option Addr} {sl_go_off : Array (Option Value)} {kV_go_off dc_go_off pm_go_off cd_go_off ct_go_off : Value}
    (a_go_off : PySem.W.nsIn K mainGlobals "go_off" = some (some (.ref f_go_off))) (l_go_off : K.lookup f_go_off = some ⟨oc_go_off, od_go_off, .func (PySem.W.fnOf "go_off" "go_off" (defArgs s_go_off) (defBody s_go_off) (defScope s_go_off) .none kV_go_off dc_go_off pm_go_off an_go_off cd_go_off ct_go_off), sl_go_off⟩) (c_go_off : PySem.W.codeIn K cd_go_off "go_off" = true) (k_go_off : PySem.W.keepIn K (.ref f_go_off) = true)
    {f_off_pairs : Addr} {oc_off_pairs : Value} {od_off_pairs an_off_pairs : Option Addr} {sl_off_pairs : Array (Option Value)} {kV_off_pairs dc_off_pairs pm_off_pairs cd_off_pairs ct_off_pairs : Value}
    (a_off_pairs : PySem.W.nsIn K mainGlobals "off_pairs" = some (some (.ref f_off_pairs))) (l_off_pairs : K.lookup f_off_pairs = some ⟨oc_off_pairs, od_off_pairs, .func (PySem.W.fnOf "off_pairs" "off_pairs" (defArgs s_off_pairs) (defBody s_off_pairs) (defScope s_off_pairs) .none kV_off_pairs dc_off_pairs pm_off_pairs an_off_pairs cd_off_pairs ct_off_pairs), sl_off_pairs⟩) (c_off_pairs : PySem.W.codeIn K cd_off_pairs "off_pairs" = true) (k_off_pairs : PySem.W.keepIn K (.ref f_off_pairs) = true)
    {f_way_cost : Addr} {oc_way_cost : Value} {od_way_cost an_way_cost : Option Addr} {sl_way_cost : Array (Option Value)} {kV_way_cost dc_way_cost pm_way_cost cd_way_cost ct_way_cost : Value}
    (a_way_cost : PySem.W.nsIn K mainGlobals "way_cost" = some (some (.ref f_way_cost))) (l_way_cost : K.lookup f_way_cost = some ⟨oc_way_cost, od_way_cost, .func (PySem.W.fnOf "way_cost" "way_cost" (defArgs s_way_cost) (defBody s_way_cost) (defScope s_way_cost) .none kV_way_cost dc_way_cost pm_way_cost an_way_cost cd_way_cost ct_way_cost), sl_way_cost⟩) (c_way_cost : PySem.W.codeIn K cd_way_cost "way_cost" = true) (k_way_cost : PySem.W.keepIn K (.ref f_way_cost) = true)
    {f_next_asker : Addr} {oc_next_asker : Value} {od_next_asker an_next_asker : Option Addr} {sl_next_asker : Array (Option Value)} {kV_next_asker dc_next_asker pm_next_asker cd_next_asker ct_next_asker : Value}
    (a_next_asker : PySem.W.nsIn K mainGlobals "next_asker" = some (some (.ref f_next_asker))) (l_next_asker : K.lookup f_next_asker = some ⟨oc_next_asker, od_next_asker, .func (PySem.W.fnOf "next_asker" "next_asker" (defArgs s_next_asker) (defBody s_next_asker) (defScope s_next_asker) .none kV_next_asker dc_next_asker pm_next_asker an_next_asker cd_next_asker ct_next_asker), sl_next_asker⟩) (c_next_asker : PySem.W.codeIn K cd_next_asker "next_asker" = true) (k_next_asker : PySem.W.keepIn K (.ref f_next_asker) = true)
    {f_takes : Addr} {oc_takes : Value} {od_takes an_takes : Option Addr} {sl_takes : Array (Option Value)} {kV_takes dc_takes pm_takes cd_takes ct_takes : Value}
    (a_takes : PySem.W.nsIn K mainGlobals "takes" = some (some (.ref f_takes))) (l_takes : K.lookup f_takes = some ⟨oc_takes, od_takes, .func (PySem.W.fnOf "takes" "takes" (defArgs s_takes) (defBody s_takes) (defScope s_takes) .none kV_takes dc_takes pm_takes an_takes cd_takes ct_takes), sl_takes⟩) (c_takes : PySem.W.codeIn K cd_takes "takes" = true) (k_takes : PySem.W.keepIn K (.ref f_takes) = true)
    {f_all_askings : Addr} {oc_all_askings : Value} {od_all_askings an_all_askings : Option Addr} {sl_all_askings : Array (Option Value)} {kV_all_askings dc_all_askings pm_all_askings cd_all_askings ct_all_askings : Value}
    (a_all_askings : PySem.W.nsIn K mainGlobals "all_askings" = some (some (.ref f_all_askings))) (l_all_askings : K.lookup f_all_askings = some ⟨oc_all_askings, od_all_askings, .func (PySem.W.fnOf "all_askings" "all_askings" (defArgs s_all_askings) (defBody s_all_askings) (defScope s_all_askings) .none kV_all_askings dc_all_askings pm_all_askings an_all_askings cd_all_askings ct_all_askings), sl_all_askings⟩) (c_all_askings : PySem.W.codeIn K cd_all_askings "all_askings" = true) (k_all_askings : PySem.W.keepIn K (.ref f_all_askings) = true)
    {f_nobody_yet : Addr} {oc_nobody_yet : Value} {od_nobody_yet an_nobody_yet : Option Addr} {sl_nobody_yet : Array (Option Value)} {kV_nobody_yet dc_nobody_yet pm_nobody_yet cd_nobody_yet ct_nobody_yet : Value}
    (a_nobody_yet : PySem.W.nsIn K mainGlobals "nobody_yet" = some (some (.ref f_nobody_yet))) (l_nobody_yet : K.lookup f_nobody_yet = some ⟨oc_nobody_yet, od_nobody_yet, .func (PySem.W.fnOf "nobody_yet" "nobody_yet" (defArgs s_nobody_yet) (defBody s_nobody_yet) (defScope s_nobody_yet) .none kV_nobody_yet dc_nobody_yet pm_nobody_yet an_nobody_yet cd_nobody_yet ct_nobody_yet), sl_nobody_yet⟩) (c_nobody_yet : PySem.W.codeIn K cd_nobody_yet "nobody_yet" = true) (k_nobody_yet : PySem.W.keepIn K (.ref f_nobody_yet) = true)
    {f_blank : Addr} {oc_blank : Value} {od_blank an_blank : Option Addr} {sl_blank : Array (Option Value)} {kV_blank dc_blank pm_blank cd_blank ct_blank : Value}
    (a_blank : PySem.W.nsIn K mainGlobals "blank" = some (some (.ref f_blank))) (l_blank : K.lookup f_blank = some ⟨oc_blank, od_blank, .func (PySem.W.fnOf "blank" "blank" (defArgs s_blank) (defBody s_blank) (defScope s_blank) .none kV_blank dc_blank pm_blank an_blank cd_blank ct_blank), sl_blank⟩) (c_blank : PySem.W.codeIn K cd_blank "blank" = true) (k_blank : PySem.W.keepIn K (.ref f_blank) = true)
    {f_is_begun : Addr} {oc_is_begun : Value} {od_is_begun an_is_begun : Option Addr} {sl_is_begun : Array (Option Value)} {kV_is_begun dc_is_begun pm_is_begun cd_is_begun ct_is_begun : Value}
    (a_is_begun : PySem.W.nsIn K mainGlobals "is_begun" = some (some (.ref f_is_begun))) (l_is_begun : K.lookup f_is_begun = some ⟨oc_is_begun, od_is_begun, .func (PySem.W.fnOf "is_begun" "is_begun" (defArgs s_is_begun) (defBody s_is_begun) (defScope s_is_begun) .none kV_is_begun dc_is_begun pm_is_begun an_is_begun cd_is_begun ct_is_begun), sl_is_begun⟩) (c_is_begun : PySem.W.codeIn K cd_is_begun "is_begun" = true) (k_is_begun : PySem.W.keepIn K (.ref f_is_begun) = true)
    {f_swapped : Addr} {oc_swapped : Value} {od_swapped an_swapped : Option Addr} {sl_swapped : Array (Option Value)} {kV_swapped dc_swapped pm_swapped cd_swapped ct_swapped : Value}
    (a_swapped : PySem.W.nsIn K mainGlobals "swapped" = some (some (.ref f_swapped))) (l_swapped : K.lookup f_swapped = some ⟨oc_swapped, od_swapped, .func (PySem.W.fnOf "swapped" "swapped" (defArgs s_swapped) (defBody s_swapped) (defScope s_swapped) .none kV_swapped dc_swapped pm_swapped an_swapped cd_swapped ct_swapped), sl_swapped⟩) (c_swapped : PySem.W.codeIn K cd_swapped "swapped" = true) (k_swapped : PySem.W.keepIn K (.ref f_swapped) = true)
    {f_listable : Addr} {oc_listable : Value} {od_listable an_listable : Option Addr} {sl_listable : Array (Option Value)} {kV_listable dc_listable pm_listable cd_listable ct_listable : Value}
    (a_listable : PySem.W.nsIn K mainGlobals "listable" = some (some (.ref f_listable))) (l_listable : K.lookup f_listable = some ⟨oc_listable, od_listable, .func (PySem.W.fnOf "listable" "listable" (defArgs s_listable) (defBody s_listable) (defScope s_listable) .none kV_listable dc_listable pm_listable an_listable cd_listable ct_listable), sl_listable⟩) (c_listable : PySem.W.codeIn K cd_listable "listable" = true) (k_listable : PySem.W.keepIn K (.ref f_listable) = true)
    {f_refusal_of_side : Addr} {oc_refusal_of_side : Value} {od_refusal_of_side an_refusal_of_side : Option Addr} {sl_refusal_of_side : Array (Option Value)} {kV_refusal_of_side dc_refusal_of_side pm_refusal_of_side cd_refusal_of_side ct_refusal_of_side : Value}
    (a_refusal_of_side : PySem.W.nsIn K mainGlobals "refusal_of_side" = some (some (.ref f_refusal_of_side))) (l_refusal_of_side : K.lookup f_refusal_of_side = some ⟨oc_refusal_of_side, od_refusal_of_side, .func (PySem.W.fnOf "refusal_of_side" "refusal_of_side" (defArgs s_refusal_of_side) (defBody s_refusal_of_side) (defScope s_refusal_of_side) .none kV_refusal_of_side dc_refusal_of_side pm_refusal_of_side an_refusal_of_side cd_refusal_of_side ct_refusal_of_side), sl_refusal_of_side⟩) (c_refusal_of_side : PySem.W.codeIn K cd_refusal_of_side "refusal_of_side" = true) (k_refusal_of_side : PySem.W.keepIn K (.ref f_refusal_of_side) = true)
    {f_refusal_of_one : Addr} {oc_refusal_of_one : Value} {od_refusal_of_one an_refusal_of_one : Option Addr} {sl_refusal_of_one : Array (Option Value)} {kV_refusal_of_one dc_refusal_of_one pm_refusal_of_one cd_refusal_of_one ct_refusal_of_one : Value}
    (a_refusal_of_one : PySem.W.nsIn K mainGlobals "refusal_of_one" = some (some (.ref f_refusal_of_one))) (l_refusal_of_one : K.lookup f_refusal_of_one = some ⟨oc_refusal_of_one, od_refusal_of_one, .func (PySem.W.fnOf "refusal_of_one" "refusal_of_one" (defArgs s_refusal_of_one) (defBody s_refusal_of_one) (defScope s_refusal_of_one) .none kV_refusal_of_one dc_refusal_of_one pm_refusal_of_one an_refusal_of_one cd_refusal_of_one ct_refusal_of_one), sl_refusal_of_one⟩) (c_refusal_of_one : PySem.W.codeIn K cd_refusal_of_one "refusal_of_one" = true) (k_refusal_of_one : PySem.W.keepIn K (.ref f_refusal_of_one) = true)
    {f_refusal_of_list : Addr} {oc_refusal_of_list : Value} {od_refusal_of_list an_refusal_of_list : Option Addr} {sl_refusal_of_list : Array (Option Value)} {kV_refusal_of_list dc_refusal_of_list pm_refusal_of_list cd_refusal_of_list ct_refusal_of_list : Value}
    (a_refusal_of_list : PySem.W.nsIn K mainGlobals "refusal_of_list" = some (some (.ref f_refusal_of_list))) (l_refusal_of_list : K.lookup f_refusal_of_list = some ⟨oc_refusal_of_list, od_refusal_of_list, .func (PySem.W.fnOf "refusal_of_list" "refusal_of_list" (defArgs s_refusal_of_list) (defBody s_refusal_of_list) (defScope s_refusal_of_list) .none kV_refusal_of_list dc_refusal_of_list pm_refusal_of_list an_refusal_of_list cd_refusal_of_list ct_refusal_of_list), sl_refusal_of_list⟩) (c_refusal_of_list : PySem.W.codeIn K cd_refusal_of_list "refusal_of_list" = true) (k_refusal_of_list : PySem.W.keepIn K (.ref f_refusal_of_list) = true)
    {f_longer : Addr} {oc_longer : Value} {od_longer an_longer : Option Addr} {sl_longer : Array (Option Value)} {kV_longer dc_longer pm_longer cd_longer ct_longer : Value}
    (a_longer : PySem.W.nsIn K mainGlobals "longer" = some (some (.ref f_longer))) (l_longer : K.lookup f_longer = some ⟨oc_longer, od_longer, .func (PySem.W.fnOf "longer" "longer" (defArgs s_longer) (defBody s_longer) (defScope s_longer) .none kV_longer dc_longer pm_longer an_longer cd_longer ct_longer), sl_longer⟩) (c_longer : PySem.W.codeIn K cd_longer "longer" = true) (k_longer : PySem.W.keepIn K (.ref f_longer) = true)
    {f_torn : Addr} {oc_torn : Value} {od_torn an_torn : Option Addr} {sl_torn : Array (Option Value)} {kV_torn dc_torn pm_torn cd_torn ct_torn : Value}
    (a_torn : PySem.W.nsIn K mainGlobals "torn" = some (some (.ref f_torn))) (l_torn : K.lookup f_torn = some ⟨oc_torn, od_torn, .func (PySem.W.fnOf "torn" "torn" (defArgs s_torn) (defBody s_torn) (defScope s_torn) .none kV_torn dc_torn pm_torn an_torn cd_torn ct_torn), sl_torn⟩) (c_torn : PySem.W.codeIn K cd_torn "torn" = true) (k_torn : PySem.W.keepIn K (.ref f_torn) = true)
    {f_further : Addr} {oc_further : Value} {od_further an_further : Option Addr} {sl_further : Array (Option Value)} {kV_further dc_further pm_further cd_further ct_further : Value}
    (a_further : PySem.W.nsIn K mainGlobals "further" = some (some (.ref f_further))) (l_further : K.lookup f_further = some ⟨oc_further, od_further, .func (PySem.W.fnOf "further" "further" (defArgs s_further) (defBody s_further) (defScope s_further) .none kV_further dc_further pm_further an_further cd_further ct_further), sl_further⟩) (c_further : PySem.W.codeIn K cd_further "further" = true) (k_further : PySem.W.keepIn K (.ref f_further) = true)
    {f_stable_ways : Addr} {oc_stable_ways : Value} {od_stable_ways an_stable_ways : Option Addr} {sl_stable_ways : Array (Option Value)} {kV_stable_ways dc_stable_ways pm_stable_ways cd_stable_ways ct_stable_ways : Value}
    (a_stable_ways : PySem.W.nsIn K mainGlobals "stable_ways" = some (some (.ref f_stable_ways))) (l_stable_ways : K.lookup f_stable_ways = some ⟨oc_stable_ways, od_stable_ways, .func (PySem.W.fnOf "stable_ways" "stable_ways" (defArgs s_stable_ways) (defBody s_stable_ways) (defScope s_stable_ways) .none kV_stable_ways dc_stable_ways pm_stable_ways an_stable_ways cd_stable_ways ct_stable_ways), sl_stable_ways⟩) (c_stable_ways : PySem.W.codeIn K cd_stable_ways "stable_ways" = true) (k_stable_ways : PySem.W.keepIn K (.ref f_stable_ways) = true)
    {f_first_least : Addr} {oc_first_least : Value} {od_first_least an_first_least : Option Addr} {sl_first_least : Array (Option Value)} {kV_first_least dc_first_least pm_first_least cd_first_least ct_first_least : Value}
    (a_first_least : PySem.W.nsIn K mainGlobals "first_least" = some (some (.ref f_first_least))) (l_first_least : K.lookup f_first_least = some ⟨oc_first_least, od_first_least, .func (PySem.W.fnOf "first_least" "first_least" (defArgs s_first_least) (defBody s_first_least) (defScope s_first_least) .none kV_first_least dc_first_least pm_first_least an_first_least cd_first_least ct_first_least), sl_first_least⟩) (c_first_least : PySem.W.codeIn K cd_first_least "first_least" = true) (k_first_least : PySem.W.keepIn K (.ref f_first_least) = true)
    {f_best_way : Addr} {oc_best_way : Value} {od_best_way an_best_way : Option Addr} {sl_best_way : Array (Option Value)} {kV_best_way dc_best_way pm_best_way cd_best_way ct_best_way : Value}
    (a_best_way : PySem.W.nsIn K mainGlobals "best_way" = some (some (.ref f_best_way))) (l_best_way : K.lookup f_best_way = some ⟨oc_best_way, od_best_way, .func (PySem.W.fnOf "best_way" "best_way" (defArgs s_best_way) (defBody s_best_way) (defScope s_best_way) .none kV_best_way dc_best_way pm_best_way an_best_way cd_best_way ct_best_way), sl_best_way⟩) (c_best_way : PySem.W.codeIn K cd_best_way "best_way" = true) (k_best_way : PySem.W.keepIn K (.ref f_best_way) = true)
    {f_fair_way : Addr} {oc_fair_way : Value} {od_fair_way an_fair_way : Option Addr} {sl_fair_way : Array (Option Value)} {kV_fair_way dc_fair_way pm_fair_way cd_fair_way ct_fair_way : Value}
    (a_fair_way : PySem.W.nsIn K mainGlobals "fair_way" = some (some (.ref f_fair_way))) (l_fair_way : K.lookup f_fair_way = some ⟨oc_fair_way, od_fair_way, .func (PySem.W.fnOf "fair_way" "fair_way" (defArgs s_fair_way) (defBody s_fair_way) (defScope s_fair_way) .none kV_fair_way dc_fair_way pm_fair_way an_fair_way cd_fair_way ct_fair_way), sl_fair_way⟩) (c_fair_way : PySem.W.codeIn K cd_fair_way "fair_way" = true) (k_fair_way : PySem.W.keepIn K (.ref f_fair_way) = true)
    {f_chosen : Addr} {oc_chosen : Value} {od_chosen an_chosen : Option Addr} {sl_chosen : Array (Option Value)} {kV_chosen dc_chosen pm_chosen cd_chosen ct_chosen : Value}
    (a_chosen : PySem.W.nsIn K mainGlobals "chosen" = some (some (.ref f_chosen))) (l_chosen : K.lookup f_chosen = some ⟨oc_chosen, od_chosen, .func (PySem.W.fnOf "chosen" "chosen" (defArgs s_chosen) (defBody s_chosen) (defScope s_chosen) .none kV_chosen dc_chosen pm_chosen an_chosen cd_chosen ct_chosen), sl_chosen⟩) (c_chosen : PySem.W.codeIn K cd_chosen "chosen" = true) (k_chosen : PySem.W.keepIn K (.ref f_chosen) = true)
    {f_picked : Addr} {oc_picked : Value} {od_picked an_picked : Option Addr} {sl_picked : Array (Option Value)} {kV_picked dc_picked pm_picked cd_picked ct_picked : Value}
    (a_picked : PySem.W.nsIn K mainGlobals "picked" = some (some (.ref f_picked))) (l_picked : K.lookup f_picked = some ⟨oc_picked, od_picked, .func (PySem.W.fnOf "picked" "picked" (defArgs s_picked) (defBody s_picked) (defScope s_picked) .none kV_picked dc_picked pm_picked an_picked cd_picked ct_picked), sl_picked⟩) (c_picked : PySem.W.codeIn K cd_picked "picked" = true) (k_picked : PySem.W.keepIn K (.ref f_picked) = true)
    {f_together : Addr} {oc_together : Value} {od_together an_together : Option Addr} {sl_together : Array (Option Value)} {kV_together dc_together pm_together cd_together ct_together : Value}
    (a_together : PySem.W.nsIn K mainGlobals "together" = some (some (.ref f_together))) (l_together : K.lookup f_together = some ⟨oc_together, od_together, .func (PySem.W.fnOf "together" "together" (defArgs s_together) (defBody s_together) (defScope s_together) .none kV_together dc_together pm_together an_together cd_together ct_together), sl_together⟩) (c_together : PySem.W.codeIn K cd_together "together" = true) (k_together : PySem.W.keepIn K (.ref f_together) = true)
    {f_common_pairs : Addr} {oc_common_pairs : Value} {od_common_pairs an_common_pairs : Option Addr} {sl_common_pairs : Array (Option Value)} {kV_common_pairs dc_common_pairs pm_common_pairs cd_common_pairs ct_common_pairs : Value}
    (a_common_pairs : PySem.W.nsIn K mainGlobals "common_pairs" = some (some (.ref f_common_pairs))) (l_common_pairs : K.lookup f_common_pairs = some ⟨oc_common_pairs, od_common_pairs, .func (PySem.W.fnOf "common_pairs" "common_pairs" (defArgs s_common_pairs) (defBody s_common_pairs) (defScope s_common_pairs) .none kV_common_pairs dc_common_pairs pm_common_pairs an_common_pairs cd_common_pairs ct_common_pairs), sl_common_pairs⟩) (c_common_pairs : PySem.W.codeIn K cd_common_pairs "common_pairs" = true) (k_common_pairs : PySem.W.keepIn K (.ref f_common_pairs) = true)
    {f_call_at : Addr} {oc_call_at : Value} {od_call_at an_call_at : Option Addr} {sl_call_at : Array (Option Value)} {kV_call_at dc_call_at pm_call_at cd_call_at ct_call_at : Value}
    (a_call_at : PySem.W.nsIn K mainGlobals "call_at" = some (some (.ref f_call_at))) (l_call_at : K.lookup f_call_at = some ⟨oc_call_at, od_call_at, .func (PySem.W.fnOf "call_at" "call_at" (defArgs s_call_at) (defBody s_call_at) (defScope s_call_at) .none kV_call_at dc_call_at pm_call_at an_call_at cd_call_at ct_call_at), sl_call_at⟩) (c_call_at : PySem.W.codeIn K cd_call_at "call_at" = true) (k_call_at : PySem.W.keepIn K (.ref f_call_at) = true)
    {f_told : Addr} {oc_told : Value} {od_told an_told : Option Addr} {sl_told : Array (Option Value)} {kV_told dc_told pm_told cd_told ct_told : Value}
    (a_told : PySem.W.nsIn K mainGlobals "told" = some (some (.ref f_told))) (l_told : K.lookup f_told = some ⟨oc_told, od_told, .func (PySem.W.fnOf "told" "told" (defArgs s_told) (defBody s_told) (defScope s_told) .none kV_told dc_told pm_told an_told cd_told ct_told), sl_told⟩) (c_told : PySem.W.codeIn K cd_told "told" = true) (k_told : PySem.W.keepIn K (.ref f_told) = true)
    {f_flat : Addr} {oc_flat : Value} {od_flat an_flat : Option Addr} {sl_flat : Array (Option Value)} {kV_flat dc_flat pm_flat cd_flat ct_flat : Value}
    (a_flat : PySem.W.nsIn K mainGlobals "flat" = some (some (.ref f_flat))) (l_flat : K.lookup f_flat = some ⟨oc_flat, od_flat, .func (PySem.W.fnOf "flat" "flat" (defArgs s_flat) (defBody s_flat) (defScope s_flat) .none kV_flat dc_flat pm_flat an_flat cd_flat ct_flat), sl_flat⟩) (c_flat : PySem.W.codeIn K cd_flat "flat" = true) (k_flat : PySem.W.keepIn K (.ref f_flat) = true)
    {f_begin : Addr} {oc_begin : Value} {od_begin an_begin : Option Addr} {sl_begin : Array (Option Value)} {kV_begin dc_begin pm_begin cd_begin ct_begin : Value}
    (a_begin : PySem.W.nsIn K mainGlobals "begin" = some (some (.ref f_begin))) (l_begin : K.lookup f_begin = some ⟨oc_begin, od_begin, .func (PySem.W.fnOf "begin" "begin" (defArgs s_begin) (defBody s_begin) (defScope s_begin) .none kV_begin dc_begin pm_begin an_begin cd_begin ct_begin), sl_begin⟩) (c_begin : PySem.W.codeIn K cd_begin "begin" = true) (k_begin : PySem.W.keepIn K (.ref f_begin) = true)
    {f_likes : Addr} {oc_likes : Value} {od_likes an_likes : Option Addr} {sl_likes : Array (Option Value)} {kV_likes dc_likes pm_likes cd_likes ct_likes : Value}
    (a_likes : PySem.W.nsIn K mainGlobals "likes" = some (some (.ref f_likes))) (l_likes : K.lookup f_likes = some ⟨oc_likes, od_likes, .func (PySem.W.fnOf "likes" "likes" (defArgs s_likes) (defBody s_likes) (defScope s_likes) .none kV_likes dc_likes pm_likes an_likes cd_likes ct_likes), sl_likes⟩) (c_likes : PySem.W.codeIn K cd_likes "likes" = true) (k_likes : PySem.W.keepIn K (.ref f_likes) = true)
    {f_liked : Addr} {oc_liked : Value} {od_liked an_liked : Option Addr} {sl_liked : Array (Option Value)} {kV_liked dc_liked pm_liked cd_liked ct_liked : Value}
    (a_liked : PySem.W.nsIn K mainGlobals "liked" = some (some (.ref f_liked))) (l_liked : K.lookup f_liked = some ⟨oc_liked, od_liked, .func (PySem.W.fnOf "liked" "liked" (defArgs s_liked) (defBody s_liked) (defScope s_liked) .none kV_liked dc_liked pm_liked an_liked cd_liked ct_liked), sl_liked⟩) (c_liked : PySem.W.codeIn K cd_liked "liked" = true) (k_liked : PySem.W.keepIn K (.ref f_liked) = true)
    {f_offs : Addr} {oc_offs : Value} {od_offs an_offs : Option Addr} {sl_offs : Array (Option Value)} {kV_offs dc_offs pm_offs cd_offs ct_offs : Value}
    (a_offs : PySem.W.nsIn K mainGlobals "offs" = some (some (.ref f_offs))) (l_offs : K.lookup f_offs = some ⟨oc_offs, od_offs, .func (PySem.W.fnOf "offs" "offs" (defArgs s_offs) (defBody s_offs) (defScope s_offs) .none kV_offs dc_offs pm_offs an_offs cd_offs ct_offs), sl_offs⟩) (c_offs : PySem.W.codeIn K cd_offs "offs" = true) (k_offs : PySem.W.keepIn K (.ref f_offs) = true)
    {f_count_ways : Addr} {oc_count_ways : Value} {od_count_ways an_count_ways : Option Addr} {sl_count_ways : Array (Option Value)} {kV_count_ways dc_count_ways pm_count_ways cd_count_ways ct_count_ways : Value}
    (a_count_ways : PySem.W.nsIn K mainGlobals "count_ways" = some (some (.ref f_count_ways))) (l_count_ways : K.lookup f_count_ways = some ⟨oc_count_ways, od_count_ways, .func (PySem.W.fnOf "count_ways" "count_ways" (defArgs s_count_ways) (defBody s_count_ways) (defScope s_count_ways) .none kV_count_ways dc_count_ways pm_count_ways an_count_ways cd_count_ways ct_count_ways), sl_count_ways⟩) (c_count_ways : PySem.W.codeIn K cd_count_ways "count_ways" = true) (k_count_ways : PySem.W.keepIn K (.ref f_count_ways) = true)
    {f_way : Addr} {oc_way : Value} {od_way an_way : Option Addr} {sl_way : Array (Option Value)} {kV_way dc_way pm_way cd_way ct_way : Value}
    (a_way : PySem.W.nsIn K mainGlobals "way" = some (some (.ref f_way))) (l_way : K.lookup f_way = some ⟨oc_way, od_way, .func (PySem.W.fnOf "way" "way" (defArgs s_way) (defBody s_way) (defScope s_way) .none kV_way dc_way pm_way an_way cd_way ct_way), sl_way⟩) (c_way : PySem.W.codeIn K cd_way "way" = true) (k_way : PySem.W.keepIn K (.ref f_way) = true)
    {f_best : Addr} {oc_best : Value} {od_best an_best : Option Addr} {sl_best : Array (Option Value)} {kV_best dc_best pm_best cd_best ct_best : Value}
    (a_best : PySem.W.nsIn K mainGlobals "best" = some (some (.ref f_best))) (l_best : K.lookup f_best = some ⟨oc_best, od_best, .func (PySem.W.fnOf "best" "best" (defArgs s_best) (defBody s_best) (defScope s_best) .none kV_best dc_best pm_best an_best cd_best ct_best), sl_best⟩) (c_best : PySem.W.codeIn K cd_best "best" = true) (k_best : PySem.W.keepIn K (.ref f_best) = true)
    {f_fair : Addr} {oc_fair : Value} {od_fair an_fair : Option Addr} {sl_fair : Array (Option Value)} {kV_fair dc_fair pm_fair cd_fair ct_fair : Value}
    (a_fair : PySem.W.nsIn K mainGlobals "fair" = some (some (.ref f_fair))) (l_fair : K.lookup f_fair = some ⟨oc_fair, od_fair, .func (PySem.W.fnOf "fair" "fair" (defArgs s_fair) (defBody s_fair) (defScope s_fair) .none kV_fair dc_fair pm_fair an_fair cd_fair ct_fair), sl_fair⟩) (c_fair : PySem.W.codeIn K cd_fair "fair" = true) (k_fair : PySem.W.keepIn K (.ref f_fair) = true)
    {f_pick : Addr} {oc_pick : Value} {od_pick an_pick : Option Addr} {sl_pick : Array (Option Value)} {kV_pick dc_pick pm_pick cd_pick ct_pick : Value}
    (a_pick : PySem.W.nsIn K mainGlobals "pick" = some (some (.ref f_pick))) (l_pick : K.lookup f_pick = some ⟨oc_pick, od_pick, .func (PySem.W.fnOf "pick" "pick" (defArgs s_pick) (defBody s_pick) (defScope s_pick) .none kV_pick dc_pick pm_pick an_pick cd_pick ct_pick), sl_pick⟩) (c_pick : PySem.W.codeIn K cd_pick "pick" = true) (k_pick : PySem.W.keepIn K (.ref f_pick) = true)
    {f_pairs : Addr} {oc_pairs : Value} {od_pairs an_pairs : Option Addr} {sl_pairs : Array (Option Value)} {kV_pairs dc_pairs pm_pairs cd_pairs ct_pairs : Value}
    (a_pairs : PySem.W.nsIn K mainGlobals "pairs" = some (some (.ref f_pairs))) (l_pairs : K.lookup f_pairs = some ⟨oc_pairs, od_pairs, .func (PySem.W.fnOf "pairs" "pairs" (defArgs s_pairs) (defBody s_pairs) (defScope s_pairs) .none kV_pairs dc_pairs pm_pairs an_pairs cd_pairs ct_pairs), sl_pairs⟩) (c_pairs : PySem.W.codeIn K cd_pairs "pairs" = true) (k_pairs : PySem.W.keepIn K (.ref f_pairs) = true)
    {f_asks : Addr} {oc_asks : Value} {od_asks an_asks : Option Addr} {sl_asks : Array (Option Value)} {kV_asks dc_asks pm_asks cd_asks ct_asks : Value}
    (a_asks : PySem.W.nsIn K mainGlobals "asks" = some (some (.ref f_asks))) (l_asks : K.lookup f_asks = some ⟨oc_asks, od_asks, .func (PySem.W.fnOf "asks" "asks" (defArgs s_asks) (defBody s_asks) (defScope s_asks) .none kV_asks dc_asks pm_asks an_asks cd_asks ct_asks), sl_asks⟩) (c_asks : PySem.W.codeIn K cd_asks "asks" = true) (k_asks : PySem.W.keepIn K (.ref f_asks) = true)
    {f_wish : Addr} {oc_wish : Value} {od_wish an_wish : Option Addr} {sl_wish : Array (Option Value)} {kV_wish dc_wish pm_wish cd_wish ct_wish : Value}
    (a_wish : PySem.W.nsIn K mainGlobals "wish" = some (some (.ref f_wish))) (l_wish : K.lookup f_wish = some ⟨oc_wish, od_wish, .func (PySem.W.fnOf "wish" "wish" (defArgs s_wish) (defBody s_wish) (defScope s_wish) .none kV_wish dc_wish pm_wish an_wish cd_wish ct_wish), sl_wish⟩) (c_wish : PySem.W.codeIn K cd_wish "wish" = true) (k_wish : PySem.W.keepIn K (.ref f_wish) = true)
    {f_telling : Addr} {oc_telling : Value} {od_telling an_telling : Option Addr} {sl_telling : Array (Option Value)} {kV_telling dc_telling pm_telling cd_telling ct_telling : Value}
    (a_telling : PySem.W.nsIn K mainGlobals "telling" = some (some (.ref f_telling))) (l_telling : K.lookup f_telling = some ⟨oc_telling, od_telling, .func (PySem.W.fnOf "telling" "telling" (defArgs s_telling) (defBody s_telling) (defScope s_telling) .none kV_telling dc_telling pm_telling an_telling cd_telling ct_telling), sl_telling⟩) (c_telling : PySem.W.codeIn K cd_telling "telling" = true) (k_telling : PySem.W.keepIn K (.ref f_telling) = true)
    {f_turn : Addr} {oc_turn : Value} {od_turn an_turn : Option Addr} {sl_turn : Array (Option Value)} {kV_turn dc_turn pm_turn cd_turn ct_turn : Value}
    (a_turn : PySem.W.nsIn K mainGlobals "turn" = some (some (.ref f_turn))) (l_turn : K.lookup f_turn = some ⟨oc_turn, od_turn, .func (PySem.W.fnOf "turn" "turn" (defArgs s_turn) (defBody s_turn) (defScope s_turn) .none kV_turn dc_turn pm_turn an_turn cd_turn ct_turn), sl_turn⟩) (c_turn : PySem.W.codeIn K cd_turn "turn" = true) (k_turn : PySem.W.keepIn K (.ref f_turn) = true)
    {f_answers : Addr} {oc_answers : Value} {od_answers an_answers : Option Addr} {sl_answers : Array (Option Value)} {kV_answers dc_answers pm_answers cd_answers ct_answers : Value}
    (a_answers : PySem.W.nsIn K mainGlobals "answers" = some (some (.ref f_answers))) (l_answers : K.lookup f_answers = some ⟨oc_answers, od_answers, .func (PySem.W.fnOf "answers" "answers" (defArgs s_answers) (defBody s_answers) (defScope s_answers) .none kV_answers dc_answers pm_answers an_answers cd_answers ct_answers), sl_answers⟩) (c_answers : PySem.W.codeIn K cd_answers "answers" = true) (k_answers : PySem.W.keepIn K (.ref f_answers) = true)
    (z_len : PySem.W.nsIn K mainGlobals "len" = some none)
    (z_range : PySem.W.nsIn K mainGlobals "range" = some none)
    (z_enumerate : PySem.W.nsIn K mainGlobals "enumerate" = some none)
    (z_sum : PySem.W.nsIn K mainGlobals "sum" = some none)
    (z_list : PySem.W.nsIn K mainGlobals "list" = some none)
    {t_NUMBERS : Addr} {od_NUMBERS : Option Addr} {it_NUMBERS : Array Value} {n_NUMBERS : Nat} {sl_NUMBERS : Array (Option Value)}
    (a_NUMBERS : PySem.W.nsIn K mainGlobals "NUMBERS" = some (some (.ref t_NUMBERS))) (l_NUMBERS : K.lookup t_NUMBERS = some ⟨.type "tuple", od_NUMBERS, .seq it_NUMBERS n_NUMBERS, sl_NUMBERS⟩) (v_NUMBERS : valsB tabN it_NUMBERS.toList = true) (s_NUMBERS : it_NUMBERS.size ≤ sizeLine)
    {t_ROWS : Addr} {od_ROWS : Option Addr} {it_ROWS : Array Value} {n_ROWS : Nat} {sl_ROWS : Array (Option Value)}
    (a_ROWS : PySem.W.nsIn K mainGlobals "ROWS" = some (some (.ref t_ROWS))) (l_ROWS : K.lookup t_ROWS = some ⟨.type "tuple", od_ROWS, .seq it_ROWS n_ROWS, sl_ROWS⟩) (v_ROWS : valsB tabR it_ROWS.toList = true) (s_ROWS : it_ROWS.size ≤ sizeLine)
    : ∃ fd : FuncData, (∀ (s : Shared) (us : List Value), us.length = (["calls"] : List Str).length → BindsTo s fd ⟨us, []⟩ ((["calls"] : List Str).zip us)) ∧ ∀ base : Heap, K.In base → base.Ns mainGlobals mg → FnOk P w K mg base CX0 10 fa fd ["calls"] (sp_answers K) := by
  have e := hfa.symm.trans (PySem.W.mg_of X G a_answers)
  cases e
  have B : Blt mg := ⟨PySem.W.mg_none_of X G z_len, PySem.W.mg_none_of X G z_range, PySem.W.mg_none_of X G z_enumerate, PySem.W.mg_none_of X G z_sum, PySem.W.mg_none_of X G z_list⟩
  have F_answers := fun_mk (st := s_answers) l_answers c_answers k_answers
  refine ⟨PySem.W.fnOf "answers" "answers" (defArgs s_answers) (defBody s_answers) (defScope s_answers) .none kV_answers dc_answers pm_answers an_answers cd_answers ct_answers, fun s us hu => match us, hu with | [_], _ => .of_eq rfl, fun base _ _ => ?_⟩
  have F_cost := fun_mk (st := s_cost) l_cost c_cost k_cost
  have c_cost : Cal P w K mg base "cost" 1 ["liking", "x"] (sp_cost K) f_cost _ := ⟨ok_cost F_cost B, PySem.W.mg_of X G a_cost, k_cost, F_cost.binds (ps := ["liking", "x"]) fun _ _ _ _ _ _ us hl => match us, hl with | [_, _], _ => rfl⟩
  have F_entry_back := fun_mk (st := s_entry_back) l_entry_back c_entry_back k_entry_back
  have c_entry_back : Cal P w K mg base "entry_back" 1 ["w", "j"] (sp_entry_back K) f_entry_back _ := ⟨ok_entry_back F_entry_back B, PySem.W.mg_of X G a_entry_back, k_entry_back, F_entry_back.binds (ps := ["w", "j"]) fun _ _ _ _ _ _ us hl => match us, hl with | [_, _], _ => rfl⟩
  have F_mutual := fun_mk (st := s_mutual) l_mutual c_mutual k_mutual
  have c_mutual : Cal P w K mg base "mutual" 1 ["table", "i", "j"] (sp_mutual K) f_mutual _ := ⟨ok_mutual F_mutual B, PySem.W.mg_of X G a_mutual, k_mutual, F_mutual.binds (ps := ["table", "i", "j"]) fun _ _ _ _ _ _ us hl => match us, hl with | [_, _, _], _ => rfl⟩
  have F_nobody_yet := fun_mk (st := s_nobody_yet) l_nobody_yet c_nobody_yet k_nobody_yet
  have c_nobody_yet : Cal P w K mg base "nobody_yet" 1 [] (sp_nobody_yet K) f_nobody_yet _ := ⟨ok_nobody_yet F_nobody_yet B, PySem.W.mg_of X G a_nobody_yet, k_nobody_yet, F_nobody_yet.binds (ps := []) fun _ _ _ _ _ _ us hl => match us, hl with | [], _ => rfl⟩
  have F_blank := fun_mk (st := s_blank) l_blank c_blank k_blank
  have c_blank : Cal P w K mg base "blank" 1 ["n", "m"] (sp_blank K) f_blank _ := ⟨ok_blank F_blank B, PySem.W.mg_of X G a_blank, k_blank, F_blank.binds (ps := ["n", "m"]) fun _ _ _ _ _ _ us hl => match us, hl with | [_, _], _ => rfl⟩
  have F_is_begun := fun_mk (st := s_is_begun) l_is_begun c_is_begun k_is_begun
  have c_is_begun : Cal P w K mg base "is_begun" 1 ["lists"] (sp_is_begun K) f_is_begun _ := ⟨ok_is_begun F_is_begun B, PySem.W.mg_of X G a_is_begun, k_is_begun, F_is_begun.binds (ps := ["lists"]) fun _ _ _ _ _ _ us hl => match us, hl with | [_], _ => rfl⟩
  have F_swapped := fun_mk (st := s_swapped) l_swapped c_swapped k_swapped
  have c_swapped : Cal P w K mg base "swapped" 1 ["lists", "s", "i", "liking"] (sp_swapped K) f_swapped _ := ⟨ok_swapped F_swapped B, PySem.W.mg_of X G a_swapped, k_swapped, F_swapped.binds (ps := ["lists", "s", "i", "liking"]) fun _ _ _ _ _ _ us hl => match us, hl with | [_, _, _, _], _ => rfl⟩
  have F_listable := fun_mk (st := s_listable) l_listable c_listable k_listable
  have c_listable : Cal P w K mg base "listable" 1 ["liking", "others"] (sp_listable K) f_listable _ := ⟨ok_listable F_listable B, PySem.W.mg_of X G a_listable, k_listable, F_listable.binds (ps := ["liking", "others"]) fun _ _ _ _ _ _ us hl => match us, hl with | [_, _], _ => rfl⟩
  have F_refusal_of_side := fun_mk (st := s_refusal_of_side) l_refusal_of_side c_refusal_of_side k_refusal_of_side
  have c_refusal_of_side : Cal P w K mg base "refusal_of_side" 1 ["s"] (sp_refusal_of_side K) f_refusal_of_side _ := ⟨ok_refusal_of_side F_refusal_of_side B, PySem.W.mg_of X G a_refusal_of_side, k_refusal_of_side, F_refusal_of_side.binds (ps := ["s"]) fun _ _ _ _ _ _ us hl => match us, hl with | [_], _ => rfl⟩
  have F_refusal_of_one := fun_mk (st := s_refusal_of_one) l_refusal_of_one c_refusal_of_one k_refusal_of_one
  have c_refusal_of_one : Cal P w K mg base "refusal_of_one" 1 ["lists", "s", "i"] (sp_refusal_of_one K) f_refusal_of_one _ := ⟨ok_refusal_of_one F_refusal_of_one B, PySem.W.mg_of X G a_refusal_of_one, k_refusal_of_one, F_refusal_of_one.binds (ps := ["lists", "s", "i"]) fun _ _ _ _ _ _ us hl => match us, hl with | [_, _, _], _ => rfl⟩
  have F_first_least := fun_mk (st := s_first_least) l_first_least c_first_least k_first_least
  have c_first_least : Cal P w K mg base "first_least" 1 ["numbers"] (sp_first_least K) f_first_least _ := ⟨ok_first_least F_first_least B, PySem.W.mg_of X G a_first_least, k_first_least, F_first_least.binds (ps := ["numbers"]) fun _ _ _ _ _ _ us hl => match us, hl with | [_], _ => rfl⟩
  have F_chosen := fun_mk (st := s_chosen) l_chosen c_chosen k_chosen
  have c_chosen : Cal P w K mg base "chosen" 1 ["row", "x", "a", "b"] (sp_chosen K) f_chosen _ := ⟨ok_chosen F_chosen B, PySem.W.mg_of X G a_chosen, k_chosen, F_chosen.binds (ps := ["row", "x", "a", "b"]) fun _ _ _ _ _ _ us hl => match us, hl with | [_, _, _, _], _ => rfl⟩
  have F_together := fun_mk (st := s_together) l_together c_together k_together
  have c_together : Cal P w K mg base "together" 1 ["ways", "i", "j"] (sp_together K) f_together _ := ⟨ok_together F_together B, PySem.W.mg_of X G a_together, k_together, F_together.binds (ps := ["ways", "i", "j"]) fun _ _ _ _ _ _ us hl => match us, hl with | [_, _, _], _ => rfl⟩
  have F_call_at := fun_mk (st := s_call_at) l_call_at c_call_at k_call_at
  have c_call_at : Cal P w K mg base "call_at" 1 ["calls", "at"] (sp_call_at K) f_call_at _ := ⟨ok_call_at F_call_at (PySem.W.mg_of X G a_NUMBERS) (PySem.W.mg_of X G a_ROWS) (tup_at l_NUMBERS v_NUMBERS s_NUMBERS) (tup_at l_ROWS v_ROWS s_ROWS), PySem.W.mg_of X G a_call_at, k_call_at, F_call_at.binds (ps := ["calls", "at"]) fun _ _ _ _ _ _ us hl => match us, hl with | [_, _], _ => rfl⟩
  have F_told := fun_mk (st := s_told) l_told c_told k_told
  have c_told : Cal P w K mg base "told" 1 ["number", "row"] (sp_told K) f_told _ := ⟨ok_told F_told B, PySem.W.mg_of X G a_told, k_told, F_told.binds (ps := ["number", "row"]) fun _ _ _ _ _ _ us hl => match us, hl with | [_, _], _ => rfl⟩
  have F_flat := fun_mk (st := s_flat) l_flat c_flat k_flat
  have c_flat : Cal P w K mg base "flat" 1 ["pairs"] (sp_flat K) f_flat _ := ⟨ok_flat F_flat B, PySem.W.mg_of X G a_flat, k_flat, F_flat.binds (ps := ["pairs"]) fun _ _ _ _ _ _ us hl => match us, hl with | [_], _ => rfl⟩
  have F_cost_row := fun_mk (st := s_cost_row) l_cost_row c_cost_row k_cost_row
  have c_cost_row : Cal P w K mg base "cost_row" 2 ["liking", "others"] (sp_cost_row K) f_cost_row _ := ⟨ok_cost_row F_cost_row B c_cost, PySem.W.mg_of X G a_cost_row, k_cost_row, F_cost_row.binds (ps := ["liking", "others"]) fun _ _ _ _ _ _ us hl => match us, hl with | [_, _], _ => rfl⟩
  have F_entry_of := fun_mk (st := s_entry_of) l_entry_of c_entry_of k_entry_of
  have c_entry_of : Cal P w K mg base "entry_of" 2 ["w", "s", "i"] (sp_entry_of K) f_entry_of _ := ⟨ok_entry_of F_entry_of B c_entry_back, PySem.W.mg_of X G a_entry_of, k_entry_of, F_entry_of.binds (ps := ["w", "s", "i"]) fun _ _ _ _ _ _ us hl => match us, hl with | [_, _, _], _ => rfl⟩
  have F_fits := fun_mk (st := s_fits) l_fits c_fits k_fits
  have c_fits : Cal P w K mg base "fits" 2 ["table", "w", "i"] (sp_fits K) f_fits _ := ⟨ok_fits F_fits B c_mutual, PySem.W.mg_of X G a_fits, k_fits, F_fits.binds (ps := ["table", "w", "i"]) fun _ _ _ _ _ _ us hl => match us, hl with | [_, _, _], _ => rfl⟩
  have F_go_off := fun_mk (st := s_go_off) l_go_off c_go_off k_go_off
  have c_go_off : Cal P w K mg base "go_off" 2 ["table", "w", "i", "j"] (sp_go_off K) f_go_off _ := ⟨ok_go_off F_go_off B c_entry_back, PySem.W.mg_of X G a_go_off, k_go_off, F_go_off.binds (ps := ["table", "w", "i", "j"]) fun _ _ _ _ _ _ us hl => match us, hl with | [_, _, _, _], _ => rfl⟩
  have F_next_asker := fun_mk (st := s_next_asker) l_next_asker c_next_asker k_next_asker
  have c_next_asker : Cal P w K mg base "next_asker" 2 ["own", "at", "held"] (sp_next_asker K) f_next_asker _ := ⟨ok_next_asker F_next_asker B c_entry_back, PySem.W.mg_of X G a_next_asker, k_next_asker, F_next_asker.binds (ps := ["own", "at", "held"]) fun _ _ _ _ _ _ us hl => match us, hl with | [_, _, _], _ => rfl⟩
  have F_takes := fun_mk (st := s_takes) l_takes c_takes k_takes
  have c_takes : Cal P w K mg base "takes" 2 ["liking", "held_entry", "i"] (sp_takes K) f_takes _ := ⟨ok_takes F_takes B c_cost, PySem.W.mg_of X G a_takes, k_takes, F_takes.binds (ps := ["liking", "held_entry", "i"]) fun _ _ _ _ _ _ us hl => match us, hl with | [_, _, _], _ => rfl⟩
  have F_refusal_of_list := fun_mk (st := s_refusal_of_list) l_refusal_of_list c_refusal_of_list k_refusal_of_list
  have c_refusal_of_list : Cal P w K mg base "refusal_of_list" 2 ["lists", "s", "i", "liking"] (sp_refusal_of_list K) f_refusal_of_list _ := ⟨ok_refusal_of_list F_refusal_of_list B c_refusal_of_one c_listable, PySem.W.mg_of X G a_refusal_of_list, k_refusal_of_list, F_refusal_of_list.binds (ps := ["lists", "s", "i", "liking"]) fun _ _ _ _ _ _ us hl => match us, hl with | [_, _, _, _], _ => rfl⟩
  have F_longer := fun_mk (st := s_longer) l_longer c_longer k_longer
  have c_longer : Cal P w K mg base "longer" 2 ["table", "w"] (sp_longer K) f_longer _ := ⟨ok_longer F_longer B c_mutual, PySem.W.mg_of X G a_longer, k_longer, F_longer.binds (ps := ["table", "w"]) fun _ _ _ _ _ _ us hl => match us, hl with | [_, _], _ => rfl⟩
  have F_picked := fun_mk (st := s_picked) l_picked c_picked k_picked
  have c_picked : Cal P w K mg base "picked" 2 ["table", "x", "v", "w"] (sp_picked K) f_picked _ := ⟨ok_picked F_picked B c_chosen, PySem.W.mg_of X G a_picked, k_picked, F_picked.binds (ps := ["table", "x", "v", "w"]) fun _ _ _ _ _ _ us hl => match us, hl with | [_, _, _, _], _ => rfl⟩
  have F_begin := fun_mk (st := s_begin) l_begin c_begin k_begin
  have c_begin : Cal P w K mg base "begin" 2 ["lists", "n", "m"] (sp_begin K) f_begin _ := ⟨ok_begin F_begin B c_blank, PySem.W.mg_of X G a_begin, k_begin, F_begin.binds (ps := ["lists", "n", "m"]) fun _ _ _ _ _ _ us hl => match us, hl with | [_, _, _], _ => rfl⟩
  have F_liked := fun_mk (st := s_liked) l_liked c_liked k_liked
  have c_liked : Cal P w K mg base "liked" 2 ["lists", "s", "i"] (sp_liked K) f_liked _ := ⟨ok_liked F_liked B c_refusal_of_one c_told, PySem.W.mg_of X G a_liked, k_liked, F_liked.binds (ps := ["lists", "s", "i"]) fun _ _ _ _ _ _ us hl => match us, hl with | [_, _, _], _ => rfl⟩
  have F_cost_side := fun_mk (st := s_cost_side) l_cost_side c_cost_side k_cost_side
  have c_cost_side : Cal P w K mg base "cost_side" 3 ["side", "others"] (sp_cost_side K) f_cost_side _ := ⟨ok_cost_side F_cost_side B c_cost_row, PySem.W.mg_of X G a_cost_side, k_cost_side, F_cost_side.binds (ps := ["side", "others"]) fun _ _ _ _ _ _ us hl => match us, hl with | [_, _], _ => rfl⟩
  have F_is_way := fun_mk (st := s_is_way) l_is_way c_is_way k_is_way
  have c_is_way : Cal P w K mg base "is_way" 3 ["table", "w"] (sp_is_way K) f_is_way _ := ⟨ok_is_way F_is_way B c_fits, PySem.W.mg_of X G a_is_way, k_is_way, F_is_way.binds (ps := ["table", "w"]) fun _ _ _ _ _ _ us hl => match us, hl with | [_, _], _ => rfl⟩
  have F_off_pairs := fun_mk (st := s_off_pairs) l_off_pairs c_off_pairs k_off_pairs
  have c_off_pairs : Cal P w K mg base "off_pairs" 3 ["table", "w"] (sp_off_pairs K) f_off_pairs _ := ⟨ok_off_pairs F_off_pairs B c_go_off, PySem.W.mg_of X G a_off_pairs, k_off_pairs, F_off_pairs.binds (ps := ["table", "w"]) fun _ _ _ _ _ _ us hl => match us, hl with | [_, _], _ => rfl⟩
  have F_way_cost := fun_mk (st := s_way_cost) l_way_cost c_way_cost k_way_cost
  have c_way_cost : Cal P w K mg base "way_cost" 3 ["table", "w", "s"] (sp_way_cost K) f_way_cost _ := ⟨ok_way_cost F_way_cost B c_entry_of, PySem.W.mg_of X G a_way_cost, k_way_cost, F_way_cost.binds (ps := ["table", "w", "s"]) fun _ _ _ _ _ _ us hl => match us, hl with | [_, _, _], _ => rfl⟩
  have F_all_askings := fun_mk (st := s_all_askings) l_all_askings c_all_askings k_all_askings
  have c_all_askings : Cal P w K mg base "all_askings" 3 ["lists", "s"] (sp_all_askings K) f_all_askings _ := ⟨ok_all_askings F_all_askings B c_next_asker c_takes c_entry_back, PySem.W.mg_of X G a_all_askings, k_all_askings, F_all_askings.binds (ps := ["lists", "s"]) fun _ _ _ _ _ _ us hl => match us, hl with | [_, _], _ => rfl⟩
  have F_torn := fun_mk (st := s_torn) l_torn c_torn k_torn
  have c_torn : Cal P w K mg base "torn" 3 ["table", "w"] (sp_torn K) f_torn _ := ⟨ok_torn F_torn B c_go_off, PySem.W.mg_of X G a_torn, k_torn, F_torn.binds (ps := ["table", "w"]) fun _ _ _ _ _ _ us hl => match us, hl with | [_, _], _ => rfl⟩
  have F_likes := fun_mk (st := s_likes) l_likes c_likes k_likes
  have c_likes : Cal P w K mg base "likes" 3 ["lists", "s", "i", "liking"] (sp_likes K) f_likes _ := ⟨ok_likes F_likes B c_refusal_of_list c_swapped, PySem.W.mg_of X G a_likes, k_likes, F_likes.binds (ps := ["lists", "s", "i", "liking"]) fun _ _ _ _ _ _ us hl => match us, hl with | [_, _, _, _], _ => rfl⟩
  have F_cost_table := fun_mk (st := s_cost_table) l_cost_table c_cost_table k_cost_table
  have c_cost_table : Cal P w K mg base "cost_table" 4 ["lists"] (sp_cost_table K) f_cost_table _ := ⟨ok_cost_table F_cost_table B c_cost_side, PySem.W.mg_of X G a_cost_table, k_cost_table, F_cost_table.binds (ps := ["lists"]) fun _ _ _ _ _ _ us hl => match us, hl with | [_], _ => rfl⟩
  have F_further := fun_mk (st := s_further) l_further c_further k_further
  have c_further : Cal P w K mg base "further" 4 ["table", "begun"] (sp_further K) f_further _ := ⟨ok_further F_further B c_longer c_torn, PySem.W.mg_of X G a_further, k_further, F_further.binds (ps := ["table", "begun"]) fun _ _ _ _ _ _ us hl => match us, hl with | [_, _], _ => rfl⟩
  have F_asks := fun_mk (st := s_asks) l_asks c_asks k_asks
  have c_asks : Cal P w K mg base "asks" 4 ["lists", "s"] (sp_asks K) f_asks _ := ⟨ok_asks F_asks B c_refusal_of_side c_all_askings c_told, PySem.W.mg_of X G a_asks, k_asks, F_asks.binds (ps := ["lists", "s"]) fun _ _ _ _ _ _ us hl => match us, hl with | [_, _], _ => rfl⟩
  have F_stable_ways := fun_mk (st := s_stable_ways) l_stable_ways c_stable_ways k_stable_ways
  have c_stable_ways : Cal P w K mg base "stable_ways" 5 ["table"] (sp_stable_ways K) f_stable_ways _ := ⟨ok_stable_ways F_stable_ways B c_further c_off_pairs, PySem.W.mg_of X G a_stable_ways, k_stable_ways, F_stable_ways.binds (ps := ["table"]) fun _ _ _ _ _ _ us hl => match us, hl with | [_], _ => rfl⟩
  have F_offs := fun_mk (st := s_offs) l_offs c_offs k_offs
  have c_offs : Cal P w K mg base "offs" 5 ["lists", "w"] (sp_offs K) f_offs _ := ⟨ok_offs F_offs B c_cost_table c_off_pairs c_told c_is_way c_flat, PySem.W.mg_of X G a_offs, k_offs, F_offs.binds (ps := ["lists", "w"]) fun _ _ _ _ _ _ us hl => match us, hl with | [_, _], _ => rfl⟩
  have F_best_way := fun_mk (st := s_best_way) l_best_way c_best_way k_best_way
  have c_best_way : Cal P w K mg base "best_way" 6 ["table", "s"] (sp_best_way K) f_best_way _ := ⟨ok_best_way F_best_way B c_stable_ways c_first_least c_way_cost, PySem.W.mg_of X G a_best_way, k_best_way, F_best_way.binds (ps := ["table", "s"]) fun _ _ _ _ _ _ us hl => match us, hl with | [_, _], _ => rfl⟩
  have F_fair_way := fun_mk (st := s_fair_way) l_fair_way c_fair_way k_fair_way
  have c_fair_way : Cal P w K mg base "fair_way" 6 ["table"] (sp_fair_way K) f_fair_way _ := ⟨ok_fair_way F_fair_way B c_stable_ways c_first_least c_way_cost, PySem.W.mg_of X G a_fair_way, k_fair_way, F_fair_way.binds (ps := ["table"]) fun _ _ _ _ _ _ us hl => match us, hl with | [_], _ => rfl⟩
  have F_common_pairs := fun_mk (st := s_common_pairs) l_common_pairs c_common_pairs k_common_pairs
  have c_common_pairs : Cal P w K mg base "common_pairs" 6 ["table"] (sp_common_pairs K) f_common_pairs _ := ⟨ok_common_pairs F_common_pairs B c_stable_ways c_together, PySem.W.mg_of X G a_common_pairs, k_common_pairs, F_common_pairs.binds (ps := ["table"]) fun _ _ _ _ _ _ us hl => match us, hl with | [_], _ => rfl⟩
  have F_count_ways := fun_mk (st := s_count_ways) l_count_ways c_count_ways k_count_ways
  have c_count_ways : Cal P w K mg base "count_ways" 6 ["lists"] (sp_count_ways K) f_count_ways _ := ⟨ok_count_ways F_count_ways B c_stable_ways c_cost_table, PySem.W.mg_of X G a_count_ways, k_count_ways, F_count_ways.binds (ps := ["lists"]) fun _ _ _ _ _ _ us hl => match us, hl with | [_], _ => rfl⟩
  have F_way := fun_mk (st := s_way) l_way c_way k_way
  have c_way : Cal P w K mg base "way" 6 ["lists", "i"] (sp_way K) f_way _ := ⟨ok_way F_way B c_stable_ways c_told c_cost_table, PySem.W.mg_of X G a_way, k_way, F_way.binds (ps := ["lists", "i"]) fun _ _ _ _ _ _ us hl => match us, hl with | [_, _], _ => rfl⟩
  have F_pick := fun_mk (st := s_pick) l_pick c_pick k_pick
  have c_pick : Cal P w K mg base "pick" 6 ["lists", "x", "i", "j"] (sp_pick K) f_pick _ := ⟨ok_pick F_pick B c_cost_table c_stable_ways c_told c_picked, PySem.W.mg_of X G a_pick, k_pick, F_pick.binds (ps := ["lists", "x", "i", "j"]) fun _ _ _ _ _ _ us hl => match us, hl with | [_, _, _, _], _ => rfl⟩
  have F_best := fun_mk (st := s_best) l_best c_best k_best
  have c_best : Cal P w K mg base "best" 7 ["lists", "s"] (sp_best K) f_best _ := ⟨ok_best F_best B c_refusal_of_side c_told c_best_way c_cost_table, PySem.W.mg_of X G a_best, k_best, F_best.binds (ps := ["lists", "s"]) fun _ _ _ _ _ _ us hl => match us, hl with | [_, _], _ => rfl⟩
  have F_fair := fun_mk (st := s_fair) l_fair c_fair k_fair
  have c_fair : Cal P w K mg base "fair" 7 ["lists"] (sp_fair K) f_fair _ := ⟨ok_fair F_fair B c_fair_way c_told c_cost_table, PySem.W.mg_of X G a_fair, k_fair, F_fair.binds (ps := ["lists"]) fun _ _ _ _ _ _ us hl => match us, hl with | [_], _ => rfl⟩
  have F_pairs := fun_mk (st := s_pairs) l_pairs c_pairs k_pairs
  have c_pairs : Cal P w K mg base "pairs" 7 ["lists"] (sp_pairs K) f_pairs _ := ⟨ok_pairs F_pairs B c_common_pairs c_told c_cost_table c_flat, PySem.W.mg_of X G a_pairs, k_pairs, F_pairs.binds (ps := ["lists"]) fun _ _ _ _ _ _ us hl => match us, hl with | [_], _ => rfl⟩
  have F_wish := fun_mk (st := s_wish) l_wish c_wish k_wish
  have c_wish : Cal P w K mg base "wish" 7 ["lists", "s", "i", "liking"] (sp_wish K) f_wish _ := ⟨ok_wish F_wish B c_refusal_of_list c_swapped c_entry_of c_told c_best_way c_cost c_cost_table, PySem.W.mg_of X G a_wish, k_wish, F_wish.binds (ps := ["lists", "s", "i", "liking"]) fun _ _ _ _ _ _ us hl => match us, hl with | [_, _, _, _], _ => rfl⟩
  have F_telling := fun_mk (st := s_telling) l_telling c_telling k_telling
  have c_telling : Cal P w K mg base "telling" 8 ["lists", "number", "numbers", "row"] (sp_telling K) f_telling _ := ⟨ok_telling F_telling B c_wish c_liked c_offs c_count_ways c_way c_best c_fair c_pick c_pairs c_asks, PySem.W.mg_of X G a_telling, k_telling, F_telling.binds (ps := ["lists", "number", "numbers", "row"]) fun _ _ _ _ _ _ us hl => match us, hl with | [_, _, _, _], _ => rfl⟩
  have F_turn := fun_mk (st := s_turn) l_turn c_turn k_turn
  have c_turn : Cal P w K mg base "turn" 9 ["lists", "number", "numbers", "row"] (sp_turn K) f_turn _ := ⟨ok_turn F_turn B c_begin c_is_begun c_likes c_telling, PySem.W.mg_of X G a_turn, k_turn, F_turn.binds (ps := ["lists", "number", "numbers", "row"]) fun _ _ _ _ _ _ us hl => match us, hl with | [_, _, _, _], _ => rfl⟩
  exact ok_answers F_answers B c_nobody_yet c_call_at c_turn
theorem inInt_le {lo hi x : Int} (h : PySem.W.Codec.inInt lo hi x = true) : lo ≤ x := by
  unfold PySem.W.Codec.inInt at h
  simp only [Bool.and_eq_true, decide_eq_true_eq] at h
  exact h.1
theorem cast_nat {l : List Int} (h : ∀ x ∈ l, 0 ≤ x) : cast (l.map Int.toNat) = l := by
  unfold cast
  rw [List.map_map]
  refine (List.map_congr_left fun x hx => ?_).trans (List.map_id l)
  show ((x.toNat : Nat) : Int) = x
  have := h x hx
  omega
end PO
open PySem PySem.W PyProof.Rows
set_option maxRecDepth 100000 in
set_option maxHeartbeats 8000000 in
theorem PySem.Challenge.cw_pairedoff_s01_answers_holds : PySem.Challenge.rw_pairedoff_s01_answers.Holds := by
  w_on; k_headS; (case hw => exact ⟨[.list []], by decide +kernel, by decide +kernel⟩)
  k_fillS
  refine L2.walk_specK (r := PySem.Challenge.rw_pairedoff_s01_answers) (k := 10) (CX := L2.CX0) (ps := ["calls"]) (sp := PO.sp_answers) (by decide +kernel) rfl rfl ⟨rfl, by decide, by decide⟩ (fun w h Y => PySem.W.kIn_of Y) ?F ?S (fun _ _ _ _ z => z)
  case F =>
    intro w mg fa h Y KX G hmg
    refine' PO.all_mk KX G hmg ?a_cost ?l_cost ?c_cost ?k_cost ?a_cost_row ?l_cost_row ?c_cost_row ?k_cost_row ?a_cost_side ?l_cost_side ?c_cost_side ?k_cost_side ?a_cost_table ?l_cost_table ?c_cost_table ?k_cost_table ?a_entry_back ?l_entry_back ?c_entry_back ?k_entry_back ?a_entry_of ?l_entry_of ?c_entry_of ?k_entry_of ?a_mutual ?l_mutual ?c_mutual ?k_mutual ?a_fits ?l_fits ?c_fits ?k_fits ?a_is_way ?l_is_way ?c_is_way ?k_is_way ?a_go_off ?l_go_off ?c_go_off ?k_go_off ?a_off_pairs ?l_off_pairs ?c_off_pairs ?k_off_pairs ?a_way_cost ?l_way_cost ?c_way_cost ?k_way_cost ?a_next_asker ?l_next_asker ?c_next_asker ?k_next_asker ?a_takes ?l_takes ?c_takes ?k_takes ?a_all_askings ?l_all_askings ?c_all_askings ?k_all_askings ?a_nobody_yet ?l_nobody_yet ?c_nobody_yet ?k_nobody_yet ?a_blank ?l_blank ?c_blank ?k_blank ?a_is_begun ?l_is_begun ?c_is_begun ?k_is_begun ?a_swapped ?l_swapped ?c_swapped ?k_swapped ?a_listable ?l_listable ?c_listable ?k_listable ?a_refusal_of_side ?l_refusal_of_side ?c_refusal_of_side ?k_refusal_of_side ?a_refusal_of_one ?l_refusal_of_one ?c_refusal_of_one ?k_refusal_of_one ?a_refusal_of_list ?l_refusal_of_list ?c_refusal_of_list ?k_refusal_of_list ?a_longer ?l_longer ?c_longer ?k_longer ?a_torn ?l_torn ?c_torn ?k_torn ?a_further ?l_further ?c_further ?k_further ?a_stable_ways ?l_stable_ways ?c_stable_ways ?k_stable_ways ?a_first_least ?l_first_least ?c_first_least ?k_first_least ?a_best_way ?l_best_way ?c_best_way ?k_best_way ?a_fair_way ?l_fair_way ?c_fair_way ?k_fair_way ?a_chosen ?l_chosen ?c_chosen ?k_chosen ?a_picked ?l_picked ?c_picked ?k_picked ?a_together ?l_together ?c_together ?k_together ?a_common_pairs ?l_common_pairs ?c_common_pairs ?k_common_pairs ?a_call_at ?l_call_at ?c_call_at ?k_call_at ?a_told ?l_told ?c_told ?k_told ?a_flat ?l_flat ?c_flat ?k_flat ?a_begin ?l_begin ?c_begin ?k_begin ?a_likes ?l_likes ?c_likes ?k_likes ?a_liked ?l_liked ?c_liked ?k_liked ?a_offs ?l_offs ?c_offs ?k_offs ?a_count_ways ?l_count_ways ?c_count_ways ?k_count_ways ?a_way ?l_way ?c_way ?k_way ?a_best ?l_best ?c_best ?k_best ?a_fair ?l_fair ?c_fair ?k_fair ?a_pick ?l_pick ?c_pick ?k_pick ?a_pairs ?l_pairs ?c_pairs ?k_pairs ?a_asks ?l_asks ?c_asks ?k_asks ?a_wish ?l_wish ?c_wish ?k_wish ?a_telling ?l_telling ?c_telling ?k_telling ?a_turn ?l_turn ?c_turn ?k_turn ?a_answers ?l_answers ?c_answers ?k_answers ?z_len ?z_range ?z_enumerate ?z_sum ?z_list ?a_NUMBERS ?l_NUMBERS ?v_NUMBERS ?s_NUMBERS ?a_ROWS ?l_ROWS ?v_ROWS ?s_ROWS
    (case a_cost => k_is)
    (case l_cost => k_is)
    (case c_cost => k_is)
    (case k_cost => k_is)
    (case a_cost_row => k_is)
    (case l_cost_row => k_is)
    (case c_cost_row => k_is)
    (case k_cost_row => k_is)
    (case a_cost_side => k_is)
    (case l_cost_side => k_is)
    (case c_cost_side => k_is)
    (case k_cost_side => k_is)
    (case a_cost_table => k_is)
    (case l_cost_table => k_is)
    (case c_cost_table => k_is)
    (case k_cost_table => k_is)
    (case a_entry_back => k_is)
    (case l_entry_back => k_is)
    (case c_entry_back => k_is)
    (case k_entry_back => k_is)
    (case a_entry_of => k_is)
    (case l_entry_of => k_is)
    (case c_entry_of => k_is)
    (case k_entry_of => k_is)
    (case a_mutual => k_is)
    (case l_mutual => k_is)
    (case c_mutual => k_is)
    (case k_mutual => k_is)
    (case a_fits => k_is)
    (case l_fits => k_is)
    (case c_fits => k_is)
    (case k_fits => k_is)
    (case a_is_way => k_is)
    (case l_is_way => k_is)
    (case c_is_way => k_is)
    (case k_is_way => k_is)
    (case a_go_off => k_is)
    (case l_go_off => k_is)
    (case c_go_off => k_is)
    (case k_go_off => k_is)
    (case a_off_pairs => k_is)
    (case l_off_pairs => k_is)
    (case c_off_pairs => k_is)
    (case k_off_pairs => k_is)
    (case a_way_cost => k_is)
    (case l_way_cost => k_is)
    (case c_way_cost => k_is)
    (case k_way_cost => k_is)
    (case a_next_asker => k_is)
    (case l_next_asker => k_is)
    (case c_next_asker => k_is)
    (case k_next_asker => k_is)
    (case a_takes => k_is)
    (case l_takes => k_is)
    (case c_takes => k_is)
    (case k_takes => k_is)
    (case a_all_askings => k_is)
    (case l_all_askings => k_is)
    (case c_all_askings => k_is)
    (case k_all_askings => k_is)
    (case a_nobody_yet => k_is)
    (case l_nobody_yet => k_is)
    (case c_nobody_yet => k_is)
    (case k_nobody_yet => k_is)
    (case a_blank => k_is)
    (case l_blank => k_is)
    (case c_blank => k_is)
    (case k_blank => k_is)
    (case a_is_begun => k_is)
    (case l_is_begun => k_is)
    (case c_is_begun => k_is)
    (case k_is_begun => k_is)
    (case a_swapped => k_is)
    (case l_swapped => k_is)
    (case c_swapped => k_is)
    (case k_swapped => k_is)
    (case a_listable => k_is)
    (case l_listable => k_is)
    (case c_listable => k_is)
    (case k_listable => k_is)
    (case a_refusal_of_side => k_is)
    (case l_refusal_of_side => k_is)
    (case c_refusal_of_side => k_is)
    (case k_refusal_of_side => k_is)
    (case a_refusal_of_one => k_is)
    (case l_refusal_of_one => k_is)
    (case c_refusal_of_one => k_is)
    (case k_refusal_of_one => k_is)
    (case a_refusal_of_list => k_is)
    (case l_refusal_of_list => k_is)
    (case c_refusal_of_list => k_is)
    (case k_refusal_of_list => k_is)
    (case a_longer => k_is)
    (case l_longer => k_is)
    (case c_longer => k_is)
    (case k_longer => k_is)
    (case a_torn => k_is)
    (case l_torn => k_is)
    (case c_torn => k_is)
    (case k_torn => k_is)
    (case a_further => k_is)
    (case l_further => k_is)
    (case c_further => k_is)
    (case k_further => k_is)
    (case a_stable_ways => k_is)
    (case l_stable_ways => k_is)
    (case c_stable_ways => k_is)
    (case k_stable_ways => k_is)
    (case a_first_least => k_is)
    (case l_first_least => k_is)
    (case c_first_least => k_is)
    (case k_first_least => k_is)
    (case a_best_way => k_is)
    (case l_best_way => k_is)
    (case c_best_way => k_is)
    (case k_best_way => k_is)
    (case a_fair_way => k_is)
    (case l_fair_way => k_is)
    (case c_fair_way => k_is)
    (case k_fair_way => k_is)
    (case a_chosen => k_is)
    (case l_chosen => k_is)
    (case c_chosen => k_is)
    (case k_chosen => k_is)
    (case a_picked => k_is)
    (case l_picked => k_is)
    (case c_picked => k_is)
    (case k_picked => k_is)
    (case a_together => k_is)
    (case l_together => k_is)
    (case c_together => k_is)
    (case k_together => k_is)
    (case a_common_pairs => k_is)
    (case l_common_pairs => k_is)
    (case c_common_pairs => k_is)
    (case k_common_pairs => k_is)
    (case a_call_at => k_is)
    (case l_call_at => k_is)
    (case c_call_at => k_is)
    (case k_call_at => k_is)
    (case a_told => k_is)
    (case l_told => k_is)
    (case c_told => k_is)
    (case k_told => k_is)
    (case a_flat => k_is)
    (case l_flat => k_is)
    (case c_flat => k_is)
    (case k_flat => k_is)
    (case a_begin => k_is)
    (case l_begin => k_is)
    (case c_begin => k_is)
    (case k_begin => k_is)
    (case a_likes => k_is)
    (case l_likes => k_is)
    (case c_likes => k_is)
    (case k_likes => k_is)
    (case a_liked => k_is)
    (case l_liked => k_is)
    (case c_liked => k_is)
    (case k_liked => k_is)
    (case a_offs => k_is)
    (case l_offs => k_is)
    (case c_offs => k_is)
    (case k_offs => k_is)
    (case a_count_ways => k_is)
    (case l_count_ways => k_is)
    (case c_count_ways => k_is)
    (case k_count_ways => k_is)
    (case a_way => k_is)
    (case l_way => k_is)
    (case c_way => k_is)
    (case k_way => k_is)
    (case a_best => k_is)
    (case l_best => k_is)
    (case c_best => k_is)
    (case k_best => k_is)
    (case a_fair => k_is)
    (case l_fair => k_is)
    (case c_fair => k_is)
    (case k_fair => k_is)
    (case a_pick => k_is)
    (case l_pick => k_is)
    (case c_pick => k_is)
    (case k_pick => k_is)
    (case a_pairs => k_is)
    (case l_pairs => k_is)
    (case c_pairs => k_is)
    (case k_pairs => k_is)
    (case a_asks => k_is)
    (case l_asks => k_is)
    (case c_asks => k_is)
    (case k_asks => k_is)
    (case a_wish => k_is)
    (case l_wish => k_is)
    (case c_wish => k_is)
    (case k_wish => k_is)
    (case a_telling => k_is)
    (case l_telling => k_is)
    (case c_telling => k_is)
    (case k_telling => k_is)
    (case a_turn => k_is)
    (case l_turn => k_is)
    (case c_turn => k_is)
    (case k_turn => k_is)
    (case a_answers => k_is)
    (case l_answers => k_is)
    (case c_answers => k_is)
    (case k_answers => k_is)
    (case z_len => k_is)
    (case z_range => k_is)
    (case z_enumerate => k_is)
    (case z_sum => k_is)
    (case z_list => k_is)
    (case a_NUMBERS => k_is)
    (case l_NUMBERS => k_is)
    (case v_NUMBERS => decide +kernel)
    (case s_NUMBERS => decide +kernel)
    (case a_ROWS => k_is)
    (case l_ROWS => k_is)
    (case v_ROWS => decide +kernel)
    (case s_ROWS => decide +kernel)
  case S =>
    intro K H xs a hO hwi hask hx
    cases hx with
    | cons h1 h2 =>
      cases h2
      cases h1 with
      | lst hs ha =>
        have e := L2.ints_dw a.1 _ ha
        subst e
        have q : ((Codec.inLen 0 16000 a.1 && a.1.all (Codec.inInt 0 9223372036854775807)) && true) = true := hwi
        rw [Bool.and_eq_true, Bool.and_eq_true] at q
        have hn : ∀ x ∈ a.1, 0 ≤ x := fun x hx => PO.inInt_le (List.all_eq_true.mp q.1.2 x hx)
        have ec := PO.cast_nat hn
        have hask' : PyWrpair.answers_asked a.1 = true := hask
        refine ⟨_, a.1.map Int.toNat, rfl, ?_, by rw [ec]; exact hask', fun H' p hp => ?_⟩
        · rw [PO.nums_ints]
          show L2.SqL K H _ ((PO.cast (a.1.map Int.toNat)).map L2.V.int)
          rw [ec]
          exact hs
        · rw [ec] at hp
          exact .lst (L2.SqL.of hp) (L2.dw_ints _)
#print axioms PySem.Challenge.cw_pairedoff_s01_answers_holds

