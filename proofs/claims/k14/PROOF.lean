import PyProof.Rows.All
import Wide.All
import OpenK.AllK
import Wide.FinOn
import HandS.ForMost
import HandS.EndBits
import HandS.IsInst
import HandS.Wide
import HandS.More
import HandS.SortInts
import HandS.Deep
import HandS.Exc
import HandS.TryOnly
import HandS.ExcOwn
import HandS.ExcIs
import HandS.WordsExc
import HandS.Style
import HandS.Conv
import HandS.Walk
import KE.RegKIsAll
import HandS.TupAny
import HandS.Iter
import KE.KDictKeyed
import KE.KDictDisplayH
import PySem.Challenge.RW_duskround_k14_rounds_of_each_cost
set_option Elab.async false
set_option linter.all false
set_option maxRecDepth 100000
set_option autoImplicit false
set_option synthInstance.maxHeartbeats 4000000
set_option synthInstance.maxSize 100000
namespace Pt
/-! patterns: which lamps were turned how far -/
abbrev Pat := List (Int × Int)
def at_ : Pat → Int → Int
  | [], _ => 0
  | x :: r, k => if x.1 = k then x.2 else at_ r k
def sumAt : Pat → Int → Int
  | [], _ => 0
  | x :: r, k => (if x.1 = k then x.2 else 0) + sumAt r k
structure IsPat (p : Int) (xs : Pat) : Prop where
  srt : xs.Pairwise fun a b => a.1 < b.1
  rng : ∀ x ∈ xs, 0 < x.2 ∧ x.2 < p
theorem sumAt_app (xs ys : Pat) (k : Int) : sumAt (xs ++ ys) k = sumAt xs k + sumAt ys k := by
  induction xs with
  | nil => simp [sumAt]
  | cons x r ih => simp only [List.cons_append, sumAt, ih]; omega
theorem at_none {xs : Pat} {k : Int} (h : ∀ x ∈ xs, x.1 ≠ k) : at_ xs k = 0 := by
  induction xs with
  | nil => rfl
  | cons x r ih =>
    have h1 := h x (by simp)
    simp only [at_, if_neg h1]
    exact ih fun y hy => h y (by simp [hy])
theorem sumAt_none {xs : Pat} {k : Int} (h : ∀ x ∈ xs, x.1 ≠ k) : sumAt xs k = 0 := by
  induction xs with
  | nil => rfl
  | cons x r ih =>
    have h1 := h x (by simp)
    simp only [sumAt, if_neg h1]
    rw [ih fun y hy => h y (by simp [hy])]
    rfl
theorem at_mem {xs : Pat} {k : Int} (h : at_ xs k ≠ 0) : (k, at_ xs k) ∈ xs := by
  induction xs with
  | nil => exact absurd rfl h
  | cons x r ih =>
    simp only [at_] at h ⊢
    split at h
    · rename_i e
      rw [if_pos e]
      subst e
      simp
    · rename_i e
      rw [if_neg e]
      exact List.mem_cons_of_mem _ (ih h)
theorem IsPat.tail {p : Int} {x : Int × Int} {r : Pat} (h : IsPat p (x :: r)) : IsPat p r := ⟨(List.pairwise_cons.mp h.srt).2, fun y hy => h.rng y (by simp [hy])⟩
theorem IsPat.nil (p : Int) : IsPat p [] := ⟨.nil, by simp⟩
theorem IsPat.head {p : Int} {x : Int × Int} {r : Pat} (h : IsPat p (x :: r)) : ∀ y ∈ r, x.1 < y.1 := (List.pairwise_cons.mp h.srt).1
theorem IsPat.at_of_mem {p : Int} {xs : Pat} {x : Int × Int} (h : IsPat p xs) (hx : x ∈ xs) : at_ xs x.1 = x.2 := by
  induction xs with
  | nil => simp at hx
  | cons y r ih =>
    rcases List.mem_cons.mp hx with rfl | hx'
    · simp [at_]
    · have := h.head x hx'
      simp only [at_]
      rw [if_neg (by omega)]
      exact ih h.tail hx'
theorem IsPat.at_sum {p : Int} {xs : Pat} (h : IsPat p xs) (k : Int) : sumAt xs k = at_ xs k := by
  induction xs with
  | nil => rfl
  | cons x r ih =>
    simp only [at_, sumAt]
    split
    · rename_i e
      rw [sumAt_none]
      · omega
      · intro y hy
        have := h.head y hy
        omega
    · rw [ih h.tail]
      omega
theorem IsPat.at_rng {p : Int} {xs : Pat} (h : IsPat p xs) (hp : 0 < p) (k : Int) : 0 ≤ at_ xs k ∧ at_ xs k < p := by
  by_cases e : at_ xs k = 0
  · omega
  · have := h.rng _ (at_mem e)
    simp only at this
    omega
theorem pat_ext {p : Int} {xs ys : Pat} (hx : IsPat p xs) (hy : IsPat p ys) (h : ∀ k, at_ xs k = at_ ys k) : xs = ys := by
  induction xs generalizing ys with
  | nil =>
    cases ys with
    | nil => rfl
    | cons y r =>
      have h1 := h y.1
      have h2 := hy.rng y (by simp)
      simp [at_] at h1
      omega
  | cons x r ih =>
    cases ys with
    | nil =>
      have h1 := h x.1
      have h2 := hx.rng x (by simp)
      simp [at_] at h1
      omega
    | cons y s =>
      have hx2 := hx.rng x (by simp)
      have hy2 := hy.rng y (by simp)
      have e1 : x.1 = y.1 := by
        have a1 := h x.1
        have a2 := h y.1
        simp only [at_, if_true] at a1 a2
        by_cases q : x.1 = y.1
        · exact q
        · exfalso
          by_cases l : x.1 < y.1
          · rw [if_neg (fun z => q z.symm), at_none fun z hz => by have := hy.head z hz; omega] at a1
            omega
          · rw [if_neg q, at_none fun z hz => by have := hx.head z hz; omega] at a2
            omega
      have e2 : x.2 = y.2 := by
        have a1 := h x.1
        simp only [at_, if_true] at a1
        rw [if_pos e1.symm] at a1
        exact a1
      have e : x = y := Prod.ext e1 e2
      subst e
      congr 1
      refine ih hx.tail hy.tail fun k => ?_
      have a := h k
      simp only [at_] at a
      by_cases q : x.1 = k
      · rw [at_none fun z hz => by have := hx.head z hz; omega, at_none fun z hz => by have := hy.head z hz; omega]
      · rw [if_neg q, if_neg q] at a
        exact a
/-- one lamp turned on -/
def addAt (p : Int) : Pat → Int → Int → Pat
  | [], k, v => if v % p = 0 then [] else [(k, v % p)]
  | x :: r, k, v =>
    if k < x.1 then (if v % p = 0 then x :: r else (k, v % p) :: x :: r)
    else if k = x.1 then (if (x.2 + v) % p = 0 then r else (k, (x.2 + v) % p) :: r)
    else x :: addAt p r k v
theorem addAt_ok {p : Int} (hp : 0 < p) : ∀ {xs : Pat} (k v : Int), IsPat p xs → IsPat p (addAt p xs k v) ∧ (∀ j, at_ (addAt p xs k v) j = if j = k then (at_ xs k + v) % p else at_ xs j) ∧ (∀ y ∈ addAt p xs k v, y.1 = k ∨ ∃ x ∈ xs, x.1 = y.1)
  | [], k, v, h => by
    have m1 := Int.emod_nonneg v (show p ≠ 0 by omega)
    have m2 := Int.emod_lt_of_pos v hp
    simp only [addAt]
    split
    · rename_i e
      refine ⟨h, fun j => ?_, by simp⟩
      simp [at_, e]
    · rename_i e
      refine ⟨⟨by simp, by simp; omega⟩, fun j => ?_, by simp⟩
      simp only [at_, Int.zero_add]
      by_cases q : k = j
      · rw [if_pos q, if_pos q.symm]
      · rw [if_neg q, if_neg (Ne.symm q)]
  | x :: r, k, v, h => by
    have m1 := Int.emod_nonneg v (show p ≠ 0 by omega)
    have m2 := Int.emod_lt_of_pos v hp
    have n1 := Int.emod_nonneg (x.2 + v) (show p ≠ 0 by omega)
    have n2 := Int.emod_lt_of_pos (x.2 + v) hp
    have hx := h.rng x (by simp)
    simp only [addAt]
    split
    · rename_i lt
      have z : at_ (x :: r) k = 0 := at_none fun y hy => by
        rcases List.mem_cons.mp hy with rfl | hy
        · omega
        · have := h.head y hy; omega
      split
      · rename_i e
        refine ⟨h, fun j => ?_, fun y hy => .inr ⟨y, hy, rfl⟩⟩
        by_cases q : j = k
        · subst q
          rw [if_pos rfl, z, Int.zero_add, e]
        · rw [if_neg q]
      · rename_i e
        refine ⟨⟨List.pairwise_cons.mpr ⟨fun y hy => ?_, h.srt⟩, fun y hy => ?_⟩, fun j => ?_, fun y hy => ?_⟩
        · rcases List.mem_cons.mp hy with rfl | hy
          · exact lt
          · have := h.head y hy
            show k < y.1
            omega
        · rcases List.mem_cons.mp hy with rfl | hy
          · simp only; omega
          · exact h.rng y hy
        · by_cases q : j = k
          · subst q
            rw [if_pos rfl, z, Int.zero_add]
            simp [at_]
          · rw [if_neg q]
            show (if k = j then _ else at_ (x :: r) j) = _
            rw [if_neg (Ne.symm q)]
        · rcases List.mem_cons.mp hy with rfl | hy
          · exact .inl rfl
          · exact .inr ⟨y, hy, rfl⟩
    · rename_i nlt
      split
      · rename_i e
        subst e
        have z : at_ r x.1 = 0 := at_none fun y hy => by have := h.head y hy; omega
        split
        · rename_i e2
          refine ⟨h.tail, fun j => ?_, fun y hy => .inr ⟨y, by simp [hy], rfl⟩⟩
          by_cases q : j = x.1
          · subst q
            rw [if_pos rfl, z]
            simp only [at_, if_true]
            exact e2.symm
          · rw [if_neg q]
            simp only [at_]
            rw [if_neg (Ne.symm q)]
        · rename_i e2
          refine ⟨⟨List.pairwise_cons.mpr ⟨fun y hy => h.head y hy, h.tail.srt⟩, fun y hy => ?_⟩, fun j => ?_, fun y hy => ?_⟩
          · rcases List.mem_cons.mp hy with rfl | hy
            · simp only; omega
            · exact h.rng y (by simp [hy])
          · by_cases q : j = x.1
            · subst q
              rw [if_pos rfl]
              simp only [at_, if_true]
            · rw [if_neg q]
              simp only [at_]
              rw [if_neg (Ne.symm q), if_neg (Ne.symm q)]
          · rcases List.mem_cons.mp hy with rfl | hy
            · exact .inl rfl
            · exact .inr ⟨y, by simp [hy], rfl⟩
      · rename_i ne
        obtain ⟨i1, i2, i3⟩ := addAt_ok hp k v h.tail
        refine ⟨⟨List.pairwise_cons.mpr ⟨fun y hy => ?_, i1.srt⟩, fun y hy => ?_⟩, fun j => ?_, fun y hy => ?_⟩
        · rcases i3 y hy with q | ⟨z, hz, q⟩
          · omega
          · have := h.head z hz
            omega
        · rcases List.mem_cons.mp hy with rfl | hy
          · exact hx
          · exact i1.rng y hy
        · by_cases q : j = k
          · subst q
            rw [if_pos rfl]
            simp only [at_]
            rw [if_neg (fun z => ne z.symm), if_neg (fun z => ne z.symm), i2 j, if_pos rfl]
          · rw [if_neg q]
            simp only [at_]
            by_cases q2 : x.1 = j
            · rw [if_pos q2, if_pos q2]
            · rw [if_neg q2, if_neg q2, i2 j, if_neg q]
        · rcases List.mem_cons.mp hy with rfl | hy
          · exact .inr ⟨y, by simp, rfl⟩
          · rcases i3 y hy with q | ⟨z, hz, q⟩
            · exact .inl q
            · exact .inr ⟨z, by simp [hz], q⟩
/-- the pattern of pairs in any order -/
def tidy (p : Int) (xs : Pat) : Pat := xs.foldl (fun a x => addAt p a x.1 x.2) []
theorem tidy_go {p : Int} (hp : 0 < p) : ∀ (xs a : Pat), IsPat p a → IsPat p (xs.foldl (fun a x => addAt p a x.1 x.2) a) ∧ ∀ k, at_ (xs.foldl (fun a x => addAt p a x.1 x.2) a) k = (at_ a k + sumAt xs k) % p
  | [], a, h => ⟨h, fun k => by
    have := h.at_rng hp k
    simp only [List.foldl_nil, sumAt, Int.add_zero]
    rw [Int.emod_eq_of_lt this.1 this.2]⟩
  | x :: r, a, h => by
    obtain ⟨h1, h2, _⟩ := addAt_ok hp x.1 x.2 h
    obtain ⟨i1, i2⟩ := tidy_go hp r _ h1
    refine ⟨i1, fun k => ?_⟩
    rw [List.foldl_cons, i2 k, h2 k]
    simp only [sumAt]
    by_cases q : k = x.1
    · subst q
      rw [if_pos rfl, if_pos rfl, Int.emod_add_emod]
      congr 1
      omega
    · rw [if_neg q, if_neg (Ne.symm q), Int.zero_add]
theorem tidy_pat {p : Int} (hp : 0 < p) (xs : Pat) : IsPat p (tidy p xs) := (tidy_go hp xs [] (IsPat.nil p)).1
theorem tidy_at {p : Int} (hp : 0 < p) (xs : Pat) (k : Int) : at_ (tidy p xs) k = sumAt xs k % p := by
  have := (tidy_go hp xs [] (IsPat.nil p)).2 k
  unfold tidy
  simpa [at_] using this
theorem tidy_eq {p : Int} (hp : 0 < p) {xs ys : Pat} (hy : IsPat p ys) (h : ∀ k, at_ ys k = sumAt xs k % p) : ys = tidy p xs :=
  pat_ext hy (tidy_pat hp xs) fun k => by rw [h k, tidy_at hp]
theorem addAt_len (p : Int) : ∀ (xs : Pat) (k v : Int), (addAt p xs k v).length ≤ xs.length + 1
  | [], k, v => by simp only [addAt]; split <;> simp
  | x :: r, k, v => by
    have ih := addAt_len p r k v
    simp only [addAt]
    split
    · split <;> simp
    · split
      · split <;> simp <;> omega
      · simp only [List.length_cons]; omega
theorem tidy_len (p : Int) (xs : Pat) : (tidy p xs).length ≤ xs.length := by
  have go : ∀ (xs a : Pat), (xs.foldl (fun a x => addAt p a x.1 x.2) a).length ≤ a.length + xs.length := by
    intro xs
    induction xs with
    | nil => exact fun a => Nat.le_refl _
    | cons x r ih =>
      intro a
      have h1 := ih (addAt p a x.1 x.2)
      have h2 := addAt_len p a x.1 x.2
      simp only [List.foldl_cons, List.length_cons]
      omega
  unfold tidy
  simpa using go xs []
/-- each place once, as they come -/
def places : Pat → List Int
  | [] => []
  | x :: r => x.1 :: (places r).filter fun k => decide (k ≠ x.1)
def addK (ks : List Int) (k : Int) : List Int := if k ∈ ks then ks else ks ++ [k]
def keys (xs : Pat) : List Int := xs.foldl (fun ks x => addK ks x.1) []
theorem keys_snoc (xs : Pat) (x : Int × Int) : keys (xs ++ [x]) = addK (keys xs) x.1 := by simp [keys, List.foldl_append]
theorem addK_nodup {ks : List Int} {k : Int} (h : ks.Nodup) : (addK ks k).Nodup := by
  unfold addK
  split
  · exact h
  · rename_i n
    rw [List.nodup_append]
    exact ⟨h, by simp, fun a ha b hb => by simp at hb; subst hb; exact fun z => n (z ▸ ha)⟩
theorem mem_addK {ks : List Int} {k j : Int} : j ∈ addK ks k ↔ j ∈ ks ∨ j = k := by
  unfold addK
  split
  · rename_i h
    refine ⟨.inl, fun z => z.elim id fun e => e ▸ h⟩
  · simp
theorem keys_nodup (xs : Pat) : (keys xs).Nodup := by
  have go : ∀ (xs : Pat) (ks : List Int), ks.Nodup → (xs.foldl (fun ks x => addK ks x.1) ks).Nodup := by
    intro xs
    induction xs with
    | nil => exact fun ks h => h
    | cons x r ih => exact fun ks h => ih _ (addK_nodup h)
  exact go xs [] (by simp)
theorem mem_keys (xs : Pat) (k : Int) : k ∈ keys xs ↔ ∃ x ∈ xs, x.1 = k := by
  have go : ∀ (xs : Pat) (ks : List Int), k ∈ (xs.foldl (fun ks x => addK ks x.1) ks) ↔ k ∈ ks ∨ ∃ x ∈ xs, x.1 = k := by
    intro xs
    induction xs with
    | nil => simp
    | cons x r ih =>
      intro ks
      rw [List.foldl_cons, ih, mem_addK]
      simp only [List.mem_cons, exists_eq_or_imp]
      constructor
      · rintro ((h | h) | h)
        · exact .inl h
        · exact .inr (.inl h.symm)
        · exact .inr (.inr h)
      · rintro (h | h | h)
        · exact .inl (.inl h)
        · exact .inl (.inr h.symm)
        · exact .inr h
  have := go xs []
  simpa [keys] using this
theorem keys_len (xs : Pat) : (keys xs).length ≤ xs.length := by
  have go : ∀ (xs : Pat) (ks : List Int), (xs.foldl (fun ks x => addK ks x.1) ks).length ≤ ks.length + xs.length := by
    intro xs
    induction xs with
    | nil => exact fun ks => Nat.le_refl _
    | cons x r ih =>
      intro ks
      have h1 := ih (addK ks x.1)
      have h2 : (addK ks x.1).length ≤ ks.length + 1 := by
        unfold addK
        split
        · omega
        · simp
      simp only [List.foldl_cons, List.length_cons]
      omega
  simpa [keys] using go xs []
theorem keys_mono (xs ys : Pat) : (keys xs).length ≤ (keys (xs ++ ys)).length := by
  have go : ∀ (ys : Pat) (ks : List Int), ks.length ≤ (ys.foldl (fun ks x => addK ks x.1) ks).length := by
    intro ys
    induction ys with
    | nil => exact fun ks => Nat.le_refl _
    | cons y r ih =>
      intro ks
      have h1 := ih (addK ks y.1)
      have h2 : ks.length ≤ (addK ks y.1).length := by
        unfold addK
        split
        · omega
        · simp
      simp only [List.foldl_cons]
      omega
  unfold keys
  rw [List.foldl_append]
  exact go ys _
/-- the pattern that sorted keys with their sums make -/
def pick (p : Int) (xs : Pat) (k : Int) : Option (Int × Int) := if sumAt xs k % p ≠ 0 then some (k, sumAt xs k % p) else none
theorem sorted_strict {ys ks : List Int} (hp : ys.Perm ks) (hn : ks.Nodup) (hs : ys.Pairwise (· ≤ ·)) : ys.Pairwise (· < ·) := by
  have hn' : ys.Nodup := hp.nodup_iff.mpr hn
  have := List.Pairwise.and hs hn'
  exact this.imp fun h => by omega
theorem pick_at (p : Int) (xs : Pat) : ∀ {ys : List Int} (k : Int), at_ (ys.filterMap (pick p xs)) k = if k ∈ ys then sumAt xs k % p else 0
  | [], k => rfl
  | y :: r, k => by
    have ih := pick_at p xs (ys := r) k
    rw [List.filterMap_cons]
    unfold pick at *
    by_cases e : sumAt xs y % p ≠ 0
    · rw [if_pos e]
      simp only [at_]
      by_cases q : y = k
      · subst q
        rw [if_pos rfl, if_pos (by simp)]
      · rw [if_neg q, ih]
        simp [Ne.symm q]
    · rw [if_neg e]
      simp only
      rw [ih]
      by_cases q : k = y
      · subst q
        have e' : sumAt xs k % p = 0 := by omega
        by_cases m : k ∈ r <;> simp [m, e']
      · simp [q]
theorem pick_pat {p : Int} (hp : 0 < p) {xs : Pat} {ys : List Int} (hperm : ys.Perm (keys xs)) (hs : ys.Pairwise (· ≤ ·)) : ys.filterMap (pick p xs) = tidy p xs := by
  have st := sorted_strict hperm (keys_nodup xs) hs
  refine tidy_eq hp ⟨?_, fun x hx => ?_⟩ fun k => ?_
  · rw [List.pairwise_filterMap]
    refine st.imp fun {a b} h x hx y hy => ?_
    unfold pick at hx hy
    split at hx
    · split at hy
      · cases hx; cases hy; exact h
      · cases hy
    · cases hx
  · obtain ⟨y, hy, e⟩ := List.mem_filterMap.mp hx
    unfold pick at e
    split at e
    · rename_i ne
      cases e
      have m1 := Int.emod_nonneg (sumAt xs y) (show p ≠ 0 by omega)
      have m2 := Int.emod_lt_of_pos (sumAt xs y) hp
      simp only
      omega
    · cases e
  · rw [pick_at]
    split
    · rfl
    · rename_i nm
      rw [sumAt_none]
      · simp
      · intro x hx e
        exact nm (hperm.mem_iff.mpr ((mem_keys xs k).mpr ⟨x, hx, e⟩))
def moved (xs : Pat) (b : Int) : Pat := xs.map fun x => (x.1 + b, x.2)
theorem moved_len (xs : Pat) (b : Int) : (moved xs b).length = xs.length := by simp [moved]
theorem moved_at (b : Int) : ∀ (xs : Pat) (k : Int), at_ (moved xs b) k = at_ xs (k - b)
  | [], k => rfl
  | x :: r, k => by
    show (if x.1 + b = k then x.2 else at_ (moved r b) k) = if x.1 = k - b then x.2 else at_ r (k - b)
    rw [moved_at b r k]
    by_cases e : x.1 + b = k
    · rw [if_pos e, if_pos (by omega)]
    · rw [if_neg e, if_neg (by omega)]
theorem moved_pat {p : Int} {xs : Pat} (h : IsPat p xs) (b : Int) : IsPat p (moved xs b) := by
  refine ⟨?_, fun x hx => ?_⟩
  · unfold moved
    rw [List.pairwise_map]
    exact h.srt.imp fun z => by simp only; omega
  · obtain ⟨y, hy, rfl⟩ := List.mem_map.mp hx
    exact h.rng y hy
theorem moved_moved (xs : Pat) (a b : Int) : moved (moved xs a) b = moved xs (a + b) := by
  unfold moved
  rw [List.map_map]
  refine List.map_congr_left fun x _ => ?_
  simp only [Function.comp]
  congr 1
  omega
theorem moved_zero (xs : Pat) : moved xs 0 = xs := by
  unfold moved
  conv => rhs; rw [← List.map_id xs]
  refine List.map_congr_left fun x _ => ?_
  simp
theorem tidy_mem {p : Int} (hp : 0 < p) {xs : Pat} {x : Int × Int} (h : x ∈ tidy p xs) : ∃ y ∈ xs, y.1 = x.1 := by
  have ha := (tidy_pat hp xs).at_of_mem h
  have hr := (tidy_pat hp xs).rng x h
  rw [tidy_at hp] at ha
  by_cases z : ∃ y ∈ xs, y.1 = x.1
  · exact z
  · rw [sumAt_none (fun y hy e => z ⟨y, hy, e⟩)] at ha
    simp at ha
    omega
def added (p : Int) (xs ys : Pat) : Pat := tidy p (xs ++ ys)
def timed (p : Int) (xs : Pat) (n : Int) : Pat := tidy p (xs.map fun x => (x.1, x.2 * n))
theorem sumAt_map_mul (n : Int) : ∀ (xs : Pat) (k : Int), sumAt (xs.map fun x => (x.1, x.2 * n)) k = sumAt xs k * n
  | [], k => by simp [sumAt]
  | x :: r, k => by
    simp only [List.map_cons, sumAt, sumAt_map_mul n r k]
    split
    · rw [Int.add_mul]
    · rw [Int.add_mul, Int.zero_mul]
theorem added_pat {p : Int} (hp : 0 < p) (xs ys : Pat) : IsPat p (added p xs ys) := tidy_pat hp _
theorem timed_pat {p : Int} (hp : 0 < p) (xs : Pat) (n : Int) : IsPat p (timed p xs n) := tidy_pat hp _
theorem added_at {p : Int} (hp : 0 < p) {xs ys : Pat} (hx : IsPat p xs) (hy : IsPat p ys) (k : Int) : at_ (added p xs ys) k = (at_ xs k + at_ ys k) % p := by
  unfold added
  rw [tidy_at hp, sumAt_app, hx.at_sum, hy.at_sum]
theorem timed_at {p : Int} (hp : 0 < p) {xs : Pat} (hx : IsPat p xs) (n k : Int) : at_ (timed p xs n) k = at_ xs k * n % p := by
  unfold timed
  rw [tidy_at hp, sumAt_map_mul, hx.at_sum]
theorem added_len (p : Int) (xs ys : Pat) : (added p xs ys).length ≤ xs.length + ys.length := by
  have := tidy_len p (xs ++ ys)
  rw [List.length_append] at this
  exact this
theorem timed_len (p : Int) (xs : Pat) (n : Int) : (timed p xs n).length ≤ xs.length := by
  have := tidy_len p (xs.map fun x => (x.1, x.2 * n))
  rw [List.length_map] at this
  exact this
theorem added_comm {p : Int} (hp : 0 < p) {xs ys : Pat} (hx : IsPat p xs) (hy : IsPat p ys) : added p xs ys = added p ys xs :=
  pat_ext (added_pat hp xs ys) (added_pat hp ys xs) fun k => by rw [added_at hp hx hy, added_at hp hy hx, Int.add_comm]
theorem dark_of {p : Int} {xs : Pat} (hx : IsPat p xs) (h : ∀ k, at_ xs k = 0) : xs = [] := pat_ext hx (IsPat.nil p) fun k => by rw [h k]; rfl
theorem map01 (ys : Pat) : (ys.map fun y => (y.1 + 0, y.2 * 1)) = ys := by
  have : (fun y : Int × Int => (y.1 + 0, y.2 * 1)) = id := funext fun y => by simp
  rw [this, List.map_id]
theorem map0n (ys : Pat) (n : Int) : (ys.map fun y => (y.1 + 0, y.2 * n)) = ys.map fun y => (y.1, y.2 * n) := by
  simp only [Int.add_zero]
end Pt

/-! rounds: an end and a pattern -/
namespace Rd
open Pt
abbrev R := Int × Pat
def IsRound (p : Int) (r : R) : Prop := IsPat p r.2
def join (p : Int) (a b : R) : R := (a.1 + b.1, added p a.2 (moved b.2 a.1))
def inv (p : Int) (a : R) : R := (-a.1, timed p (moved a.2 (-a.1)) (-1))
def still : R := (0, [])
theorem ext {p : Int} {a b : R} (ha : IsRound p a) (hb : IsRound p b) (h1 : a.1 = b.1) (h2 : ∀ k, at_ a.2 k = at_ b.2 k) : a = b := Prod.ext h1 (pat_ext ha hb h2)
theorem still_ok (p : Int) : IsRound p still := IsPat.nil p
section
variable {p : Int} (hp : 0 < p)
include hp
theorem join_ok (a b : R) : IsRound p (join p a b) := added_pat hp _ _
theorem inv_ok (a : R) : IsRound p (inv p a) := timed_pat hp _ _
theorem join_at {a b : R} (ha : IsRound p a) (hb : IsRound p b) (k : Int) : at_ (join p a b).2 k = (at_ a.2 k + at_ b.2 (k - a.1)) % p := by
  show at_ (added p a.2 (moved b.2 a.1)) k = _
  rw [added_at hp ha (moved_pat hb a.1), moved_at]
theorem inv_at {a : R} (ha : IsRound p a) (k : Int) : at_ (inv p a).2 k = -(at_ a.2 (k + a.1)) % p := by
  show at_ (timed p (moved a.2 (-a.1)) (-1)) k = _
  rw [timed_at hp (moved_pat ha (-a.1)), moved_at, show k - -a.1 = k + a.1 by omega, show at_ a.2 (k + a.1) * -1 = -(at_ a.2 (k + a.1)) by omega]
theorem at_mod {a : R} (ha : IsRound p a) (k : Int) : at_ a.2 k % p = at_ a.2 k := by
  have h := IsPat.at_rng ha hp k
  exact Int.emod_eq_of_lt h.1 h.2
theorem assoc {a b c : R} (ha : IsRound p a) (hb : IsRound p b) (hc : IsRound p c) : join p (join p a b) c = join p a (join p b c) := by
  refine ext (p := p) (join_ok hp _ _) (join_ok hp _ _) (by simp only [join]; omega) fun k => ?_
  rw [join_at hp (join_ok hp a b) hc, join_at hp ha hb, join_at hp ha (join_ok hp b c), join_at hp hb hc, Int.emod_add_emod, Int.add_emod_emod]
  simp only [join]
  rw [show k - a.1 - b.1 = k - (a.1 + b.1) by omega, Int.add_assoc]
theorem join_still {a : R} (ha : IsRound p a) : join p a still = a := by
  refine ext (p := p) (join_ok hp _ _) ha (by simp [join, still]) fun k => ?_
  rw [join_at hp ha (still_ok p)]
  show (at_ a.2 k + 0) % p = _
  rw [Int.add_zero, at_mod hp ha]
theorem still_join {a : R} (ha : IsRound p a) : join p still a = a := by
  refine ext (p := p) (join_ok hp _ _) ha (by simp [join, still]) fun k => ?_
  rw [join_at hp (still_ok p) ha]
  show (0 + at_ a.2 (k - 0)) % p = _
  rw [Int.zero_add, Int.sub_zero, at_mod hp ha]
theorem join_inv {a : R} (ha : IsRound p a) : join p a (inv p a) = still := by
  refine ext (p := p) (join_ok hp _ _) (still_ok p) (by simp only [join, inv, still]; omega) fun k => ?_
  rw [join_at hp ha (inv_ok hp a), inv_at hp ha, Int.add_emod_emod, show k - a.1 + a.1 = k by omega, Int.add_right_neg]
  rfl
theorem inv_join {a : R} (ha : IsRound p a) : join p (inv p a) a = still := by
  refine ext (p := p) (join_ok hp _ _) (still_ok p) (by simp only [join, inv, still]; omega) fun k => ?_
  rw [join_at hp (inv_ok hp a) ha, inv_at hp ha, Int.emod_add_emod, show k - (inv p a).1 = k + a.1 by simp only [inv]; omega, Int.add_left_neg]
  rfl
theorem inv_uniq {a b : R} (ha : IsRound p a) (hb : IsRound p b) (h : join p a b = still) : b = inv p a := by
  have h2 := assoc hp (inv_ok hp a) ha hb
  rw [h, inv_join hp ha, still_join hp hb, join_still hp (inv_ok hp a)] at h2
  exact h2
theorem inv_inv {a : R} (ha : IsRound p a) : inv p (inv p a) = a := (inv_uniq hp (inv_ok hp a) ha (inv_join hp ha)).symm
theorem inv_of_join {a b : R} (ha : IsRound p a) (hb : IsRound p b) : inv p (join p a b) = join p (inv p b) (inv p a) := by
  refine (inv_uniq hp (join_ok hp a b) (join_ok hp _ _) ?_).symm
  rw [assoc hp ha hb (join_ok hp _ _), ← assoc hp hb (inv_ok hp b) (inv_ok hp a), join_inv hp hb, still_join hp (inv_ok hp a), join_inv hp ha]
end
theorem join_len (p : Int) (a b : R) : (join p a b).2.length ≤ a.2.length + b.2.length := by
  have := added_len p a.2 (moved b.2 a.1)
  rw [moved_len] at this
  exact this
theorem inv_len (p : Int) (a : R) : (inv p a).2.length ≤ a.2.length := by
  have := timed_len p (moved a.2 (-a.1)) (-1)
  rw [moved_len] at this
  exact this
end Rd

namespace Dk
/-- whether tuples of the module's own text may be data -/
abbrev KT : Bool := false
end Dk

/-! Data over the hand layer: what a name holds, as plain data. -/
namespace Dk
open PySem PySem.Spec PyProof.Rows L2

abbrev Fg := PySem.W.Frag
/-! ### data in a heap -/
/-- a tuple of the module's own text -/
def SqK (K : Fg) (a : Addr) (xs : List V) : Prop := ∃ (o : Obj) (its : Array Value) (n : Nat), K.lookup a = some o ∧ o.cls = .type "tuple" ∧ o.data = .seq its n ∧ its.size ≤ sizeLine ∧ Vals xs its.toList
def Tq (K : Fg) (H : Hp) (a : Addr) (xs : List V) : Prop := H a = some (.tup xs) ∨ (KT = true ∧ SqK K a xs)
theorem Tq.sq {K : Fg} {H : Hp} {a : Addr} {xs : List V} (h : Tq K H a xs) : SqT K H a xs := h.elim (fun z => .inl (.inl z)) fun z => .inr z.2
theorem Tq.mono {K : Fg} {H H' : Hp} {a : Addr} {xs : List V} (h : Tq K H a xs) (e : H a = some (.tup xs) → H' a = some (.tup xs)) : Tq K H' a xs := h.elim (fun z => .inl (e z)) fun z => .inr z
theorem Tq.same {K : Fg} {H H' : Hp} {a : Addr} {xs : List V} (h : Tq K H a xs) (e : Same H H') : Tq K H' a xs := h.mono fun z => e _ _ z
/-- a dict's key as data -/
def kD : Key → PyData
  | .inl i => .int i
  | .inr x => .str x
mutual
inductive Dq (K : Fg) (H : Hp) : V → PyData → Prop
  | non : Dq K H .non .none
  | bl (b : Bool) : Dq K H (.bl b) (.bool b)
  | int (i : Int) : Dq K H (.int i) (.int i)
  | str (x : Str) : Dq K H (.str x) (.str x)
  | lst {a : Addr} {xs : List V} {ds : List PyData} : H a = some (.lst xs) → DqAll K H xs ds → Dq K H (.ref a) (.list ds)
  | tup {a : Addr} {xs : List V} {ds : List PyData} : Tq K H a xs → DqAll K H xs ds → Dq K H (.ref a) (.tuple ds)
  | dct {a : Addr} {us : List (Key × V)} {kvs : List (PyData × PyData)} : L2.Rd H a (.dK us) → DqKv K H us kvs → Dq K H (.ref a) (.dict kvs)
inductive DqKv (K : Fg) (H : Hp) : List (Key × V) → List (PyData × PyData) → Prop
  | nil : DqKv K H [] []
  | cons {k : Key} {v : V} {us : List (Key × V)} {e d : PyData} {kvs : List (PyData × PyData)} : e = kD k → Dq K H v d → DqKv K H us kvs → DqKv K H ((k, v) :: us) ((e, d) :: kvs)
inductive DqAll (K : Fg) (H : Hp) : List V → List PyData → Prop
  | nil : DqAll K H [] []
  | cons {v : V} {vs : List V} {d : PyData} {ds : List PyData} : Dq K H v d → DqAll K H vs ds → DqAll K H (v :: vs) (d :: ds)
end
section
variable {K : Fg} {H H' : Hp}
mutual
theorem Dq.mono (e1 : ∀ a xs, H a = some (.lst xs) → H' a = some (.lst xs)) (e2 : ∀ a xs, H a = some (.tup xs) → H' a = some (.tup xs)) (e3 : ∀ a us, L2.Rd H a (.dK us) → L2.Rd H' a (.dK us)) : ∀ {d : PyData} {v : V}, Dq K H v d → Dq K H' v d
  | _, _, .non => .non
  | _, _, .bl _ => .bl _
  | _, _, .int _ => .int _
  | _, _, .str _ => .str _
  | _, _, .lst a b => .lst (e1 _ _ a) (DqAll.mono e1 e2 e3 b)
  | _, _, .tup a b => .tup (a.mono (e2 _ _)) (DqAll.mono e1 e2 e3 b)
  | _, _, .dct a b => .dct (e3 _ _ a) (DqKv.mono e1 e2 e3 b)
theorem DqAll.mono (e1 : ∀ a xs, H a = some (.lst xs) → H' a = some (.lst xs)) (e2 : ∀ a xs, H a = some (.tup xs) → H' a = some (.tup xs)) (e3 : ∀ a us, L2.Rd H a (.dK us) → L2.Rd H' a (.dK us)) : ∀ {ds : List PyData} {vs : List V}, DqAll K H vs ds → DqAll K H' vs ds
  | _, _, .nil => .nil
  | _, _, .cons a b => .cons (Dq.mono e1 e2 e3 a) (DqAll.mono e1 e2 e3 b)
theorem DqKv.mono (e1 : ∀ a xs, H a = some (.lst xs) → H' a = some (.lst xs)) (e2 : ∀ a xs, H a = some (.tup xs) → H' a = some (.tup xs)) (e3 : ∀ a us, L2.Rd H a (.dK us) → L2.Rd H' a (.dK us)) : ∀ {ds : List (PyData × PyData)} {vs : List (Key × V)}, DqKv K H vs ds → DqKv K H' vs ds
  | _, _, .nil => .nil
  | _, _, .cons e a b => .cons e (Dq.mono e1 e2 e3 a) (DqKv.mono e1 e2 e3 b)
end
theorem _root_.L2.Same.rd (e : Same H H') {a : Addr} {o : HO} (h : L2.Rd H a o) : L2.Rd H' a o := h.imp (e _ _) fun ⟨od, q⟩ => ⟨od, e _ _ q⟩
theorem Dq.same (e : Same H H') {d : PyData} {v : V} (h : Dq K H v d) : Dq K H' v d := Dq.mono (fun a xs q => e _ _ q) (fun a xs q => e _ _ q) (fun a xs q => e.rd q) h
theorem DqAll.same (e : Same H H') {d : List PyData} {v : List V} (h : DqAll K H v d) : DqAll K H' v d := DqAll.mono (fun a xs q => e _ _ q) (fun a xs q => e _ _ q) (fun a xs q => e.rd q) h
theorem DqKv.same (e : Same H H') {d : List (PyData × PyData)} {v : List (Key × V)} (h : DqKv K H v d) : DqKv K H' v d := DqKv.mono (fun a xs q => e _ _ q) (fun a xs q => e _ _ q) (fun a xs q => e.rd q) h
mutual
theorem Dq.dp : ∀ (d : PyData) (v : V), d.canLay0 = true → Dq K H v d → Dp K H v d
  | .none, _, _, h => by cases h; exact .non
  | .bool _, _, _, h => by cases h; exact .bl _
  | .int _, _, _, h => by cases h; exact .int _
  | .str _, _, _, h => by cases h; exact .str _
  | .list ds, _, c, h => by
    cases h with
    | lst a b => exact .lst (.inl (.inl a)) (DqAll.dp ds _ (by simpa [PyData.canLay0] using c) b)
  | .tuple ds, _, c, h => by
    cases h with
    | tup a b => exact .tup a.sq (DqAll.dp ds _ (by simpa [PyData.canLay0] using c) b)
  | .dict _, _, c, h => by simp [PyData.canLay0] at c
theorem DqAll.dp : ∀ (ds : List PyData) (vs : List V), PyData.canLayAll0 ds = true → DqAll K H vs ds → DpAll K H vs ds
  | [], _, _, h => by cases h; exact .nil
  | d :: ds, _, c, h => by
    simp only [PyData.canLayAll0, Bool.and_eq_true] at c
    cases h with
    | cons a b => exact .cons (Dq.dp d _ c.1 a) (DqAll.dp ds _ c.2 b)
end
theorem DqAll.length : ∀ {ds : List PyData} {vs : List V}, DqAll K H vs ds → vs.length = ds.length
  | [], _, h => by cases h; rfl
  | _ :: _, _, h => by
    cases h with
    | cons a b => simp [DqAll.length b]
theorem DqAll.get : ∀ {ds : List PyData} {vs : List V} {i : Nat} {d : PyData}, DqAll K H vs ds → ds[i]? = some d → ∃ v, vs[i]? = some v ∧ Dq K H v d
  | [], _, _, _, h, e => by simp at e
  | _ :: _, _, 0, _, h, e => by
    cases h with
    | cons a b => simp at e; subst e; exact ⟨_, rfl, a⟩
  | _ :: _, _, i + 1, _, h, e => by
    cases h with
    | cons a b => simp at e; obtain ⟨v, h1, h2⟩ := DqAll.get b e; exact ⟨v, by simpa using h1, h2⟩
theorem DqAll.app : ∀ {ds es : List PyData} {vs us : List V}, DqAll K H vs ds → DqAll K H us es → DqAll K H (vs ++ us) (ds ++ es)
  | [], _, _, _, h, g => by cases h; exact g
  | _ :: _, _, _, _, h, g => by
    cases h with
    | cons a b => exact .cons a (DqAll.app b g)
theorem DqAll.setAt : ∀ {ds : List PyData} {vs : List V} {i : Nat} {d : PyData} {v : V}, DqAll K H vs ds → Dq K H v d → DqAll K H (vs.set i v) (ds.set i d)
  | [], _, _, _, _, h, _ => by cases h; exact .nil
  | _ :: _, _, 0, _, _, h, g => by
    cases h with
    | cons a b => exact .cons g b
  | _ :: _, _, i + 1, _, _, h, g => by
    cases h with
    | cons a b => exact .cons a (DqAll.setAt b g)
theorem DqAll.dropLast : ∀ {ds : List PyData} {vs : List V}, DqAll K H vs ds → DqAll K H vs.dropLast ds.dropLast
  | [], _, h => by cases h; exact .nil
  | [_], _, h => by
    cases h with
    | cons a b => cases b; exact .nil
  | _ :: _ :: _, _, h => by
    cases h with
    | cons a b =>
      cases b with
      | cons c d => exact .cons a (DqAll.dropLast (.cons c d))
theorem DqAll.take : ∀ {ds : List PyData} {vs : List V} (n : Nat), DqAll K H vs ds → DqAll K H (vs.take n) (ds.take n)
  | _, _, 0, _ => by simp; exact .nil
  | [], _, n + 1, h => by cases h; exact .nil
  | _ :: _, _, n + 1, h => by
    cases h with
    | cons a b => exact .cons a (DqAll.take n b)
theorem DqAll.drop : ∀ {ds : List PyData} {vs : List V} (n : Nat), DqAll K H vs ds → DqAll K H (vs.drop n) (ds.drop n)
  | _, _, 0, h => by simpa using h
  | [], _, n + 1, h => by cases h; exact .nil
  | _ :: _, _, n + 1, h => by
    cases h with
    | cons a b => exact DqAll.drop n b
theorem DqAll.reverse : ∀ {ds : List PyData} {vs : List V}, DqAll K H vs ds → DqAll K H vs.reverse ds.reverse
  | [], _, h => by cases h; exact .nil
  | _ :: _, _, h => by
    cases h with
    | cons a b => rw [List.reverse_cons, List.reverse_cons]; exact DqAll.app (DqAll.reverse b) (.cons a .nil)
theorem DqAll.ints : ∀ {ns : List Int} {vs : List V}, DqAll K H vs (ns.map PyData.int) → vs = ns.map V.int
  | [], _, h => by cases h; rfl
  | n :: ns, _, h => by
    cases h with
    | cons a b => cases a; rw [DqAll.ints b]; rfl
theorem DqAll.ofInts : ∀ (ns : List Int), DqAll K H (ns.map V.int) (ns.map PyData.int)
  | [] => .nil
  | n :: ns => .cons (.int n) (DqAll.ofInts ns)
theorem DqAll.bools : ∀ {ns : List Bool} {vs : List V}, DqAll K H vs (ns.map PyData.bool) → vs = ns.map V.bl
  | [], _, h => by cases h; rfl
  | n :: ns, _, h => by
    cases h with
    | cons a b => cases a; rw [DqAll.bools b]; rfl
theorem DqAll.strs : ∀ {ns : List Str} {vs : List V}, DqAll K H vs (ns.map PyData.str) → vs = ns.map V.str
  | [], _, h => by cases h; rfl
  | n :: ns, _, h => by
    cases h with
    | cons a b => cases a; rw [DqAll.strs b]; rfl
theorem DqAll.ofStrs : ∀ (ns : List Str), DqAll K H (ns.map V.str) (ns.map PyData.str)
  | [] => .nil
  | n :: ns => .cons (.str n) (DqAll.ofStrs ns)
end

/-! ### parts of a heap -/
/-- what a run may change -/
def Mo : Option HO → Prop
  | none => False
  | some (.tup _) => False
  | _ => True
open Classical in
noncomputable def less (H : Hp) (x : Addr → Prop) : Hp := fun a => if x a then none else H a
theorem less_some {H : Hp} {x : Addr → Prop} {a : Addr} {o : HO} : less H x a = some o ↔ ¬ x a ∧ H a = some o := by
  unfold less
  by_cases h : x a
  · simp [h]
  · simp [h]
theorem less_same {H : Hp} {x : Addr → Prop} : Same (less H x) H := fun a o e => (less_some.mp e).2
theorem same_less {H H' : Hp} {x y : Addr → Prop} (h : ∀ a o, ¬ x a → H a = some o → ¬ y a ∧ H' a = some o) : Same (less H x) (less H' y) := fun a o e =>
  less_some.mpr (h a o (less_some.mp e).1 (less_some.mp e).2)
theorem not_mo_tup {H : Hp} {a : Addr} {xs : List V} (h : H a = some (.tup xs)) : ¬ Mo (H a) := by
  rw [h]
  exact fun z => z

/-! only numbers, texts and tuples -/
mutual
def tupO : PyData → Bool
  | .tuple xs => tupOs xs
  | .list _ => false
  | .dict _ => false
  | _ => true
def tupOs : List PyData → Bool
  | [] => true
  | x :: xs => tupO x && tupOs xs
end
mutual
theorem Dq.tupO_less {K : Fg} {H H' : Hp} {x : Addr → Prop} (hx : ∀ a, x a → Mo (H a)) : ∀ (d : PyData) (v : V), tupO d = true → Dq K H v d → Dq K (less H x) v d
  | .none, _, _, h => by cases h; exact .non
  | .bool _, _, _, h => by cases h; exact .bl _
  | .int _, _, _, h => by cases h; exact .int _
  | .str _, _, _, h => by cases h; exact .str _
  | .list ds, _, t, h => by simp [tupO] at t
  | .tuple ds, _, t, h => by
    cases h with
    | tup a b =>
      simp only [tupO] at t
      exact .tup (a.mono fun a => less_some.mpr ⟨fun z => not_mo_tup a (hx _ z), a⟩) (DqAll.tupO_less (H' := H') hx ds _ t b)
  | .dict _, _, t, h => by simp [tupO] at t
theorem DqAll.tupO_less {K : Fg} {H H' : Hp} {x : Addr → Prop} (hx : ∀ a, x a → Mo (H a)) : ∀ (ds : List PyData) (vs : List V), tupOs ds = true → DqAll K H vs ds → DqAll K (less H x) vs ds
  | [], _, _, h => by cases h; exact .nil
  | d :: ds, _, t, h => by
    cases h with
    | cons a b =>
      simp only [tupOs, Bool.and_eq_true] at t
      exact .cons (Dq.tupO_less (H' := H') hx d _ t.1 a) (DqAll.tupO_less (H' := H') hx ds _ t.2 b)
end

/-! ### what a name holds -/
mutual
inductive OD where
  | lst (ds : List PyData)
  | dK (kvs : List (Key × PyData))
  | dT (kvs : List (List Key × PyData))
  | ab (I : Hp → Addr → List Addr → Prop)
  | ins (C : Addr) (fs : Fs)
  | box (l : Bool) (fs : Fs)
/-- the attributes of an instance: data, or objects of its own -/
inductive Fs where
  | nil
  | sh (f : Str) (d : PyData) (r : Fs)
  | ow (f : Str) (o : OD) (r : Fs)
  | no (f : Str) (r : Fs)
end
inductive Sl where
  | no
  | sh (d : PyData)
  | ar (d : PyData)
  | ow (o : OD)
  | rf (o : OD)
  | ro (o : OD)
abbrev G := List Sl
def Sl.own? : Sl → Option OD
  | .ow o => some o
  | .rf o => some o
  | _ => none
def OD.isIns : OD → Bool
  | .ins _ _ => true
  | .box _ _ => true
  | _ => false
def insO (o : OD) : Option OD := if o.isIns = true then some o else none
/-- the object that a name stands for, if it is an instance -/
def Sl.ins? : Sl → Option OD
  | .ow o => insO o
  | .rf o => insO o
  | .ro o => insO o
  | _ => none
/-- a list or a tuple -/
def seqH (l : Bool) (us : List V) : HO := if l = true then .lst us else .tup us
theorem seqH_inj {l l' : Bool} {us us' : List V} (h : seqH l us = seqH l' us') : l = l' ∧ us = us' := by
  cases l <;> cases l' <;> simp [seqH] at h ⊢ <;> exact h
theorem seqH_nins {l : Bool} {us : List V} {C dx : Addr} {vs : List (Str × V)} (h : seqH l us = .ins C dx vs) : False := by
  cases l <;> simp [seqH] at h
/-- a place's name -/
def pl (k : Nat) : Str := ⟨#[k]⟩
theorem pl_inj {i j : Nat} (h : pl i = pl j) : i = j := by
  have := congrArg (fun x : Str => x.cps.toList) h
  simpa [pl] using this
/-- one step: an attribute, or a place of a list or tuple that stands shared -/
def StepV (S H : Hp) (p : Addr) (f : Str) (u : V) : Prop := (∃ C dx vs, H p = some (.ins C dx vs) ∧ vs.lookup f = some u) ∨ ∃ (l : Bool) (us : List V) (k : Nat), S p = some (seqH l us) ∧ f = pl k ∧ us[k]? = some u
theorem StepV.mono {S S' H H' : Hp} (e : ∀ a C dx vs, H a = some (.ins C dx vs) → H' a = some (.ins C dx vs)) (es : ∀ a l us, S a = some (seqH l us) → S' a = some (seqH l us)) {p : Addr} {f : Str} {u : V} (h : StepV S H p f u) : StepV S' H' p f u :=
  h.imp (fun ⟨C, dx, vs, h1, h2⟩ => ⟨C, dx, vs, e _ _ _ _ h1, h2⟩) fun ⟨l, us, k, h1, h2, h3⟩ => ⟨l, us, k, es _ _ _ h1, h2, h3⟩
/-- what an attribute's attribute .. holds -/
def PathV (S H : Hp) : Addr → List Str → V → Prop
  | p, [], v => v = .ref p
  | p, f :: r, v => ∃ u, StepV S H p f u ∧ ((r = [] ∧ v = u) ∨ (r ≠ [] ∧ ∃ q, u = .ref q ∧ PathV S H q r v))
theorem PathV.mono {S S' H H' : Hp} (e : ∀ a C dx vs, H a = some (.ins C dx vs) → H' a = some (.ins C dx vs)) (es : ∀ a l us, S a = some (seqH l us) → S' a = some (seqH l us)) : ∀ {path : List Str} {p : Addr} {v : V}, PathV S H p path v → PathV S' H' p path v
  | [], _, _, h => h
  | _ :: _, _, _, ⟨u, h1, h3⟩ => ⟨u, h1.mono e es, h3.imp id fun ⟨n, q, h4, h5⟩ => ⟨n, q, h4, PathV.mono e es h5⟩⟩
def Fs.getO : Fs → Str → Option OD
  | .nil, _ => none
  | .sh g _ r, f => if f = g then none else r.getO f
  | .ow g o r, f => if f = g then some o else r.getO f
  | .no g r, f => if f = g then none else r.getO f
def Fs.getD : Fs → Str → Option PyData
  | .nil, _ => none
  | .sh g d r, f => if f = g then some d else r.getD f
  | .ow g _ r, f => if f = g then none else r.getD f
  | .no g r, f => if f = g then none else r.getD f
/-- the names are the places -/
def Fs.pls : Fs → Nat → Prop
  | .nil, _ => True
  | .sh f _ r, n => f = pl n ∧ r.pls (n + 1)
  | .ow f _ r, n => f = pl n ∧ r.pls (n + 1)
  | .no f r, n => f = pl n ∧ r.pls (n + 1)
def Fs.has : Fs → Str → Bool
  | .nil, _ => false
  | .sh g _ r, f => decide (f = g) || r.has f
  | .ow g _ r, f => decide (f = g) || r.has f
  | .no g r, f => decide (f = g) || r.has f
/-- what the text says of an instance's class -/
structure ClsI (K : Fg) (C : Addr) (fs : Fs) : Prop where
  cl : Cls K C
  na : ∀ f, fs.has f = true → NoAttr K C f
/-- an object of an object .. -/
def OD.at_ : OD → List Str → Option OD
  | o, [] => some o
  | .ins _ fs, f :: r => (fs.getO f).bind fun o => o.at_ r
  | .box _ fs, f :: r => (fs.getO f).bind fun o => o.at_ r
  | _, _ => none
def Sl.there : Sl → Bool
  | .no => false
  | _ => true
inductive RV where
  | sh (d : PyData)
  | ar (d : PyData)
  | own (i : Nat)
  | fld (i : Nat) (path : List Str)
def notIns : Option HO → Prop
  | some (.ins _ _ _) => False
  | _ => True
/-- fixed objects are kept -/
def Tx (H H' : Hp) : Prop := ∀ a o, ¬ Mo (some o) → H a = some o → H' a = some o
def KvOk {κ : Type} (K : Fg) (S : Hp) (us : List (κ × V)) (kvs : List (κ × PyData)) : Prop := Paired (fun (p : κ × V) (q : κ × PyData) => p.1 = q.1 ∧ Dq K S p.2 q.2) us kvs
mutual
def OwnO (K : Fg) (S H : Hp) : OD → Addr → List Addr → Prop
  | .lst ds, p, F => F = [p] ∧ ∃ vs, H p = some (.lst vs) ∧ DqAll K S vs ds
  | .dK kvs, p, F => F = [p] ∧ ∃ us, H p = some (.dK us) ∧ KvOk K S us kvs
  | .dT kvs, p, F => F = [p] ∧ ∃ us, H p = some (.dT us) ∧ KvOk K S us kvs
  | .ab I, p, F => p ∈ F ∧ I H p F ∧ (∀ H', (∀ a ∈ F, H' a = H a) → Tx H H' → I H' p F) ∧ ∀ a ∈ F, Mo (H a) ∧ notIns (H a)
  | .ins C fs, p, F => ∃ dx vs qs, F = p :: dx :: qs ∧ F.Nodup ∧ H p = some (.ins C dx vs) ∧ H dx = some (.own p) ∧ FsOk K S H fs vs qs ∧ ClsI K C fs
  | .box l fs, p, F => ∃ vs, S p = some (seqH l (vs.map (·.2))) ∧ F.Nodup ∧ FsOk K S H fs vs F ∧ fs.pls 0
def FsOk (K : Fg) (S H : Hp) : Fs → List (Str × V) → List Addr → Prop
  | .nil, vs, qs => vs = [] ∧ qs = []
  | .sh f d r, vs, qs => ∃ v vs', vs = (f, v) :: vs' ∧ Dq K S v d ∧ FsOk K S H r vs' qs
  | .ow f o r, vs, qs => ∃ p vs' q1 q2, vs = (f, .ref p) :: vs' ∧ qs = q1 ++ q2 ∧ OwnO K S H o p q1 ∧ FsOk K S H r vs' q2
  | .no f r, vs, qs => ∃ v vs', vs = (f, v) :: vs' ∧ FsOk K S H r vs' qs
end
def OwnOk (K : Fg) (S H : Hp) (p : Addr) (F : List Addr) : OD → Prop
  | .lst ds => F = [p] ∧ ∃ vs, H p = some (.lst vs) ∧ DqAll K S vs ds
  | .dK kvs => F = [p] ∧ ∃ us, H p = some (.dK us) ∧ KvOk K S us kvs
  | .dT kvs => F = [p] ∧ ∃ us, H p = some (.dT us) ∧ KvOk K S us kvs
  | .ab I => p ∈ F ∧ I H p F ∧ (∀ H', (∀ a ∈ F, H' a = H a) → Tx H H' → I H' p F) ∧ ∀ a ∈ F, Mo (H a) ∧ notIns (H a)
  | .ins C fs => ∃ dx vs qs, F = p :: dx :: qs ∧ F.Nodup ∧ H p = some (.ins C dx vs) ∧ H dx = some (.own p) ∧ FsOk K S H fs vs qs ∧ ClsI K C fs
  | .box l fs => ∃ vs, S p = some (seqH l (vs.map (·.2))) ∧ F.Nodup ∧ FsOk K S H fs vs F ∧ fs.pls 0
theorem ownO_ok {K : Fg} {S H : Hp} {p : Addr} {F : List Addr} {o : OD} : OwnO K S H o p F ↔ OwnOk K S H p F o := by
  cases o <;> simp only [OwnO, OwnOk]

theorem kvOk_dq {K : Fg} {S : Hp} : ∀ {us : List (Key × V)} {kvs : List (Key × PyData)}, KvOk K S us kvs → DqKv K S us (kvs.map fun p => (kD p.1, p.2))
  | _, _, .nil => .nil
  | (k, v) :: _, (k', d) :: _, .cons ⟨e, a⟩ b => by
    cases e
    exact .cons rfl a (kvOk_dq b)
theorem DqAll.map {K : Fg} {S S' : Hp} (hs : ∀ v d, Dq K S v d → Dq K S' v d) : ∀ {vs : List V} {ds : List PyData}, DqAll K S vs ds → DqAll K S' vs ds
  | _, _, .nil => .nil
  | _, _, .cons a b => .cons (hs _ _ a) (DqAll.map hs b)
mutual
theorem OwnO.keepD {K : Fg} {S S' H H' : Hp} (hs : ∀ v d, Dq K S v d → Dq K S' v d) (hq : ∀ a l us, S a = some (seqH l us) → S' a = some (seqH l us)) (ht : Tx H H') : ∀ {o : OD} {p : Addr} {f : List Addr}, OwnO K S H o p f → (∀ a ∈ f, H' a = H a) → OwnO K S' H' o p f
  | .lst ds, p, f, h, hk => by
    simp only [OwnO] at h ⊢
    obtain ⟨e, vs, h1, h2⟩ := h
    subst e
    exact ⟨rfl, vs, by rw [hk p (by simp)]; exact h1, DqAll.map hs h2⟩
  | .dK kvs, p, f, h, hk => by
    simp only [OwnO] at h ⊢
    obtain ⟨e, vs, h1, h2⟩ := h
    subst e
    exact ⟨rfl, vs, by rw [hk p (by simp)]; exact h1, Paired.mapP h2 fun _ _ z => ⟨z.1, hs _ _ z.2⟩⟩
  | .dT kvs, p, f, h, hk => by
    simp only [OwnO] at h ⊢
    obtain ⟨e, vs, h1, h2⟩ := h
    subst e
    exact ⟨rfl, vs, by rw [hk p (by simp)]; exact h1, Paired.mapP h2 fun _ _ z => ⟨z.1, hs _ _ z.2⟩⟩
  | .ab I, p, f, h, hk => by
    simp only [OwnO] at h ⊢
    obtain ⟨e, h1, h2, h3⟩ := h
    exact ⟨e, h2 H' hk ht, (fun H'' hk' ht' => h2 H'' (fun a ha => (hk' a ha).trans (hk a ha)) fun a o nm q => ht' a o nm (ht a o nm q)), fun a ha => by rw [hk a ha]; exact h3 a ha⟩
  | .ins C fs, p, f, h, hk => by
    simp only [OwnO] at h ⊢
    obtain ⟨dx, vs, qs, e, nd, h1, h2, h3, h4⟩ := h
    subst e
    exact ⟨dx, vs, qs, rfl, nd, by rw [hk p (by simp)]; exact h1, by rw [hk dx (by simp)]; exact h2, FsOk.keepD hs hq ht h3 fun a ha => hk a (by simp [ha]), h4⟩
  | .box l fs, p, f, h, hk => by
    simp only [OwnO] at h ⊢
    obtain ⟨vs, h1, nd, h3, h4⟩ := h
    exact ⟨vs, hq _ _ _ h1, nd, FsOk.keepD hs hq ht h3 hk, h4⟩
theorem FsOk.keepD {K : Fg} {S S' H H' : Hp} (hs : ∀ v d, Dq K S v d → Dq K S' v d) (hq : ∀ a l us, S a = some (seqH l us) → S' a = some (seqH l us)) (ht : Tx H H') : ∀ {fs : Fs} {vs : List (Str × V)} {f : List Addr}, FsOk K S H fs vs f → (∀ a ∈ f, H' a = H a) → FsOk K S' H' fs vs f
  | .nil, vs, f, h, hk => by simp only [FsOk] at h ⊢; exact h
  | .sh g d r, vs, f, h, hk => by
    simp only [FsOk] at h ⊢
    obtain ⟨v, vs', e, h1, h2⟩ := h
    exact ⟨v, vs', e, hs _ _ h1, FsOk.keepD hs hq ht h2 hk⟩
  | .ow g o r, vs, f, h, hk => by
    simp only [FsOk] at h ⊢
    obtain ⟨p, vs', q1, q2, e, e2, h1, h2⟩ := h
    subst e2
    exact ⟨p, vs', q1, q2, e, rfl, OwnO.keepD hs hq ht h1 fun a ha => hk a (by simp [ha]), FsOk.keepD hs hq ht h2 fun a ha => hk a (by simp [ha])⟩
  | .no g r, vs, f, h, hk => by
    simp only [FsOk] at h ⊢
    obtain ⟨v, vs', e, h2⟩ := h
    exact ⟨v, vs', e, FsOk.keepD hs hq ht h2 hk⟩
end
theorem OwnO.keep {K : Fg} {S S' H H' : Hp} (hs : Same S S') (ht : Tx H H') {o : OD} {p : Addr} {f : List Addr} (h : OwnO K S H o p f) (hk : ∀ a ∈ f, H' a = H a) : OwnO K S' H' o p f := OwnO.keepD (fun _ _ z => z.same hs) (fun _ _ _ z => hs _ _ z) ht h hk
theorem FsOk.keep {K : Fg} {S S' H H' : Hp} (hs : Same S S') (ht : Tx H H') {fs : Fs} {vs : List (Str × V)} {f : List Addr} (h : FsOk K S H fs vs f) (hk : ∀ a ∈ f, H' a = H a) : FsOk K S' H' fs vs f := FsOk.keepD (fun _ _ z => z.same hs) (fun _ _ _ z => hs _ _ z) ht h hk
mutual
theorem OwnO.mo {K : Fg} {S H : Hp} : ∀ {o : OD} {p : Addr} {f : List Addr}, OwnO K S H o p f → ∀ a ∈ f, Mo (H a)
  | .lst ds, p, f, h => by
    simp only [OwnO] at h
    obtain ⟨rfl, vs, h1, h2⟩ := h
    intro a ha
    rw [List.mem_singleton] at ha
    rw [ha, h1]
    trivial
  | .dK ds, p, f, h => by
    simp only [OwnO] at h
    obtain ⟨rfl, vs, h1, h2⟩ := h
    intro a ha
    rw [List.mem_singleton] at ha
    rw [ha, h1]
    trivial
  | .dT ds, p, f, h => by
    simp only [OwnO] at h
    obtain ⟨rfl, vs, h1, h2⟩ := h
    intro a ha
    rw [List.mem_singleton] at ha
    rw [ha, h1]
    trivial
  | .ab I, p, f, h => by
    simp only [OwnO] at h
    exact fun a ha => (h.2.2.2 a ha).1
  | .ins C fs, p, f, h => by
    simp only [OwnO] at h
    obtain ⟨dx, vs, qs, rfl, nd, h1, h2, h3, _⟩ := h
    intro a ha
    rcases List.mem_cons.mp ha with rfl | ha
    · rw [h1]; trivial
    · rcases List.mem_cons.mp ha with rfl | ha
      · rw [h2]; trivial
      · exact FsOk.mo h3 a ha
  | .box l fs, p, f, h => by
    simp only [OwnO] at h
    obtain ⟨vs, h1, nd, h3, _⟩ := h
    exact FsOk.mo h3
theorem FsOk.mo {K : Fg} {S H : Hp} : ∀ {fs : Fs} {vs : List (Str × V)} {f : List Addr}, FsOk K S H fs vs f → ∀ a ∈ f, Mo (H a)
  | .nil, vs, f, h => by
    simp only [FsOk] at h
    rw [h.2]
    exact fun a ha => nomatch ha
  | .sh g d r, vs, f, h => by
    simp only [FsOk] at h
    obtain ⟨v, vs', _, _, h2⟩ := h
    exact FsOk.mo h2
  | .ow g o r, vs, f, h => by
    simp only [FsOk] at h
    obtain ⟨p, vs', q1, q2, _, rfl, h1, h2⟩ := h
    intro a ha
    rcases List.mem_append.mp ha with ha | ha
    · exact OwnO.mo h1 a ha
    · exact FsOk.mo h2 a ha
  | .no g r, vs, f, h => by
    simp only [FsOk] at h
    obtain ⟨v, vs', _, h2⟩ := h
    exact FsOk.mo h2
end
theorem OwnO.notIns {K : Fg} {S H : Hp} {o : OD} {p : Addr} {f : List Addr} (h : OwnO K S H o p f) (n : o.isIns = false) : ∀ a ∈ f, notIns (H a) := by
  cases o with
  | lst ds =>
    simp only [OwnO] at h
    obtain ⟨rfl, vs, h1, h2⟩ := h
    intro a ha
    rw [List.mem_singleton] at ha
    rw [ha, h1]
    trivial
  | dK ds =>
    simp only [OwnO] at h
    obtain ⟨rfl, vs, h1, h2⟩ := h
    intro a ha
    rw [List.mem_singleton] at ha
    rw [ha, h1]
    trivial
  | dT ds =>
    simp only [OwnO] at h
    obtain ⟨rfl, vs, h1, h2⟩ := h
    intro a ha
    rw [List.mem_singleton] at ha
    rw [ha, h1]
    trivial
  | ab I =>
    simp only [OwnO] at h
    exact fun a ha => (h.2.2.2 a ha).2
  | ins C fs => cases n
  | box l fs => cases n
theorem FsOk.getO {K : Fg} {S H : Hp} {f : Str} {o : OD} {u : V} : ∀ {fs : Fs} {vs : List (Str × V)} {qs : List Addr}, FsOk K S H fs vs qs → fs.getO f = some o → vs.lookup f = some u → ∃ p q1, u = .ref p ∧ (∀ a ∈ q1, a ∈ qs) ∧ OwnO K S H o p q1
  | .nil, _, _, _, e, _ => by simp [Fs.getO] at e
  | .sh g d r, _, _, h, e, l => by
    simp only [FsOk] at h
    obtain ⟨v, vs', rfl, h1, h2⟩ := h
    by_cases z : f = g
    · simp [Fs.getO, z] at e
    · simp only [Fs.getO, if_neg z] at e
      rw [List.lookup_cons, beq_false_of_ne z] at l
      exact FsOk.getO h2 e l
  | .ow g o' r, _, _, h, e, l => by
    simp only [FsOk] at h
    obtain ⟨p, vs', q1, q2, rfl, rfl, h1, h2⟩ := h
    by_cases z : f = g
    · subst z
      simp only [Fs.getO, if_true] at e
      rw [List.lookup_cons, beq_self_eq_true] at l
      cases e
      cases l
      exact ⟨p, q1, rfl, fun a ha => by simp [ha], h1⟩
    · simp only [Fs.getO, if_neg z] at e
      rw [List.lookup_cons, beq_false_of_ne z] at l
      obtain ⟨p', q', a1, a2, a3⟩ := FsOk.getO h2 e l
      exact ⟨p', q', a1, fun a ha => by simp [a2 a ha], a3⟩
  | .no g r, _, _, h, e, l => by
    simp only [FsOk] at h
    obtain ⟨v, vs', rfl, h2⟩ := h
    by_cases z : f = g
    · simp [Fs.getO, z] at e
    · simp only [Fs.getO, if_neg z] at e
      rw [List.lookup_cons, beq_false_of_ne z] at l
      exact FsOk.getO h2 e l
theorem FsOk.lookO {K : Fg} {S H : Hp} {f : Str} {o : OD} : ∀ {fs : Fs} {vs : List (Str × V)} {qs : List Addr}, FsOk K S H fs vs qs → fs.getO f = some o → ∃ p, vs.lookup f = some (.ref p)
  | .nil, _, _, _, e => by simp [Fs.getO] at e
  | .sh g d r, _, _, h, e => by
    simp only [FsOk] at h
    obtain ⟨v, vs', rfl, h1, h2⟩ := h
    by_cases z : f = g
    · simp [Fs.getO, z] at e
    · simp only [Fs.getO, if_neg z] at e
      rw [List.lookup_cons, beq_false_of_ne z]
      exact FsOk.lookO h2 e
  | .ow g o' r, _, _, h, e => by
    simp only [FsOk] at h
    obtain ⟨p, vs', q1, q2, rfl, rfl, h1, h2⟩ := h
    by_cases z : f = g
    · subst z
      rw [List.lookup_cons, beq_self_eq_true]
      exact ⟨p, rfl⟩
    · simp only [Fs.getO, if_neg z] at e
      rw [List.lookup_cons, beq_false_of_ne z]
      exact FsOk.lookO h2 e
  | .no g r, _, _, h, e => by
    simp only [FsOk] at h
    obtain ⟨v, vs', rfl, h2⟩ := h
    by_cases z : f = g
    · simp [Fs.getO, z] at e
    · simp only [Fs.getO, if_neg z] at e
      rw [List.lookup_cons, beq_false_of_ne z]
      exact FsOk.lookO h2 e
theorem FsOk.getD {K : Fg} {S H : Hp} {f : Str} {d : PyData} : ∀ {fs : Fs} {vs : List (Str × V)} {qs : List Addr}, FsOk K S H fs vs qs → fs.getD f = some d → ∃ u, vs.lookup f = some u ∧ Dq K S u d
  | .nil, _, _, _, e => by simp [Fs.getD] at e
  | .sh g d' r, _, _, h, e => by
    simp only [FsOk] at h
    obtain ⟨v, vs', rfl, h1, h2⟩ := h
    by_cases z : f = g
    · subst z
      simp only [Fs.getD, if_true] at e
      cases e
      rw [List.lookup_cons, beq_self_eq_true]
      exact ⟨v, rfl, h1⟩
    · simp only [Fs.getD, if_neg z] at e
      rw [List.lookup_cons, beq_false_of_ne z]
      exact FsOk.getD h2 e
  | .ow g o' r, _, _, h, e => by
    simp only [FsOk] at h
    obtain ⟨p, vs', q1, q2, rfl, rfl, h1, h2⟩ := h
    by_cases z : f = g
    · simp [Fs.getD, z] at e
    · simp only [Fs.getD, if_neg z] at e
      rw [List.lookup_cons, beq_false_of_ne z]
      exact FsOk.getD h2 e
  | .no g r, _, _, h, e => by
    simp only [FsOk] at h
    obtain ⟨v, vs', rfl, h2⟩ := h
    by_cases z : f = g
    · simp [Fs.getD, z] at e
    · simp only [Fs.getD, if_neg z] at e
      rw [List.lookup_cons, beq_false_of_ne z]
      exact FsOk.getD h2 e
/-- a place's value -/
theorem FsOk.look {K : Fg} {S H : Hp} : ∀ {fs : Fs} {n : Nat} {vs : List (Str × V)} {qs : List Addr}, FsOk K S H fs vs qs → fs.pls n → ∀ k, vs.lookup (pl (n + k)) = (vs.map (·.2))[k]?
  | .nil, n, _, _, h, _, k => by
    simp only [FsOk] at h
    rw [h.1]
    rfl
  | .sh g d r, n, _, _, h, hp, k => by
    simp only [FsOk] at h
    obtain ⟨v, vs', rfl, h1, h2⟩ := h
    obtain ⟨rfl, hp⟩ := hp
    cases k with
    | zero => rw [List.lookup_cons, Nat.add_zero, beq_self_eq_true]; rfl
    | succ k =>
      rw [List.lookup_cons, beq_false_of_ne fun z => by have := pl_inj z; omega]
      have := FsOk.look h2 hp k
      rw [show n + (k + 1) = n + 1 + k by omega]
      exact this
  | .ow g o r, n, _, _, h, hp, k => by
    simp only [FsOk] at h
    obtain ⟨p, vs', q1, q2, rfl, rfl, h1, h2⟩ := h
    obtain ⟨rfl, hp⟩ := hp
    cases k with
    | zero => rw [List.lookup_cons, Nat.add_zero, beq_self_eq_true]; rfl
    | succ k =>
      rw [List.lookup_cons, beq_false_of_ne fun z => by have := pl_inj z; omega]
      have := FsOk.look h2 hp k
      rw [show n + (k + 1) = n + 1 + k by omega]
      exact this
  | .no g r, n, _, _, h, hp, k => by
    simp only [FsOk] at h
    obtain ⟨v, vs', rfl, h2⟩ := h
    obtain ⟨rfl, hp⟩ := hp
    cases k with
    | zero => rw [List.lookup_cons, Nat.add_zero, beq_self_eq_true]; rfl
    | succ k =>
      rw [List.lookup_cons, beq_false_of_ne fun z => by have := pl_inj z; omega]
      have := FsOk.look h2 hp k
      rw [show n + (k + 1) = n + 1 + k by omega]
      exact this
/-- along a path -/
theorem OwnO.path {K : Fg} {S H : Hp} {o' : OD} {v : V} (hs : Same S H) : ∀ {path : List Str} {o : OD} {p : Addr} {F : List Addr}, OwnO K S H o p F → o.at_ path = some o' → PathV S H p path v → ∃ q F', v = .ref q ∧ (∀ a ∈ F', a ∈ F) ∧ OwnO K S H o' q F'
  | [], o, p, F, h, e, z => by
    simp only [OD.at_] at e
    cases e
    exact ⟨p, F, z, fun a ha => ha, h⟩
  | f :: r, .ins C fs, p, F, h, e, z => by
    simp only [OD.at_] at e
    obtain ⟨o1, e1, e2⟩ := Option.bind_eq_some_iff.mp e
    simp only [OwnO] at h
    obtain ⟨dx, vs, qs, eF, nd, h1, h2, h3, _⟩ := h
    obtain ⟨u, g0, g3⟩ := z
    have g2 : vs.lookup f = some u := by
      rcases g0 with ⟨C', dx', vs', g1, g2⟩ | ⟨l, us, k, g1, _⟩
      · rw [h1] at g1
        cases g1
        exact g2
      · rw [hs _ _ g1] at h1
        exact (seqH_nins (Option.some.inj h1)).elim
    obtain ⟨q, F1, rfl, hF, hO⟩ := FsOk.getO h3 e1 g2
    have sub : ∀ a ∈ F1, a ∈ F := fun a ha => by rw [eF]; simp [hF a ha]
    rcases g3 with ⟨rfl, rfl⟩ | ⟨_, q', g4, g5⟩
    · simp only [OD.at_] at e2
      cases e2
      exact ⟨q, F1, rfl, sub, hO⟩
    · cases g4
      obtain ⟨q2, F2, a1, a2, a3⟩ := OwnO.path hs hO e2 g5
      exact ⟨q2, F2, a1, fun a ha => sub a (a2 a ha), a3⟩
  | f :: r, .box l fs, p, F, h, e, z => by
    simp only [OD.at_] at e
    obtain ⟨o1, e1, e2⟩ := Option.bind_eq_some_iff.mp e
    simp only [OwnO] at h
    obtain ⟨vs, h1, nd, h3, hp⟩ := h
    obtain ⟨u, g0, g3⟩ := z
    have g2 : vs.lookup f = some u := by
      rcases g0 with ⟨C', dx', vs', g1, g2⟩ | ⟨l', us, k, g1, rfl, g2⟩
      · rw [hs _ _ h1] at g1
        exact (seqH_nins (Option.some.inj g1)).elim
      · rw [h1] at g1
        obtain ⟨_, e⟩ := seqH_inj (Option.some.inj g1)
        have := FsOk.look h3 hp k
        rw [Nat.zero_add, e] at this
        rw [this, g2]
    obtain ⟨q, F1, rfl, hF, hO⟩ := FsOk.getO h3 e1 g2
    have sub : ∀ a ∈ F1, a ∈ F := hF
    rcases g3 with ⟨rfl, rfl⟩ | ⟨_, q', g4, g5⟩
    · simp only [OD.at_] at e2
      cases e2
      exact ⟨q, F1, rfl, sub, hO⟩
    · cases g4
      obtain ⟨q2, F2, a1, a2, a3⟩ := OwnO.path hs hO e2 g5
      exact ⟨q2, F2, a1, fun a ha => sub a (a2 a ha), a3⟩
  | _ :: _, .lst _, _, _, _, e, _ => by simp [OD.at_] at e
  | _ :: _, .dK _, _, _, _, e, _ => by simp [OD.at_] at e
  | _ :: _, .dT _, _, _, _, e, _ => by simp [OD.at_] at e
  | _ :: _, .ab _, _, _, _, e, _ => by simp [OD.at_] at e
/-- the surroundings of a def's run: the heap at its start, what it may change (by-reference arguments), where these stand -/
structure Fx (K : Fg) where
  H0 : Hp
  rf : Addr → Prop
  rp : Nat → Option (Addr × List Addr)
  ex : Addr → Prop := fun a => Mo (H0 a)
  xm : ∀ a, ex a → Mo (H0 a) := by exact fun _ z => z
  rm : ∀ a, rf a → Mo (H0 a) := by exact fun _ z => z.elim
theorem Fx.exn {K : Fg} (F : Fx K) {a : Addr} (h : F.ex a) (z : F.H0 a = none) : False := by
  have m := F.xm a h
  rw [z] at m
  exact m
/-- ours, or another's -/
def Ex {K : Fg} (F : Fx K) (O : Addr → Prop) : Addr → Prop := fun a => F.ex a ∨ O a
/-- what stands shared at the start -/
noncomputable abbrev Fx.S0 {K : Fg} (F : Fx K) : Hp := less F.H0 fun a => F.ex a ∨ F.rf a
/-- the world of a moment: the objects that are ours, each name's objects, the heap -/
structure Wd where
  O : Addr → Prop
  ft : Nat → List Addr
  H : Hp
noncomputable abbrev Wd.S {K : Fg} (W : Wd) (F : Fx K) : Hp := less W.H (Ex F W.O)
def SlotOk {K : Fg} (F : Fx K) (W : Wd) (i : Nat) (x : Option (Option V)) : Sl → Prop
  | .no => True
  | .sh d => ∃ v, x = some (some v) ∧ Dq K (W.S F) v d
  | .ar d => ∃ v, x = some (some v) ∧ Dq K (less F.H0 F.rf) v d
  | .ow o => ∃ p, x = some (some (.ref p)) ∧ (∀ a ∈ W.ft i, W.O a ∧ ¬ F.rf a) ∧ OwnOk K (W.S F) W.H p (W.ft i) o
  | .rf o => ∃ p, (∃ f, F.rp i = some (p, f) ∧ (o.isIns = false → f = W.ft i)) ∧ x = some (some (.ref p)) ∧ (∀ a ∈ W.ft i, W.O a) ∧ OwnOk K (W.S F) W.H p (W.ft i) o
  | .ro o => ∃ p f, x = some (some (.ref p)) ∧ (∀ a ∈ f, ¬ F.rf a ∧ F.ex a) ∧ o.isIns = true ∧ OwnOk K F.S0 F.H0 p f o
structure Rel {K : Fg} (F : Fx K) (W : Wd) (σ : L2.St) (Γ : G) : Prop where
  base : ∀ a o, F.H0 a = some o → ¬ F.rf a → W.H a = some o
  new : ∀ a, W.O a → F.H0 a = none ∨ F.rf a
  mu : ∀ a, W.O a → Mo (W.H a)
  rfo : ∀ a, F.rf a → W.O a
  len : σ.length = Γ.length
  slot : ∀ (i : Nat) (s : Sl), Γ[i]? = some s → SlotOk F W i σ[i]? s
  dis : ∀ (i j : Nat) (s t : Sl) (oi oj : OD) (a : Addr), i ≠ j → Γ[i]? = some s → Γ[j]? = some t → s.own? = some oi → t.own? = some oj → a ∈ W.ft i → a ∉ W.ft j
def VOk {K : Fg} (F : Fx K) (W : Wd) (σ : L2.St) (Γ : G) (v : V) : RV → Prop
  | .sh d => Dq K (W.S F) v d
  | .ar d => Dq K (less F.H0 F.rf) v d
  | .own i => ∃ s, Γ[i]? = some s ∧ s.there = true ∧ σ[i]? = some (some v)
  | .fld i path => ∃ s p o, Γ[i]? = some s ∧ s.ins? = some o ∧ σ[i]? = some (some (.ref p)) ∧ PathV (W.S F) W.H p path v
/-- ours, but no name's -/
def Tm (W : Wd) (Γ : G) (p : Addr) : Prop := W.O p ∧ ∀ (j : Nat) (s : Sl) (o : OD), Γ[j]? = some s → s.own? = some o → p ∉ W.ft j
/-- what a run leaves as it was -/
structure Kq {K : Fg} (F : Fx K) (W : Wd) (Γ : G) (W' : Wd) (Γ' : G) : Prop where
  sh : Same (W.S F) (W'.S F)
  tmp : ∀ p, Tm W Γ p → Tm W' Γ' p ∧ W'.H p = W.H p
def InsK (H H' : Hp) : Prop := ∀ a C dx vs, H a = some (.ins C dx vs) → H' a = some (.ins C dx vs)
theorem InsK.refl (H : Hp) : InsK H H := fun _ _ _ _ e => e
theorem InsK.trans {H H1 H2 : Hp} (a : InsK H H1) (b : InsK H1 H2) : InsK H H2 := fun x C d v e => b x C d v (a x C d v e)
theorem InsK.same {H H1 : Hp} (a : Same H H1) : InsK H H1 := fun x C d v e => a _ _ e
theorem InsK.upd {H : Hp} {p : Addr} {ho : HO} (n : notIns (H p)) : InsK H (upd H p ho) := fun x C d v e => by
  rw [upd_ne]
  · exact e
  · intro z
    subst z
    rw [e] at n
    exact n.elim
/-- .. and the instances, too -/
structure Kp {K : Fg} (F : Fx K) (W : Wd) (Γ : G) (W' : Wd) (Γ' : G) : Prop extends Kq F W Γ W' Γ' where
  obj : InsK W.H W'.H
def Kx (s s' : Sl) : Prop := (s.there = true → s'.there = true) ∧ (s.own? = none → s' = s) ∧ (∀ o, s = .rf o → ∃ o', s' = .rf o')
def Kn (s s' : Sl) : Prop := (s.there = true → s'.there = true) ∧ (s.own? = none → s' = s) ∧ (∀ o, s = .rf o → ∃ o', s' = .rf o') ∧ (∀ o, s.ins? = some o → s' = s)
theorem Kn.refl (s : Sl) : Kn s s := ⟨fun z => z, fun _ => rfl, fun o z => ⟨o, z⟩, fun _ _ => rfl⟩
theorem Kn.trans {s s1 s2 : Sl} (a : Kn s s1) (b : Kn s1 s2) : Kn s s2 := ⟨fun z => b.1 (a.1 z), fun q => by
  have z := a.2.1 q
  subst z
  exact b.2.1 q, fun o q => by
  obtain ⟨o1, q1⟩ := a.2.2.1 o q
  exact b.2.2.1 o1 q1, fun o q => by
  have z := a.2.2.2 o q
  subst z
  exact b.2.2.2 o q⟩
structure Stp {K : Fg} (F : Fx K) (W : Wd) (Γ : G) (W' : Wd) (Γ' : G) : Prop extends Kp F W Γ W' Γ' where
  kin : ∀ (i : Nat) (s : Sl), Γ[i]? = some s → ∃ s' : Sl, Γ'[i]? = some s' ∧ Kn s s'
  len : Γ'.length = Γ.length
theorem Kp.refl {K : Fg} (F : Fx K) (W : Wd) (Γ : G) : Kp F W Γ W Γ := ⟨⟨Same.refl _, fun p h => ⟨h, rfl⟩⟩, InsK.refl _⟩
theorem Kq.trans {K : Fg} {F : Fx K} {W W1 W2 : Wd} {Γ Γ1 Γ2 : G} (a : Kq F W Γ W1 Γ1) (b : Kq F W1 Γ1 W2 Γ2) : Kq F W Γ W2 Γ2 :=
  ⟨a.sh.trans b.sh, fun p h => ⟨(b.tmp p (a.tmp p h).1).1, (b.tmp p (a.tmp p h).1).2.trans (a.tmp p h).2⟩⟩
theorem Kp.trans {K : Fg} {F : Fx K} {W W1 W2 : Wd} {Γ Γ1 Γ2 : G} (a : Kp F W Γ W1 Γ1) (b : Kp F W1 Γ1 W2 Γ2) : Kp F W Γ W2 Γ2 := ⟨a.toKq.trans b.toKq, a.obj.trans b.obj⟩
theorem Stp.refl {K : Fg} (F : Fx K) (W : Wd) (Γ : G) : Stp F W Γ W Γ := ⟨Kp.refl F W Γ, fun i s h => ⟨s, h, Kn.refl s⟩, rfl⟩
theorem Stp.trans {K : Fg} {F : Fx K} {W W1 W2 : Wd} {Γ Γ1 Γ2 : G} (a : Stp F W Γ W1 Γ1) (b : Stp F W1 Γ1 W2 Γ2) : Stp F W Γ W2 Γ2 :=
  ⟨a.toKp.trans b.toKp, fun i s h => by
    obtain ⟨s1, h1, k1⟩ := a.kin i s h
    obtain ⟨s2, h2, k2⟩ := b.kin i s1 h1
    exact ⟨s2, h2, k1.trans k2⟩, b.len.trans a.len⟩
theorem VOk.stp {K : Fg} {F : Fx K} {W W' : Wd} {σ : L2.St} {Γ Γ' : G} {v : V} {rv : RV} (a : Stp F W Γ W' Γ') (h : VOk F W σ Γ v rv) : VOk F W' σ Γ' v rv := by
  cases rv with
  | sh d => exact Dq.same a.sh h
  | ar d => exact h
  | own i =>
    obtain ⟨s, h1, h2, h3⟩ := h
    obtain ⟨s', g1, g2, _⟩ := a.kin i s h1
    exact ⟨s', g1, g2 h2, h3⟩
  | fld i path =>
    obtain ⟨s, p, o, h1, h2, h3, h4⟩ := h
    obtain ⟨s', g1, _, _, _, g2⟩ := a.kin i s h1
    cases g2 o h2
    exact ⟨s, p, o, g1, h2, h3, h4.mono a.obj fun _ _ _ z => a.sh _ _ z⟩
/-- a list or dict of one's own, read as data -/
def odD : OD → Option PyData
  | .lst ds => some (.list ds)
  | .dK kvs => some (.dict (kvs.map fun p => (kD p.1, p.2)))
  | _ => none
mutual
/-- .. a list or tuple that holds such things, too -/
def odB : OD → Option PyData
  | .lst ds => some (.list ds)
  | .dK kvs => some (.dict (kvs.map fun p => (kD p.1, p.2)))
  | .box l fs => (fsB fs).map fun ds => if l = true then .list ds else .tuple ds
  | .dT _ => none
  | .ab _ => none
  | .ins _ _ => none
def fsB : Fs → Option (List PyData)
  | .nil => some []
  | .sh _ d r => (fsB r).map (d :: ·)
  | .ow _ o r => (odB o).bind fun d => (fsB r).map (d :: ·)
  | .no _ _ => none
end
def dat (Γ : G) : RV → Option PyData
  | .sh d => some d
  | .ar d => some d
  | .own i => match Γ[i]? with
    | some (.ow o) => odB o
    | some (.rf o) => odB o
    | some (.sh d) => some d
    | some (.ar d) => some d
    | _ => none
  | .fld i path => match Γ[i]? with
    | some s => s.ins?.bind fun o => (o.at_ path).bind odB
    | _ => none
theorem Rel.S_same {K : Fg} {F : Fx K} {W : Wd} : Same (W.S F) W.H := less_same
theorem Rel.ar_same {K : Fg} {F : Fx K} {W : Wd} {σ : L2.St} {Γ : G} (R : Rel F W σ Γ) : Same (less F.H0 F.rf) W.H := fun a o e => R.base a o (less_some.mp e).2 (less_some.mp e).1
theorem Rel.S0_same {K : Fg} {F : Fx K} {W : Wd} {σ : L2.St} {Γ : G} (R : Rel F W σ Γ) : Same F.S0 (W.S F) := fun a o e => by
  obtain ⟨n, q⟩ := less_some.mp e
  have nr : ¬ F.rf a := fun z => n (.inr z)
  refine less_some.mpr ⟨fun z => ?_, R.base a o q nr⟩
  rcases z with z | z
  · exact n (.inl z)
  · rcases R.new a z with y | y
    · rw [q] at y; cases y
    · exact nr y
theorem Rel.tx0 {K : Fg} {F : Fx K} {W : Wd} {σ : L2.St} {Γ : G} (R : Rel F W σ Γ) : Tx F.H0 W.H := fun a o nm e => R.base a o e fun z => by
  have m := F.rm a z
  rw [e] at m
  exact nm m
theorem insO_eq {o o' : OD} (h : insO o = some o') : o' = o ∧ o.isIns = true := by
  unfold insO at h
  split at h
  · rename_i z
    cases h
    exact ⟨rfl, z⟩
  · cases h
/-- an instance's own, as it stands now -/
theorem Rel.insOkX {K : Fg} {F : Fx K} {W : Wd} {σ : L2.St} {Γ : G} (R : Rel F W σ Γ) {i : Nat} {s : Sl} {o : OD} (h : Γ[i]? = some s) (g : s.ins? = some o) : ∃ p f, σ[i]? = some (some (.ref p)) ∧ OwnO K (W.S F) W.H o p f ∧ (∀ a ∈ f, W.O a → a ∈ W.ft i ∧ s.own? = some o) ∧ ∀ a ∈ f, Ex F W.O a := by
  have q := R.slot i s h
  cases s with
  | no => cases g
  | sh _ => cases g
  | ar _ => cases g
  | ow o' =>
    cases (insO_eq g).1
    obtain ⟨p, e1, e2, e3⟩ := q
    exact ⟨p, _, e1, ownO_ok.mpr e3, fun a ha _ => ⟨ha, rfl⟩, fun a ha => .inr (e2 a ha).1⟩
  | rf o' =>
    cases (insO_eq g).1
    obtain ⟨p, _, e1, e2, e3⟩ := q
    exact ⟨p, _, e1, ownO_ok.mpr e3, fun a ha _ => ⟨ha, rfl⟩, fun a ha => .inr (e2 a ha)⟩
  | ro o' =>
    cases (insO_eq g).1
    obtain ⟨p, f, e1, e2, _, e3⟩ := q
    refine ⟨p, f, e1, OwnO.keep R.S0_same R.tx0 (ownO_ok.mpr e3) fun a ha => ?_, fun a ha ho => ?_, fun a ha => .inl (e2 a ha).2⟩
    · cases z : F.H0 a with
      | none => exact (F.exn (e2 a ha).2 z).elim
      | some u => exact R.base a u z (e2 a ha).1
    · rcases R.new a ho with z | z
      · exact (F.exn (e2 a ha).2 z).elim
      · exact ((e2 a ha).1 z).elim
theorem Rel.insOk {K : Fg} {F : Fx K} {W : Wd} {σ : L2.St} {Γ : G} (R : Rel F W σ Γ) {i : Nat} {s : Sl} {o : OD} (h : Γ[i]? = some s) (g : s.ins? = some o) : ∃ p f, σ[i]? = some (some (.ref p)) ∧ OwnO K (W.S F) W.H o p f ∧ ∀ a ∈ f, W.O a → a ∈ W.ft i ∧ s.own? = some o := by
  obtain ⟨p, f, a, b, c, _⟩ := R.insOkX h g
  exact ⟨p, f, a, b, c⟩
mutual
theorem odB_ok {K : Fg} {S S' H : Hp} (hs : Same S S') : ∀ {o : OD} {d : PyData} {p : Addr} {f : List Addr}, OwnO K S H o p f → (∀ a ∈ f, ∀ u, H a = some u → S' a = some u) → odB o = some d → Dq K S' (.ref p) d
  | .lst ds, d, p, f, h, hf, e => by
    simp only [odB, Option.some.injEq] at e
    subst e
    simp only [OwnO] at h
    obtain ⟨rfl, vs, h1, h2⟩ := h
    exact .lst (hf p (by simp) _ h1) (h2.same hs)
  | .dK kvs, d, p, f, h, hf, e => by
    simp only [odB, Option.some.injEq] at e
    subst e
    simp only [OwnO] at h
    obtain ⟨rfl, vs, h1, h2⟩ := h
    exact .dct (.inl (hf p (by simp) _ h1)) ((kvOk_dq h2).same hs)
  | .box l fs, d, p, f, h, hf, e => by
    simp only [odB] at e
    obtain ⟨ds, e1, e2⟩ := Option.map_eq_some_iff.mp e
    simp only [OwnO] at h
    obtain ⟨vs, h1, _, h3, _⟩ := h
    have hd := fsB_ok hs h3 hf e1
    have h1 := hs _ _ h1
    cases l with
    | true => subst e2; exact .lst h1 hd
    | false => subst e2; exact .tup (.inl h1) hd
  | .dT _, _, _, _, _, _, e => by simp [odB] at e
  | .ab _, _, _, _, _, _, e => by simp [odB] at e
  | .ins _ _, _, _, _, _, _, e => by simp [odB] at e
theorem fsB_ok {K : Fg} {S S' H : Hp} (hs : Same S S') : ∀ {fs : Fs} {ds : List PyData} {vs : List (Str × V)} {f : List Addr}, FsOk K S H fs vs f → (∀ a ∈ f, ∀ u, H a = some u → S' a = some u) → fsB fs = some ds → DqAll K S' (vs.map (·.2)) ds
  | .nil, ds, vs, f, h, hf, e => by
    simp only [fsB, Option.some.injEq] at e
    subst e
    simp only [FsOk] at h
    rw [h.1]
    exact .nil
  | .sh g d r, ds, vs, f, h, hf, e => by
    simp only [fsB] at e
    obtain ⟨ds', e1, rfl⟩ := Option.map_eq_some_iff.mp e
    simp only [FsOk] at h
    obtain ⟨v, vs', rfl, h1, h2⟩ := h
    exact .cons (h1.same hs) (fsB_ok hs h2 hf e1)
  | .ow g o r, ds, vs, f, h, hf, e => by
    simp only [fsB] at e
    obtain ⟨d, e0, e⟩ := Option.bind_eq_some_iff.mp e
    obtain ⟨ds', e1, rfl⟩ := Option.map_eq_some_iff.mp e
    simp only [FsOk] at h
    obtain ⟨p, vs', q1, q2, rfl, rfl, h1, h2⟩ := h
    exact .cons (odB_ok hs h1 (fun a ha => hf a (by simp [ha])) e0) (fsB_ok hs h2 (fun a ha => hf a (by simp [ha])) e1)
  | .no g r, ds, vs, f, h, hf, e => by simp [fsB] at e
end
theorem odD_ok {K : Fg} {S H : Hp} {o : OD} {d : PyData} {p : Addr} {f : List Addr} (h : OwnO K S H o p f) (hs : Same S H) (e : odD o = some d) : Dq K H (.ref p) d := by
  cases o with
  | lst ds =>
    cases e
    simp only [OwnO] at h
    obtain ⟨_, vs, h1, h2⟩ := h
    exact .lst h1 (h2.same hs)
  | dK kvs =>
    cases e
    simp only [OwnO] at h
    obtain ⟨_, vs, h1, h2⟩ := h
    exact .dct (.inl h1) ((kvOk_dq h2).same hs)
  | _ => cases e
theorem VOk.full {K : Fg} {F : Fx K} {W : Wd} {σ : L2.St} {Γ : G} {v : V} {rv : RV} {d : PyData} (R : Rel F W σ Γ) (h : VOk F W σ Γ v rv) (e : dat Γ rv = some d) : Dq K W.H v d := by
  cases rv with
  | sh d' => cases e; exact Dq.same Rel.S_same h
  | ar d' => cases e; exact Dq.same R.ar_same h
  | own i =>
    obtain ⟨s, h1, h2, h3⟩ := h
    have q := R.slot i s h1
    simp only [dat, h1] at e
    cases s with
    | no => cases h2
    | sh d' =>
      cases e
      obtain ⟨v', e1, e2⟩ := q
      rw [h3] at e1
      cases e1
      exact Dq.same Rel.S_same e2
    | ar d' =>
      cases e
      obtain ⟨v', e1, e2⟩ := q
      rw [h3] at e1
      cases e1
      exact Dq.same R.ar_same e2
    | ow o' =>
      obtain ⟨p, e1, _, e2⟩ := q
      rw [h3] at e1
      cases e1
      exact odB_ok Rel.S_same (ownO_ok.mpr e2) (fun _ _ _ z => z) e
    | rf o' =>
      obtain ⟨p, _, e1, _, e2⟩ := q
      rw [h3] at e1
      cases e1
      exact odB_ok Rel.S_same (ownO_ok.mpr e2) (fun _ _ _ z => z) e
    | ro o' => cases e
  | fld i path =>
    obtain ⟨s, p, o, h1, h2, h3, h4⟩ := h
    simp only [dat, h1, h2, Option.bind_some] at e
    obtain ⟨o', e1, e2⟩ := Option.bind_eq_some_iff.mp e
    obtain ⟨p', f, g1, g2, _⟩ := R.insOk h1 h2
    rw [h3] at g1
    cases g1
    obtain ⟨q, F', rfl, _, hO⟩ := g2.path Rel.S_same e1 h4
    exact odB_ok Rel.S_same hO (fun _ _ _ z => z) e2
end Dk

namespace Dk
open PySem PySem.Spec PyProof.Rows L2
section
variable {K : Fg} {F : Fx K} {W : Wd} {σ : L2.St} {Γ : G}
theorem mo_some {x : Option HO} (h : Mo x) : ∃ o, x = some o := by
  cases x with
  | none => exact h.elim
  | some o => exact ⟨o, rfl⟩
theorem Rel.exmo (R : Rel F W σ Γ) {a : Addr} (h : Ex F W.O a) : Mo (W.H a) := by
  by_cases ho : W.O a
  · exact R.mu a ho
  · rcases h with h | h
    · have h := F.xm a h
      obtain ⟨o, e⟩ := mo_some h
      have nr : ¬ F.rf a := fun z => ho (R.rfo a z)
      rw [R.base a o e nr, ← e]
      exact h
    · exact (ho h).elim
theorem OwnOk.keep {S S' H H' : Hp} {p : Addr} {f : List Addr} {o : OD} (h : OwnOk K S H p f o) (hs : Same S S') (hk : ∀ a ∈ f, H' a = H a) (ht : Tx H H') : OwnOk K S' H' p f o := by
  cases o with
  | lst ds =>
    obtain ⟨e, vs, h1, h2⟩ := h
    subst e
    exact ⟨rfl, vs, by rw [hk p (by simp)]; exact h1, h2.same hs⟩
  | dK kvs =>
    obtain ⟨e, vs, h1, h2⟩ := h
    subst e
    exact ⟨rfl, vs, by rw [hk p (by simp)]; exact h1, Paired.mapP h2 fun _ _ z => ⟨z.1, z.2.same hs⟩⟩
  | dT kvs =>
    obtain ⟨e, vs, h1, h2⟩ := h
    subst e
    exact ⟨rfl, vs, by rw [hk p (by simp)]; exact h1, Paired.mapP h2 fun _ _ z => ⟨z.1, z.2.same hs⟩⟩
  | ab I =>
    obtain ⟨e, h1, h2, h3⟩ := h
    refine ⟨e, h2 H' hk ht, (fun H'' hk' ht' => h2 H'' (fun a ha => (hk' a ha).trans (hk a ha)) fun a o nm q => ht' a o nm (ht a o nm q)), fun a ha => by rw [hk a ha]; exact h3 a ha⟩
  | ins C fs => exact ownO_ok.mp (OwnO.keep hs ht (ownO_ok.mpr h) hk)
  | box l fs => exact ownO_ok.mp (OwnO.keep hs ht (ownO_ok.mpr h) hk)
theorem SlotOk.keep {W' : Wd} {i : Nat} {x : Option (Option V)} {s : Sl} (h : SlotOk F W i x s) (hf : W'.ft i = W.ft i) (hs : Same (W.S F) (W'.S F)) (ho : ∀ a ∈ W.ft i, W.O a → W'.O a) (hk : ∀ a ∈ W.ft i, s.own?.isSome = true → W'.H a = W.H a) (ht : Tx W.H W'.H) : SlotOk F W' i x s := by
  cases s with
  | no => trivial
  | sh d => obtain ⟨v, e, q⟩ := h; exact ⟨v, e, q.same hs⟩
  | ar d => exact h
  | ow o =>
    obtain ⟨p, e, q, r⟩ := h
    exact ⟨p, e, by rw [hf]; exact fun a ha => ⟨ho a ha (q a ha).1, (q a ha).2⟩, by rw [hf]; exact r.keep hs (fun a ha => hk a ha rfl) ht⟩
  | rf o =>
    obtain ⟨p, e0, e, q, r⟩ := h
    exact ⟨p, by rw [hf]; exact e0, e, by rw [hf]; exact fun a ha => ho a ha (q a ha), by rw [hf]; exact r.keep hs (fun a ha => hk a ha rfl) ht⟩
  | ro o => exact h
theorem Same.ts {H H' : Hp} (h : Same H H') : Tx H H' := fun a o _ e => h a o e
/-- the same world with a greater heap -/
theorem Rel.grow (R : Rel F W σ Γ) {H' : Hp} (h : Same W.H H') : Rel F { W with H := H' } σ Γ ∧ Same (W.S F) (({ W with H := H' } : Wd).S F) := by
  have hs : Same (W.S F) (({ W with H := H' } : Wd).S F) := same_less fun a o nx e => ⟨nx, h a o e⟩
  refine ⟨⟨fun a o e nr => h a o (R.base a o e nr), R.new, fun a ha => ?_, R.rfo, R.len, fun i s e => ?_, R.dis⟩, hs⟩
  · obtain ⟨o, q⟩ := mo_some (R.mu a ha)
    show Mo (H' a)
    rw [h a o q, ← q]
    exact R.mu a ha
  · have z := R.slot i s e
    refine z.keep (W' := { W with H := H' }) rfl hs (fun _ _ q => q) (fun a ha so => ?_) (Same.ts h)
    have hO : W.O a := by
      cases s with
      | no => cases so
      | sh _ => cases so
      | ar _ => cases so
      | ow o => obtain ⟨p, _, q, _⟩ := z; exact (q a ha).1
      | rf o => obtain ⟨p, _, _, q, _⟩ := z; exact q a ha
      | ro _ => cases so
    obtain ⟨o, q⟩ := mo_some (R.mu a hO)
    show H' a = W.H a
    rw [h a o q, q]
theorem Stp.grow (R : Rel F W σ Γ) {H' : Hp} (h : Same W.H H') : Stp F W Γ { W with H := H' } Γ := ⟨⟨⟨(R.grow h).2, fun p t => ⟨t, by
  obtain ⟨o, q⟩ := mo_some (R.mu p t.1)
  show H' p = W.H p
  rw [h p o q, q]⟩⟩, InsK.same h⟩, fun i s e => ⟨s, e, Kn.refl s⟩, rfl⟩
theorem same_new {H : Hp} {p : Addr} {o : HO} (h : H p = none) : Same H (upd H p o) := fun b x e => by
  rw [upd_ne (ne_of_none e h)]
  exact e
/-- a fresh place is nobody's -/
theorem Rel.free (R : Rel F W σ Γ) {p : Addr} (h : W.H p = none) : ¬ Ex F W.O p := fun z => by
  obtain ⟨o, q⟩ := mo_some (R.exmo z)
  rw [h] at q
  cases q
theorem S_of {p : Addr} {o : HO} (n : ¬ Ex F W.O p) (h : W.H p = some o) : W.S F p = some o := less_some.mpr ⟨n, h⟩
end

/-! ### the data readings -/
abbrev TEd := G → (RV → G → Prop) → Prop
abbrev TTd := G → (Bool → G → Prop) → Prop
abbrev TAd := G → (List RV → G → Prop) → Prop
abbrev TFd := G → (OD → G → Prop) → Prop
def VOks {K : Fg} (F : Fx K) (W : Wd) (σ : L2.St) (Γ : G) (vs : List V) (xs : List RV) : Prop := Paired (fun v x => VOk F W σ Γ v x) vs xs
/-- what a new object holds -/
def OwnH (K : Fg) (S : Hp) (ho : HO) : OD → Prop
  | .lst ds => ∃ vs, ho = .lst vs ∧ DqAll K S vs ds
  | .dK kvs => ∃ us, ho = .dK us ∧ KvOk K S us kvs
  | .dT kvs => ∃ us, ho = .dT us ∧ KvOk K S us kvs
  | .ab _ => False
  | .ins _ _ => False
  | .box _ _ => False
class SE (K : Fg) (t : TE) (d : outParam TEd) : Prop where
  run : ∀ (F : Fx K) (W : Wd) (σ : L2.St) (Γ : G) (Q : VK) (Qd : RV → G → Prop), Rel F W σ Γ → d Γ Qd →
    (∀ (rv : RV) (W' : Wd) (Γ' : G) (v : V), Stp F W Γ W' Γ' → Rel F W' σ Γ' → VOk F W' σ Γ' v rv → Qd rv Γ' → Q v W'.H) → t σ W.H Q
class ST (K : Fg) (t : TT) (d : outParam TTd) : Prop where
  run : ∀ (F : Fx K) (W : Wd) (σ : L2.St) (Γ : G) (Q : Bool → Hp → Prop) (Qd : Bool → G → Prop), Rel F W σ Γ → d Γ Qd →
    (∀ (b : Bool) (W' : Wd) (Γ' : G), Stp F W Γ W' Γ' → Rel F W' σ Γ' → Qd b Γ' → Q b W'.H) → t σ W.H Q
class SA (K : Fg) (t : TA) (d : outParam TAd) : Prop where
  run : ∀ (F : Fx K) (W : Wd) (σ : L2.St) (Γ : G) (Q : List V → Hp → Prop) (Qd : List RV → G → Prop), Rel F W σ Γ → d Γ Qd →
    (∀ (xs : List RV) (W' : Wd) (Γ' : G) (vs : List V), Stp F W Γ W' Γ' → Rel F W' σ Γ' → VOks F W' σ Γ' vs xs → Qd xs Γ' → Q vs W'.H) → t σ W.H Q
class SEF (K : Fg) (t : TE) (d : outParam TFd) : Prop where
  run : ∀ (F : Fx K) (W : Wd) (σ : L2.St) (Γ : G) (Q : VK) (Qd : OD → G → Prop), Rel F W σ Γ → d Γ Qd →
    (∀ (o : OD) (W' : Wd) (Γ' : G) (p : Addr) (ho : HO), Stp F W Γ W' Γ' → Rel F W' σ Γ' → W'.H p = none → OwnH K (W'.S F) ho o → Qd o Γ' → Q (.ref p) (upd W'.H p ho)) → t σ W.H Q
def dats (Γ : G) : List RV → Option (List PyData)
  | [] => some []
  | x :: xs => match dat Γ x, dats Γ xs with
    | some d, some ds => some (d :: ds)
    | _, _ => none
theorem VOks.full {K : Fg} {F : Fx K} {W : Wd} {σ : L2.St} {Γ : G} (R : Rel F W σ Γ) : ∀ {xs : List RV} {vs : List V} {ds : List PyData}, VOks F W σ Γ vs xs → dats Γ xs = some ds → DqAll K W.H vs ds
  | [], _, _, h, e => by cases h; cases e; exact .nil
  | x :: xs, _, _, h, e => by
    cases h with
    | cons a b =>
      simp only [dats] at e
      split at e
      · rename_i d ds h1 h2
        cases e
        exact .cons (a.full R h1) (VOks.full R b h2)
      · cases e
theorem VOks.stp {K : Fg} {F : Fx K} {W W' : Wd} {σ : L2.St} {Γ Γ' : G} {vs : List V} {xs : List RV} (a : Stp F W Γ W' Γ') (h : VOks F W σ Γ vs xs) : VOks F W' σ Γ' vs xs := Paired.mapP h fun _ _ z => z.stp a
/-- what may be kept as it is -/
def shOf : RV → Option PyData
  | .sh d => some d
  | .ar d => if tupO d = true then some d else none
  | .own _ => none
  | .fld _ _ => none
theorem VOk.sh {K : Fg} {F : Fx K} {W : Wd} {σ : L2.St} {Γ : G} {v : V} {rv : RV} {d : PyData} (R : Rel F W σ Γ) (h : VOk F W σ Γ v rv) (e : shOf rv = some d) : Dq K (W.S F) v d := by
  cases rv with
  | sh d' => cases e; exact h
  | ar d' =>
    simp only [shOf] at e
    split at e
    · rename_i t
      cases e
      exact Dq.tupO_less (H' := W.H) (fun a z => R.exmo z) _ _ t (Dq.same R.ar_same h)
    · cases e
  | own i => cases e
  | fld i f => cases e
section
variable {K : Fg} {F : Fx K} {W : Wd} {σ : L2.St} {Γ : G}
theorem VOk.int (i : Int) : VOk F W σ Γ (.int i) (.sh (.int i)) := Dq.int i
theorem VOk.bl (i : Bool) : VOk F W σ Γ (.bl i) (.sh (.bool i)) := Dq.bl i
theorem VOk.str (i : Str) : VOk F W σ Γ (.str i) (.sh (.str i)) := Dq.str i
theorem VOk.non : VOk F W σ Γ .non (.sh .none) := Dq.non
theorem VOk.ofSh {v : V} {d : PyData} (h : Dq K (W.S F) v d) : VOk F W σ Γ v (.sh d) := h
theorem VOk.ofAr {v : V} {d : PyData} (h : Dq K (less F.H0 F.rf) v d) : VOk F W σ Γ v (.ar d) := h
theorem VOk.ofOwn {v : V} {i : Nat} {s : Sl} (h1 : Γ[i]? = some s) (h2 : s.there = true) (h3 : σ[i]? = some (some v)) : VOk F W σ Γ v (.own i) := ⟨s, h1, h2, h3⟩
end
def shsOf : List RV → Option (List PyData)
  | [] => some []
  | x :: xs => match shOf x, shsOf xs with
    | some d, some ds => some (d :: ds)
    | _, _ => none
theorem VOks.shs {K : Fg} {F : Fx K} {W : Wd} {σ : L2.St} {Γ : G} (R : Rel F W σ Γ) : ∀ {xs : List RV} {vs : List V} {ds : List PyData}, VOks F W σ Γ vs xs → shsOf xs = some ds → DqAll K (W.S F) vs ds
  | [], _, _, h, e => by cases h; cases e; exact .nil
  | x :: xs, _, _, h, e => by
    cases h with
    | cons a b =>
      simp only [shsOf] at e
      split at e
      · rename_i d ds h1 h2
        cases e
        exact .cons (a.sh R h1) (VOks.shs R b h2)
      · cases e
theorem DqAll.len_eq {K : Fg} {H : Hp} {vs : List V} {ds : List PyData} (h : DqAll K H vs ds) : vs.length = ds.length := h.length

/-! ### names and constants -/
def slotV (Γ : G) (i : Nat) : Option RV := match Γ[i]? with
  | some (.sh d) => some (.sh d)
  | some (.ar d) => some (.ar d)
  | some (.ow _) => some (.own i)
  | some (.rf _) => some (.own i)
  | some (.ro _) => some (.own i)
  | _ => none
def dVar (i : Nat) : TEd := fun Γ Q => ∃ rv, slotV Γ i = some rv ∧ Q rv Γ
def dC (d : PyData) : TEd := fun Γ Q => Q (.sh d) Γ
section
variable {K : Fg}
instance se_var (i : Nat) : SE K (tVar i) (dVar i) := ⟨fun F W σ Γ Q Qd R h k => by
  obtain ⟨rv, e, q⟩ := h
  unfold slotV at e
  split at e
  · rename_i d h1
    cases e
    obtain ⟨v, e1, e2⟩ := R.slot i _ h1
    exact ⟨v, e1, k _ W Γ v (Stp.refl ..) R (.ofSh e2) q⟩
  · rename_i d h1
    cases e
    obtain ⟨v, e1, e2⟩ := R.slot i _ h1
    exact ⟨v, e1, k _ W Γ v (Stp.refl ..) R (.ofAr e2) q⟩
  · rename_i o h1
    cases e
    obtain ⟨p, e1, e2⟩ := R.slot i _ h1
    exact ⟨_, e1, k _ W Γ _ (Stp.refl ..) R (.ofOwn h1 rfl e1) q⟩
  · rename_i o h1
    cases e
    obtain ⟨p, e0, e1, e2⟩ := R.slot i _ h1
    exact ⟨_, e1, k _ W Γ _ (Stp.refl ..) R (.ofOwn h1 rfl e1) q⟩
  · rename_i o h1
    cases e
    obtain ⟨p, f, e1, e2⟩ := R.slot i _ h1
    exact ⟨_, e1, k _ W Γ _ (Stp.refl ..) R (.ofOwn h1 rfl e1) q⟩
  · cases e⟩
instance se_int (i : Int) : SE K (tC (.int i)) (dC (.int i)) := ⟨fun F W σ Γ Q Qd R h k => k _ W Γ _ (Stp.refl ..) R (.int i) h⟩
instance se_bl (i : Bool) : SE K (tC (.bl i)) (dC (.bool i)) := ⟨fun F W σ Γ Q Qd R h k => k _ W Γ _ (Stp.refl ..) R (.bl i) h⟩
instance se_str (i : Str) : SE K (tC (.str i)) (dC (.str i)) := ⟨fun F W σ Γ Q Qd R h k => k _ W Γ _ (Stp.refl ..) R (.str i) h⟩
instance se_non : SE K (tC .non) (dC .none) := ⟨fun F W σ Γ Q Qd R h k => k _ W Γ _ (Stp.refl ..) R .non h⟩

/-! ### two operands -/
theorem two {ta tb : TE} {da db : TEd} [A : SE K ta da] [B : SE K tb db] {F : Fx K} {W : Wd} {σ : L2.St} {Γ : G} {Qd : RV → RV → G → Prop} {Q : V → V → Hp → Prop} (R : Rel F W σ Γ) (h : da Γ fun x Γ1 => db Γ1 fun y Γ2 => Qd x y Γ2)
    (k : ∀ (x y : RV) (W' : Wd) (Γ' : G) (u v : V), Stp F W Γ W' Γ' → Rel F W' σ Γ' → VOk F W' σ Γ' u x → VOk F W' σ Γ' v y → Qd x y Γ' → Q u v W'.H) : ta σ W.H fun u H1 => tb σ H1 fun v H2 => Q u v H2 :=
  A.run F W σ Γ _ _ R h fun x W1 Γ1 u s1 R1 o1 q1 => B.run F W1 σ Γ1 _ _ R1 q1 fun y W2 Γ2 v s2 R2 o2 q2 => k x y W2 Γ2 u v (s1.trans s2) R2 (o1.stp s2) o2 q2
def dI0 (h : Int → Int → PyData) (da db : TEd) : TEd := fun Γ Q => da Γ fun x Γ1 => db Γ1 fun y Γ2 => ∃ i j, dat Γ2 x = some (.int i) ∧ dat Γ2 y = some (.int j) ∧ Q (.sh (h i j)) Γ2
def dIC (C : Int → Int → Prop) (h : Int → Int → PyData) (da db : TEd) : TEd := fun Γ Q => da Γ fun x Γ1 => db Γ1 fun y Γ2 => ∃ i j, dat Γ2 x = some (.int i) ∧ dat Γ2 y = some (.int j) ∧ C i j ∧ Q (.sh (h i j)) Γ2
theorem int_of {H : Hp} {v : V} {i : Int} (h : Dq K H v (.int i)) : v = .int i := by cases h; rfl
theorem str_of {H : Hp} {v : V} {i : Str} (h : Dq K H v (.str i)) : v = .str i := by cases h; rfl
theorem bl_of {H : Hp} {v : V} {i : Bool} (h : Dq K H v (.bool i)) : v = .bl i := by cases h; rfl
section
variable {ta tb : TE} {da db : TEd}
instance se_I0i (h : Int → Int → Int) [SE K ta da] [SE K tb db] : SE K (tOp (rI0 fun i j => V.int (h i j)) ta tb) (dI0 (fun i j => .int (h i j)) da db) := ⟨fun F W σ Γ Q Qd R q k => two R q fun x y W' Γ' u v s' R' o1 o2 ⟨i, j, e1, e2, q⟩ =>
  ⟨i, j, int_of (o1.full R' e1), int_of (o2.full R' e2), k _ W' Γ' _ s' R' (.int _) q⟩⟩
instance se_I0b (h : Int → Int → Bool) [SE K ta da] [SE K tb db] : SE K (tOp (rI0 fun i j => V.bl (h i j)) ta tb) (dI0 (fun i j => .bool (h i j)) da db) := ⟨fun F W σ Γ Q Qd R q k => two R q fun x y W' Γ' u v s' R' o1 o2 ⟨i, j, e1, e2, q⟩ =>
  ⟨i, j, int_of (o1.full R' e1), int_of (o2.full R' e2), k _ W' Γ' _ s' R' (.bl _) q⟩⟩
instance se_ICi (C : Int → Int → Prop) (h : Int → Int → Int) [SE K ta da] [SE K tb db] : SE K (tOp (rI C fun i j => V.int (h i j)) ta tb) (dIC C (fun i j => .int (h i j)) da db) := ⟨fun F W σ Γ Q Qd R q k => two R q fun x y W' Γ' u v s' R' o1 o2 ⟨i, j, e1, e2, c, q⟩ =>
  ⟨i, j, int_of (o1.full R' e1), int_of (o2.full R' e2), c, k _ W' Γ' _ s' R' (.int _) q⟩⟩
/-- == of numbers, texts, bools -/
def eqS : PyData → PyData → Option Bool
  | .int i, .int j => some (decide (i = j))
  | .str i, .str j => some (decide (i = j))
  | .bool i, .bool j => some (decide (i = j))
  | _, _ => none
def dEq (f : Bool → Bool) (da db : TEd) : TEd := fun Γ Q => da Γ fun x Γ1 => db Γ1 fun y Γ2 => ∃ a b c, dat Γ2 x = some a ∧ dat Γ2 y = some b ∧ eqS a b = some c ∧ Q (.sh (.bool (f c))) Γ2
theorem eqS_ok {H : Hp} {u v : V} {a b : PyData} {c : Bool} (h1 : Dq K H u a) (h2 : Dq K H v b) (e : eqS a b = some c) : scal u v = true ∧ decide (u = v) = c := by
  cases a <;> cases b <;> simp only [eqS] at e <;> try cases e
  all_goals (cases h1; cases h2; refine ⟨rfl, ?_⟩; simp)
instance se_eq [SE K ta da] [SE K tb db] : SE K (tOp rEq ta tb) (dEq id da db) := ⟨fun F W σ Γ Q Qd R q k => two R q fun x y W' Γ' u v s' R' o1 o2 ⟨a, b, c, e1, e2, e3, q⟩ => by
  obtain ⟨h1, h2⟩ := eqS_ok (o1.full R' e1) (o2.full R' e2) e3
  refine ⟨h1, ?_⟩
  rw [h2]
  exact k _ W' Γ' _ s' R' (.bl c) q⟩
instance se_ne [SE K ta da] [SE K tb db] : SE K (tOp rNe ta tb) (dEq not da db) := ⟨fun F W σ Γ Q Qd R q k => two R q fun x y W' Γ' u v s' R' o1 o2 ⟨a, b, c, e1, e2, e3, q⟩ => by
  obtain ⟨h1, h2⟩ := eqS_ok (o1.full R' e1) (o2.full R' e2) e3
  refine ⟨h1, ?_⟩
  rw [h2]
  exact k _ W' Γ' _ s' R' (.bl (!c)) q⟩
/-- == of data -/
def dEqD (f : Bool → Bool) (da db : TEd) : TEd := fun Γ Q => da Γ fun x Γ1 => db Γ1 fun y Γ2 => ∃ a b, dat Γ2 x = some a ∧ dat Γ2 y = some b ∧ SeqAt.shaped a = true ∧ SeqAt.shaped b = true ∧ Q (.sh (.bool (f (PyData.eqv a b)))) Γ2
instance se_eqD [SE K ta da] [SE K tb db] : SE K (tOp (rEqD K) ta tb) (dEqD id da db) := ⟨fun F W σ Γ Q Qd R q k => two R q fun x y W' Γ' u v s' R' o1 o2 ⟨a, b, e1, e2, s1, s2, q⟩ =>
  ⟨a, b, Dq.dp _ _ (SeqAt.canLay_of_shaped s1) (o1.full R' e1), Dq.dp _ _ (SeqAt.canLay_of_shaped s2) (o2.full R' e2), s1, s2, k _ W' Γ' _ s' R' (.bl _) q⟩⟩
instance se_neD [SE K ta da] [SE K tb db] : SE K (tOp (rNeD K) ta tb) (dEqD not da db) := ⟨fun F W σ Γ Q Qd R q k => two R q fun x y W' Γ' u v s' R' o1 o2 ⟨a, b, e1, e2, s1, s2, q⟩ =>
  ⟨a, b, Dq.dp _ _ (SeqAt.canLay_of_shaped s1) (o1.full R' e1), Dq.dp _ _ (SeqAt.canLay_of_shaped s2) (o2.full R' e2), s1, s2, k _ W' Γ' _ s' R' (.bl _) q⟩⟩
/-- -a -/
def dU (h : Int → PyData) (da : TEd) : TEd := fun Γ Q => da Γ fun x Γ1 => ∃ i, dat Γ1 x = some (.int i) ∧ Q (.sh (h i)) Γ1
instance se_U (h : Int → Int) [A : SE K ta da] : SE K (tUn (rU fun i => V.int (h i)) ta) (dU (fun i => .int (h i)) da) := ⟨fun F W σ Γ Q Qd R q k => A.run F W σ Γ _ _ R q fun x W' Γ' u s' R' o1 ⟨i, e1, q⟩ =>
  ⟨i, int_of (o1.full R' e1), k _ W' Γ' _ s' R' (.int _) q⟩⟩
/-- chains -/
def dChain (h h' : Int → Int → Bool) (da db dc : TEd) : TEd := fun Γ Q => da Γ fun x Γ1 => db Γ1 fun y Γ2 => ∃ i j, dat Γ2 x = some (.int i) ∧ dat Γ2 y = some (.int j) ∧ (h i j = true → dc Γ2 fun z Γ3 => ∃ l, dat Γ3 z = some (.int l) ∧ Q (.sh (.bool (h' j l))) Γ3) ∧ (h i j = false → Q (.sh (.bool false)) Γ2)
instance se_chain (h h' : Int → Int → Bool) {tc : TE} {dc : TEd} [SE K ta da] [SE K tb db] [C : SE K tc dc] : SE K (tChain (rI0 fun i j => V.bl (h i j)) (rI0 fun i j => V.bl (h' i j)) ta tb tc) (dChain h h' da db dc) := ⟨fun F W σ Γ Q Qd R q k => two (ta := ta) (tb := tb) (da := da) (db := db) R q fun x y W' Γ' u v s' R' o1 o2 ⟨i, j, e1, e2, q1, q2⟩ => by
  have ev := int_of (o2.full R' e2)
  refine ⟨i, j, int_of (o1.full R' e1), ev, h i j, rfl, ?_⟩
  cases hb : h i j with
  | true =>
    refine iteT (C.run F W' σ Γ' _ _ R' (q1 hb) fun z W2 Γ2 w s2 R2 o3 ⟨l, e3, q⟩ => ?_)
    exact ⟨j, l, ev, int_of (o3.full R2 e3), k _ W2 Γ2 _ (s'.trans s2) R2 (.bl _) q⟩
  | false => exact iteF (k _ W' Γ' _ s' R' (.bl _) (q2 hb))⟩
end

/-! ### tests -/
section
variable {ta : TE} {da : TEd} {t u : TT} {d e : TTd}
def dTest (da : TEd) : TTd := fun Γ Q => da Γ fun x Γ1 => ∃ b, dat Γ1 x = some (.bool b) ∧ Q b Γ1
instance st_test [A : SE K ta da] : ST K (tTest ta) (dTest da) := ⟨fun F W σ Γ Q Qd R q k => A.run F W σ Γ _ _ R q fun x W' Γ' v s' R' o1 ⟨b, e1, q⟩ =>
  ⟨b, bl_of (o1.full R' e1), k b W' Γ' s' R' q⟩⟩
instance st_tB [A : SE K ta da] : ST K (tB ta) (dTest da) := ⟨fun F W σ Γ Q Qd R q k => A.run F W σ Γ _ _ R q fun x W' Γ' v s' R' o1 ⟨b, e1, q⟩ =>
  ⟨b, bl_of (o1.full R' e1), k b W' Γ' s' R' q⟩⟩
def dAnd (d e : TTd) : TTd := fun Γ Q => d Γ fun b Γ1 => if b = true then e Γ1 Q else Q false Γ1
def dOr (d e : TTd) : TTd := fun Γ Q => d Γ fun b Γ1 => if b = true then Q true Γ1 else e Γ1 Q
def dNot (d : TTd) : TTd := fun Γ Q => d Γ fun b Γ1 => Q (!b) Γ1
instance st_and [A : ST K t d] [B : ST K u e] : ST K (tAnd t u) (dAnd d e) := ⟨fun F W σ Γ Q Qd R q k => A.run F W σ Γ _ _ R q fun b W' Γ' s' R' q => by
  cases b with
  | true => rw [if_pos rfl] at q; exact iteT (B.run F W' σ Γ' _ _ R' q fun b' W2 Γ2 s2 R2 q => k b' W2 Γ2 (s'.trans s2) R2 q)
  | false => rw [if_neg Bool.false_ne_true] at q; exact iteF (k _ W' Γ' s' R' q)⟩
instance st_or [A : ST K t d] [B : ST K u e] : ST K (tOr t u) (dOr d e) := ⟨fun F W σ Γ Q Qd R q k => A.run F W σ Γ _ _ R q fun b W' Γ' s' R' q => by
  cases b with
  | false => rw [if_neg Bool.false_ne_true] at q; exact iteF (B.run F W' σ Γ' _ _ R' q fun b' W2 Γ2 s2 R2 q => k b' W2 Γ2 (s'.trans s2) R2 q)
  | true => rw [if_pos rfl] at q; exact iteT (k _ W' Γ' s' R' q)⟩
instance st_not [A : ST K t d] : ST K (tNot t) (dNot d) := ⟨fun F W σ Γ Q Qd R q k => A.run F W σ Γ _ _ R q fun b W' Γ' s' R' q => k _ W' Γ' s' R' q⟩
/-- as values -/
def dAndV (d e : TEd) : TEd := fun Γ Q => d Γ fun x Γ1 => ∃ b, dat Γ1 x = some (.bool b) ∧ if b = true then e Γ1 Q else Q (.sh (.bool false)) Γ1
def dOrV (d e : TEd) : TEd := fun Γ Q => d Γ fun x Γ1 => ∃ b, dat Γ1 x = some (.bool b) ∧ if b = true then Q (.sh (.bool true)) Γ1 else e Γ1 Q
def dNotV (d : TEd) : TEd := fun Γ Q => d Γ fun x Γ1 => ∃ b, dat Γ1 x = some (.bool b) ∧ Q (.sh (.bool (!b))) Γ1
instance se_andV {tb : TE} {db : TEd} [A : SE K ta da] [B : SE K tb db] : SE K (tAndV ta tb) (dAndV da db) := ⟨fun F W σ Γ Q Qd R q k => A.run F W σ Γ _ _ R q fun x W' Γ' v s' R' o1 ⟨b, e1, q⟩ => by
  refine ⟨b, bl_of (o1.full R' e1), ?_⟩
  cases b with
  | true => rw [if_pos rfl] at q; exact iteT (B.run F W' σ Γ' _ _ R' q fun b' W2 Γ2 v2 s2 R2 o2 q => k b' W2 Γ2 v2 (s'.trans s2) R2 o2 q)
  | false => rw [if_neg Bool.false_ne_true] at q; exact iteF (k _ W' Γ' _ s' R' (.bl false) q)⟩
instance se_orV {tb : TE} {db : TEd} [A : SE K ta da] [B : SE K tb db] : SE K (tOrV ta tb) (dOrV da db) := ⟨fun F W σ Γ Q Qd R q k => A.run F W σ Γ _ _ R q fun x W' Γ' v s' R' o1 ⟨b, e1, q⟩ => by
  refine ⟨b, bl_of (o1.full R' e1), ?_⟩
  cases b with
  | false => rw [if_neg Bool.false_ne_true] at q; exact iteF (B.run F W' σ Γ' _ _ R' q fun b' W2 Γ2 v2 s2 R2 o2 q => k b' W2 Γ2 v2 (s'.trans s2) R2 o2 q)
  | true => rw [if_pos rfl] at q; exact iteT (k _ W' Γ' _ s' R' (.bl true) q)⟩
instance se_notV [A : SE K ta da] : SE K (tNotV ta) (dNotV da) := ⟨fun F W σ Γ Q Qd R q k => A.run F W σ Γ _ _ R q fun x W' Γ' v s' R' o1 ⟨b, e1, q⟩ =>
  ⟨b, bl_of (o1.full R' e1), k _ W' Γ' _ s' R' (.bl _) q⟩⟩
def dIfE (d : TTd) (da db : TEd) : TEd := fun Γ Q => d Γ fun b Γ1 => if b = true then da Γ1 Q else db Γ1 Q
instance se_ifE {tb : TE} {db : TEd} [T : ST K t d] [A : SE K ta da] [B : SE K tb db] : SE K (tIf t ta tb) (dIfE d da db) := ⟨fun F W σ Γ Q Qd R q k => T.run F W σ Γ _ _ R q fun b W' Γ' s' R' q => by
  cases b with
  | true => rw [if_pos rfl] at q; exact iteT (A.run F W' σ Γ' _ _ R' q fun x W2 Γ2 v s2 R2 o2 q => k x W2 Γ2 v (s'.trans s2) R2 o2 q)
  | false => rw [if_neg Bool.false_ne_true] at q; exact iteF (B.run F W' σ Γ' _ _ R' q fun x W2 Γ2 v s2 R2 o2 q => k x W2 Γ2 v (s'.trans s2) R2 o2 q)⟩
end

/-! ### arguments, tuples, lists, calls -/
section
variable {ta : TE} {da : TEd} {t : TA} {d : TAd}
def dNil : TAd := fun Γ Q => Q [] Γ
def dCons (da : TEd) (d : TAd) : TAd := fun Γ Q => da Γ fun x Γ1 => d Γ1 fun xs Γ2 => Q (x :: xs) Γ2
instance sa_nil : SA K tNil dNil := ⟨fun F W σ Γ Q Qd R q k => k [] W Γ [] (Stp.refl ..) R .nil q⟩
instance sa_cons [A : SE K ta da] [B : SA K t d] : SA K (tCons ta t) (dCons da d) := ⟨fun F W σ Γ Q Qd R q k => A.run F W σ Γ _ _ R q fun x W' Γ' v s' R' o1 q =>
  B.run F W' σ Γ' _ _ R' q fun xs W2 Γ2 vs s2 R2 o2 q => k (x :: xs) W2 Γ2 (v :: vs) (s'.trans s2) R2 (.cons (o1.stp s2) o2) q⟩
def dTup (d : TAd) : TEd := fun Γ Q => d Γ fun xs Γ1 => ∃ ds, shsOf xs = some ds ∧ ds.length ≤ sizeLine ∧ Q (.sh (.tuple ds)) Γ1
instance se_tup [A : SA K t d] : SE K (tTup t) (dTup d) := ⟨fun F W σ Γ Q Qd R q k => A.run F W σ Γ _ _ R q fun xs W' Γ' vs s' R' o1 ⟨ds, e1, hl, q⟩ => by
  have hd := o1.shs R' e1
  refine ⟨by rw [hd.length]; exact hl, fun p hp => ?_⟩
  have hS := same_new (o := .tup vs) hp
  refine k (.sh (.tuple ds)) { W' with H := upd W'.H p (.tup vs) } Γ' (.ref p) (s'.trans (Stp.grow R' hS)) (R'.grow hS).1 ?_ q
  exact .tup (.inl (S_of (W := { W' with H := upd W'.H p (.tup vs) }) (R'.free hp) upd_same)) (hd.same (R'.grow hS).2)⟩
def dLst (d : TAd) : TFd := fun Γ Q => d Γ fun xs Γ1 => ∃ ds, shsOf xs = some ds ∧ ds.length ≤ sizeLine ∧ Q (.lst ds) Γ1
instance sf_lst [A : SA K t d] : SEF K (tLst t) (dLst d) := ⟨fun F W σ Γ Q Qd R q k => A.run F W σ Γ _ _ R q fun xs W' Γ' vs s' R' o1 ⟨ds, e1, hl, q⟩ => by
  have hd := o1.shs R' e1
  exact ⟨by rw [hd.length]; exact hl, fun p hp => k (.lst ds) W' Γ' p _ s' R' hp ⟨vs, rfl, hd⟩ q⟩⟩
/-- a new list or dict that nobody will change -/
def dFrz (d : TFd) : TEd := fun Γ Q => d Γ fun o Γ1 => ∃ d, odD o = some d ∧ Q (.sh d) Γ1
instance (priority := low) se_frz {te : TE} {df : TFd} [A : SEF K te df] : SE K te (dFrz df) := ⟨fun F W σ Γ Q Qd R q k => A.run F W σ Γ _ _ R q fun o W' Γ' p ho s' R' hp oh ⟨d, e1, q⟩ => by
  have hS := same_new (o := ho) hp
  refine k (.sh d) { W' with H := upd W'.H p ho } Γ' (.ref p) (s'.trans (Stp.grow R' hS)) (R'.grow hS).1 ?_ q
  have here : (({ W' with H := upd W'.H p ho } : Wd).S F) p = some ho := S_of (W := { W' with H := upd W'.H p ho }) (R'.free hp) upd_same
  cases o with
  | lst ds =>
    cases e1
    obtain ⟨vs, e2, hd⟩ := oh
    subst e2
    exact .lst here (hd.same (R'.grow hS).2)
  | dK kvs =>
    cases e1
    obtain ⟨us, e2, hd⟩ := oh
    subst e2
    exact .dct (.inl here) ((kvOk_dq hd).same (R'.grow hS).2)
  | dT kvs => cases e1
  | ab I => cases e1
  | ins C fs => cases e1
  | box l fs => cases e1⟩
/-- a promise in data: nothing that stood is changed, the answer is new but for its tuples -/
def PureSp (K : Fg) (C : List PyData → (PyData → Prop) → Prop) : Sp := fun vs H Q _ => ∃ (ds : List PyData) (Qd : PyData → Prop), DqAll K H vs ds ∧ C ds Qd ∧ ∀ (v : V) (H' : Hp) (d : PyData), Same H H' → Dq K (less H' fun a => Mo (H a)) v d → Qd d → Q v H'
def dCall (C : List PyData → (PyData → Prop) → Prop) (d : TAd) : TEd := fun Γ Q => d Γ fun xs Γ1 => ∃ ds, dats Γ1 xs = some ds ∧ C ds fun r => Q (.sh r) Γ1
instance se_call {C : List PyData → (PyData → Prop) → Prop} {E : XK} [A : SA K t d] : SE K (tCall (PureSp K C) [] E t) (dCall C d) := ⟨fun F W σ Γ Q Qd R q k => A.run F W σ Γ _ _ R q fun xs W' Γ' vs s' R' o1 ⟨ds, e1, q⟩ => by
  rw [List.append_nil]
  refine ⟨ds, _, o1.full R' e1, q, fun v H' r hS hv hq => ?_⟩
  refine k (.sh r) { W' with H := H' } Γ' v (s'.trans (Stp.grow R' hS)) (R'.grow hS).1 ?_ hq
  exact hv.same (same_less fun a o nx e => ⟨fun z => nx (R'.exmo z), e⟩)⟩
/-- .. the answer is a new list -/
def FreshSp (K : Fg) (C : List PyData → (OD → Prop) → Prop) : Sp := fun vs H Q _ => ∃ (ds : List PyData) (Qd : OD → Prop), DqAll K H vs ds ∧ C ds Qd ∧ ∀ (p : Addr) (ho : HO) (H' : Hp) (o : OD), Same H H' → H' p = none → OwnH K (less H' fun a => Mo (H a)) ho o → Qd o → Q (.ref p) (upd H' p ho)
def dCallF (C : List PyData → (OD → Prop) → Prop) (d : TAd) : TFd := fun Γ Q => d Γ fun xs Γ1 => ∃ ds, dats Γ1 xs = some ds ∧ C ds fun r => Q r Γ1
theorem OwnH.same {S S' : Hp} {ho : HO} {o : OD} (h : OwnH K S ho o) (e : Same S S') : OwnH K S' ho o := by
  cases o with
  | lst ds => obtain ⟨vs, h1, h2⟩ := h; exact ⟨vs, h1, h2.same e⟩
  | dK ds => obtain ⟨vs, h1, h2⟩ := h; exact ⟨vs, h1, Paired.mapP h2 fun _ _ z => ⟨z.1, z.2.same e⟩⟩
  | dT ds => obtain ⟨vs, h1, h2⟩ := h; exact ⟨vs, h1, Paired.mapP h2 fun _ _ z => ⟨z.1, z.2.same e⟩⟩
  | ab I => exact h
  | ins _ _ => exact h
  | box _ _ => exact h
instance sf_call {C : List PyData → (OD → Prop) → Prop} {E : XK} [A : SA K t d] : SEF K (tCall (FreshSp K C) [] E t) (dCallF C d) := ⟨fun F W σ Γ Q Qd R q k => A.run F W σ Γ _ _ R q fun xs W' Γ' vs s' R' o1 ⟨ds, e1, q⟩ => by
  rw [List.append_nil]
  refine ⟨ds, _, o1.full R' e1, q, fun p ho H' r hS hp hv hq => ?_⟩
  refine k r { W' with H := H' } Γ' p ho (s'.trans (Stp.grow R' hS)) (R'.grow hS).1 hp ?_ hq
  exact hv.same (same_less fun a o nx e => ⟨fun z => nx (R'.exmo z), e⟩)⟩
end
end
end Dk

namespace Dk
open PySem PySem.Spec PyProof.Rows L2
/-! ### names stored -/
section
variable {K : Fg} {F : Fx K} {W : Wd} {σ : L2.St} {Γ : G}
def notRf (Γ : G) (i : Nat) : Bool := match Γ[i]? with
  | some (.rf _) => false
  | _ => true
theorem get_set {α : Type} (l : List α) (i j : Nat) (x y : α) (h : (l.set i x)[j]? = some y) : (j = i ∧ y = x ∧ i < l.length) ∨ (j ≠ i ∧ l[j]? = some y) := by
  by_cases e : j = i
  · subst e
    rw [List.getElem?_set_self'] at h
    cases q : l[j]? with
    | none => rw [q] at h; cases h
    | some z =>
      rw [q] at h
      refine .inl ⟨rfl, ?_, (List.getElem?_eq_some_iff.mp q).1⟩
      simpa using h.symm
  · rw [List.getElem?_set_ne (Ne.symm e)] at h
    exact .inr ⟨e, h⟩
theorem get_set_same {l : List (Option V)} {i : Nat} {x : Option V} (h : i < l.length) : (l.set i x)[i]? = some x := List.getElem?_set_self h
/-- a shared thing is given a name -/
theorem Rel.setSh (R : Rel F W σ Γ) {i : Nat} {v : V} {d : PyData} (hv : Dq K (W.S F) v d) : Rel F W (σ.set i (some v)) (Γ.set i (.sh d)) := by
  refine ⟨R.base, R.new, R.mu, R.rfo, by simp [R.len], fun j s e => ?_, fun j k s t oi oj a ne e1 e2 h1 h2 => ?_⟩
  · rcases get_set _ _ _ _ _ e with ⟨rfl, rfl, hl⟩ | ⟨ne, e⟩
    · exact ⟨v, get_set_same (by rw [R.len]; exact hl), hv⟩
    · rw [List.getElem?_set_ne (Ne.symm ne)]
      exact R.slot j s e
  · rcases get_set _ _ _ _ _ e1 with ⟨rfl, rfl, _⟩ | ⟨ne1, e1⟩
    · cases h1
    · rcases get_set _ _ _ _ _ e2 with ⟨rfl, rfl, _⟩ | ⟨ne2, e2⟩
      · cases h2
      · exact R.dis j k s t oi oj a ne e1 e2 h1 h2
theorem Rel.setAr (R : Rel F W σ Γ) {i : Nat} {v : V} {d : PyData} (hv : Dq K (less F.H0 F.rf) v d) : Rel F W (σ.set i (some v)) (Γ.set i (.ar d)) := by
  refine ⟨R.base, R.new, R.mu, R.rfo, by simp [R.len], fun j s e => ?_, fun j k s t oi oj a ne e1 e2 h1 h2 => ?_⟩
  · rcases get_set _ _ _ _ _ e with ⟨rfl, rfl, hl⟩ | ⟨ne, e⟩
    · exact ⟨v, get_set_same (by rw [R.len]; exact hl), hv⟩
    · rw [List.getElem?_set_ne (Ne.symm ne)]
      exact R.slot j s e
  · rcases get_set _ _ _ _ _ e1 with ⟨rfl, rfl, _⟩ | ⟨ne1, e1⟩
    · cases h1
    · rcases get_set _ _ _ _ _ e2 with ⟨rfl, rfl, _⟩ | ⟨ne2, e2⟩
      · cases h2
      · exact R.dis j k s t oi oj a ne e1 e2 h1 h2
/-- any value, the name forgotten -/
theorem Rel.setNo (R : Rel F W σ Γ) {i : Nat} {x : Option V} : Rel F W (σ.set i x) (Γ.set i .no) := by
  refine ⟨R.base, R.new, R.mu, R.rfo, by simp [R.len], fun j s e => ?_, fun j k s t oi oj a ne e1 e2 h1 h2 => ?_⟩
  · rcases get_set _ _ _ _ _ e with ⟨rfl, rfl, hl⟩ | ⟨ne, e⟩
    · trivial
    · rw [List.getElem?_set_ne (Ne.symm ne)]
      exact R.slot j s e
  · rcases get_set _ _ _ _ _ e1 with ⟨rfl, rfl, _⟩ | ⟨ne1, e1⟩
    · cases h1
    · rcases get_set _ _ _ _ _ e2 with ⟨rfl, rfl, _⟩ | ⟨ne2, e2⟩
      · cases h2
      · exact R.dis j k s t oi oj a ne e1 e2 h1 h2
theorem mo_ownH {S : Hp} {ho : HO} {o : OD} (h : OwnH K S ho o) : Mo (some ho) := by
  cases o with
  | lst ds => obtain ⟨vs, rfl, _⟩ := h; trivial
  | dK ds => obtain ⟨vs, rfl, _⟩ := h; trivial
  | dT ds => obtain ⟨vs, rfl, _⟩ := h; trivial
  | ab I => exact h.elim
  | ins _ _ => exact h.elim
  | box _ _ => exact h.elim
theorem ownH_ok {S H : Hp} {p : Addr} {ho : HO} {o : OD} (h : OwnH K S ho o) (e : H p = some ho) : OwnOk K S H p [p] o := by
  cases o with
  | lst ds => obtain ⟨vs, rfl, q⟩ := h; exact ⟨rfl, vs, e, q⟩
  | dK ds => obtain ⟨vs, rfl, q⟩ := h; exact ⟨rfl, vs, e, q⟩
  | dT ds => obtain ⟨vs, rfl, q⟩ := h; exact ⟨rfl, vs, e, q⟩
  | ab I => exact h.elim
  | ins _ _ => exact h.elim
  | box _ _ => exact h.elim
theorem slot_O {W : Wd} {i : Nat} {x : Option (Option V)} {s : Sl} {o : OD} (z : SlotOk F W i x s) (so : s.own? = some o) : ∀ a ∈ W.ft i, W.O a := by
  cases s with
  | no => cases so
  | sh _ => cases so
  | ar _ => cases so
  | ow o => obtain ⟨p, _, q, _⟩ := z; exact fun a ha => (q a ha).1
  | rf o => obtain ⟨p, _, _, q, _⟩ := z; exact q
  | ro _ => cases so
/-- a new object is given a name, to be changed by it -/
theorem Rel.setNew (R : Rel F W σ Γ) {i : Nat} {p : Addr} {ho : HO} {o : OD} (hp : W.H p = none) (hh : OwnH K (W.S F) ho o) :
    ∃ W' : Wd, W'.H = upd W.H p ho ∧ Same (W.S F) (W'.S F) ∧ Rel F W' (σ.set i (some (.ref p))) (Γ.set i (.ow o)) := by
  have nO : ¬ W.O p := fun z => R.free hp (.inr z)
  have nH0 : F.H0 p = none := by
    cases q : F.H0 p with
    | none => rfl
    | some u =>
      by_cases r : F.rf p
      · exact (nO (R.rfo p r)).elim
      · have := R.base p u q r
        rw [hp] at this
        cases this
  let W' : Wd := ⟨fun a => a = p ∨ W.O a, fun j => if j = i then [p] else W.ft j, upd W.H p ho⟩
  have hs : Same (W.S F) (W'.S F) := same_less fun a u nx e => by
    have ne : a ≠ p := ne_of_none e hp
    refine ⟨fun z => ?_, by show upd W.H p ho a = some u; rw [upd_ne ne]; exact e⟩
    rcases z with z | z | z
    · exact nx (.inl z)
    · exact ne z
    · exact nx (.inr z)
  have keep : ∀ a, W.O a → W'.H a = W.H a := fun a ha => by
    show upd W.H p ho a = W.H a
    rw [upd_ne]
    intro z
    subst z
    exact nO ha
  refine ⟨W', rfl, hs, ⟨fun a u e nr => ?_, fun a ha => ?_, fun a ha => ?_, fun a ha => .inr (R.rfo a ha), by simp [R.len], fun j s e => ?_, fun j k s t oi oj a ne e1 e2 h1 h2 => ?_⟩⟩
  · have q := R.base a u e nr
    show upd W.H p ho a = some u
    rw [upd_ne (ne_of_none q hp)]
    exact q
  · rcases ha with rfl | ha
    · exact .inl nH0
    · exact R.new a ha
  · rcases ha with rfl | ha
    · show Mo (upd W.H a ho a)
      rw [upd_same]
      exact mo_ownH hh
    · rw [keep a ha]
      exact R.mu a ha
  · rcases get_set _ _ _ _ _ e with ⟨rfl, rfl, hl⟩ | ⟨ne, e⟩
    · have f : W'.ft j = [p] := if_pos rfl
      refine ⟨p, get_set_same (by rw [R.len]; exact hl), by rw [f]; intro a ha; rw [List.mem_singleton] at ha; exact ⟨.inl ha, by rw [ha]; exact fun z => nO (R.rfo p z)⟩, by rw [f]; exact ownH_ok (hh.same hs) upd_same⟩
    · rw [List.getElem?_set_ne (Ne.symm ne)]
      have z := R.slot j s e
      refine z.keep (W' := W') (if_neg ne) hs (fun a _ q => .inr q) (fun a ha so => ?_) (Same.ts (same_new hp))
      obtain ⟨o', so⟩ := Option.isSome_iff_exists.mp so
      exact keep a (slot_O z so a ha)
  · intro ha hb
    have fi : ∀ j, j ≠ i → W'.ft j = W.ft j := fun j q => if_neg q
    have fs : W'.ft i = [p] := if_pos rfl
    rcases get_set _ _ _ _ _ e1 with ⟨q1, _, _⟩ | ⟨ne1, g1⟩
    · rcases get_set _ _ _ _ _ e2 with ⟨q2, _, _⟩ | ⟨ne2, g2⟩
      · exact ne (q1.trans q2.symm)
      · rw [q1, fs, List.mem_singleton] at ha
        subst ha
        rw [fi k ne2] at hb
        exact nO (slot_O (R.slot k t g2) h2 _ hb)
    · rcases get_set _ _ _ _ _ e2 with ⟨q2, _, _⟩ | ⟨ne2, g2⟩
      · rw [q2, fs, List.mem_singleton] at hb
        subst hb
        rw [fi j ne1] at ha
        exact nO (slot_O (R.slot j s g1) h1 _ ha)
      · rw [fi j ne1] at ha
        rw [fi k ne2] at hb
        exact R.dis j k s t oi oj a ne g1 g2 h1 h2 ha hb
/-- the object of a name is changed in its place -/
def setOwn (s : Sl) (o : OD) : Sl := match s with
  | .ow _ => .ow o
  | .rf _ => .rf o
  | s => s
def plainOD : OD → Bool
  | .ab _ => false
  | .ins _ _ => false
  | .box _ _ => false
  | _ => true
theorem Rel.put (R : Rel F W σ Γ) {i : Nat} {p : Addr} {s : Sl} {ho : HO} {o o' : OD} (h1 : Γ[i]? = some s) (h2 : s.own? = some o) (hp : plainOD o = true) (h3 : σ[i]? = some (some (.ref p))) (hh : OwnH K (W.S F) ho o') :
    Rel F { W with H := upd W.H p ho } σ (Γ.set i (setOwn s o')) ∧ (({ W with H := upd W.H p ho } : Wd).S F) = W.S F := by
  have z := R.slot i s h1
  obtain ⟨hO, hf, hM⟩ : W.O p ∧ W.ft i = [p] ∧ (∀ q, s = .rf q → F.rp i = some (p, W.ft i)) := by
    have hni : o.isIns = false := by cases o <;> first | rfl | cases hp
    have hfp : ∀ q, OwnOk K (W.S F) W.H q (W.ft i) o → W.ft i = [q] := fun q r => by
      cases o with
      | lst ds => exact r.1
      | dK ds => exact r.1
      | dT ds => exact r.1
      | ab I => cases hp
      | ins _ _ => cases hp
      | box _ _ => cases hp
    cases s with
    | no => cases h2
    | sh _ => cases h2
    | ar _ => cases h2
    | ow q =>
      cases h2
      obtain ⟨p', e, a, b⟩ := z
      rw [h3] at e
      cases e
      have f := hfp p b
      exact ⟨(a p (by rw [f]; simp)).1, f, fun q r => by cases r⟩
    | rf q =>
      cases h2
      obtain ⟨p', ⟨f0, e0, ef⟩, e, a, b⟩ := z
      rw [h3] at e
      cases e
      have f := hfp p b
      exact ⟨a p (by rw [f]; simp), f, fun q r => by rw [e0, ef hni]⟩
    | ro q => cases h2
  have hS : (({ W with H := upd W.H p ho } : Wd).S F) = W.S F := by
    funext a
    show less (upd W.H p ho) (Ex F W.O) a = less W.H (Ex F W.O) a
    unfold less
    by_cases q : Ex F W.O a
    · rw [if_pos q, if_pos q]
    · rw [if_neg q, if_neg q, upd_ne]
      intro e
      subst e
      exact q (.inr hO)
  refine ⟨⟨fun a u e nr => ?_, R.new, fun a ha => ?_, R.rfo, by simp [R.len], fun j t e => ?_, fun j k t1 t2 oi oj a ne e1 e2 g1 g2 => ?_⟩, hS⟩
  · show upd W.H p ho a = some u
    rw [upd_ne]
    · exact R.base a u e nr
    · intro q
      subst q
      rcases R.new a hO with q | q
      · rw [q] at e; cases e
      · exact nr q
  · by_cases q : a = p
    · subst q
      show Mo (upd W.H a ho a)
      rw [upd_same]
      exact mo_ownH hh
    · show Mo (upd W.H p ho a)
      rw [upd_ne q]
      exact R.mu a ha
  · rcases get_set _ _ _ _ _ e with ⟨rfl, rfl, hl⟩ | ⟨ne, e⟩
    · have ok : OwnOk K (({ W with H := upd W.H p ho } : Wd).S F) (upd W.H p ho) p (W.ft j) o' := by
        rw [hS, hf]
        exact ownH_ok hh upd_same
      have hin : ∀ a ∈ W.ft j, W.O a := fun a ha => by
        rw [hf, List.mem_singleton] at ha
        rw [ha]
        exact hO
      cases s with
      | no => cases h2
      | sh _ => cases h2
      | ar _ => cases h2
      | ow q =>
        obtain ⟨p', e', a', _⟩ := z
        exact ⟨p, h3, fun a ha => ⟨hin a ha, (a' a ha).2⟩, ok⟩
      | rf q => exact ⟨p, ⟨_, hM q rfl, fun _ => rfl⟩, h3, hin, ok⟩
      | ro q => cases h2
    · have zj := R.slot j t e
      have hts : Tx W.H (upd W.H p ho) := fun a u nm q => by
        rw [upd_ne]
        · exact q
        · intro w
          subst w
          have m := R.mu a hO
          rw [q] at m
          exact nm m
      refine zj.keep (W' := { W with H := upd W.H p ho }) rfl (by rw [hS]; exact Same.refl _) (fun _ _ q => q) (fun a ha so => ?_) hts
      obtain ⟨oj, so⟩ := Option.isSome_iff_exists.mp so
      show upd W.H p ho a = W.H a
      rw [upd_ne]
      intro w
      subst w
      exact R.dis j i t s oj o a ne e h1 so h2 ha (by rw [hf]; simp)
  · have q : ∀ (j : Nat) (t : Sl) (oj : OD), (Γ.set i (setOwn s o'))[j]? = some t → t.own? = some oj → ∃ t' oj', Γ[j]? = some t' ∧ t'.own? = some oj' := fun j t oj e g => by
      rcases get_set _ _ _ _ _ e with ⟨rfl, _, _⟩ | ⟨_, e⟩
      · exact ⟨s, o, h1, h2⟩
      · exact ⟨t, oj, e, g⟩
    obtain ⟨t1', o1', a1, b1⟩ := q j t1 oi e1 g1
    obtain ⟨t2', o2', a2, b2⟩ := q k t2 oj e2 g2
    exact R.dis j k t1' t2' o1' o2' a ne a1 a2 b1 b2
theorem plain_at {S H : Hp} {p : Addr} {f : List Addr} {o : OD} (h : OwnOk K S H p f o) (hp : plainOD o = true) : notIns (H p) := by
  cases o with
  | lst ds => obtain ⟨_, vs, e, _⟩ := h; rw [e]; trivial
  | dK ds => obtain ⟨_, vs, e, _⟩ := h; rw [e]; trivial
  | dT ds => obtain ⟨_, vs, e, _⟩ := h; rw [e]; trivial
  | ab _ => cases hp
  | ins _ _ => cases hp
  | box _ _ => cases hp
theorem own_at (R : Rel F W σ Γ) {i : Nat} {p : Addr} {s : Sl} {o : OD} (h1 : Γ[i]? = some s) (h2 : s.own? = some o) (h3 : σ[i]? = some (some (.ref p))) : OwnOk K (W.S F) W.H p (W.ft i) o := by
  have z := R.slot i s h1
  cases s with
  | no => cases h2
  | sh _ => cases h2
  | ar _ => cases h2
  | ro _ => cases h2
  | ow q =>
    cases h2
    obtain ⟨p', e, a, b⟩ := z
    rw [h3] at e
    cases e
    exact b
  | rf q =>
    cases h2
    obtain ⟨p', e0, e, a, b⟩ := z
    rw [h3] at e
    cases e
    exact b
theorem ins_own {s : Sl} {o : OD} (h : s.ins? = some o) (hs : s.own? ≠ none) : s.own? = some o := by
  cases s with
  | ow q => cases (insO_eq h).1; rfl
  | rf q => cases (insO_eq h).1; rfl
  | ro q => exact (hs rfl).elim
  | _ => cases h
theorem plain_ins {s : Sl} {o o' : OD} (h2 : s.own? = some o) (hp : plainOD o = true) (h : s.ins? = some o') : False := by
  have := ins_own h (by rw [h2]; exact fun z => nomatch z)
  rw [h2] at this
  cases this
  cases s with
  | ow q => cases h2; have := (insO_eq h).2; cases o <;> first | (cases hp; done) | (cases this; done)
  | rf q => cases h2; have := (insO_eq h).2; cases o <;> first | (cases hp; done) | (cases this; done)
  | _ => cases h2
theorem Stp.put (R : Rel F W σ Γ) {i : Nat} {p : Addr} {s : Sl} {ho : HO} {o o' : OD} (h1 : Γ[i]? = some s) (h2 : s.own? = some o) (hp : plainOD o = true) (h3 : σ[i]? = some (some (.ref p))) (hh : OwnH K (W.S F) ho o') :
    Stp F W Γ { W with H := upd W.H p ho } (Γ.set i (setOwn s o')) := by
  have fp : p ∈ W.ft i := by
    have z := R.slot i s h1
    have hfp : ∀ q, OwnOk K (W.S F) W.H q (W.ft i) o → W.ft i = [q] := fun q r => by
      cases o with
      | lst ds => exact r.1
      | dK ds => exact r.1
      | dT ds => exact r.1
      | ab I => cases hp
      | ins _ _ => cases hp
      | box _ _ => cases hp
    cases s with
    | no => cases h2
    | sh _ => cases h2
    | ar _ => cases h2
    | ow q =>
      cases h2
      obtain ⟨p', e, a, b⟩ := z
      rw [h3] at e
      cases e
      rw [hfp p b]
      simp
    | rf q =>
      cases h2
      obtain ⟨p', e0, e, a, b⟩ := z
      rw [h3] at e
      cases e
      rw [hfp p b]
      simp
    | ro q => cases h2
  refine ⟨⟨⟨by rw [(R.put h1 h2 hp h3 hh).2]; exact Same.refl _, fun q t => ⟨⟨t.1, fun j t' o2 e g => ?_⟩, ?_⟩⟩, InsK.upd (plain_at (own_at R h1 h2 h3) hp)⟩, fun j t e => ?_, by simp⟩
  · rcases get_set _ _ _ _ _ e with ⟨rfl, _, _⟩ | ⟨_, e⟩
    · exact t.2 j s o h1 h2
    · exact t.2 j t' o2 e g
  · show upd W.H p ho q = W.H q
    rw [upd_ne]
    intro z
    subst z
    exact t.2 i s o h1 h2 fp
  · by_cases q : j = i
    · subst q
      rw [h1] at e
      cases e
      refine ⟨_, List.getElem?_set_self (List.getElem?_eq_some_iff.mp h1).1, ?_, (fun z => by rw [h2] at z; cases z), fun o3 z => ?_, fun o3 z => (plain_ins h2 hp z).elim⟩
      · cases s <;> first | rfl | exact fun z => z
      · subst z
        exact ⟨o', rfl⟩
    · exact ⟨t, by rw [List.getElem?_set_ne (Ne.symm q)]; exact e, Kn.refl t⟩
theorem Kp.setNon {i : Nat} {s : Sl} (h : s.own? = none) : Kp F W Γ W (Γ.set i s) := ⟨⟨Same.refl _, fun p t => ⟨⟨t.1, fun j t' o e g => by
  rcases get_set _ _ _ _ _ e with ⟨_, r, _⟩ | ⟨_, e⟩
  · subst r
    rw [h] at g
    cases g
  · exact t.2 j t' o e g⟩, rfl⟩⟩, InsK.refl _⟩
/-- a name's list or dict is changed no more: it becomes plain data -/
theorem Rel.freezeO (R : Rel F W σ Γ) {i : Nat} {o0 : OD} {d0 : PyData} (h : Γ[i]? = some (.ow o0)) (ed : odD o0 = some d0) : ∃ W' : Wd, W'.H = W.H ∧ Stp F W Γ W' (Γ.set i (.sh d0)) ∧ Rel F W' σ (Γ.set i (.sh d0)) := by
  obtain ⟨p, e1, hO, hw⟩ := R.slot i _ h
  have hpl : plainOD o0 = true := by cases o0 <;> first | rfl | cases ed
  have hf : W.ft i = [p] := by
    cases o0 with
    | lst ds => exact hw.1
    | dK ds => exact hw.1
    | dT ds => exact hw.1
    | ab _ => cases hpl
    | ins _ _ => cases hpl
    | box _ _ => cases hpl
  have hOp : W.O p := (hO p (by rw [hf]; simp)).1
  have hrf : ¬ F.rf p := (hO p (by rw [hf]; simp)).2
  have h0 : F.H0 p = none := (R.new p hOp).resolve_right hrf
  let W' : Wd := ⟨fun a => W.O a ∧ a ≠ p, W.ft, W.H⟩
  have hs : Same (W.S F) (W'.S F) := same_less fun a u nx e => ⟨fun z => nx (z.imp_right And.left), e⟩
  have il : i < Γ.length := (List.getElem?_eq_some_iff.mp h).1
  have nx : ¬ Ex F W'.O p := fun z => by
    rcases z with z | z
    · have m := F.xm p z
      rw [h0] at m
      exact m
    · exact z.2 rfl
  have hst : Stp F W Γ W' (Γ.set i (.sh d0)) := by
    refine ⟨⟨⟨hs, fun q t => ⟨⟨⟨t.1, fun z => ?_⟩, fun j t' o2 e g => ?_⟩, rfl⟩⟩, InsK.refl _⟩, fun j t e => ?_, by simp⟩
    · subst z
      exact t.2 i _ _ h rfl (by rw [hf]; simp)
    · rcases get_set _ _ _ _ _ e with ⟨_, r, _⟩ | ⟨_, e⟩
      · subst r; cases g
      · exact t.2 j t' o2 e g
    · by_cases q : j = i
      · subst q
        rw [h] at e
        cases e
        exact ⟨_, List.getElem?_set_self il, fun _ => rfl, (fun z => by cases z), (fun o z => by cases z), fun o z => (plain_ins rfl hpl z).elim⟩
      · exact ⟨t, by rw [List.getElem?_set_ne (Ne.symm q)]; exact e, Kn.refl t⟩
  refine ⟨W', rfl, hst, ⟨R.base, fun a ha => R.new a ha.1, fun a ha => R.mu a ha.1, fun a ha => ⟨R.rfo a ha, fun z => hrf (z ▸ ha)⟩, by simp [R.len], fun j t e => ?_, fun j k s t oi oj a ne e1 e2 g1 g2 => ?_⟩⟩
  · rcases get_set _ _ _ _ _ e with ⟨rfl, rfl, hl⟩ | ⟨ne, e⟩
    · refine ⟨.ref p, e1, ?_⟩
      cases o0 with
      | lst ds =>
        cases ed
        obtain ⟨_, vs, q1, q2⟩ := hw
        exact .lst (less_some.mpr ⟨nx, q1⟩) (q2.same hs)
      | dK kvs =>
        cases ed
        obtain ⟨_, vs, q1, q2⟩ := hw
        exact .dct (.inl (less_some.mpr ⟨nx, q1⟩)) ((kvOk_dq q2).same hs)
      | _ => cases ed
    · have zj := R.slot j t e
      have hne : ∀ a ∈ W.ft j, ∀ oj, t.own? = some oj → a ≠ p := fun a ha oj so w => by
        subst w
        exact R.dis j i t _ oj _ a ne e h so rfl ha (by rw [hf]; simp)
      cases t with
      | no => trivial
      | sh d => obtain ⟨v, q1, q2⟩ := zj; exact ⟨v, q1, q2.same hs⟩
      | ar d => exact zj
      | ow o =>
        obtain ⟨q, a1, a2, a3⟩ := zj
        exact ⟨q, a1, fun a ha => ⟨⟨(a2 a ha).1, hne a ha o rfl⟩, (a2 a ha).2⟩, a3.keep hs (fun _ _ => rfl) fun _ _ _ z => z⟩
      | rf o =>
        obtain ⟨q, a0, a1, a2, a3⟩ := zj
        exact ⟨q, a0, a1, fun a ha => ⟨a2 a ha, hne a ha o rfl⟩, a3.keep hs (fun _ _ => rfl) fun _ _ _ z => z⟩
      | ro o => exact zj
  · rcases get_set _ _ _ _ _ e1 with ⟨_, r, _⟩ | ⟨_, f1⟩
    · subst r; cases g1
    · rcases get_set _ _ _ _ _ e2 with ⟨_, r, _⟩ | ⟨_, f2⟩
      · subst r; cases g2
      · exact R.dis j k s t oi oj a ne f1 f2 g1 g2
theorem Rel.freeze (R : Rel F W σ Γ) {i : Nat} {ds : List PyData} (h : Γ[i]? = some (.ow (.lst ds))) : ∃ W' : Wd, W'.H = W.H ∧ Stp F W Γ W' (Γ.set i (.sh (.list ds))) ∧ Rel F W' σ (Γ.set i (.sh (.list ds))) := R.freezeO h rfl
end
end Dk

namespace Dk
open PySem PySem.Spec PyProof.Rows L2
/-! ### statements -/
structure DE where
  nx : G → Prop
  rt : RV → G → Prop
  rn : OD → G → Prop := fun _ _ => False
  bk : G → Prop := fun _ => False
  ct : G → Prop := fun _ => False
  xs : Value → G → Prop := fun _ _ => False
def DE.nxt (E : DE) (M : G → Prop) : DE := { E with nx := M }
def DE.lp (E : DE) (M : G → Prop) : DE := { E with nx := M, ct := M, bk := E.nx }
abbrev TSd := DE → G → Prop
abbrev X0 : WX := fun _ _ _ _ => False
structure Lk {K : Fg} (F : Fx K) (W0 : Wd) (Xw : WX) (D : Ends) (E : DE) : Prop where
  nx : ∀ (W : Wd) (σ : L2.St) (Γ : G), Same (W0.S F) (W.S F) → Rel F W σ Γ → E.nx Γ → D.nx σ W.H
  rt : ∀ (W : Wd) (σ : L2.St) (Γ : G) (x : RV) (v : V), Same (W0.S F) (W.S F) → Rel F W σ Γ → VOk F W σ Γ v x → E.rt x Γ → D.rt v W.H
  rn : ∀ (W : Wd) (σ : L2.St) (Γ : G) (o : OD) (p : Addr) (ho : HO), Same (W0.S F) (W.S F) → Rel F W σ Γ → W.H p = none → OwnH K (W.S F) ho o → E.rn o Γ → D.rt (.ref p) (upd W.H p ho)
  bk : ∀ (W : Wd) (σ : L2.St) (Γ : G), Same (W0.S F) (W.S F) → Rel F W σ Γ → E.bk Γ → D.bk σ W.H
  ct : ∀ (W : Wd) (σ : L2.St) (Γ : G), Same (W0.S F) (W.S F) → Rel F W σ Γ → E.ct Γ → D.ct σ W.H
  xs : ∀ (W : Wd) (σ : L2.St) (Γ : G) (c : Value), Same (W0.S F) (W.S F) → Rel F W σ Γ → E.xs c Γ → Xw c none σ W.H
theorem Lk.mono {K : Fg} {F : Fx K} {W0 W1 : Wd} {Xw : WX} {D : Ends} {E : DE} (L : Lk F W0 Xw D E) (h : Same (W0.S F) (W1.S F)) : Lk F W1 Xw D E :=
  ⟨fun W σ Γ s => L.nx W σ Γ (h.trans s), fun W σ Γ x v s => L.rt W σ Γ x v (h.trans s), fun W σ Γ o p ho s => L.rn W σ Γ o p ho (h.trans s), fun W σ Γ s => L.bk W σ Γ (h.trans s), fun W σ Γ s => L.ct W σ Γ (h.trans s), fun W σ Γ c s => L.xs W σ Γ c (h.trans s)⟩
class SS (K : Fg) (Xw : WX) (t : TS) (d : outParam TSd) : Prop where
  run : ∀ (F : Fx K) (W : Wd) (σ : L2.St) (Γ : G) (D : Ends) (E : DE), Rel F W σ Γ → d E Γ → Lk F W Xw D E → t D σ W.H
section
variable {K : Fg} {Xw : WX} {t u : TS} {d e : TSd} {te : TE} {de : TEd}
def dNext : TSd := fun E Γ => E.nx Γ
instance ss_next : SS K Xw tNext dNext := ⟨fun F W σ Γ D E R q L => L.nx W σ Γ (Same.refl _) R q⟩
def dSeq (d e : TSd) : TSd := fun E Γ => d (E.nxt (e E)) Γ
instance ss_seq [A : SS K Xw t d] [B : SS K Xw u e] : SS K Xw (tSeq t u) (dSeq d e) := ⟨fun F W σ Γ D E R q L => A.run F W σ Γ _ _ R q
  ⟨fun W' σ' Γ' s R' q => B.run F W' σ' Γ' D E R' q (L.mono s), L.rt, L.rn, L.bk, L.ct, L.xs⟩⟩
def dBreak : TSd := fun E Γ => E.bk Γ
instance ss_break : SS K Xw tBreak dBreak := ⟨fun F W σ Γ D E R q L => L.bk W σ Γ (Same.refl _) R q⟩
def dCont : TSd := fun E Γ => E.ct Γ
instance ss_cont : SS K Xw tCont dCont := ⟨fun F W σ Γ D E R q L => L.ct W σ Γ (Same.refl _) R q⟩
def dDrop (de : TEd) : TSd := fun E Γ => de Γ fun _ Γ1 => E.nx Γ1
instance ss_drop [A : SE K te de] : SS K Xw (tDrop te) (dDrop de) := ⟨fun F W σ Γ D E R q L => A.run F W σ Γ _ _ R q fun x W' Γ' v s R' o q => L.nx W' σ Γ' s.sh R' q⟩
def dRet (de : TEd) : TSd := fun E Γ => de Γ E.rt
instance (priority := low) ss_ret [A : SE K te de] : SS K Xw (tRet te) (dRet de) := ⟨fun F W σ Γ D E R q L => A.run F W σ Γ _ _ R q fun x W' Γ' v s R' o q => L.rt W' σ Γ' x v s.sh R' o q⟩
def dRetF (de : TFd) : TSd := fun E Γ => de Γ E.rn
instance ss_retF {df : TFd} [A : SEF K te df] : SS K Xw (tRet te) (dRetF df) := ⟨fun F W σ Γ D E R q L => A.run F W σ Γ _ _ R q fun o W' Γ' p ho s R' hp oh q => L.rn W' σ Γ' o p ho s.sh R' hp oh q⟩
def dRetN : TSd := fun E Γ => E.rt (.sh .none) Γ
instance ss_retN : SS K Xw tRetN dRetN := ⟨fun F W σ Γ D E R q L => L.rt W σ Γ _ .non (Same.refl _) R .non q⟩
/-- M: what holds where both ways meet -/
def dIfS (c : TTd) (d e : TSd) : TSd := fun E Γ => ∃ M : G → Prop, (∀ Γ', M Γ' → E.nx Γ') ∧ c Γ fun b Γ1 => if b = true then d (E.nxt M) Γ1 else e (E.nxt M) Γ1
instance ss_if {c : TT} {dc : TTd} [C : ST K c dc] [A : SS K Xw t d] [B : SS K Xw u e] : SS K Xw (tIfS c t u) (dIfS dc d e) := ⟨fun F W σ Γ D E R ⟨M, hM, q⟩ L => C.run F W σ Γ _ _ R q fun b W' Γ' s R' q => by
  have L' : Lk F W' Xw D (E.nxt M) := by
    have := L.mono s.sh
    exact ⟨fun W2 σ2 Γ2 s2 R2 q2 => this.nx W2 σ2 Γ2 s2 R2 (hM Γ2 q2), this.rt, this.rn, this.bk, this.ct, this.xs⟩
  cases b with
  | true => rw [if_pos rfl] at q; exact iteT (A.run F W' σ Γ' D _ R' q L')
  | false => rw [if_neg Bool.false_ne_true] at q; exact iteF (B.run F W' σ Γ' D _ R' q L')⟩
def dNever : TSd := fun _ _ => False
instance ss_never : SS K Xw tNever dNever := ⟨fun F W σ Γ D E R q L => q.elim⟩
/-! ### targets -/
/-- a value as a name's content -/
def asSl : RV → Option Sl
  | .sh d => some (.sh d)
  | .ar d => some (.ar d)
  | .own _ => none
  | .fld _ _ => none
/-- only the slots ix are changed -/
structure Fm (ix : List Nat) (σ : L2.St) (Γ : G) (σ' : L2.St) (Γ' : G) : Prop where
  st : ∀ j, j ∉ ix → σ'[j]? = σ[j]?
  ga : ∀ j, j ∉ ix → ∀ s, Γ[j]? = some s → ∃ s', Γ'[j]? = some s' ∧ Kn s s'
  sl : σ'.length = σ.length
  gl : Γ'.length = Γ.length
abbrev TGd := RV → G → (G → Prop) → Prop
class SG (K : Fg) (g : TG) (d : outParam TGd) (ix : outParam (List Nat)) : Prop where
  run : ∀ (F : Fx K) (W : Wd) (σ : L2.St) (Γ : G) (v : V) (x : RV) (Q : L2.St → Hp → Prop) (Qd : G → Prop), Rel F W σ Γ → VOk F W σ Γ v x → d x Γ Qd →
    (∀ (W' : Wd) (σ' : L2.St) (Γ' : G), Kp F W Γ W' Γ' → Fm ix σ Γ σ' Γ' → Rel F W' σ' Γ' → Qd Γ' → Q σ' W'.H) → g v σ W.H Q
abbrev TGsd := List RV → G → (G → Prop) → Prop
class SGs (K : Fg) (g : TGs) (d : outParam TGsd) (ix : outParam (List Nat)) : Prop where
  run : ∀ (F : Fx K) (W : Wd) (σ : L2.St) (Γ : G) (vs : List V) (ds : List PyData) (k : PyData → RV) (Q : L2.St → Hp → Prop) (Qd : G → Prop), (k = .sh ∨ k = .ar) → Rel F W σ Γ → Paired (fun v d => ∀ (W' : Wd) (σ' : L2.St) (Γ' : G), Same (W.S F) (W'.S F) → VOk F W' σ' Γ' v (k d)) vs ds → d (ds.map k) Γ Qd →
    (∀ (W' : Wd) (σ' : L2.St) (Γ' : G), Kp F W Γ W' Γ' → Fm ix σ Γ σ' Γ' → Rel F W' σ' Γ' → Qd Γ' → Q σ' W'.H) → g vs σ W.H Q
theorem asSl_set {F : Fx K} {W : Wd} {σ : L2.St} {Γ : G} {v : V} {x : RV} {s : Sl} {i : Nat} (R : Rel F W σ Γ) (o : VOk F W σ Γ v x) (e : asSl x = some s) : Rel F W (σ.set i (some v)) (Γ.set i s) := by
  cases x with
  | sh d => cases e; exact R.setSh o
  | ar d => cases e; exact R.setAr o
  | own j => cases e
  | fld _ _ => cases e
def dName (i : Nat) : TGd := fun x Γ Q => ∃ s, asSl x = some s ∧ Q (Γ.set i s)
theorem asSl_own {x : RV} {s : Sl} (e : asSl x = some s) : s.own? = none := by
  cases x with
  | sh d => cases e; rfl
  | ar d => cases e; rfl
  | own j => cases e
  | fld _ _ => cases e
instance sg_name (i : Nat) : SG K (gName i) (dName i) [i] := ⟨fun F W σ Γ v x Q Qd R o ⟨s, e, q⟩ k => k W _ _ (Kp.setNon (asSl_own e)) ⟨fun j hj => List.getElem?_set_ne (fun z => hj (by simp [z])), fun j hj s e => ⟨s, by rw [List.getElem?_set_ne (fun z => hj (by simp [z]))]; exact e, Kn.refl s⟩, by simp, by simp⟩ (asSl_set R o e) q⟩
def dgNil : TGsd := fun xs Γ Q => xs = [] ∧ Q Γ
def dgCons (g : TGd) (h : TGsd) : TGsd := fun xs Γ Q => ∃ x r, xs = x :: r ∧ g x Γ fun Γ1 => h r Γ1 Q
instance sgs_nil : SGs K gNil dgNil [] := ⟨fun F W σ Γ vs ds k Q Qd hk R o ⟨e, q⟩ kk => by
  cases ds with
  | nil => cases o; exact ⟨rfl, kk W σ Γ (Kp.refl ..) ⟨fun _ _ => rfl, fun _ _ s e => ⟨s, e, Kn.refl s⟩, rfl, rfl⟩ R q⟩
  | cons d ds => cases e⟩
instance sgs_cons {g : TG} {h : TGs} {dg : TGd} {dh : TGsd} {i1 i2 : List Nat} [A : SG K g dg i1] [B : SGs K h dh i2] : SGs K (gCons g h) (dgCons dg dh) (i1 ++ i2) := ⟨fun F W σ Γ vs ds k Q Qd hk R o ⟨x, r, e, q⟩ kk => by
  cases ds with
  | nil => cases e
  | cons d ds =>
    cases e
    cases o with
    | cons o1 o2 =>
      refine ⟨_, _, rfl, A.run F W σ Γ _ _ _ _ R (o1 W σ Γ (Same.refl _)) q fun W' σ' Γ' s' f' R' q => ?_⟩
      exact B.run F W' σ' Γ' _ _ k _ _ hk R' (Paired.mapP o2 fun _ _ z W2 σ2 Γ2 s2 => z W2 σ2 Γ2 (s'.sh.trans s2)) q fun W2 σ2 Γ2 s2 f2 R2 q => kk W2 σ2 Γ2 (s'.trans s2) ⟨fun j hj => (f2.st j fun z => hj (List.mem_append_right _ z)).trans (f'.st j fun z => hj (List.mem_append_left _ z)), fun j hj s e => by
        obtain ⟨s1, e1, k1⟩ := f'.ga j (fun z => hj (List.mem_append_left _ z)) s e
        obtain ⟨s2', e2, k2⟩ := f2.ga j (fun z => hj (List.mem_append_right _ z)) s1 e1
        exact ⟨s2', e2, k1.trans k2⟩, f2.sl.trans f'.sl, f2.gl.trans f'.gl⟩ R2 q⟩
/-- the parts of a tuple, of the same kind -/
def parts : RV → Option (List RV)
  | .sh (.tuple ds) => some (ds.map .sh)
  | .ar (.tuple ds) => some (ds.map .ar)
  | _ => none
def dgTup (n : Nat) (h : TGsd) : TGd := fun x Γ Q => ∃ xs, parts x = some xs ∧ xs.length = n ∧ h xs Γ Q
theorem paired_of {H : Hp} : ∀ {vs : List V} {ds : List PyData}, DqAll K H vs ds → Paired (fun v d => Dq K H v d) vs ds
  | _, [], h => by cases h; exact .nil
  | _, _ :: _, h => by
    cases h with
    | cons a b => exact .cons a (paired_of b)
instance sg_tup (n : Nat) {h : TGs} {dh : TGsd} {ix : List Nat} [B : SGs K h dh ix] : SG K (gTup K n h) (dgTup n dh) ix := ⟨fun F W σ Γ v x Q Qd R o ⟨xs, e, hn, q⟩ kk => by
  cases x with
  | own j => cases e
  | fld _ _ => cases e
  | sh d =>
    cases d with
    | tuple ds =>
      cases e
      cases (show Dq K (W.S F) v (.tuple ds) from o) with
      | tup a b =>
        refine ⟨_, _, rfl, (a.same less_same).sq, by rw [b.length]; simpa using hn, ?_⟩
        exact B.run F W σ Γ _ ds RV.sh _ _ (.inl rfl) R (Paired.mapP (paired_of b) fun _ _ z W2 σ2 Γ2 s2 => z.same s2) q kk
    | _ => cases e
  | ar d =>
    cases d with
    | tuple ds =>
      cases e
      cases (show Dq K (less F.H0 F.rf) v (.tuple ds) from o) with
      | tup a b =>
        refine ⟨_, _, rfl, (a.same R.ar_same).sq, by rw [b.length]; simpa using hn, ?_⟩
        exact B.run F W σ Γ _ ds RV.ar _ _ (.inr rfl) R (Paired.mapP (paired_of b) fun _ _ z W2 σ2 Γ2 s2 => z) q kk
    | _ => cases e⟩
def dAsg (de : TEd) (g : TGd) : TSd := fun E Γ => de Γ fun x Γ1 => g x Γ1 E.nx
instance (priority := low) ss_asg {g : TG} {dg : TGd} {ix : List Nat} [A : SE K te de] [B : SG K g dg ix] : SS K Xw (tAsg te g) (dAsg de dg) := ⟨fun F W σ Γ D E R q L => A.run F W σ Γ _ _ R q fun x W' Γ' v s R' o q =>
  B.run F W' σ Γ' v x _ _ R' o q fun W2 σ2 Γ2 s2 _ R2 q => L.nx W2 σ2 Γ2 (s.sh.trans s2.sh) R2 q⟩
/-- a name for a new object -/
def dNew (df : TFd) (i : Nat) : TSd := fun E Γ => df Γ fun o Γ1 => E.nx (Γ1.set i (.ow o))
instance ss_new {df : TFd} {i : Nat} [A : SEF K te df] : SS K Xw (tAsg te (gName i)) (dNew df i) := ⟨fun F W σ Γ D E R q L => A.run F W σ Γ _ _ R q fun o W' Γ' p ho s R' hp oh q => by
  obtain ⟨W2, e, s2, R2⟩ := R'.setNew (i := i) hp oh
  show D.nx _ _
  rw [← e]
  exact L.nx W2 _ _ (s.sh.trans s2) R2 q⟩
/-- x += e, numbers -/
def dAug (i : Nat) (h : Int → Int → Int) (de : TEd) : TSd := fun E Γ => ∃ a, (slotV Γ i).bind (dat Γ) = some (.int a) ∧ de Γ fun y Γ1 => ∃ b, dat Γ1 y = some (.int b) ∧ E.nx (Γ1.set i (.sh (.int (h a b))))
instance ss_aug {i : Nat} {h : Int → Int → Int} [A : SE K te de] : SS K Xw (tAug i te (ipI h)) (dAug i h de) := ⟨fun F W σ Γ D E R ⟨a, e, q⟩ L => by
  obtain ⟨x, e1, e2⟩ := Option.bind_eq_some_iff.mp e
  refine (se_var (K := K) i).run F W σ Γ (fun v H => te σ H fun y H1 => ipI h v y H1 fun z H2 => D.nx (σ.set i (some z)) H2) (fun rv Γ1 => rv = x ∧ Γ1 = Γ) R ⟨x, e1, rfl, rfl⟩ fun rv W1 Γ1 v s1 R1 o1 ⟨z1, z2⟩ => ?_
  subst z1
  subst z2
  have ev := int_of (o1.full R1 e2)
  refine A.run F W1 σ _ _ _ R1 q fun y W2 Γ2 u s2 R2 o2 ⟨b, e3, q⟩ => ?_
  exact ⟨a, b, ev, int_of (o2.full R2 e3), L.nx W2 _ _ (s1.sh.trans s2.sh) (R2.setSh (.int _)) q⟩⟩
end
end Dk

namespace Dk
open PySem PySem.Spec PyProof.Rows L2
section
variable {K : Fg} {F : Fx K} {W : Wd} {σ : L2.St} {Γ : G}
/-! ### things of ours without a name -/
theorem Rel.temp (R : Rel F W σ Γ) {p : Addr} {ho : HO} (hp : W.H p = none) (hm : Mo (some ho)) :
    Rel F ⟨fun a => a = p ∨ W.O a, W.ft, upd W.H p ho⟩ σ Γ ∧ Kp F W Γ ⟨fun a => a = p ∨ W.O a, W.ft, upd W.H p ho⟩ Γ ∧ Tm ⟨fun a => a = p ∨ W.O a, W.ft, upd W.H p ho⟩ Γ p ∧ F.H0 p = none ∧ ¬ F.rf p := by
  have nO : ¬ W.O p := fun z => R.free hp (.inr z)
  have nrf : ¬ F.rf p := fun z => nO (R.rfo p z)
  have nH0 : F.H0 p = none := by
    cases q : F.H0 p with
    | none => rfl
    | some u =>
      have := R.base p u q nrf
      rw [hp] at this
      cases this
  have hs : Same (W.S F) ((⟨fun a => a = p ∨ W.O a, W.ft, upd W.H p ho⟩ : Wd).S F) := same_less fun a u nx e => by
    have ne : a ≠ p := ne_of_none e hp
    refine ⟨fun z => ?_, by show upd W.H p ho a = some u; rw [upd_ne ne]; exact e⟩
    rcases z with z | z | z
    · exact nx (.inl z)
    · exact ne z
    · exact nx (.inr z)
  have keep : ∀ a, W.O a → upd W.H p ho a = W.H a := fun a ha => by
    rw [upd_ne]
    intro z
    subst z
    exact nO ha
  refine ⟨⟨fun a u e nr => ?_, fun a ha => ?_, fun a ha => ?_, fun a ha => .inr (R.rfo a ha), R.len, fun j s e => ?_, R.dis⟩, ⟨⟨hs, fun q t => ⟨⟨.inr t.1, t.2⟩, keep q t.1⟩⟩, InsK.same (same_new hp)⟩, ⟨.inl rfl, fun j s o e g ha => nO (slot_O (R.slot j s e) g p ha)⟩, nH0, nrf⟩
  · have q := R.base a u e nr
    show upd W.H p ho a = some u
    rw [upd_ne (ne_of_none q hp)]
    exact q
  · rcases ha with rfl | ha
    · exact .inl nH0
    · exact R.new a ha
  · rcases ha with rfl | ha
    · show Mo (upd W.H a ho a)
      rw [upd_same]
      exact hm
    · show Mo (upd W.H p ho a)
      rw [keep a ha]
      exact R.mu a ha
  · have z := R.slot j s e
    refine z.keep (W' := ⟨fun a => a = p ∨ W.O a, W.ft, upd W.H p ho⟩) rfl hs (fun a _ q => .inr q) (fun a ha so => ?_) (Same.ts (same_new hp))
    obtain ⟨o', so⟩ := Option.isSome_iff_exists.mp so
    exact keep a (slot_O z so a ha)
theorem Rel.putTemp (R : Rel F W σ Γ) {p : Addr} {ho : HO} (t : Tm W Γ p) (hm : Mo (some ho)) (nrf : ¬ F.rf p) :
    Rel F { W with H := upd W.H p ho } σ Γ ∧ (({ W with H := upd W.H p ho } : Wd).S F) = W.S F := by
  have hS : (({ W with H := upd W.H p ho } : Wd).S F) = W.S F := by
    funext a
    show less (upd W.H p ho) (Ex F W.O) a = less W.H (Ex F W.O) a
    unfold less
    by_cases q : Ex F W.O a
    · rw [if_pos q, if_pos q]
    · rw [if_neg q, if_neg q, upd_ne]
      intro e
      subst e
      exact q (.inr t.1)
  refine ⟨⟨fun a u e nr => ?_, R.new, fun a ha => ?_, R.rfo, R.len, fun j s e => ?_, R.dis⟩, hS⟩
  · show upd W.H p ho a = some u
    rw [upd_ne]
    · exact R.base a u e nr
    · intro q
      subst q
      rcases R.new a t.1 with q | q
      · rw [q] at e; cases e
      · exact nr q
  · by_cases q : a = p
    · subst q
      show Mo (upd W.H a ho a)
      rw [upd_same]
      exact hm
    · show Mo (upd W.H p ho a)
      rw [upd_ne q]
      exact R.mu a ha
  · have zj := R.slot j s e
    have hts : Tx W.H (upd W.H p ho) := fun a u nm q => by
      rw [upd_ne]
      · exact q
      · intro w
        subst w
        have m := R.mu a t.1
        rw [q] at m
        exact nm m
    refine zj.keep (W' := { W with H := upd W.H p ho }) rfl (by rw [hS]; exact Same.refl _) (fun _ _ q => q) (fun a ha so => ?_) hts
    obtain ⟨oj, so⟩ := Option.isSome_iff_exists.mp so
    show upd W.H p ho a = W.H a
    rw [upd_ne]
    intro w
    subst w
    exact t.2 j s oj e so ha
open Classical in
noncomputable def dropW (W : Wd) (p : Addr) : Wd := ⟨fun a => W.O a ∧ a ≠ p, W.ft, fun a => if a = p then none else W.H a⟩
theorem dropW_at {p : Addr} : (dropW W p).H p = none := if_pos rfl
theorem dropW_ne {p a : Addr} (h : a ≠ p) : (dropW W p).H a = W.H a := if_neg h
theorem dropW_upd {p : Addr} {ho : HO} (h : W.H p = some ho) : upd (dropW W p).H p ho = W.H := by
  funext a
  by_cases e : a = p
  · subst e
    rw [upd_same, h]
  · rw [upd_ne e, dropW_ne e]
theorem Rel.dropTemp (R : Rel F W σ Γ) {p : Addr} (t : Tm W Γ p) (h0 : F.H0 p = none) (nrf : ¬ F.rf p) : Rel F (dropW W p) σ Γ ∧ Same (W.S F) ((dropW W p).S F) := by
  have hs : Same (W.S F) ((dropW W p).S F) := same_less fun a u nx e => by
    have ne : a ≠ p := fun z => nx (.inr (z ▸ t.1))
    exact ⟨fun z => nx (z.imp_right And.left), by rw [dropW_ne ne]; exact e⟩
  refine ⟨⟨fun a u e nr => ?_, fun a ha => R.new a ha.1, fun a ha => ?_, fun a ha => ⟨R.rfo a ha, fun z => nrf (z ▸ ha)⟩, R.len, fun j s e => ?_, R.dis⟩, hs⟩
  · rw [dropW_ne]
    · exact R.base a u e nr
    · intro z
      rw [z, h0] at e
      cases e
  · rw [dropW_ne ha.2]
    exact R.mu a ha.1
  · have zj := R.slot j s e
    have hne : ∀ a ∈ W.ft j, ∀ oj, s.own? = some oj → a ≠ p := fun a ha oj so w => by
      subst w
      exact t.2 j s oj e so ha
    have hts : Tx W.H (dropW W p).H := fun a u nm q => by
      rw [dropW_ne]
      · exact q
      · intro w
        have m := R.mu p t.1
        rw [← w, q] at m
        exact nm m
    cases s with
    | no => trivial
    | sh d => obtain ⟨v, q1, q2⟩ := zj; exact ⟨v, q1, q2.same hs⟩
    | ar d => exact zj
    | ow o =>
      obtain ⟨q, a1, a2, a3⟩ := zj
      exact ⟨q, a1, fun a ha => ⟨⟨(a2 a ha).1, hne a ha o rfl⟩, (a2 a ha).2⟩, a3.keep hs (fun a ha => dropW_ne (hne a ha o rfl)) hts⟩
    | rf o =>
      obtain ⟨q, a0, a1, a2, a3⟩ := zj
      exact ⟨q, a0, a1, fun a ha => ⟨a2 a ha, hne a ha o rfl⟩, a3.keep hs (fun a ha => dropW_ne (hne a ha o rfl)) hts⟩
    | ro o => exact zj
end

/-! ### what is walked -/
def itK : RV → PyData → RV
  | .ar _ => .ar
  | _ => .sh
def itL (Γ : G) : RV → Option (List PyData × G)
  | .sh (.list ds) => some (ds, Γ)
  | .ar (.list ds) => some (ds, Γ)
  | .own i => match Γ[i]? with
    | some (.ow (.lst ds)) => some (ds, Γ.set i (.sh (.list ds)))
    | some (.sh (.list ds)) => some (ds, Γ)
    | _ => none
  | _ => none
def itT (Γ : G) : RV → Option (List PyData × G)
  | .sh (.tuple ds) => some (ds, Γ)
  | .ar (.tuple ds) => some (ds, Γ)
  | .own i => match Γ[i]? with
    | some (.sh (.tuple ds)) => some (ds, Γ)
    | _ => none
  | _ => none
section
variable {K : Fg} {F : Fx K} {W : Wd} {σ : L2.St} {Γ Γ2 : G} {v : V} {x : RV} {ds : List PyData}
/-- the items stand, from W on -/
def Stand (F : Fx K) (W : Wd) (x : RV) (Sq : Hp → List V → Prop) (xs : List V) (ds : List PyData) : Prop := ∀ (W' : Wd) (σ' : L2.St) (Γ' : G), Same (W.S F) (W'.S F) → Rel F W' σ' Γ' → Sq W'.H xs ∧ Paired (fun v d => VOk F W' σ' Γ' v (itK x d)) xs ds
theorem itL_ok (R : Rel F W σ Γ) (o : VOk F W σ Γ v x) (e : itL Γ x = some (ds, Γ2)) : ∃ (W2 : Wd) (a : Addr) (xs : List V), v = .ref a ∧ W2.H = W.H ∧ Stp F W Γ W2 Γ2 ∧ Rel F W2 σ Γ2 ∧ Stand F W2 x (fun H xs => H a = some (.lst xs)) xs ds := by
  have shared : ∀ {W2 : Wd} {a : Addr} {xs : List V}, itK x = RV.sh → (W2.S F) a = some (.lst xs) → DqAll K (W2.S F) xs ds → Stand F W2 x (fun H xs => H a = some (.lst xs)) xs ds := fun {W2 a xs} hk h1 h2 W' σ' Γ' s R' =>
    ⟨less_same _ _ (s _ _ h1), by rw [hk]; exact Paired.mapP (paired_of h2) fun _ _ z => z.same s⟩
  cases x with
  | fld _ _ => cases e
  | sh d =>
    cases d with
    | list ds' =>
      cases e
      cases (show Dq K (W.S F) v (.list ds) from o) with
      | lst h1 h2 => exact ⟨W, _, _, rfl, rfl, Stp.refl .., R, shared rfl h1 h2⟩
    | _ => cases e
  | ar d =>
    cases d with
    | list ds' =>
      cases e
      cases (show Dq K (less F.H0 F.rf) v (.list ds) from o) with
      | lst h1 h2 => exact ⟨W, _, _, rfl, rfl, Stp.refl .., R, fun W' σ' Γ' s R' => ⟨R'.ar_same _ _ h1, Paired.mapP (paired_of h2) fun _ _ z => z⟩⟩
    | _ => cases e
  | own i =>
    obtain ⟨s, h1, h2, h3⟩ := o
    simp only [itL, h1] at e
    cases s with
    | no => cases e
    | ar d => cases e
    | rf o => cases e
    | ro o => cases e
    | sh d =>
      cases d with
      | list ds' =>
        cases e
        obtain ⟨v', q1, q2⟩ := R.slot i _ h1
        rw [h3] at q1
        cases q1
        cases q2 with
        | lst g1 g2 => exact ⟨W, _, _, rfl, rfl, Stp.refl .., R, shared rfl g1 g2⟩
      | _ => cases e
    | ow o =>
      cases o with
      | lst ds' =>
        cases e
        obtain ⟨W2, e2, s2, R2⟩ := R.freeze h1
        obtain ⟨v', q1, q2⟩ := R2.slot i _ (List.getElem?_set_self (List.getElem?_eq_some_iff.mp h1).1)
        rw [h3] at q1
        cases q1
        cases q2 with
        | lst g1 g2 => exact ⟨W2, _, _, rfl, e2, s2, R2, shared rfl g1 g2⟩
      | _ => cases e
theorem itT_ok (R : Rel F W σ Γ) (o : VOk F W σ Γ v x) (e : itT Γ x = some (ds, Γ2)) : ∃ (W2 : Wd) (a : Addr) (xs : List V), v = .ref a ∧ W2.H = W.H ∧ Stp F W Γ W2 Γ2 ∧ Rel F W2 σ Γ2 ∧ Stand F W2 x (fun H xs => SqT K H a xs) xs ds := by
  have shared : ∀ {a : Addr} {xs : List V}, itK x = RV.sh → Tq K (W.S F) a xs → DqAll K (W.S F) xs ds → Stand F W x (fun H xs => SqT K H a xs) xs ds := fun {a xs} hk h1 h2 W' σ' Γ' s R' =>
    ⟨((h1.same s).same less_same).sq, by rw [hk]; exact Paired.mapP (paired_of h2) fun _ _ z => z.same s⟩
  cases x with
  | fld _ _ => cases e
  | sh d =>
    cases d with
    | tuple ds' =>
      cases e
      cases (show Dq K (W.S F) v (.tuple ds) from o) with
      | tup h1 h2 => exact ⟨W, _, _, rfl, rfl, Stp.refl .., R, shared rfl h1 h2⟩
    | _ => cases e
  | ar d =>
    cases d with
    | tuple ds' =>
      cases e
      cases (show Dq K (less F.H0 F.rf) v (.tuple ds) from o) with
      | tup h1 h2 => exact ⟨W, _, _, rfl, rfl, Stp.refl .., R, fun W' σ' Γ' s R' => ⟨(h1.same R'.ar_same).sq, Paired.mapP (paired_of h2) fun _ _ z => z⟩⟩
    | _ => cases e
  | own i =>
    obtain ⟨s, h1, h2, h3⟩ := o
    simp only [itT, h1] at e
    cases s with
    | no => cases e
    | ar d => cases e
    | rf o => cases e
    | ro o => cases e
    | ow o => cases e
    | sh d =>
      cases d with
      | tuple ds' =>
        cases e
        obtain ⟨v', q1, q2⟩ := R.slot i _ h1
        rw [h3] at q1
        cases q1
        cases q2 with
        | tup g1 g2 => exact ⟨W, _, _, rfl, rfl, Stp.refl .., R, shared rfl g1 g2⟩
      | _ => cases e
theorem paired_get {α β : Type} {P : α → β → Prop} : ∀ {xs : List α} {ys : List β} {i : Nat} {x : α}, Paired P xs ys → xs[i]? = some x → ∃ y, ys[i]? = some y ∧ P x y
  | _, _, _, _, .nil, e => by simp at e
  | _, _, 0, _, .cons r _, e => by simp at e; subst e; exact ⟨_, rfl, r⟩
  | _, _, i + 1, _, .cons _ t, e => by
    obtain ⟨y, h1, h2⟩ := paired_get (i := i) t (by simpa using e)
    exact ⟨y, by simpa using h1, h2⟩
end
section
variable {K : Fg} {Xw : WX} {te : TE} {de : TEd} {g : TG} {dg : TGd} {ix : List Nat} {tb : TS} {db : TSd}
def dForS (it : G → RV → Option (List PyData × G)) (de : TEd) (dg : TGd) (db : TSd) : TSd := fun E Γ => de Γ fun x Γ1 => ∃ ds Γ2, it Γ1 x = some (ds, Γ2) ∧ ∃ I : Nat → G → Prop, I 0 Γ2 ∧
  (∀ k d Γ', ds[k]? = some d → I k Γ' → dg (itK x d) Γ' fun Γ3 => db (E.lp (I (k + 1))) Γ3) ∧ ∀ Γ', I ds.length Γ' → E.nx Γ'
instance ss_forL [A : SE K te de] [B : SG K g dg ix] [C : SS K Xw tb db] : SS K Xw (tFor (iList K te) g tb) (dForS itL de dg db) := ⟨fun F W σ Γ D E R q L => A.run F W σ Γ _ _ R q fun x W1 Γ1 v s1 R1 o1 ⟨ds, Γ2, e, I, i0, step, done⟩ => by
  obtain ⟨W2, a, xs, rfl, eH, s2, R2, st⟩ := itL_ok R1 o1 e
  have s12 : Same (W.S F) (W2.S F) := s1.sh.trans s2.sh
  refine ⟨a, rfl, ⟨xs, by rw [← eH]; exact SqL.of (st W2 σ Γ2 (Same.refl _) R2).1⟩, ?_⟩
  rw [← eH]
  have hl : xs.length = ds.length := Paired.length (st W2 σ Γ2 (Same.refl _) R2).2
  refine for_list (K := K) (a := a) (xs := xs) (fun k σ' H' => ∃ W' Γ', W'.H = H' ∧ Same (W2.S F) (W'.S F) ∧ Rel F W' σ' Γ' ∧ I k Γ') ⟨W2, Γ2, rfl, Same.refl _, R2, i0⟩ ?_ ?_ ?_
  · rintro k σ' H' hk ⟨W', Γ', rfl, s', R', i'⟩
    exact SqL.of (st W' σ' Γ' s' R').1
  · rintro k y σ' H' hy ⟨W', Γ', rfl, s', R', i'⟩
    obtain ⟨d, hd, od⟩ := paired_get (st W' σ' Γ' s' R').2 hy
    refine B.run F W' σ' Γ' y _ _ _ R' od (step k d Γ' hd i') fun W3 σ3 Γ3 k3 f3 R3 q3 => ?_
    refine C.run F W3 σ3 Γ3 _ _ R3 q3 ⟨fun W4 σ4 Γ4 s4 R4 q4 => ⟨W4, Γ4, rfl, (s'.trans k3.sh).trans s4, R4, q4⟩, fun W4 σ4 Γ4 x4 v4 s4 => L.rt W4 σ4 Γ4 x4 v4 (s12.trans ((s'.trans k3.sh).trans s4)), fun W4 σ4 Γ4 o4 p4 h4 s4 => L.rn W4 σ4 Γ4 o4 p4 h4 (s12.trans ((s'.trans k3.sh).trans s4)), fun W4 σ4 Γ4 s4 => L.nx W4 σ4 Γ4 (s12.trans ((s'.trans k3.sh).trans s4)), fun W4 σ4 Γ4 s4 R4 q4 => ⟨W4, Γ4, rfl, (s'.trans k3.sh).trans s4, R4, q4⟩, fun W4 σ4 Γ4 c4 s4 => L.xs W4 σ4 Γ4 c4 (s12.trans ((s'.trans k3.sh).trans s4))⟩
  · rintro σ' H' ⟨W', Γ', rfl, s', R', i'⟩
    rw [hl] at i'
    exact L.nx W' σ' Γ' (s12.trans s') R' (done Γ' i')⟩
instance ss_forT [A : SE K te de] [B : SG K g dg ix] [C : SS K Xw tb db] : SS K Xw (tFor (iTup K te) g tb) (dForS itT de dg db) := ⟨fun F W σ Γ D E R q L => A.run F W σ Γ _ _ R q fun x W1 Γ1 v s1 R1 o1 ⟨ds, Γ2, e, I, i0, step, done⟩ => by
  obtain ⟨W2, a, xs, rfl, eH, s2, R2, st⟩ := itT_ok R1 o1 e
  have s12 : Same (W.S F) (W2.S F) := s1.sh.trans s2.sh
  refine ⟨a, rfl, ⟨xs, by rw [← eH]; exact (st W2 σ Γ2 (Same.refl _) R2).1⟩, ?_⟩
  rw [← eH]
  have hl : xs.length = ds.length := Paired.length (st W2 σ Γ2 (Same.refl _) R2).2
  refine for_tup (K := K) (a := a) (xs := xs) (fun k σ' H' => ∃ W' Γ', W'.H = H' ∧ Same (W2.S F) (W'.S F) ∧ Rel F W' σ' Γ' ∧ I k Γ') ⟨W2, Γ2, rfl, Same.refl _, R2, i0⟩ ?_ ?_ ?_
  · rintro k σ' H' hk ⟨W', Γ', rfl, s', R', i'⟩
    exact (st W' σ' Γ' s' R').1
  · rintro k y σ' H' hy ⟨W', Γ', rfl, s', R', i'⟩
    obtain ⟨d, hd, od⟩ := paired_get (st W' σ' Γ' s' R').2 hy
    refine B.run F W' σ' Γ' y _ _ _ R' od (step k d Γ' hd i') fun W3 σ3 Γ3 k3 f3 R3 q3 => ?_
    refine C.run F W3 σ3 Γ3 _ _ R3 q3 ⟨fun W4 σ4 Γ4 s4 R4 q4 => ⟨W4, Γ4, rfl, (s'.trans k3.sh).trans s4, R4, q4⟩, fun W4 σ4 Γ4 x4 v4 s4 => L.rt W4 σ4 Γ4 x4 v4 (s12.trans ((s'.trans k3.sh).trans s4)), fun W4 σ4 Γ4 o4 p4 h4 s4 => L.rn W4 σ4 Γ4 o4 p4 h4 (s12.trans ((s'.trans k3.sh).trans s4)), fun W4 σ4 Γ4 s4 => L.nx W4 σ4 Γ4 (s12.trans ((s'.trans k3.sh).trans s4)), fun W4 σ4 Γ4 s4 R4 q4 => ⟨W4, Γ4, rfl, (s'.trans k3.sh).trans s4, R4, q4⟩, fun W4 σ4 Γ4 c4 s4 => L.xs W4 σ4 Γ4 c4 (s12.trans ((s'.trans k3.sh).trans s4))⟩
  · rintro σ' H' ⟨W', Γ', rfl, s', R', i'⟩
    rw [hl] at i'
    exact L.nx W' σ' Γ' (s12.trans s') R' (done Γ' i')⟩
/-- over a range by ones -/
def Rg1 (xs : List PyData) (lo : Int) (n : Nat) : Prop := ∃ j, xs = [.int j] ∧ -(2 ^ 62) ≤ j ∧ j < 2 ^ 62 ∧ lo = 0 ∧ n = j.toNat
def Rg2 (xs : List PyData) (lo : Int) (n : Nat) : Prop := ∃ i j, xs = [.int i, .int j] ∧ (-(2 ^ 62) ≤ i ∧ i < 2 ^ 62 ∧ -(2 ^ 62) ≤ j ∧ j < 2 ^ 62) ∧ lo = i ∧ n = (j - i).toNat
def dForR (rg : List PyData → Int → Nat → Prop) (da : TAd) (dg : TGd) (db : TSd) : TSd := fun E Γ => da Γ fun xs Γ1 => ∃ ds lo n, dats Γ1 xs = some ds ∧ rg ds lo n ∧ ∃ I : Nat → G → Prop, I 0 Γ1 ∧
  (∀ k Γ', k < n → I k Γ' → dg (.sh (.int (lo + k))) Γ' fun Γ3 => db (E.lp (I (k + 1))) Γ3) ∧ ∀ Γ', I n Γ' → E.nx Γ'
theorem forR_run {F : Fx K} {W W1 : Wd} {σ : L2.St} {Γ1 : G} {D : Ends} {E : DE} {lo : Int} {n : Nat} [B : SG K g dg ix] [C : SS K Xw tb db] (s12 : Same (W.S F) (W1.S F)) (R1 : Rel F W1 σ Γ1) (L : Lk F W Xw D E) (I : Nat → G → Prop) (i0 : I 0 Γ1)
    (step : ∀ k Γ', k < n → I k Γ' → dg (.sh (.int (lo + k))) Γ' fun Γ3 => db (E.lp (I (k + 1))) Γ3) (done : ∀ Γ', I n Γ' → E.nx Γ') :
    ∃ W : Nat → Nat → L2.St → Hp → Prop, (∃ m, W 0 m σ W1.H) ∧ ∀ i m σ H, W i m σ H →
      ((Itr lo n).stop i H ∧ D.nx σ H) ∨ ((Itr lo n).go i H ∧ ∃ N : L2.St → Hp → Prop, (∀ σ' H', N σ' H' → ∃ m', m' < m ∧ W (i + 1) m' σ' H') ∧ ∀ x H', (Itr lo n).yld i H x H' → g x σ H' fun σ2 H2 => tb { D with nx := N, ct := N, bk := D.nx } σ2 H2) := by
  refine for_range (lo := lo) (n := n) (fun k σ' H' => ∃ W' Γ', W'.H = H' ∧ Same (W1.S F) (W'.S F) ∧ Rel F W' σ' Γ' ∧ I k Γ') ⟨W1, Γ1, rfl, Same.refl _, R1, i0⟩ ?_ ?_
  · rintro k σ' H' hk ⟨W', Γ', rfl, s', R', i'⟩
    refine B.run F W' σ' Γ' _ _ _ _ R' (.int _) (step k Γ' hk i') fun W3 σ3 Γ3 k3 f3 R3 q3 => ?_
    refine C.run F W3 σ3 Γ3 _ _ R3 q3 ⟨fun W4 σ4 Γ4 s4 R4 q4 => ⟨W4, Γ4, rfl, (s'.trans k3.sh).trans s4, R4, q4⟩, fun W4 σ4 Γ4 x4 v4 s4 => L.rt W4 σ4 Γ4 x4 v4 (s12.trans ((s'.trans k3.sh).trans s4)), fun W4 σ4 Γ4 o4 p4 h4 s4 => L.rn W4 σ4 Γ4 o4 p4 h4 (s12.trans ((s'.trans k3.sh).trans s4)), fun W4 σ4 Γ4 s4 => L.nx W4 σ4 Γ4 (s12.trans ((s'.trans k3.sh).trans s4)), fun W4 σ4 Γ4 s4 R4 q4 => ⟨W4, Γ4, rfl, (s'.trans k3.sh).trans s4, R4, q4⟩, fun W4 σ4 Γ4 c4 s4 => L.xs W4 σ4 Γ4 c4 (s12.trans ((s'.trans k3.sh).trans s4))⟩
  · rintro σ' H' ⟨W', Γ', rfl, s', R', i'⟩
    exact L.nx W' σ' Γ' (s12.trans s') R' (done Γ' i')
theorem ints1 {H : Hp} {vs : List V} {j : Int} (h : DqAll K H vs [.int j]) : vs = [.int j] := DqAll.ints (ns := [j]) h
theorem ints2 {H : Hp} {vs : List V} {i j : Int} (h : DqAll K H vs [.int i, .int j]) : vs = [.int i, .int j] := DqAll.ints (ns := [i, j]) h
instance ss_forR1 {ta : TA} {da : TAd} [A : SA K ta da] [B : SG K g dg ix] [C : SS K Xw tb db] : SS K Xw (tFor (iRng1 ta) g tb) (dForR Rg1 da dg db) := ⟨fun F W σ Γ D E R q L => A.run F W σ Γ _ _ R q fun xs W1 Γ1 vs s1 R1 o1 ⟨ds, lo, n, e, ⟨j, e2, b1, b2, hlo, hn⟩, I, i0, step, done⟩ => by
  subst e2 hlo hn
  exact ⟨j, ints1 (o1.full R1 e), b1, b2, forR_run s1.sh R1 L I i0 step done⟩⟩
instance ss_forR2 {ta : TA} {da : TAd} [A : SA K ta da] [B : SG K g dg ix] [C : SS K Xw tb db] : SS K Xw (tFor (iRng2 ta) g tb) (dForR Rg2 da dg db) := ⟨fun F W σ Γ D E R q L => A.run F W σ Γ _ _ R q fun xs W1 Γ1 vs s1 R1 o1 ⟨ds, lo, n, e, ⟨i, j, e2, b, hlo, hn⟩, I, i0, step, done⟩ => by
  subst e2 hlo hn
  exact ⟨_, j, ints2 (o1.full R1 e), b, forR_run s1.sh R1 L I i0 step done⟩⟩
/-- while -/
def dWhile (c : TTd) (db : TSd) : TSd := fun E Γ => ∃ (I : G → Prop) (μ : G → Nat), I Γ ∧ ∀ Γ1, I Γ1 → c Γ1 fun b Γ2 => if b = true then db (E.lp fun Γ' => I Γ' ∧ μ Γ' < μ Γ1) Γ2 else E.nx Γ2
instance ss_while {c : TT} {dc : TTd} [A : ST K c dc] [C : SS K Xw tb db] : SS K Xw (tWhile c tb) (dWhile dc db) := ⟨fun F W σ Γ D E R ⟨I, μ, i0, step⟩ L => by
  refine ⟨fun m σ' H' => ∃ W' Γ', W'.H = H' ∧ Same (W.S F) (W'.S F) ∧ Rel F W' σ' Γ' ∧ I Γ' ∧ m = μ Γ', ⟨_, W, Γ, rfl, Same.refl _, R, i0, rfl⟩, ?_⟩
  rintro m σ' H' ⟨W', Γ', rfl, s', R', i', rfl⟩
  refine A.run F W' σ' Γ' _ _ R' (step Γ' i') fun b W2 Γ2 s2 R2 q2 => ?_
  have s02 := s'.trans s2.sh
  cases b with
  | false => rw [if_neg Bool.false_ne_true] at q2; exact iteF (L.nx W2 σ' Γ2 s02 R2 q2)
  | true =>
    rw [if_pos rfl] at q2
    refine iteT ⟨fun σ3 H3 => ∃ W3 Γ3, W3.H = H3 ∧ Same (W.S F) (W3.S F) ∧ Rel F W3 σ3 Γ3 ∧ I Γ3 ∧ μ Γ3 < μ Γ', fun σ3 H3 ⟨W3, Γ3, e, s3, R3, i3, l3⟩ => ⟨μ Γ3, l3, W3, Γ3, e, s3, R3, i3, rfl⟩, ?_⟩
    exact C.run F W2 σ' Γ2 _ _ R2 q2 ⟨fun W4 σ4 Γ4 s4 R4 q4 => ⟨W4, Γ4, rfl, s02.trans s4, R4, q4⟩, fun W4 σ4 Γ4 x4 v4 s4 => L.rt W4 σ4 Γ4 x4 v4 (s02.trans s4), fun W4 σ4 Γ4 o4 p4 h4 s4 => L.rn W4 σ4 Γ4 o4 p4 h4 (s02.trans s4), fun W4 σ4 Γ4 s4 => L.nx W4 σ4 Γ4 (s02.trans s4), fun W4 σ4 Γ4 s4 R4 q4 => ⟨W4, Γ4, rfl, s02.trans s4, R4, q4⟩, fun W4 σ4 Γ4 c4 s4 => L.xs W4 σ4 Γ4 c4 (s02.trans s4)⟩⟩
end
end Dk

namespace Dk
open PySem PySem.Spec PyProof.Rows L2
/-! ### a comprehension's own names -/
def wipeG (Γ : G) : List Nat → G
  | [] => Γ
  | v :: vs => (wipeG Γ vs).set v .no
def backG (Γ1 Γ : G) : List Nat → G
  | [] => Γ
  | v :: vs => (backG Γ1 Γ vs).set v (Γ1.getD v .no)
def ownFree (Γ : G) (vs : List Nat) : Bool := vs.all fun i => match Γ[i]? with
  | some s => s.own?.isNone
  | none => true
theorem wipe_len (σ : L2.St) : ∀ vs : List Nat, (wipe σ vs).length = σ.length
  | [] => rfl
  | v :: vs => by simp [wipe, wipe_len σ vs]
theorem wipe_get (σ : L2.St) (j : Nat) : ∀ vs : List Nat, j ∉ vs → (wipe σ vs)[j]? = σ[j]?
  | [], _ => rfl
  | v :: vs, h => by
    have h1 : v ≠ j := fun z => h (by simp [z])
    have h2 : j ∉ vs := fun z => h (by simp [z])
    show ((wipe σ vs).set v none)[j]? = _
    rw [List.getElem?_set_ne h1]
    exact wipe_get σ j vs h2
theorem wipe_in (σ : L2.St) (j : Nat) : ∀ vs : List Nat, j ∈ vs → j < σ.length → (wipe σ vs)[j]? = some none
  | v :: vs, h, hl => by
    show ((wipe σ vs).set v none)[j]? = _
    by_cases e : j = v
    · subst e
      exact List.getElem?_set_self (by rw [wipe_len]; exact hl)
    · rw [List.getElem?_set_ne (Ne.symm e)]
      exact wipe_in σ j vs ((List.mem_cons.mp h).resolve_left e) hl
theorem wipe_eq {σ σ' : L2.St} {vs : List Nat} (h : ∀ j, j ∉ vs → σ'[j]? = σ[j]?) (hl : σ'.length = σ.length) : wipe σ' vs = wipe σ vs := by
  apply List.ext_getElem?
  intro j
  by_cases e : j ∈ vs
  · by_cases l : j < σ.length
    · rw [wipe_in σ' j vs e (by rw [hl]; exact l), wipe_in σ j vs e l]
    · rw [List.getElem?_eq_none (by rw [wipe_len, hl]; omega), List.getElem?_eq_none (by rw [wipe_len]; omega)]
  · rw [wipe_get σ' j vs e, wipe_get σ j vs e]
    exact h j e
theorem wipeG_len (Γ : G) : ∀ vs : List Nat, (wipeG Γ vs).length = Γ.length
  | [] => rfl
  | v :: vs => by simp [wipeG, wipeG_len Γ vs]
theorem wipeG_get (Γ : G) (j : Nat) : ∀ vs : List Nat, j ∉ vs → (wipeG Γ vs)[j]? = Γ[j]?
  | [], _ => rfl
  | v :: vs, h => by
    have h1 : v ≠ j := fun z => h (by simp [z])
    have h2 : j ∉ vs := fun z => h (by simp [z])
    show ((wipeG Γ vs).set v .no)[j]? = _
    rw [List.getElem?_set_ne h1]
    exact wipeG_get Γ j vs h2
theorem wipeG_in (Γ : G) (j : Nat) : ∀ vs : List Nat, j ∈ vs → j < Γ.length → (wipeG Γ vs)[j]? = some .no
  | v :: vs, h, hl => by
    show ((wipeG Γ vs).set v .no)[j]? = _
    by_cases e : j = v
    · subst e
      exact List.getElem?_set_self (by rw [wipeG_len]; exact hl)
    · rw [List.getElem?_set_ne (Ne.symm e)]
      exact wipeG_in Γ j vs ((List.mem_cons.mp h).resolve_left e) hl
theorem backG_len (Γ1 Γ : G) : ∀ vs : List Nat, (backG Γ1 Γ vs).length = Γ.length
  | [] => rfl
  | v :: vs => by simp [backG, backG_len Γ1 Γ vs]
theorem backG_get (Γ1 Γ : G) (j : Nat) : ∀ vs : List Nat, j ∉ vs → (backG Γ1 Γ vs)[j]? = Γ[j]?
  | [], _ => rfl
  | v :: vs, h => by
    have h1 : v ≠ j := fun z => h (by simp [z])
    have h2 : j ∉ vs := fun z => h (by simp [z])
    show ((backG Γ1 Γ vs).set v _)[j]? = _
    rw [List.getElem?_set_ne h1]
    exact backG_get Γ1 Γ j vs h2
theorem backG_in (Γ1 Γ : G) (j : Nat) : ∀ vs : List Nat, j ∈ vs → j < Γ.length → (backG Γ1 Γ vs)[j]? = some (Γ1.getD j .no)
  | v :: vs, h, hl => by
    show ((backG Γ1 Γ vs).set v _)[j]? = _
    by_cases e : j = v
    · subst e
      exact List.getElem?_set_self (by rw [backG_len]; exact hl)
    · rw [List.getElem?_set_ne (Ne.symm e)]
      exact backG_in Γ1 Γ j vs ((List.mem_cons.mp h).resolve_left e) hl
theorem lt_of_get {α : Type} {l : List α} {i : Nat} {x : α} (h : l[i]? = some x) : i < l.length := (List.getElem?_eq_some_iff.mp h).1
theorem getD_of {l : G} {i : Nat} {x : Sl} (h : l[i]? = some x) : l.getD i .no = x := by simp [List.getD, h]
theorem ownFree_at {Γ : G} {vs : List Nat} {i : Nat} {s : Sl} (h : ownFree Γ vs = true) (hi : i ∈ vs) (e : Γ[i]? = some s) : s.own? = none := by
  have q := List.all_eq_true.mp h i hi
  simp only [e] at q
  exact Option.isNone_iff_eq_none.mp q
section
variable {K : Fg} {F : Fx K} {W : Wd} {σ : L2.St} {Γ : G}
theorem Rel.wiped (R : Rel F W σ Γ) : ∀ vs : List Nat, Rel F W (L2.wipe σ vs) (wipeG Γ vs)
  | [] => R
  | v :: vs => (R.wiped vs).setNo
theorem Tm.wipe {p : Addr} (t : Tm W Γ p) (vs : List Nat) : Tm W (wipeG Γ vs) p := ⟨t.1, fun j s o e g => by
  by_cases h : j ∈ vs
  · rw [wipeG_in Γ j vs h (by rw [← wipeG_len Γ vs]; exact lt_of_get e)] at e
    cases e
    cases g
  · rw [wipeG_get Γ j vs h] at e
    exact t.2 j s o e g⟩
theorem Tm.back {Γ1 : G} {p : Addr} {vs : List Nat} (t : Tm W Γ p) (hf : ownFree Γ1 vs = true) (hl : Γ.length = Γ1.length) : Tm W (backG Γ1 Γ vs) p := ⟨t.1, fun j s o e g => by
  by_cases h : j ∈ vs
  · have l : j < Γ.length := by rw [← backG_len Γ1 Γ vs]; exact lt_of_get e
    rw [backG_in Γ1 Γ j vs h l] at e
    have l1 : j < Γ1.length := by rw [← hl]; exact l
    have e1 : Γ1[j]? = some Γ1[j] := List.getElem?_eq_getElem l1
    rw [getD_of e1] at e
    cases e
    rw [ownFree_at hf h e1] at g
    cases g
  · rw [backG_get Γ1 Γ j vs h] at e
    exact t.2 j s o e g⟩
theorem Rel.back {W1 : Wd} {Γ1 : G} {vs : List Nat} (R : Rel F W (wipe σ vs) Γ) (R1 : Rel F W1 σ Γ1) (hs : Same (W1.S F) (W.S F)) (hf : ownFree Γ1 vs = true) (hl : Γ.length = Γ1.length) : Rel F W σ (backG Γ1 Γ vs) := by
  have own : ∀ (j : Nat) (s : Sl) (o : OD), (backG Γ1 Γ vs)[j]? = some s → s.own? = some o → j ∉ vs ∧ Γ[j]? = some s := fun j s o e g => by
    by_cases h : j ∈ vs
    · have l : j < Γ.length := by rw [← backG_len Γ1 Γ vs]; exact lt_of_get e
      rw [backG_in Γ1 Γ j vs h l] at e
      have l1 : j < Γ1.length := by rw [← hl]; exact l
      have e1 : Γ1[j]? = some Γ1[j] := List.getElem?_eq_getElem l1
      rw [getD_of e1] at e
      cases e
      rw [ownFree_at hf h e1] at g
      cases g
    · rw [backG_get Γ1 Γ j vs h] at e
      exact ⟨h, e⟩
  refine ⟨R.base, R.new, R.mu, R.rfo, ?_, fun j s e => ?_, fun j k s t oi oj a ne e1 e2 g1 g2 => ?_⟩
  · rw [backG_len, ← R.len, wipe_len]
  · by_cases h : j ∈ vs
    · have l : j < Γ.length := by rw [← backG_len Γ1 Γ vs]; exact lt_of_get e
      rw [backG_in Γ1 Γ j vs h l] at e
      have l1 : j < Γ1.length := by rw [← hl]; exact l
      have e1 : Γ1[j]? = some Γ1[j] := List.getElem?_eq_getElem l1
      rw [getD_of e1] at e
      have z := R1.slot j _ e1
      have no := ownFree_at hf h e1
      cases e
      cases q : Γ1[j] with
      | no => trivial
      | sh d => rw [q] at z; obtain ⟨v, q1, q2⟩ := z; exact ⟨v, q1, q2.same hs⟩
      | ar d => rw [q] at z; exact z
      | ow o => rw [q] at no; cases no
      | rf o => rw [q] at no; cases no
      | ro o => rw [q] at z; exact z
    · rw [backG_get Γ1 Γ j vs h] at e
      have z := R.slot j s e
      rw [wipe_get σ j vs h] at z
      exact z
  · exact R.dis j k s t oi oj a ne (own j s oi e1 g1).2 (own k t oj e2 g2).2 g1 g2
end
def KnO (vs : List Nat) (Γ Γ' : G) : Prop := Γ'.length = Γ.length ∧ ∀ (i : Nat) (s : Sl), i ∉ vs → Γ[i]? = some s → ∃ s', Γ'[i]? = some s' ∧ Kn s s'
theorem KnO.refl (vs : List Nat) (Γ : G) : KnO vs Γ Γ := ⟨rfl, fun i s _ e => ⟨s, e, Kn.refl s⟩⟩
theorem KnO.trans {vs : List Nat} {Γ Γ1 Γ2 : G} (a : KnO vs Γ Γ1) (b : KnO vs Γ1 Γ2) : KnO vs Γ Γ2 := ⟨b.1.trans a.1, fun i s h e => by
  obtain ⟨s1, e1, k1⟩ := a.2 i s h e
  obtain ⟨s2, e2, k2⟩ := b.2 i s1 h e1
  exact ⟨s2, e2, k1.trans k2⟩⟩
theorem KnO.wipe {vs : List Nat} (Γ : G) : KnO vs Γ (wipeG Γ vs) := ⟨wipeG_len Γ vs, fun i s h e => ⟨s, by rw [wipeG_get Γ i vs h]; exact e, Kn.refl s⟩⟩
theorem KnO.ofStp {K : Fg} {F : Fx K} {W W' : Wd} {vs : List Nat} {Γ Γ' : G} (s : Stp F W Γ W' Γ') : KnO vs Γ Γ' := ⟨s.len, fun i t _ e => s.kin i t e⟩
theorem KnO.ofFm {vs ix : List Nat} {σ σ' : L2.St} {Γ Γ' : G} (h : ∀ i ∈ ix, i ∈ vs) (f : Fm ix σ Γ σ' Γ') : KnO vs Γ Γ' := ⟨f.gl, fun i t n e => f.ga i (fun z => n (h i z)) t e⟩
/-! ### list comprehensions -/
def dYes : TTd := fun Γ Q => Q true Γ
instance st_yes {K : Fg} : ST K tYes dYes := ⟨fun F W σ Γ Q Qd R q k => k true W Γ (Stp.refl ..) R q⟩
def subL (ix vs : List Nat) : Bool := ix.all fun i => vs.contains i
def LcTurn (dg : TGd) (dt : TTd) (de : TEd) (vs : List Nat) (x : RV) (Γ' : G) (I : Option PyData → G → Prop) : Prop :=
  dg x Γ' fun Γ3 => dt Γ3 fun b Γ4 => if b = true then de Γ4 fun y Γ5 => ∃ dy, shOf y = some dy ∧ I (some dy) (wipeG Γ5 vs) else I none (wipeG Γ4 vs)
def dLc (it : G → RV → Option (List PyData × G)) (d0 : TEd) (dg : TGd) (dt : TTd) (de : TEd) (ix vs : List Nat) : TFd := fun Γ Q => d0 Γ fun x Γ1 => ∃ ds Γ2, it Γ1 x = some (ds, Γ2) ∧ ownFree Γ2 vs = true ∧ subL ix vs = true ∧ ds.length ≤ sizeLine ∧
  ∃ I : Nat → List PyData → G → Prop, I 0 [] (wipeG Γ2 vs) ∧ (∀ k d acc Γ', ds[k]? = some d → I k acc Γ' → LcTurn dg dt de vs (itK x d) Γ' fun o Γ5 => I (k + 1) (acc ++ o.toList) Γ5) ∧ ∀ acc Γ', I ds.length acc Γ' → Q (.lst acc) (backG Γ2 Γ' vs)
def dLcR (rg : List PyData → Int → Nat → Prop) (da : TAd) (dg : TGd) (dt : TTd) (de : TEd) (ix vs : List Nat) : TFd := fun Γ Q => da Γ fun xs Γ2 => ∃ ds lo n, dats Γ2 xs = some ds ∧ rg ds lo n ∧ ownFree Γ2 vs = true ∧ subL ix vs = true ∧ n ≤ sizeLine ∧
  ∃ I : Nat → List PyData → G → Prop, I 0 [] (wipeG Γ2 vs) ∧ (∀ k acc Γ', k < n → I k acc Γ' → LcTurn dg dt de vs (.sh (.int (lo + k))) Γ' fun o Γ5 => I (k + 1) (acc ++ o.toList) Γ5) ∧ ∀ acc Γ', I n acc Γ' → Q (.lst acc) (backG Γ2 Γ' vs)
section
variable {K : Fg} {F : Fx K} {W2 : Wd} {σ : L2.St} {Γ2 : G} {vs ix : List Nat} {D : Addr} {n : Nat} {I : Nat → List PyData → G → Prop} {g : TG} {dg : TGd} {tt : TT} {dt : TTd} {te : TE} {de : TEd}
/-- the state between two turns -/
def LcSt (F : Fx K) (W2 : Wd) (σ : L2.St) (Γ2 : G) (vs : List Nat) (D : Addr) (I : Nat → List PyData → G → Prop) (k : Nat) (H' : Hp) : Prop :=
  ∃ (W' : Wd) (Γ' : G) (acc : List PyData) (us : List V), W'.H = H' ∧ Rel F W' (wipe σ vs) Γ' ∧ Tm W' Γ' D ∧ W'.H D = some (.lst us) ∧ us.length ≤ k ∧ DqAll K (W'.S F) us acc ∧ Same (W2.S F) (W'.S F) ∧
    (∀ q, q ≠ D → Tm W2 Γ2 q → Tm W' Γ' q ∧ W'.H q = W2.H q) ∧ KnO vs Γ2 Γ' ∧ InsK W2.H W'.H ∧ I k acc Γ'
theorem lc_begin (R2 : Rel F W2 σ Γ2) (hD : W2.H D = none) (i0 : I 0 [] (wipeG Γ2 vs)) : LcSt F W2 σ Γ2 vs D I 0 (upd W2.H D (.lst [])) := by
  obtain ⟨R3, k3, t3, h0, nrf⟩ := R2.temp (ho := .lst []) hD trivial
  exact ⟨_, wipeG Γ2 vs, [], [], rfl, R3.wiped vs, t3.wipe vs, upd_same, Nat.le_refl _, .nil, k3.sh, fun q ne t => ⟨(k3.tmp q t).1.wipe vs, (k3.tmp q t).2⟩, KnO.wipe Γ2, k3.obj, i0⟩
theorem lc_turn {k : Nat} {y : V} {x : RV} {W' : Wd} {Γ' : G} {acc : List PyData} {us : List V} [B : SG K g dg ix] [T : ST K tt dt] [C : SE K te de] (hix : subL ix vs = true) (nrf : ¬ F.rf D)
    (R' : Rel F W' (wipe σ vs) Γ') (t' : Tm W' Γ' D) (hd' : W'.H D = some (.lst us)) (hu : us.length ≤ k) (hk : k < sizeLine) (ha : DqAll K (W'.S F) us acc) (s' : Same (W2.S F) (W'.S F)) (tm' : ∀ q, q ≠ D → Tm W2 Γ2 q → Tm W' Γ' q ∧ W'.H q = W2.H q) (kn' : KnO vs Γ2 Γ') (ik' : InsK W2.H W'.H)
    (oy : VOk F W' (wipe σ vs) Γ' y x) (h : LcTurn dg dt de vs x Γ' fun o Γ5 => I (k + 1) (acc ++ o.toList) Γ5) :
    g y (wipe σ vs) W'.H fun σ2 H2 => wipe σ2 vs = wipe σ vs ∧ tt σ2 H2 fun b H3 => if b = true then te σ2 H3 fun y H4 => ∃ acc, H4 D = some (.lst acc) ∧ acc.length < sizeLine ∧ LcSt F W2 σ Γ2 vs D I (k + 1) (upd H4 D (.lst (acc ++ [y]))) else LcSt F W2 σ Γ2 vs D I (k + 1) H3 := by
  have hsub : ∀ i ∈ ix, i ∈ vs := fun i hi => by simpa using List.all_eq_true.mp hix i hi
  refine B.run F W' _ Γ' y x _ _ R' oy h fun W4 σ4 Γ4 k4 f4 R4 q4 => ?_
  have ew : wipe σ4 vs = wipe σ vs := wipe_eq (fun j hj => by rw [f4.st j fun z => hj (hsub j z), wipe_get σ j vs hj]) (by rw [f4.sl, wipe_len])
  refine ⟨ew, T.run F W4 σ4 Γ4 _ _ R4 q4 fun b W5 Γ5 s5 R5 q5 => ?_⟩
  have k5 : Kp F W' Γ' W5 Γ5 := k4.trans s5.toKp
  have kn5 : KnO vs Γ2 Γ5 := (kn'.trans (KnO.ofFm hsub f4)).trans (KnO.ofStp s5)
  cases b with
  | false =>
    rw [if_neg Bool.false_ne_true] at q5
    refine iteF ⟨W5, wipeG Γ5 vs, acc, us, rfl, ew ▸ R5.wiped vs, (k5.tmp D t').1.wipe vs, (k5.tmp D t').2.trans hd', Nat.le_succ_of_le hu, ha.same k5.sh, s'.trans k5.sh, fun q ne t => ?_, kn5.trans (KnO.wipe Γ5), ik'.trans k5.obj, by simpa using q5⟩
    obtain ⟨a1, a2⟩ := tm' q ne t
    exact ⟨(k5.tmp q a1).1.wipe vs, (k5.tmp q a1).2.trans a2⟩
  | true =>
    rw [if_pos rfl] at q5
    refine iteT (C.run F W5 σ4 Γ5 _ _ R5 q5 fun z W6 Γ6 vz s6 R6 o6 ⟨dy, ey, q6⟩ => ?_)
    have k6 : Kp F W' Γ' W6 Γ6 := k5.trans s6.toKp
    have hd6 : W6.H D = some (.lst us) := (k6.tmp D t').2.trans hd'
    refine ⟨us, hd6, by omega, ?_⟩
    have R6w : Rel F W6 (wipe σ vs) (wipeG Γ6 vs) := ew ▸ R6.wiped vs
    have t6 : Tm W6 (wipeG Γ6 vs) D := (k6.tmp D t').1.wipe vs
    obtain ⟨R7, eS⟩ := R6w.putTemp (ho := .lst (us ++ [vz])) t6 trivial nrf
    refine ⟨_, wipeG Γ6 vs, acc ++ [dy], us ++ [vz], rfl, R7, t6, upd_same, by simp; omega, ?_, ?_, fun q ne t => ?_, (kn5.trans (KnO.ofStp s6)).trans (KnO.wipe Γ6), (ik'.trans k6.obj).trans (InsK.upd (by rw [hd6]; trivial)), q6⟩
    · rw [eS]
      exact (ha.same k6.sh).app (.cons (o6.sh R6 ey) .nil)
    · rw [eS]
      exact s'.trans k6.sh
    · obtain ⟨a1, a2⟩ := tm' q ne t
      exact ⟨(k6.tmp q a1).1.wipe vs, by show upd W6.H D _ q = _; rw [upd_ne ne]; exact (k6.tmp q a1).2.trans a2⟩
theorem lc_end {k : Nat} {H' : Hp} {Q : VK} {Qd : OD → G → Prop} (R2 : Rel F W2 σ Γ2) (hD : W2.H D = none) (h0 : F.H0 D = none) (nrf : ¬ F.rf D) (hf : ownFree Γ2 vs = true) (h : LcSt F W2 σ Γ2 vs D I k H') (done : ∀ acc Γ', I k acc Γ' → Qd (.lst acc) (backG Γ2 Γ' vs))
    (kk : ∀ (o : OD) (W' : Wd) (Γ' : G) (p : Addr) (ho : HO), Stp F W2 Γ2 W' Γ' → Rel F W' σ Γ' → W'.H p = none → OwnH K (W'.S F) ho o → Qd o Γ' → Q (.ref p) (upd W'.H p ho)) : Q (.ref D) H' := by
  obtain ⟨W', Γ', acc, us, rfl, R', t', hd', hu, ha, s', tm', kn', ik', i'⟩ := h
  have Rb : Rel F W' σ (backG Γ2 Γ' vs) := R'.back R2 s' hf kn'.1
  have tb : Tm W' (backG Γ2 Γ' vs) D := t'.back hf kn'.1
  obtain ⟨Rd, sd⟩ := Rb.dropTemp tb h0 nrf
  rw [← dropW_upd hd']
  refine kk (.lst acc) (dropW W' D) (backG Γ2 Γ' vs) D (.lst us) ⟨⟨⟨s'.trans sd, fun q t => ?_⟩, ik'.trans fun a C dx vs e => by rw [dropW_ne (fun z => by rw [z, hd'] at e; cases e)]; exact e⟩, fun i s e => ?_, ?_⟩ Rd dropW_at ⟨us, rfl, ha.same sd⟩ (done acc Γ' i')
  · have ne : q ≠ D := fun z => by
      have m := R2.mu q t.1
      rw [z, hD] at m
      exact m
    obtain ⟨a1, a2⟩ := tm' q ne t
    have tq := a1.back hf kn'.1 (vs := vs)
    exact ⟨⟨⟨tq.1, ne⟩, tq.2⟩, by rw [dropW_ne ne]; exact a2⟩
  · by_cases hi : i ∈ vs
    · have l : i < Γ'.length := by rw [kn'.1]; exact lt_of_get e
      exact ⟨s, by rw [backG_in Γ2 Γ' i vs hi l, getD_of e], Kn.refl s⟩
    · obtain ⟨s1, e1, k1⟩ := kn'.2 i s hi e
      exact ⟨s1, by rw [backG_get Γ2 Γ' i vs hi]; exact e1, k1⟩
  · rw [backG_len]
    exact kn'.1
end
section
variable {K : Fg} {vs ix : List Nat} {g : TG} {dg : TGd} {tt : TT} {dt : TTd} {te t0 : TE} {de d0 : TEd}
instance sf_lcL [A : SE K t0 d0] [B : SG K g dg ix] [T : ST K tt dt] [C : SE K te de] : SEF K (tLc (iList K t0) g tt te vs) (dLc itL d0 dg dt de ix vs) := ⟨fun F W σ Γ Q Qd R q kk => A.run F W σ Γ _ _ R q fun x W1 Γ1 v s1 R1 o1 ⟨ds, Γ2, e, hf, hix, hl, I, i0, step, done⟩ => by
  obtain ⟨W2, a, xs, rfl, eH, s2, R2, st⟩ := itL_ok R1 o1 e
  refine ⟨a, rfl, ⟨xs, by rw [← eH]; exact SqL.of (st W2 σ Γ2 (Same.refl _) R2).1⟩, fun D hD => ?_⟩
  rw [← eH] at hD ⊢
  have hlen : xs.length = ds.length := Paired.length (st W2 σ Γ2 (Same.refl _) R2).2
  obtain ⟨_, _, _, h0, nrf⟩ := R2.temp (ho := .lst []) hD trivial
  refine lc_list (K := K) (a := a) (xs := xs) (LcSt F W2 σ Γ2 vs D I) (lc_begin R2 hD i0) ?_ ?_ ?_
  · rintro k H' hk ⟨W', Γ', acc, us, rfl, R', t', hd', hu, ha, s', tm', kn', ik', i'⟩
    exact SqL.of (st W' _ Γ' s' R').1
  · rintro k y H' hy ⟨W', Γ', acc, us, rfl, R', t', hd', hu, ha, s', tm', kn', ik', i'⟩
    obtain ⟨d, hd, od⟩ := paired_get (st W' _ Γ' s' R').2 hy
    have hk := lt_of_get hy
    exact lc_turn (x := itK x d) hix nrf R' t' hd' hu (by omega) ha s' tm' kn' ik' od (step k d acc Γ' hd i')
  · intro H' h
    rw [hlen] at h
    exact lc_end R2 hD h0 nrf hf h done fun o W' Γ' p ho s' R' hp oh q => kk o W' Γ' p ho (s1.trans (s2.trans s')) R' hp oh q⟩
instance sf_lcT [A : SE K t0 d0] [B : SG K g dg ix] [T : ST K tt dt] [C : SE K te de] : SEF K (tLc (iTup K t0) g tt te vs) (dLc itT d0 dg dt de ix vs) := ⟨fun F W σ Γ Q Qd R q kk => A.run F W σ Γ _ _ R q fun x W1 Γ1 v s1 R1 o1 ⟨ds, Γ2, e, hf, hix, hl, I, i0, step, done⟩ => by
  obtain ⟨W2, a, xs, rfl, eH, s2, R2, st⟩ := itT_ok R1 o1 e
  refine ⟨a, rfl, ⟨xs, by rw [← eH]; exact (st W2 σ Γ2 (Same.refl _) R2).1⟩, fun D hD => ?_⟩
  rw [← eH] at hD ⊢
  have hlen : xs.length = ds.length := Paired.length (st W2 σ Γ2 (Same.refl _) R2).2
  obtain ⟨_, _, _, h0, nrf⟩ := R2.temp (ho := .lst []) hD trivial
  refine lc_tup (K := K) (a := a) (xs := xs) (LcSt F W2 σ Γ2 vs D I) (lc_begin R2 hD i0) ?_ ?_ ?_
  · rintro k H' hk ⟨W', Γ', acc, us, rfl, R', t', hd', hu, ha, s', tm', kn', ik', i'⟩
    exact (st W' _ Γ' s' R').1
  · rintro k y H' hy ⟨W', Γ', acc, us, rfl, R', t', hd', hu, ha, s', tm', kn', ik', i'⟩
    obtain ⟨d, hd, od⟩ := paired_get (st W' _ Γ' s' R').2 hy
    have hk := lt_of_get hy
    exact lc_turn (x := itK x d) hix nrf R' t' hd' hu (by omega) ha s' tm' kn' ik' od (step k d acc Γ' hd i')
  · intro H' h
    rw [hlen] at h
    exact lc_end R2 hD h0 nrf hf h done fun o W' Γ' p ho s' R' hp oh q => kk o W' Γ' p ho (s1.trans (s2.trans s')) R' hp oh q⟩
instance sf_lcR1 {ta : TA} {da : TAd} [A : SA K ta da] [B : SG K g dg ix] [T : ST K tt dt] [C : SE K te de] : SEF K (tLc (iRng1 ta) g tt te vs) (dLcR Rg1 da dg dt de ix vs) := ⟨fun F W σ Γ Q Qd R q kk => A.run F W σ Γ _ _ R q fun xs W2 Γ2 v s1 R2 o1 ⟨ds, lo, n, e, ⟨j, e2, b1, b2, hlo, hn⟩, hf, hix, hl, I, i0, step, done⟩ => by
  subst e2 hlo hn
  refine ⟨j, ints1 (o1.full R2 e), b1, b2, fun D hD => ?_⟩
  obtain ⟨_, _, _, h0, nrf⟩ := R2.temp (ho := .lst []) hD trivial
  refine lc_range (LcSt F W2 σ Γ2 vs D I) (lc_begin R2 hD i0) ?_ ?_
  · rintro k H' hk ⟨W', Γ', acc, us, rfl, R', t', hd', hu, ha, s', tm', kn', ik', i'⟩
    exact lc_turn (x := .sh (.int _)) hix nrf R' t' hd' hu (by omega) ha s' tm' kn' ik' (.int _) (step k acc Γ' hk i')
  · intro H' h
    exact lc_end R2 hD h0 nrf hf h done fun o W' Γ' p ho s' R' hp oh q => kk o W' Γ' p ho (s1.trans s') R' hp oh q⟩
instance sf_lcR2 {ta : TA} {da : TAd} [A : SA K ta da] [B : SG K g dg ix] [T : ST K tt dt] [C : SE K te de] : SEF K (tLc (iRng2 ta) g tt te vs) (dLcR Rg2 da dg dt de ix vs) := ⟨fun F W σ Γ Q Qd R q kk => A.run F W σ Γ _ _ R q fun xs W2 Γ2 v s1 R2 o1 ⟨ds, lo, n, e, ⟨i, j, e2, b, hlo, hn⟩, hf, hix, hl, I, i0, step, done⟩ => by
  subst e2 hlo hn
  refine ⟨_, j, ints2 (o1.full R2 e), b, fun D hD => ?_⟩
  obtain ⟨_, _, _, h0, nrf⟩ := R2.temp (ho := .lst []) hD trivial
  refine lc_range (LcSt F W2 σ Γ2 vs D I) (lc_begin R2 hD i0) ?_ ?_
  · rintro k H' hk ⟨W', Γ', acc, us, rfl, R', t', hd', hu, ha, s', tm', kn', ik', i'⟩
    exact lc_turn (x := .sh (.int _)) hix nrf R' t' hd' hu (by omega) ha s' tm' kn' ik' (.int _) (step k acc Γ' hk i')
  · intro H' h
    exact lc_end R2 hD h0 nrf hf h done fun o W' Γ' p ho s' R' hp oh q => kk o W' Γ' p ho (s1.trans s') R' hp oh q⟩
end
end Dk

namespace Dk
open PySem PySem.Spec PyProof.Rows L2
/-! ### items -/
def odL : OD → Option (List PyData)
  | .lst ds => some ds
  | _ => none
def lstOf (Γ : G) : RV → Option (List PyData)
  | .sh (.list ds) => some ds
  | .ar (.list ds) => some ds
  | .own i => match Γ[i]? with
    | some (.ow (.lst ds)) => some ds
    | some (.rf (.lst ds)) => some ds
    | some (.sh (.list ds)) => some ds
    | _ => none
  | .fld i path => match Γ[i]? with
    | some s => s.ins?.bind fun o => (o.at_ path).bind odL
    | _ => none
  | _ => none
def tupOf (Γ : G) : RV → Option (List PyData)
  | .sh (.tuple ds) => some ds
  | .ar (.tuple ds) => some ds
  | .own i => match Γ[i]? with
    | some (.sh (.tuple ds)) => some ds
    | _ => none
  | _ => none
section
variable {K : Fg} {F : Fx K} {W : Wd} {σ : L2.St} {Γ : G} {v : V} {x : RV} {ds : List PyData}
theorem lstOf_ok (R : Rel F W σ Γ) (o : VOk F W σ Γ v x) (e : lstOf Γ x = some ds) : ∃ (a : Addr) (xs : List V), v = .ref a ∧ W.H a = some (.lst xs) ∧ Paired (fun v d => VOk F W σ Γ v (itK x d)) xs ds ∧ DqAll K W.H xs ds := by
  cases x with
  | sh d =>
    cases d with
    | list ds' =>
      cases e
      cases (show Dq K (W.S F) v (.list ds) from o) with
      | lst h1 h2 => exact ⟨_, _, rfl, less_same _ _ h1, Paired.mapP (paired_of h2) fun _ _ z => z, h2.same less_same⟩
    | _ => cases e
  | ar d =>
    cases d with
    | list ds' =>
      cases e
      cases (show Dq K (less F.H0 F.rf) v (.list ds) from o) with
      | lst h1 h2 => exact ⟨_, _, rfl, R.ar_same _ _ h1, Paired.mapP (paired_of h2) fun _ _ z => z, h2.same R.ar_same⟩
    | _ => cases e
  | own i =>
    obtain ⟨s, h1, h2, h3⟩ := o
    simp only [lstOf, h1] at e
    cases s with
    | no => cases e
    | ar d => cases e
    | sh d =>
      cases d with
      | list ds' =>
        cases e
        obtain ⟨v', q1, q2⟩ := R.slot i _ h1
        rw [h3] at q1
        cases q1
        cases q2 with
        | lst g1 g2 => exact ⟨_, _, rfl, less_same _ _ g1, Paired.mapP (paired_of g2) fun _ _ z => z, g2.same less_same⟩
      | _ => cases e
    | ow o =>
      cases o with
      | lst ds' =>
        cases e
        obtain ⟨p, q1, _, _, vs, q2, q3⟩ := R.slot i _ h1
        rw [h3] at q1
        cases q1
        exact ⟨_, _, rfl, q2, Paired.mapP (paired_of q3) fun _ _ z => z, q3.same less_same⟩
      | _ => cases e
    | rf o =>
      cases o with
      | lst ds' =>
        cases e
        obtain ⟨p, _, q1, _, _, vs, q2, q3⟩ := R.slot i _ h1
        rw [h3] at q1
        cases q1
        exact ⟨_, _, rfl, q2, Paired.mapP (paired_of q3) fun _ _ z => z, q3.same less_same⟩
      | _ => cases e
    | ro o => cases e
  | fld i path =>
    obtain ⟨s, p, o, h1, h2, h3, h4⟩ := o
    simp only [lstOf, h1, h2, Option.bind_some] at e
    obtain ⟨o', e1, e2⟩ := Option.bind_eq_some_iff.mp e
    obtain ⟨p', f, g1, g2, _⟩ := R.insOk h1 h2
    rw [h3] at g1
    cases g1
    obtain ⟨q, F', rfl, _, hO⟩ := g2.path Rel.S_same e1 h4
    cases o' with
    | lst ds' =>
      cases e2
      simp only [OwnO] at hO
      obtain ⟨_, vs, q2, q3⟩ := hO
      exact ⟨_, _, rfl, q2, Paired.mapP (paired_of q3) fun _ _ z => z, q3.same less_same⟩
    | _ => cases e2
theorem tupOf_ok (R : Rel F W σ Γ) (o : VOk F W σ Γ v x) (e : tupOf Γ x = some ds) : ∃ (a : Addr) (xs : List V), v = .ref a ∧ Tq K W.H a xs ∧ Paired (fun v d => VOk F W σ Γ v (itK x d)) xs ds ∧ DqAll K W.H xs ds := by
  cases x with
  | fld _ _ => cases e
  | sh d =>
    cases d with
    | tuple ds' =>
      cases e
      cases (show Dq K (W.S F) v (.tuple ds) from o) with
      | tup h1 h2 => exact ⟨_, _, rfl, h1.same less_same, Paired.mapP (paired_of h2) fun _ _ z => z, h2.same less_same⟩
    | _ => cases e
  | ar d =>
    cases d with
    | tuple ds' =>
      cases e
      cases (show Dq K (less F.H0 F.rf) v (.tuple ds) from o) with
      | tup h1 h2 => exact ⟨_, _, rfl, h1.same R.ar_same, Paired.mapP (paired_of h2) fun _ _ z => z, h2.same R.ar_same⟩
    | _ => cases e
  | own i =>
    obtain ⟨s, h1, h2, h3⟩ := o
    simp only [tupOf, h1] at e
    cases s with
    | no => cases e
    | ar d => cases e
    | ow o => cases e
    | rf o => cases e
    | ro o => cases e
    | sh d =>
      cases d with
      | tuple ds' =>
        cases e
        obtain ⟨v', q1, q2⟩ := R.slot i _ h1
        rw [h3] at q1
        cases q1
        cases q2 with
        | tup g1 g2 => exact ⟨_, _, rfl, g1.same less_same, Paired.mapP (paired_of g2) fun _ _ z => z, g2.same less_same⟩
      | _ => cases e
theorem paired_get' {α β : Type} {P : α → β → Prop} : ∀ {xs : List α} {ys : List β} {i : Nat} {y : β}, Paired P xs ys → ys[i]? = some y → ∃ x, xs[i]? = some x ∧ P x y
  | _, _, _, _, .nil, e => by simp at e
  | _, _, 0, _, .cons r _, e => by simp at e; subst e; exact ⟨_, rfl, r⟩
  | _, _, i + 1, _, .cons _ t, e => by
    obtain ⟨y, h1, h2⟩ := paired_get' (i := i) t (by simpa using e)
    exact ⟨y, by simpa using h1, h2⟩
theorem paired_atI {P : V → PyData → Prop} {xs : List V} {ys : List PyData} {i : Int} {y : PyData} (h : Paired P xs ys) (e : atI ys i = some y) : ∃ x, atI xs i = some x ∧ P x y := by
  unfold atI at e ⊢
  rw [Paired.length h]
  obtain ⟨j, e1, e2⟩ := Option.bind_eq_some_iff.mp e
  obtain ⟨x, h1, h2⟩ := paired_get' h e2
  exact ⟨x, by rw [e1]; exact h1, h2⟩
end
section
variable {K : Fg} {ta tb : TE} {da db : TEd}
def dIx (sq : G → RV → Option (List PyData)) (da db : TEd) : TEd := fun Γ Q => da Γ fun x Γ1 => db Γ1 fun y Γ2 => ∃ i ds d, dat Γ2 y = some (.int i) ∧ sq Γ2 x = some ds ∧ atI ds i = some d ∧ Q (itK x d) Γ2
instance se_ixL [SE K ta da] [SE K tb db] : SE K (tOp (rIxL K) ta tb) (dIx lstOf da db) := ⟨fun F W σ Γ Q Qd R q k => two R q fun x y W' Γ' u v s' R' o1 o2 ⟨i, ds, d, e1, e2, e3, q⟩ => by
  obtain ⟨a, xs, rfl, h1, h2, _⟩ := lstOf_ok R' o1 e2
  obtain ⟨z, g1, g2⟩ := paired_atI h2 e3
  exact ⟨a, xs, i, z, rfl, int_of (o2.full R' e1), SqL.of h1, g1, k _ W' Γ' _ s' R' g2 q⟩⟩
instance se_ixT [SE K ta da] [SE K tb db] : SE K (tOp (rIxT K) ta tb) (dIx tupOf da db) := ⟨fun F W σ Γ Q Qd R q k => two R q fun x y W' Γ' u v s' R' o1 o2 ⟨i, ds, d, e1, e2, e3, q⟩ => by
  obtain ⟨a, xs, rfl, h1, h2, _⟩ := tupOf_ok R' o1 e2
  obtain ⟨z, g1, g2⟩ := paired_atI h2 e3
  exact ⟨a, xs, i, z, rfl, int_of (o2.full R' e1), h1.sq, g1, k _ W' Γ' _ s' R' g2 q⟩⟩
/-! ### slices -/
class SO (K : Fg) (t : TO) (d : outParam (G → (Option Int → G → Prop) → Prop)) : Prop where
  run : ∀ (F : Fx K) (W : Wd) (σ : L2.St) (Γ : G) (Q : Option Int → Hp → Prop) (Qd : Option Int → G → Prop), Rel F W σ Γ → d Γ Qd →
    (∀ (b : Option Int) (W' : Wd) (Γ' : G), Stp F W Γ W' Γ' → Rel F W' σ Γ' → Qd b Γ' → Q b W'.H) → t σ W.H Q
def dNoPart : G → (Option Int → G → Prop) → Prop := fun Γ Q => Q none Γ
def dPart (da : TEd) : G → (Option Int → G → Prop) → Prop := fun Γ Q => da Γ fun x Γ1 => ∃ i, dat Γ1 x = some (.int i) ∧ Q (some i) Γ1
instance so_none : SO K tNoPart dNoPart := ⟨fun F W σ Γ Q Qd R q k => k none W Γ (Stp.refl ..) R q⟩
instance so_some [A : SE K ta da] : SO K (tPart ta) (dPart da) := ⟨fun F W σ Γ Q Qd R q k => A.run F W σ Γ _ _ R q fun x W' Γ' v s' R' o1 ⟨i, e1, q⟩ => ⟨i, int_of (o1.full R' e1), k _ W' Γ' s' R' q⟩⟩
def cutD (xs : List PyData) (lo hi : Option Int) : List PyData := (xs.drop (HT.sIx xs.length 0 lo)).take (HT.sIx xs.length xs.length hi - HT.sIx xs.length 0 lo)
/-- the items may be kept -/
def keepable (x : RV) (ds : List PyData) : Prop := match x with
  | .ar _ => tupOs ds = true
  | _ => True
theorem DqAll.ofPaired {H : Hp} : ∀ {vs : List V} {ds : List PyData}, Paired (fun v d => Dq K H v d) vs ds → DqAll K H vs ds
  | _, _, .nil => .nil
  | _, _, .cons a b => .cons a (DqAll.ofPaired b)
theorem keep_ok {F : Fx K} {W : Wd} {σ : L2.St} {Γ : G} {x : RV} {xs : List V} {ds : List PyData} (R : Rel F W σ Γ) (h : Paired (fun v d => VOk F W σ Γ v (itK x d)) xs ds) (hk : keepable x ds) : DqAll K (W.S F) xs ds := by
  cases x with
  | sh d => exact DqAll.ofPaired h
  | own i => exact DqAll.ofPaired h
  | fld i p => exact DqAll.ofPaired h
  | ar d =>
    have q : DqAll K (less F.H0 F.rf) xs ds := DqAll.ofPaired h
    exact DqAll.tupO_less (H' := W.H) (fun a z => R.exmo z) _ _ hk (q.same R.ar_same)
def dSl (da : TEd) (dl dh : G → (Option Int → G → Prop) → Prop) : TFd := fun Γ Q => da Γ fun x Γ1 => dl Γ1 fun lo Γ2 => dh Γ2 fun hi Γ3 => ∃ ds, lstOf Γ3 x = some ds ∧ keepable x ds ∧ Q (.lst (cutD ds lo hi)) Γ3
instance sf_slice {tl th : TO} {dl dh : G → (Option Int → G → Prop) → Prop} [A : SE K ta da] [L : SO K tl dl] [U : SO K th dh] : SEF K (L2.tSl (rSlL K) ta tl th) (dSl da dl dh) := ⟨fun F W σ Γ Q Qd R q k => A.run F W σ Γ _ _ R q fun x W1 Γ1 v s1 R1 o1 q => L.run F W1 σ Γ1 _ _ R1 q fun lo W2 Γ2 s2 R2 q => U.run F W2 σ Γ2 _ _ R2 q fun hi W3 Γ3 s3 R3 ⟨ds, e, hk, q⟩ => by
  obtain ⟨a, xs, rfl, h1, h2, _⟩ := lstOf_ok R3 (o1.stp (s2.trans s3)) e
  have hd := keep_ok R3 h2 hk
  refine ⟨a, xs, rfl, SqL.of h1, fun p hp => k (.lst (cutD ds lo hi)) W3 Γ3 p _ (s1.trans (s2.trans s3)) R3 hp ⟨_, rfl, ?_⟩ q⟩
  unfold cutV cutD
  rw [hd.length]
  exact (hd.drop _).take _⟩
/-! ### lists put together -/
def dCat (da db : TEd) : TFd := fun Γ Q => da Γ fun x Γ1 => db Γ1 fun y Γ2 => ∃ ds es, lstOf Γ2 x = some ds ∧ lstOf Γ2 y = some es ∧ keepable x ds ∧ keepable y es ∧ ds.length + es.length ≤ sizeLine ∧ Q (.lst (ds ++ es)) Γ2
instance sf_cat [SE K ta da] [SE K tb db] : SEF K (tOp rCat ta tb) (dCat da db) := ⟨fun F W σ Γ Q Qd R q k => two R q fun x y W' Γ' u v s' R' o1 o2 ⟨ds, es, e1, e2, k1, k2, hl, q⟩ => by
  obtain ⟨a, xs, rfl, h1, h2, _⟩ := lstOf_ok R' o1 e1
  obtain ⟨b, ys, rfl, g1, g2, _⟩ := lstOf_ok R' o2 e2
  have hd := keep_ok R' h2 k1
  have he := keep_ok R' g2 k2
  exact ⟨a, b, xs, ys, rfl, rfl, h1, g1, by rw [hd.length, he.length]; exact hl, fun p hp => k (.lst (ds ++ es)) W' Γ' p _ s' R' hp ⟨_, rfl, hd.app he⟩ q⟩⟩
def repD (ds : List PyData) (n : Nat) : List PyData := (List.replicate n ds).flatten
/-! ### calls of what is built in -/
def rLen (K : Fg) : List V → Hp → VK → Prop := fun xs H Q => ∃ p ys, xs = [.ref p] ∧ (SqL K H p ys ∨ SqT K H p ys) ∧ Q (.int ys.length) H
theorem b_len {X : Cx} : CallR X (.builtin "len") (rLen X.K) := call_len_seq
def rListOf (K : Fg) : List V → Hp → VK → Prop := fun xs H Q => ∃ p ys, xs = [.ref p] ∧ (SqL K H p ys ∨ SqT K H p ys) ∧ ∀ l, H l = none → Q (.ref l) (upd H l (.lst ys))
theorem b_list {X : Cx} : CallR X (.type "list") (rListOf X.K) := call_list_of
def rTupOf (K : Fg) : List V → Hp → VK → Prop := fun xs H Q => ∃ p ys, xs = [.ref p] ∧ ((SqL K H p ys ∧ ∀ l, H l = none → Q (.ref l) (upd H l (.tup ys))) ∨ (SqT K H p ys ∧ Q (.ref p) H))
theorem b_tuple {X : Cx} : CallR X (.type "tuple") (rTupOf X.K) := call_tuple_of
def rAbs : List V → Hp → VK → Prop := fun xs H Q => ∃ i, xs = [.int i] ∧ Q (.int (if i < 0 then -i else i)) H
theorem b_abs {X : Cx} : CallR X (.builtin "abs") rAbs := call_abs
def rMx2 : List V → Hp → VK → Prop := fun xs H Q => ∃ i j, xs = [.int i, .int j] ∧ Q (.int (if j > i then j else i)) H
theorem b_max2 {X : Cx} (hc : X.calm = true) : CallR X (.builtin "max") rMx2 := call_max2 hc
def rMn2 : List V → Hp → VK → Prop := fun xs H Q => ∃ i j, xs = [.int i, .int j] ∧ Q (.int (if j < i then j else i)) H
theorem b_min2 {X : Cx} (hc : X.calm = true) : CallR X (.builtin "min") rMn2 := call_min2 hc
def seqOf (Γ : G) (x : RV) : Option (List PyData) := match lstOf Γ x with
  | some ds => some ds
  | none => tupOf Γ x
theorem seqOf_ok {F : Fx K} {W : Wd} {σ : L2.St} {Γ : G} {v : V} {x : RV} {ds : List PyData} (R : Rel F W σ Γ) (o : VOk F W σ Γ v x) (e : seqOf Γ x = some ds) : ∃ (a : Addr) (xs : List V), v = .ref a ∧ (W.H a = some (.lst xs) ∨ Tq K W.H a xs) ∧ Paired (fun v d => VOk F W σ Γ v (itK x d)) xs ds ∧ DqAll K W.H xs ds := by
  unfold seqOf at e
  split at e
  · rename_i ds' h
    cases e
    obtain ⟨a, xs, h1, h2, h3⟩ := lstOf_ok R o h
    exact ⟨a, xs, h1, .inl h2, h3⟩
  · obtain ⟨a, xs, h1, h2, h3⟩ := tupOf_ok R o e
    exact ⟨a, xs, h1, .inr h2, h3⟩
theorem sq_or {H : Hp} {a : Addr} {xs : List V} (h : H a = some (.lst xs) ∨ Tq K H a xs) : SqL K H a xs ∨ SqT K H a xs := h.imp (fun z => SqL.of z) fun z => z.sq
/-- one argument -/
theorem one {F : Fx K} {W : Wd} {σ : L2.St} {Γ : G} {Qd : RV → G → Prop} {Q : List V → Hp → Prop} [A : SE K ta da] (R : Rel F W σ Γ) (h : da Γ Qd) (k : ∀ (x : RV) (W' : Wd) (Γ' : G) (v : V), Stp F W Γ W' Γ' → Rel F W' σ Γ' → VOk F W' σ Γ' v x → Qd x Γ' → Q [v] W'.H) : tCons ta tNil σ W.H Q :=
  A.run F W σ Γ _ _ R h fun x W' Γ' v s' R' o q => k x W' Γ' v s' R' o q
def dLen (da : TEd) : TEd := fun Γ Q => da Γ fun x Γ1 => ∃ ds, seqOf Γ1 x = some ds ∧ Q (.sh (.int ds.length)) Γ1
instance se_len [SE K ta da] : SE K (tCB (rLen K) (tCons ta tNil)) (dLen da) := ⟨fun F W σ Γ Q Qd R q k => one (ta := ta) (da := da) R q fun x W' Γ' v s' R' o ⟨ds, e, q⟩ => by
  obtain ⟨a, xs, rfl, h1, h2, h3⟩ := seqOf_ok R' o e
  refine ⟨a, xs, rfl, sq_or h1, ?_⟩
  rw [h3.length]
  exact k _ W' Γ' _ s' R' (.int _) q⟩
def dListOf (da : TEd) : TFd := fun Γ Q => da Γ fun x Γ1 => ∃ ds, seqOf Γ1 x = some ds ∧ keepable x ds ∧ Q (.lst ds) Γ1
instance sf_listOf [SE K ta da] : SEF K (tCB (rListOf K) (tCons ta tNil)) (dListOf da) := ⟨fun F W σ Γ Q Qd R q k => one (ta := ta) (da := da) R q fun x W' Γ' v s' R' o ⟨ds, e, hk, q⟩ => by
  obtain ⟨a, xs, rfl, h1, h2, h3⟩ := seqOf_ok R' o e
  exact ⟨a, xs, rfl, sq_or h1, fun l hl => k (.lst ds) W' Γ' l _ s' R' hl ⟨xs, rfl, keep_ok R' h2 hk⟩ q⟩⟩
def dTupOf (da : TEd) : TEd := fun Γ Q => da Γ fun x Γ1 => ∃ ds, lstOf Γ1 x = some ds ∧ keepable x ds ∧ Q (.sh (.tuple ds)) Γ1
instance se_tupOf [SE K ta da] : SE K (tCB (rTupOf K) (tCons ta tNil)) (dTupOf da) := ⟨fun F W σ Γ Q Qd R q k => one (ta := ta) (da := da) R q fun x W' Γ' v s' R' o ⟨ds, e, hk, q⟩ => by
  obtain ⟨a, xs, rfl, h1, h2, h3⟩ := lstOf_ok R' o e
  have hd := keep_ok R' h2 hk
  refine ⟨a, xs, rfl, .inl ⟨SqL.of h1, fun p hp => ?_⟩⟩
  have hS := same_new (o := .tup xs) hp
  refine k (.sh (.tuple ds)) { W' with H := upd W'.H p (.tup xs) } Γ' (.ref p) (s'.trans (Stp.grow R' hS)) (R'.grow hS).1 ?_ q
  exact .tup (.inl (S_of (W := { W' with H := upd W'.H p (.tup xs) }) (R'.free hp) upd_same)) (hd.same (R'.grow hS).2)⟩
def absI (i : Int) : Int := if i < 0 then -i else i
def dAbs (da : TEd) : TEd := fun Γ Q => da Γ fun x Γ1 => ∃ i, dat Γ1 x = some (.int i) ∧ Q (.sh (.int (absI i))) Γ1
instance se_abs [SE K ta da] : SE K (tCB rAbs (tCons ta tNil)) (dAbs da) := ⟨fun F W σ Γ Q Qd R q k => one (ta := ta) (da := da) R q fun x W' Γ' v s' R' o ⟨i, e, q⟩ => ⟨i, by rw [int_of (o.full R' e)], k _ W' Γ' _ s' R' (.int _) q⟩⟩
def d2I (h : Int → Int → Int) (da : TAd) : TEd := fun Γ Q => da Γ fun xs Γ1 => ∃ i j, dats Γ1 xs = some [.int i, .int j] ∧ Q (.sh (.int (h i j))) Γ1
def maxI (i j : Int) : Int := if j > i then j else i
def minI (i j : Int) : Int := if j < i then j else i
instance se_max2 {t : TA} {d : TAd} [A : SA K t d] : SE K (tCB rMx2 t) (d2I maxI d) := ⟨fun F W σ Γ Q Qd R q k => A.run F W σ Γ _ _ R q fun xs W' Γ' vs s' R' o ⟨i, j, e, q⟩ => ⟨i, j, ints2 (o.full R' e), k _ W' Γ' _ s' R' (.int _) q⟩⟩
instance se_min2 {t : TA} {d : TAd} [A : SA K t d] : SE K (tCB rMn2 t) (d2I minI d) := ⟨fun F W σ Γ Q Qd R q k => A.run F W σ Γ _ _ R q fun xs W' Γ' vs s' R' o ⟨i, j, e, q⟩ => ⟨i, j, ints2 (o.full R' e), k _ W' Γ' _ s' R' (.int _) q⟩⟩
/-- a list of numbers -/
def dSum (da : TEd) : TEd := fun Γ Q => da Γ fun x Γ1 => ∃ ns : List Int, lstOf Γ1 x = some (ns.map .int) ∧ Q (.sh (.int ns.sum)) Γ1
instance se_sum [SE K ta da] : SE K (tCB (rSum K) (tCons ta tNil)) (dSum da) := ⟨fun F W σ Γ Q Qd R q k => one (ta := ta) (da := da) R q fun x W' Γ' v s' R' o ⟨ns, e, q⟩ => by
  obtain ⟨a, xs, rfl, h1, h2, h3⟩ := lstOf_ok R' o e
  exact ⟨a, ns, rfl, SqL.of (h3.ints ▸ h1), k _ W' Γ' _ s' R' (.int _) q⟩⟩
def dMaxL (da : TEd) : TEd := fun Γ Q => da Γ fun x Γ1 => ∃ ns : List Int, lstOf Γ1 x = some (ns.map .int) ∧ 0 < ns.length ∧ ∀ m, m ∈ ns → (∀ y, y ∈ ns → y ≤ m) → Q (.sh (.int m)) Γ1
instance se_maxL [SE K ta da] : SE K (tCB (rMax K) (tCons ta tNil)) (dMaxL da) := ⟨fun F W σ Γ Q Qd R q k => one (ta := ta) (da := da) R q fun x W' Γ' v s' R' o ⟨ns, e, hl, q⟩ => by
  obtain ⟨a, xs, rfl, h1, h2, h3⟩ := lstOf_ok R' o e
  exact ⟨a, ns, rfl, SqL.of (h3.ints ▸ h1), hl, fun m hm hy => k _ W' Γ' _ s' R' (.int _) (q m hm hy)⟩⟩
def dMinL (da : TEd) : TEd := fun Γ Q => da Γ fun x Γ1 => ∃ ns : List Int, lstOf Γ1 x = some (ns.map .int) ∧ 0 < ns.length ∧ ∀ m, m ∈ ns → (∀ y, y ∈ ns → m ≤ y) → Q (.sh (.int m)) Γ1
instance se_minL [SE K ta da] : SE K (tCB (rMin K) (tCons ta tNil)) (dMinL da) := ⟨fun F W σ Γ Q Qd R q k => one (ta := ta) (da := da) R q fun x W' Γ' v s' R' o ⟨ns, e, hl, q⟩ => by
  obtain ⟨a, xs, rfl, h1, h2, h3⟩ := lstOf_ok R' o e
  exact ⟨a, ns, rfl, SqL.of (h3.ints ▸ h1), hl, fun m hm hy => k _ W' Γ' _ s' R' (.int _) (q m hm hy)⟩⟩
def dAnyAll (f : List Bool → Bool) (da : TEd) : TEd := fun Γ Q => da Γ fun x Γ1 => ∃ bs : List Bool, lstOf Γ1 x = some (bs.map .bool) ∧ Q (.sh (.bool (f bs))) Γ1
instance se_any [SE K ta da] : SE K (tCB (rAny K) (tCons ta tNil)) (dAnyAll (fun bs => bs.any id) da) := ⟨fun F W σ Γ Q Qd R q k => one (ta := ta) (da := da) R q fun x W' Γ' v s' R' o ⟨ns, e, q⟩ => by
  obtain ⟨a, xs, rfl, h1, h2, h3⟩ := lstOf_ok R' o e
  exact ⟨a, ns, rfl, SqL.of (h3.bools ▸ h1), k _ W' Γ' _ s' R' (.bl _) q⟩⟩
instance se_all [SE K ta da] : SE K (tCB (rAll K) (tCons ta tNil)) (dAnyAll (fun bs => bs.all id) da) := ⟨fun F W σ Γ Q Qd R q k => one (ta := ta) (da := da) R q fun x W' Γ' v s' R' o ⟨ns, e, q⟩ => by
  obtain ⟨a, xs, rfl, h1, h2, h3⟩ := lstOf_ok R' o e
  exact ⟨a, ns, rfl, SqL.of (h3.bools ▸ h1), k _ W' Γ' _ s' R' (.bl _) q⟩⟩
/-- sorted: numbers -/
def dSortI (da : TEd) : TFd := fun Γ Q => da Γ fun x Γ1 => ∃ ns : List Int, lstOf Γ1 x = some (ns.map .int) ∧ ∀ ms : List Int, ms.Perm ns → ms.Pairwise (· ≤ ·) → Q (.lst (ms.map .int)) Γ1
instance sf_sortI [SE K ta da] : SEF K (tCB (rSortedI K) (tCons ta tNil)) (dSortI da) := ⟨fun F W σ Γ Q Qd R q k => one (ta := ta) (da := da) R q fun x W' Γ' v s' R' o ⟨ns, e, q⟩ => by
  obtain ⟨a, xs, rfl, h1, h2, h3⟩ := lstOf_ok R' o e
  exact ⟨a, ns, rfl, SqL.of (h3.ints ▸ h1), fun ms p hp hs hn => k (.lst (ms.map .int)) W' Γ' p _ s' R' hn ⟨_, rfl, DqAll.ofInts ms⟩ (q ms hp hs)⟩⟩
/-- isinstance(x, T) -/
def tyD : PyData → String
  | .none => "NoneType"
  | .bool _ => "bool"
  | .int _ => "int"
  | .str _ => "str"
  | .list _ => "list"
  | .tuple _ => "tuple"
  | .dict _ => "dict"
def kitD (d : PyData) (n : String) : Option Bool := match d with
  | .dict _ => none
  | d => kitB (tyD d) n
theorem ty_of {H : Hp} {v : V} {d : PyData} {n : String} {b : Bool} (h : Dq K H v d) (e : kitD d n = some b) : TyX K H v (.type (tyD d)) ∧ kitB (tyD d) n = some b := by
  cases d with
  | none => cases h; exact ⟨.base .non, e⟩
  | bool b => cases h; exact ⟨.base (.bl _), e⟩
  | int b => cases h; exact ⟨.base (.int _), e⟩
  | str b => cases h; exact ⟨.base (.str _), e⟩
  | list b =>
    cases h with
    | lst a b => exact ⟨.base (.lst a), e⟩
  | tuple b =>
    cases h with
    | tup a b =>
      rcases a with a | ⟨_, o, _, _, e', c, _⟩
      · exact ⟨.base (.tup a), e⟩
      · exact ⟨.kTuple e' c, e⟩
  | dict b => cases e
def dIsi (n : String) (da : TEd) : TEd := fun Γ Q => da Γ fun x Γ1 => ∃ d b, dat Γ1 x = some d ∧ kitD d n = some b ∧ Q (.sh (.bool b)) Γ1
instance se_isi {n : String} [A : SE K ta da] : SE K (tCB (rIsi K) (tCons ta (tCons (tC (.ty n)) tNil))) (dIsi n da) := ⟨fun F W σ Γ Q Qd R q k => A.run F W σ Γ _ _ R q fun x W' Γ' v s' R' o ⟨d, b, e, h, q⟩ =>
  ⟨v, .ty n, _, _, b, rfl, .ty n, (ty_of (o.full R' e) h).1, kit_ty (ty_of (o.full R' e) h).2, k _ W' Γ' _ s' R' (.bl _) q⟩⟩
/-- x in xs, flat things -/
def scV : PyData → Option V
  | .int i => some (.int i)
  | .str i => some (.str i)
  | .bool i => some (.bl i)
  | .none => some .non
  | _ => none
def scVs : List PyData → Option (List V)
  | [] => some []
  | x :: xs => match scV x, scVs xs with
    | some v, some vs => some (v :: vs)
    | _, _ => none
theorem scV_ok {H : Hp} {v u : V} {d : PyData} (h : Dq K H v d) (e : scV d = some u) : v = u ∧ flatV v = true := by
  cases d with
  | none => cases h; cases e; exact ⟨rfl, rfl⟩
  | bool b => cases h; cases e; exact ⟨rfl, rfl⟩
  | int b => cases h; cases e; exact ⟨rfl, rfl⟩
  | str b => cases h; cases e; exact ⟨rfl, rfl⟩
  | list b => cases e
  | tuple b => cases e
  | dict b => cases e
theorem scVs_ok {H : Hp} : ∀ {vs us : List V} {ds : List PyData}, DqAll K H vs ds → scVs ds = some us → vs = us ∧ vs.all flatV = true
  | _, _, [], h, e => by cases h; cases e; exact ⟨rfl, rfl⟩
  | _, _, d :: ds, h, e => by
    cases h with
    | cons a b =>
      simp only [scVs] at e
      split at e
      · rename_i v vs e1 e2
        cases e
        obtain ⟨r1, r2⟩ := scV_ok a e1
        obtain ⟨q1, q2⟩ := scVs_ok b e2
        subst r1 q1
        exact ⟨rfl, by simp [r2, q2]⟩
      · cases e
def dIn (neg : Bool) (da db : TEd) : TEd := fun Γ Q => da Γ fun x Γ1 => db Γ1 fun y Γ2 => ∃ d ds u us, dat Γ2 x = some d ∧ seqOf Γ2 y = some ds ∧ scV d = some u ∧ scVs ds = some us ∧ Q (.sh (.bool (if neg then !inV u us else inV u us))) Γ2
instance se_in {neg : Bool} [SE K ta da] [SE K tb db] : SE K (tOp (rIn K neg) ta tb) (dIn neg da db) := ⟨fun F W σ Γ Q Qd R q k => two R q fun x y W' Γ' u v s' R' o1 o2 ⟨d, ds, w, ws, e1, e2, e3, e4, q⟩ => by
  obtain ⟨b, ys, rfl, g1, g2, g3⟩ := seqOf_ok R' o2 e2
  obtain ⟨r1, r2⟩ := scV_ok (o1.full R' e1) e3
  obtain ⟨q1, q2⟩ := scVs_ok g3 e4
  subst r1 q1
  exact ⟨b, ys, rfl, sq_or g1, r2, q2, k _ W' Γ' _ s' R' (.bl _) q⟩⟩
theorem inV_ints (i : Int) (ns : List Int) : inV (.int i) (ns.map V.int) = decide (i ∈ ns) := by
  induction ns with
  | nil => rfl
  | cons n ns ih =>
    have e : inV (.int i) ((n :: ns).map V.int) = (eqV (.int n) (.int i) || inV (.int i) (ns.map V.int)) := rfl
    rw [e, ih]
    by_cases h : i = n
    · subst h
      simp [eqV]
    · have h' : n ≠ i := fun z => h z.symm
      simp [eqV, h, h']
theorem scVs_ints (ns : List Int) : scVs (ns.map .int) = some (ns.map V.int) := by
  induction ns with
  | nil => rfl
  | cons n ns ih => simp [scVs, scV, ih]
end
/-! ### the rules by the written part itself -/
section
variable {X : Cx}
theorem kixL (K : Fg) (h : X.K = K := by rfl) : IxR X (rIxL K) := h ▸ ix_list
theorem kixT (K : Fg) (h : X.K = K := by rfl) : IxR X (rIxT K) := h ▸ ix_tup
theorem kslL (K : Fg) (h : X.K = K := by rfl) : SlR X (rSlL K) := h ▸ sl_list
theorem klen (K : Fg) (h : X.K = K := by rfl) : CallR X (.builtin "len") (rLen K) := h ▸ b_len
theorem klist (K : Fg) (h : X.K = K := by rfl) : CallR X (.type "list") (rListOf K) := h ▸ b_list
theorem ktuple (K : Fg) (h : X.K = K := by rfl) : CallR X (.type "tuple") (rTupOf K) := h ▸ b_tuple
theorem ksum (K : Fg) (hc : X.calm = true) (h : X.K = K := by rfl) : CallR X (.builtin "sum") (rSum K) := h ▸ cr_sum hc
theorem kmax (K : Fg) (hc : X.calm = true) (h : X.K = K := by rfl) : CallR X (.builtin "max") (rMax K) := h ▸ cr_max hc
theorem kmin (K : Fg) (hc : X.calm = true) (h : X.K = K := by rfl) : CallR X (.builtin "min") (rMin K) := h ▸ cr_min hc
theorem kany (K : Fg) (hc : X.calm = true) (h : X.K = K := by rfl) : CallR X (.builtin "any") (rAny K) := h ▸ cr_any hc
theorem kall (K : Fg) (hc : X.calm = true) (h : X.K = K := by rfl) : CallR X (.builtin "all") (rAll K) := h ▸ cr_all hc
theorem kisi (K : Fg) (h : X.K = K := by rfl) : CallR X (.builtin "isinstance") (rIsi K) := h ▸ call_isi
theorem ksortI (K : Fg) (h : X.K = K := by rfl) : CallR X (.builtin "sorted") (rSortedI K) := h ▸ cr_sortedI
theorem kin (K : Fg) (h : X.K = K := by rfl) : OpR X (compareOp .In) (rIn K false) := h ▸ op_in_seq
theorem knotin (K : Fg) (h : X.K = K := by rfl) : OpR X (compareOp .NotIn) (rIn K true) := h ▸ op_notIn_seq
theorem keqD (K : Fg) (hu : X.A.units + 64 < cLine) (h : X.K = K := by rfl) : OpR X (compareOp .Eq) (rEqD K) := h ▸ op_eqD hu
theorem kneD (K : Fg) (hu : X.A.units + 64 < cLine) (h : X.K = K := by rfl) : OpR X (compareOp .NotEq) (rNeD K) := h ▸ op_neD hu
theorem kcatT (K : Fg) (h : X.K = K := by rfl) : OpR X (binaryOp .Add) (rCatT K) := h ▸ op_catT
theorem kpil (K : Fg) {tg l : Expr} {tl : TE} (hl : PE X l tl) (h : X.K = K := by rfl) : PI X tg l (iList K tl) := h ▸ pi_list hl
theorem kpit (K : Fg) {tg l : Expr} {tl : TE} (hl : PE X l tl) (h : X.K = K := by rfl) : PI X tg l (iTup K tl) := h ▸ pi_tup hl
theorem kpg (K : Fg) (n : Nat) {es : List Expr} {k : Nat} {pos : Pos} {t : TGs} (hc : X.calm = true) (hg : PGs X es t) (h : X.K = K := by rfl) (hn : (assignEach es X.env).length = n := by rfl) (hst : (assignEach es X.env).findIdx? (·.1) = none := by rfl) : PG X (.Tuple es k pos) (gTup K n t) := h ▸ pg_tup hc hg hn hst
theorem kbm (K : Fg) {T : String} {name : Str} {id : String} {o e : Expr} {es : List Expr} {to : TE} {t : TA} {r : V → List V → Hp → VK → Prop} {apos cpos : Pos} (pa : PlainAttrs T) (slot : Slot T name id) (hty : typeOf (.builtin id) = pure (.type "method_descriptor")) (hm : MtR X id r) (ho : PE X o to) (ha : PA X (e :: es) t) (h : X.K = K := by rfl)
    (hbase : attributeBase o name X.env (eval o X.env) = eval o X.env := by rfl)
    (hfew : ((backTo cpos (starEach (e :: es) X.env)).all (fun x => !x.1) && (backToKw cpos (keywordEach [] X.env)).all (fun x => x.1.isSome)
      && decide ((e :: es).length + ([] : List Keyword).length + (if ([] : List Keyword).isEmpty then 0 else 1) < 30)) = true := by rfl)
    (hline : (apos.endLine == cpos.line) = true := by rfl) (hs : starEach (e :: es) X.env = (false, eval e X.env) :: starEach es X.env := by rfl) (hplain : (backTo cpos (starEach es X.env)).any (·.1) = false := by rfl) :
    PE X (.Call (.Attribute o name apos) (e :: es) [] cpos) (tBM K T r to t) := h ▸ pe_bm pa slot hty hm ho ha hbase hfew hline hs hplain
theorem kbm0 (K : Fg) {T : String} {name : Str} {id : String} {o : Expr} {to : TE} {r : V → List V → Hp → VK → Prop} {apos cpos : Pos} (pa : PlainAttrs T) (slot : Slot T name id) (hty : typeOf (.builtin id) = pure (.type "method_descriptor")) (hm : MtR X id r) (ho : PE X o to) (h : X.K = K := by rfl)
    (hbase : attributeBase o name X.env (eval o X.env) = eval o X.env := by rfl) (hline : (apos.endLine == cpos.line) = true := by rfl) : PE X (.Call (.Attribute o name apos) [] [] cpos) (tBM0 K T r to) := h ▸ pe_bm0 pa slot hty hm ho hbase hline
end
end Dk

namespace Dk
open PySem PySem.Spec PyProof.Rows L2
/-! ### lists that are changed -/
section
variable {K : Fg} {te ti : TE} {de di : TEd}
theorem own_lst {F : Fx K} {W : Wd} {σ : L2.St} {Γ : G} {i : Nat} {s : Sl} {ds : List PyData} {p : Addr} (R : Rel F W σ Γ) (h1 : Γ[i]? = some s) (h2 : s.own? = some (.lst ds)) (h3 : σ[i]? = some (some (.ref p))) : ∃ vs, W.H p = some (.lst vs) ∧ DqAll K (W.S F) vs ds := by
  have q := R.slot i s h1
  cases s with
  | no => cases h2
  | sh _ => cases h2
  | ar _ => cases h2
  | ro _ => cases h2
  | ow o =>
    cases h2
    obtain ⟨p', e1, _, _, vs, e2, e3⟩ := q
    rw [h3] at e1
    cases e1
    exact ⟨vs, e2, e3⟩
  | rf o =>
    cases h2
    obtain ⟨p', _, e1, _, _, vs, e2, e3⟩ := q
    rw [h3] at e1
    cases e1
    exact ⟨vs, e2, e3⟩
theorem own_ref {F : Fx K} {W : Wd} {σ : L2.St} {Γ : G} {i : Nat} {s : Sl} {o : OD} (R : Rel F W σ Γ) (h1 : Γ[i]? = some s) (h2 : s.own? = some o) : ∃ p, σ[i]? = some (some (.ref p)) := by
  have q := R.slot i s h1
  cases s with
  | no => cases h2
  | sh _ => cases h2
  | ar _ => cases h2
  | ro _ => cases h2
  | ow o => obtain ⟨p', e1, _⟩ := q; exact ⟨p', e1⟩
  | rf o => obtain ⟨p', _, e1, _⟩ := q; exact ⟨p', e1⟩
def ownL (Γ : G) (i : Nat) : Option (List PyData) := match Γ[i]? with
  | some (.ow (.lst ds)) => some ds
  | some (.rf (.lst ds)) => some ds
  | _ => none
def putL (Γ : G) (i : Nat) (ds : List PyData) : G := match Γ[i]? with
  | some s => Γ.set i (setOwn s (.lst ds))
  | none => Γ
theorem ownL_of {Γ : G} {i : Nat} {ds : List PyData} (h : ownL Γ i = some ds) : ∃ s, Γ[i]? = some s ∧ s.own? = some (.lst ds) ∧ ∀ es, putL Γ i es = Γ.set i (setOwn s (.lst es)) := by
  unfold ownL at h
  split at h
  · rename_i ds' e
    cases h
    exact ⟨_, e, rfl, fun es => by simp [putL, e]⟩
  · rename_i ds' e
    cases h
    exact ⟨_, e, rfl, fun es => by simp [putL, e]⟩
  · cases h
def dAppend (i : Nat) (de : TEd) : TEd := fun Γ Q => (ownL Γ i).isSome = true ∧ de Γ fun x Γ1 => ∃ ds d, ownL Γ1 i = some ds ∧ shOf x = some d ∧ ds.length < sizeLine ∧ Q (.sh .none) (putL Γ1 i (ds ++ [d]))
instance se_append {i : Nat} [A : SE K te de] : SE K (tBM K "list" rAppend (tVar i) (tCons te tNil)) (dAppend i de) := ⟨fun F W σ Γ Q Qd R ⟨h0, q⟩ k => by
  obtain ⟨ds0, h0⟩ := Option.isSome_iff_exists.mp h0
  obtain ⟨s0, a1, a2, _⟩ := ownL_of h0
  obtain ⟨p, e0⟩ := own_ref R a1 a2
  obtain ⟨vs0, b1, b2⟩ := own_lst R a1 a2 e0
  refine ⟨.ref p, e0, .inl ⟨rfl, _, SqL.of b1⟩, ?_⟩
  refine A.run F W σ Γ _ _ R q fun x W' Γ' v s' R' o ⟨ds, d, h1, e2, hl, q⟩ => ?_
  obtain ⟨s, c1, c2, c3⟩ := ownL_of h1
  obtain ⟨vs, b1, b2⟩ := own_lst R' c1 c2 e0
  have hh : OwnH K (W'.S F) (.lst (vs ++ [v])) (.lst (ds ++ [d])) := ⟨_, rfl, b2.app (.cons (o.sh R' e2) .nil)⟩
  refine ⟨p, vs, v, rfl, rfl, b1, by rw [b2.length]; exact hl, ?_⟩
  rw [c3] at q
  exact k _ { W' with H := upd W'.H p (.lst (vs ++ [v])) } _ _ (s'.trans (Stp.put R' c1 c2 rfl e0 hh)) (R'.put c1 c2 rfl e0 hh).1 .non q⟩
def dExtend (i : Nat) (de : TEd) : TEd := fun Γ Q => (ownL Γ i).isSome = true ∧ de Γ fun x Γ1 => ∃ ds es, ownL Γ1 i = some ds ∧ lstOf Γ1 x = some es ∧ keepable x es ∧ ds.length + es.length ≤ sizeLine ∧ Q (.sh .none) (putL Γ1 i (ds ++ es))
instance se_extend {i : Nat} [A : SE K te de] : SE K (tBM K "list" rExtend (tVar i) (tCons te tNil)) (dExtend i de) := ⟨fun F W σ Γ Q Qd R ⟨h0, q⟩ k => by
  obtain ⟨ds0, h0⟩ := Option.isSome_iff_exists.mp h0
  obtain ⟨s0, a1, a2, _⟩ := ownL_of h0
  obtain ⟨p, e0⟩ := own_ref R a1 a2
  obtain ⟨vs0, b1, b2⟩ := own_lst R a1 a2 e0
  refine ⟨.ref p, e0, .inl ⟨rfl, _, SqL.of b1⟩, ?_⟩
  refine A.run F W σ Γ _ _ R q fun x W' Γ' v s' R' o ⟨ds, es, h1, e2, hk, hl, q⟩ => ?_
  obtain ⟨s, c1, c2, c3⟩ := ownL_of h1
  obtain ⟨vs, b1, b2⟩ := own_lst R' c1 c2 e0
  obtain ⟨b, ys, rfl, g1, g2, g3⟩ := lstOf_ok R' o e2
  have he := keep_ok R' g2 hk
  have hh : OwnH K (W'.S F) (.lst (vs ++ ys)) (.lst (ds ++ es)) := ⟨_, rfl, b2.app he⟩
  refine ⟨p, b, vs, ys, rfl, rfl, b1, g1, by rw [b2.length, he.length]; exact hl, ?_⟩
  rw [c3] at q
  exact k _ { W' with H := upd W'.H p (.lst (vs ++ ys)) } _ _ (s'.trans (Stp.put R' c1 c2 rfl e0 hh)) (R'.put c1 c2 rfl e0 hh).1 .non q⟩
def dPop (i : Nat) : TEd := fun Γ Q => ∃ ds d, ownL Γ i = some ds ∧ ds[ds.length - 1]? = some d ∧ Q (.sh d) (putL Γ i ds.dropLast)
instance se_pop {i : Nat} : SE K (tBM0 K "list" rPop (tVar i)) (dPop i) := ⟨fun F W σ Γ Q Qd R ⟨ds, d, h0, e, q⟩ k => by
  obtain ⟨s, c1, c2, c3⟩ := ownL_of h0
  obtain ⟨p, e0⟩ := own_ref R c1 c2
  obtain ⟨vs, b1, b2⟩ := own_lst R c1 c2 e0
  obtain ⟨v, g1, g2⟩ := b2.get e
  have hh : OwnH K (W.S F) (.lst vs.dropLast) (.lst ds.dropLast) := ⟨_, rfl, b2.dropLast⟩
  refine ⟨.ref p, e0, .inl ⟨rfl, _, SqL.of b1⟩, p, vs, v, rfl, rfl, b1, by rw [b2.length]; exact g1, ?_⟩
  rw [c3] at q
  refine k _ { W with H := upd W.H p (.lst vs.dropLast) } _ _ (Stp.put R c1 c2 rfl e0 hh) (R.put c1 c2 rfl e0 hh).1 (.ofSh ?_) q
  rw [(R.put c1 c2 rfl e0 hh).2]
  exact g2⟩
/-- xs[i] = .. -/
def dSubL (i : Nat) (di : TEd) : TGd := fun x Γ Q => (ownL Γ i).isSome = true ∧ di Γ fun y Γ1 => ∃ k j ds d, dat Γ1 y = some (.int k) ∧ ownL Γ1 i = some ds ∧ ixN ds.length k = some j ∧ shOf x = some d ∧ Q (putL Γ1 i (ds.set j d))
theorem Fm.ofStp {F : Fx K} {W W' : Wd} {Γ Γ' : G} {σ : L2.St} {ix : List Nat} (s : Stp F W Γ W' Γ') : Fm ix σ Γ σ Γ' := ⟨fun _ _ => rfl, fun j _ t e => s.kin j t e, rfl, s.len⟩
instance sg_subL {i : Nat} [A : SE K ti di] : SG K (gSub (tVar i) ti rSetL) (dSubL i di) [i] := ⟨fun F W σ Γ v x Q Qd R o ⟨h0, q⟩ kk => by
  obtain ⟨ds0, h0⟩ := Option.isSome_iff_exists.mp h0
  obtain ⟨s0, a1, a2, _⟩ := ownL_of h0
  obtain ⟨p, e0⟩ := own_ref R a1 a2
  refine ⟨.ref p, e0, A.run F W σ Γ _ _ R q fun y W' Γ' u s' R' o' ⟨k, j, ds, d, e1, h1, e2, e3, q⟩ => ?_⟩
  obtain ⟨s, c1, c2, c3⟩ := ownL_of h1
  obtain ⟨vs, b1, b2⟩ := own_lst R' c1 c2 e0
  have hh : OwnH K (W'.S F) (.lst (vs.set j v)) (.lst (ds.set j d)) := ⟨_, rfl, b2.setAt ((o.stp s').sh R' e3)⟩
  refine ⟨p, vs, k, j, rfl, int_of (o'.full R' e1), b1, by rw [b2.length]; exact e2, ?_⟩
  rw [c3] at q
  have st := s'.trans (Stp.put R' c1 c2 rfl e0 hh)
  exact kk { W' with H := upd W'.H p (.lst (vs.set j v)) } σ _ st.toKp (Fm.ofStp st) (R'.put c1 c2 rfl e0 hh).1 q⟩
end
/-! ### dicts -/
section
variable {κ : Type} [DecidableEq κ]
def valD (kvs : List (κ × PyData)) (k : κ) : Option PyData := (kvs.find? fun kv => decide (kv.1 = k)).map (·.2)
def putD (kvs : List (κ × PyData)) (k : κ) (v : PyData) : List (κ × PyData) :=
  if (kvs.any fun kv => decide (kv.1 = k)) = true then kvs.map (fun kv => if kv.1 = k then (kv.1, v) else kv) else kvs ++ [(k, v)]
variable {K : Fg} {S : Hp}
theorem KvOk.val {us : List (κ × V)} {kvs : List (κ × PyData)} (h : KvOk K S us kvs) (k : κ) : (valD kvs k = none → valV us k = none) ∧ ∀ d, valD kvs k = some d → ∃ v, valV us k = some v ∧ Dq K S v d := by
  unfold KvOk at h
  induction h with
  | nil => exact ⟨fun _ => rfl, fun d e => by cases e⟩
  | @cons p q ps qs h t ih =>
    obtain ⟨h1, h2⟩ := h
    by_cases e : q.1 = k
    · have e' : p.1 = k := h1.trans e
      refine ⟨fun z => by simp [valD, List.find?_cons, e] at z, fun d z => ⟨p.2, valV_pos e', ?_⟩⟩
      simp [valD, List.find?_cons, e] at z
      rw [← z]
      exact h2
    · have e' : ¬ p.1 = k := fun z => e (h1.symm.trans z)
      have r : valD (q :: qs) k = valD qs k := by simp [valD, List.find?_cons, e]
      rw [r, valV_neg e']
      exact ih
theorem KvOk.any {us : List (κ × V)} {kvs : List (κ × PyData)} (h : KvOk K S us kvs) (k : κ) : (us.any fun kv => decide (kv.1 = k)) = (kvs.any fun kv => decide (kv.1 = k)) := by
  unfold KvOk at h
  induction h with
  | nil => rfl
  | @cons p q ps qs h t ih => rw [List.any_cons, List.any_cons, ih, h.1]
theorem KvOk.put {us : List (κ × V)} {kvs : List (κ × PyData)} (h : KvOk K S us kvs) (k : κ) {v : V} {d : PyData} (hv : Dq K S v d) : KvOk K S (putK us k v) (putD kvs k d) := by
  unfold putK putD
  rw [h.any k]
  split
  · unfold KvOk at h ⊢
    rename_i hsp
    clear hsp
    induction h with
    | nil => exact .nil
    | @cons p q ps qs h t ih =>
      refine .cons ?_ ih
      by_cases e : q.1 = k
      · have e' : p.1 = k := h.1.trans e
        simp [e, e', hv]
      · have e' : ¬ p.1 = k := fun z => e (h.1.symm.trans z)
        simp [e, e', h]
  · unfold KvOk at h ⊢
    rename_i hsp
    clear hsp
    induction h with
    | nil => exact .cons ⟨rfl, hv⟩ .nil
    | @cons p q ps qs h t ih => exact .cons h ih
theorem KvOk.length {us : List (κ × V)} {kvs : List (κ × PyData)} (h : KvOk K S us kvs) : us.length = kvs.length := Paired.length h
theorem KvOk.keys {us : List (κ × V)} {kvs : List (κ × PyData)} (h : KvOk K S us kvs) : us.map (·.1) = kvs.map (·.1) := by
  unfold KvOk at h
  induction h with
  | nil => rfl
  | @cons p q ps qs h t ih => rw [List.map_cons, List.map_cons, ih, h.1]
end
def keyD : PyData → Option Key
  | .int i => some (.inl i)
  | .str i => some (.inr i)
  | _ => none
def keysD : List PyData → Option (List Key)
  | [] => some []
  | x :: xs => match keyD x, keysD xs with
    | some v, some vs => some (v :: vs)
    | _, _ => none
section
variable {K : Fg} {te td ty tv : TE} {de dy dv : TEd}
theorem keyD_ok {H : Hp} {v : V} {d : PyData} {k : Key} (h : Dq K H v d) (e : keyD d = some k) : v = kV k := by
  cases d with
  | int b => cases h; cases e; rfl
  | str b => cases h; cases e; rfl
  | _ => cases e
theorem keysD_ok {H : Hp} : ∀ {vs : List V} {ds : List PyData} {ks : List Key}, DqAll K H vs ds → keysD ds = some ks → vs = ks.map kV
  | _, [], _, h, e => by cases h; cases e; rfl
  | _, d :: ds, _, h, e => by
    cases h with
    | cons a b =>
      simp only [keysD] at e
      split at e
      · rename_i v vs e1 e2
        cases e
        rw [keyD_ok a e1, keysD_ok b e2]
        rfl
      · cases e
/-- a dict that is data -/
def valP : List (PyData × PyData) → Key → Option PyData
  | [], _ => none
  | (e, d) :: r, k => if keyD e = some k then some d else valP r k
theorem keyD_kD (k : Key) : keyD (kD k) = some k := by cases k <;> rfl
theorem DqKv.val {H : Hp} {k : Key} : ∀ {us : List (Key × V)} {kvs : List (PyData × PyData)}, DqKv K H us kvs → (valP kvs k = none → valV us k = none) ∧ ∀ d, valP kvs k = some d → ∃ v, valV us k = some v ∧ Dq K H v d
  | _, _, .nil => ⟨fun _ => rfl, fun d e => by cases e⟩
  | (k0, v0) :: us, (e, d) :: kvs, .cons he hv hr => by
    subst he
    have ih := DqKv.val (k := k) hr
    by_cases c : k0 = k
    · have e1 : valP ((kD k0, d) :: kvs) k = some d := by simp [valP, keyD_kD, c]
      rw [e1]
      exact ⟨(fun z => nomatch z), fun d' z => by cases z; exact ⟨v0, valV_pos c, hv⟩⟩
    · have e1 : valP ((kD k0, d) :: kvs) k = valP kvs k := by simp [valP, keyD_kD, c]
      rw [e1, valV_neg c]
      exact ih
theorem valP_map (kvs : List (Key × PyData)) (k : Key) : valP (kvs.map fun p => (kD p.1, p.2)) k = valD kvs k := by
  induction kvs with
  | nil => rfl
  | cons p r ih =>
    by_cases c : p.1 = k
    · simp [valP, keyD_kD, c, valD, List.find?_cons]
    · have : valD (p :: r) k = valD r k := by simp [valD, List.find?_cons, c]
      rw [this, ← ih]
      simp [valP, keyD_kD, c]
/-- .. of which no more is asked than what may be kept -/
def valA (kvs : List (PyData × PyData)) (k : Key) : Option (Option PyData) := match valP kvs k with
  | none => some none
  | some d => if tupO d = true then some (some d) else none
/-- a dict of a name, as far as one asks: what stands at a key -/
def dictAt (Γ : G) (i : Nat) (key : PyData) : Option (Option PyData) := match Γ[i]? with
  | some (.ow (.dK kvs)) => (keyD key).map fun k => valD kvs k
  | some (.rf (.dK kvs)) => (keyD key).map fun k => valD kvs k
  | some (.ow (.dT kvs)) => match key with
    | .tuple ds => if KT = true then none else (keysD ds).map fun k => valD kvs k
    | _ => none
  | some (.rf (.dT kvs)) => match key with
    | .tuple ds => if KT = true then none else (keysD ds).map fun k => valD kvs k
    | _ => none
  | some (.sh (.dict kvs)) => (keyD key).map fun k => valP kvs k
  | some (.ar (.dict kvs)) => (keyD key).bind fun k => valA kvs k
  | _ => none
def isDict (Γ : G) (i : Nat) : Bool := match Γ[i]? with
  | some (.ow (.dK _)) => true
  | some (.rf (.dK _)) => true
  | some (.ow (.dT _)) => true
  | some (.rf (.dT _)) => true
  | some (.sh (.dict _)) => true
  | some (.ar (.dict _)) => true
  | _ => false
def dictPut (Γ : G) (i : Nat) (key v : PyData) : Option (G × Nat) := match Γ[i]? with
  | some (.ow (.dK kvs)) => (keyD key).map fun k => (Γ.set i (.ow (.dK (putD kvs k v))), kvs.length)
  | some (.rf (.dK kvs)) => (keyD key).map fun k => (Γ.set i (.rf (.dK (putD kvs k v))), kvs.length)
  | some (.ow (.dT kvs)) => match key with
    | .tuple ds => if KT = true then none else (keysD ds).map fun k => (Γ.set i (.ow (.dT (putD kvs k v))), kvs.length)
    | _ => none
  | some (.rf (.dT kvs)) => match key with
    | .tuple ds => if KT = true then none else (keysD ds).map fun k => (Γ.set i (.rf (.dT (putD kvs k v))), kvs.length)
    | _ => none
  | _ => none
theorem own_dK {F : Fx K} {W : Wd} {σ : L2.St} {Γ : G} {i : Nat} {s : Sl} {kvs : List (Key × PyData)} (R : Rel F W σ Γ) (h1 : Γ[i]? = some s) (h2 : s.own? = some (.dK kvs)) : ∃ p us, σ[i]? = some (some (.ref p)) ∧ W.H p = some (.dK us) ∧ KvOk K (W.S F) us kvs := by
  have q := R.slot i s h1
  cases s with
  | no => cases h2
  | sh _ => cases h2
  | ar _ => cases h2
  | ro _ => cases h2
  | ow o =>
    cases h2
    obtain ⟨p', e1, _, _, vs, e2, e3⟩ := q
    exact ⟨p', vs, e1, e2, e3⟩
  | rf o =>
    cases h2
    obtain ⟨p', _, e1, _, _, vs, e2, e3⟩ := q
    exact ⟨p', vs, e1, e2, e3⟩
theorem own_dT {F : Fx K} {W : Wd} {σ : L2.St} {Γ : G} {i : Nat} {s : Sl} {kvs : List (List Key × PyData)} (R : Rel F W σ Γ) (h1 : Γ[i]? = some s) (h2 : s.own? = some (.dT kvs)) : ∃ p us, σ[i]? = some (some (.ref p)) ∧ W.H p = some (.dT us) ∧ KvOk K (W.S F) us kvs := by
  have q := R.slot i s h1
  cases s with
  | no => cases h2
  | sh _ => cases h2
  | ar _ => cases h2
  | ro _ => cases h2
  | ow o =>
    cases h2
    obtain ⟨p', e1, _, _, vs, e2, e3⟩ := q
    exact ⟨p', vs, e1, e2, e3⟩
  | rf o =>
    cases h2
    obtain ⟨p', _, e1, _, _, vs, e2, e3⟩ := q
    exact ⟨p', vs, e1, e2, e3⟩
theorem tup_ref {H : Hp} {v : V} {ds : List PyData} (kt : ¬ KT = true) (h : Dq K H v (.tuple ds)) : ∃ b vs, v = .ref b ∧ H b = some (.tup vs) ∧ DqAll K H vs ds := by
  cases h with
  | tup a b => exact ⟨_, _, rfl, a.resolve_right fun z => kt z.1, b⟩
theorem isDict_ref {F : Fx K} {W : Wd} {σ : L2.St} {Γ : G} {i : Nat} (R : Rel F W σ Γ) (h : isDict Γ i = true) : ∃ p, σ[i]? = some (some (.ref p)) ∧ IsD W.H p := by
  unfold isDict at h
  split at h
  · rename_i kvs e
    obtain ⟨p, us, e1, e2, e3⟩ := own_dK R e rfl
    exact ⟨p, e1, .inl ⟨us, .inl e2⟩⟩
  · rename_i kvs e
    obtain ⟨p, us, e1, e2, e3⟩ := own_dK R e rfl
    exact ⟨p, e1, .inl ⟨us, .inl e2⟩⟩
  · rename_i kvs e
    obtain ⟨p, us, e1, e2, e3⟩ := own_dT R e rfl
    exact ⟨p, e1, .inr ⟨us, .inl e2⟩⟩
  · rename_i kvs e
    obtain ⟨p, us, e1, e2, e3⟩ := own_dT R e rfl
    exact ⟨p, e1, .inr ⟨us, .inl e2⟩⟩
  · rename_i kvs e
    obtain ⟨v, q1, q2⟩ := R.slot i _ e
    cases q2 with
    | dct a b => exact ⟨_, q1, .inl ⟨_, L2.Same.rd less_same a⟩⟩
  · rename_i kvs e
    obtain ⟨v, q1, q2⟩ := R.slot i _ e
    cases q2 with
    | dct a b => exact ⟨_, q1, .inl ⟨_, L2.Same.rd R.ar_same a⟩⟩
  · cases h
theorem _root_.L2.DGet.kr {H : Hp} {a : Addr} {kvs : List (Key × V)} {k : Key} (e : L2.Rd H a (.dK kvs)) : DGet H a (kV k) (valV kvs k) := .inl ⟨kvs, k, e, rfl, rfl⟩
/-- what is looked up -/
theorem dictAt_ok {F : Fx K} {W : Wd} {σ : L2.St} {Γ : G} {i : Nat} {key : PyData} {r : Option PyData} {y : V} {p : Addr} (R : Rel F W σ Γ) (hy : Dq K W.H y key) (e0 : σ[i]? = some (some (.ref p))) (h : dictAt Γ i key = some r) :
    ∃ o, DGet W.H p y o ∧ (r = none → o = none) ∧ ∀ d, r = some d → ∃ v, o = some v ∧ Dq K (W.S F) v d := by
  have useK : ∀ {s : Sl} {kvs : List (Key × PyData)}, Γ[i]? = some s → s.own? = some (.dK kvs) → (keyD key).map (fun k => valD kvs k) = some r → ∃ o, DGet W.H p y o ∧ (r = none → o = none) ∧ ∀ d, r = some d → ∃ v, o = some v ∧ Dq K (W.S F) v d := fun {s kvs} h1 h2 h3 => by
    obtain ⟨p', us, e1, e2, e3⟩ := own_dK R h1 h2
    rw [e0] at e1
    cases e1
    obtain ⟨k, g1, g2⟩ := Option.map_eq_some_iff.mp h3
    rw [keyD_ok hy g1, ← g2]
    exact ⟨_, DGet.k e2, fun z => (e3.val k).1 z, fun d z => (e3.val k).2 d z⟩
  have useT : ∀ (kt : ¬ KT = true) {s : Sl} {kvs : List (List Key × PyData)} {ds : List PyData}, key = .tuple ds → Γ[i]? = some s → s.own? = some (.dT kvs) → (keysD ds).map (fun k => valD kvs k) = some r → ∃ o, DGet W.H p y o ∧ (r = none → o = none) ∧ ∀ d, r = some d → ∃ v, o = some v ∧ Dq K (W.S F) v d := fun kt {s kvs ds} hk h1 h2 h3 => by
    obtain ⟨p', us, e1, e2, e3⟩ := own_dT R h1 h2
    rw [e0] at e1
    cases e1
    obtain ⟨k, g1, g2⟩ := Option.map_eq_some_iff.mp h3
    subst hk
    obtain ⟨b, vs, rfl, t1, t2⟩ := tup_ref kt hy
    rw [keysD_ok t2 g1] at t1
    rw [← g2]
    exact ⟨_, DGet.t e2 t1, fun z => (e3.val k).1 z, fun d z => (e3.val k).2 d z⟩
  unfold dictAt at h
  split at h
  · rename_i kvs e
    exact useK e rfl h
  · rename_i kvs e
    exact useK e rfl h
  · rename_i kvs e
    cases key with
    | tuple ds =>
      by_cases kt : KT = true
      · dsimp only at h; rw [if_pos kt] at h; cases h
      · dsimp only at h; rw [if_neg kt] at h; exact useT kt rfl e rfl h
    | _ => cases h
  · rename_i kvs e
    cases key with
    | tuple ds =>
      by_cases kt : KT = true
      · dsimp only at h; rw [if_pos kt] at h; cases h
      · dsimp only at h; rw [if_neg kt] at h; exact useT kt rfl e rfl h
    | _ => cases h
  · rename_i kvs e
    obtain ⟨v, q1, q2⟩ := R.slot i _ e
    rw [e0] at q1
    cases q1
    obtain ⟨k, g1, g2⟩ := Option.map_eq_some_iff.mp h
    cases q2 with
    | dct a b =>
      rw [keyD_ok hy g1, ← g2]
      exact ⟨_, DGet.kr (L2.Same.rd less_same a), fun z => (b.val (k := k)).1 z, fun d z => (b.val (k := k)).2 d z⟩
  · rename_i kvs e
    obtain ⟨v, q1, q2⟩ := R.slot i _ e
    rw [e0] at q1
    cases q1
    obtain ⟨k, g1, g2⟩ := Option.bind_eq_some_iff.mp h
    cases q2 with
    | dct a b =>
      rw [keyD_ok hy g1]
      refine ⟨_, DGet.kr (L2.Same.rd R.ar_same a), fun z => ?_, fun d z => ?_⟩
      · subst z
        unfold valA at g2
        split at g2
        · rename_i e2
          exact (b.val (k := k)).1 e2
        · split at g2 <;> cases g2
      · subst z
        unfold valA at g2
        split at g2
        · cases g2
        · rename_i d' e2
          split at g2
          · rename_i t
            cases g2
            obtain ⟨w, w1, w2⟩ := (b.val (k := k)).2 d e2
            exact ⟨w, w1, VOk.sh (rv := .ar d) (σ := σ) (Γ := Γ) R w2 (by simp [shOf, t])⟩
          · cases g2
  · cases h
def dDGet2 (i : Nat) (dy dv : TEd) : TEd := fun Γ Q => isDict Γ i = true ∧ dy Γ fun y Γ1 => dv Γ1 fun z Γ2 => ∃ key r, dat Γ2 y = some key ∧ dictAt Γ2 i key = some r ∧ (r = none → Q z Γ2) ∧ ∀ d, r = some d → Q (.sh d) Γ2
instance se_dget2 {i : Nat} [SE K ty dy] [SE K tv dv] : SE K (tDGet2 (tVar i) ty tv) (dDGet2 i dy dv) := ⟨fun F W σ Γ Q Qd R ⟨h0, q⟩ k => by
  obtain ⟨p, e0, hd⟩ := isDict_ref R h0
  refine ⟨.ref p, e0, p, rfl, hd, ?_⟩
  refine two (ta := ty) (tb := tv) (da := dy) (db := dv) R q fun y z W' Γ' u v s' R' o1 o2 ⟨key, r, e1, e2, q1, q2⟩ => ?_
  obtain ⟨o, g1, g2, g3⟩ := dictAt_ok R' (o1.full R' e1) e0 e2
  refine ⟨o, g1, ?_⟩
  cases r with
  | none => rw [g2 rfl]; exact k _ W' Γ' _ s' R' o2 (q1 rfl)
  | some d =>
    obtain ⟨w, rfl, hw⟩ := g3 d rfl
    exact k _ W' Γ' _ s' R' (.ofSh hw) (q2 d rfl)⟩
def dDGet (i : Nat) (dy : TEd) : TEd := fun Γ Q => isDict Γ i = true ∧ dy Γ fun y Γ2 => ∃ key d, dat Γ2 y = some key ∧ dictAt Γ2 i key = some (some d) ∧ Q (.sh d) Γ2
instance se_dget {i : Nat} [A : SE K ty dy] : SE K (tDGet (tVar i) ty) (dDGet i dy) := ⟨fun F W σ Γ Q Qd R ⟨h0, q⟩ k => by
  obtain ⟨p, e0, hd⟩ := isDict_ref R h0
  refine ⟨.ref p, e0, A.run F W σ Γ _ _ R q fun y W' Γ' u s' R' o1 ⟨key, d, e1, e2, q⟩ => ?_⟩
  obtain ⟨o, g1, g2, g3⟩ := dictAt_ok R' (o1.full R' e1) e0 e2
  obtain ⟨w, rfl, hw⟩ := g3 d rfl
  exact ⟨p, w, rfl, g1, k _ W' Γ' _ s' R' (.ofSh hw) q⟩⟩
def dDIn (f : Bool → Bool) (i : Nat) (dy : TEd) : TEd := fun Γ Q => dy Γ fun y Γ2 => ∃ key r, dat Γ2 y = some key ∧ isDict Γ2 i = true ∧ dictAt Γ2 i key = some r ∧ Q (.sh (.bool (f r.isSome))) Γ2
instance se_din {i : Nat} [A : SE K ty dy] : SE K (tDIn ty (tVar i)) (dDIn id i dy) := ⟨fun F W σ Γ Q Qd R q k => A.run F W σ Γ _ _ R q fun y W' Γ' u s' R' o1 ⟨key, r, e1, h0, e2, q⟩ => by
  obtain ⟨p, e0, hd⟩ := isDict_ref R' h0
  obtain ⟨o, g1, g2, g3⟩ := dictAt_ok R' (o1.full R' e1) e0 e2
  refine ⟨.ref p, e0, p, o, rfl, g1, ?_⟩
  cases r with
  | none => rw [g2 rfl]; exact k _ W' Γ' _ s' R' (.bl _) q
  | some d =>
    obtain ⟨w, rfl, hw⟩ := g3 d rfl
    exact k _ W' Γ' _ s' R' (.bl _) q⟩
instance se_dnotin {i : Nat} [A : SE K ty dy] : SE K (tDNotIn ty (tVar i)) (dDIn not i dy) := ⟨fun F W σ Γ Q Qd R q k => A.run F W σ Γ _ _ R q fun y W' Γ' u s' R' o1 ⟨key, r, e1, h0, e2, q⟩ => by
  obtain ⟨p, e0, hd⟩ := isDict_ref R' h0
  obtain ⟨o, g1, g2, g3⟩ := dictAt_ok R' (o1.full R' e1) e0 e2
  refine ⟨.ref p, e0, p, o, rfl, g1, ?_⟩
  cases r with
  | none => rw [g2 rfl]; exact k _ W' Γ' _ s' R' (.bl _) q
  | some d =>
    obtain ⟨w, rfl, hw⟩ := g3 d rfl
    exact k _ W' Γ' _ s' R' (.bl _) q⟩
def dDPut (i : Nat) (dy dv : TEd) : TSd := fun E Γ => dv Γ fun z Γ1 => isDict Γ1 i = true ∧ dy Γ1 fun y Γ2 => ∃ key d Γ3 n, dat Γ2 y = some key ∧ shOf z = some d ∧ dictPut Γ2 i key d = some (Γ3, n) ∧ n < sizeLine ∧ E.nx Γ3
instance ss_dput {Xw : WX} {i : Nat} [A : SE K ty dy] [B : SE K tv dv] : SS K Xw (sDPut (tVar i) ty tv) (dDPut i dy dv) := ⟨fun F W σ Γ D E R q L => B.run F W σ Γ _ _ R q fun z W1 Γ1 w s1 R1 o1 ⟨h0, q⟩ => by
  obtain ⟨p, e0, hd⟩ := isDict_ref R1 h0
  refine ⟨.ref p, e0, A.run F W1 σ Γ1 _ _ R1 q fun y W' Γ' u s' R' o2 ⟨key, d, Γ3, n, e1, e2, e3, hn, q⟩ => ?_⟩
  have hw := (o1.stp s').sh R' e2
  have hy := o2.full R' e1
  have useK : ∀ {s : Sl} {kvs : List (Key × PyData)}, Γ'[i]? = some s → s.own? = some (.dK kvs) → (keyD key).map (fun k => (Γ'.set i (setOwn s (.dK (putD kvs k d))), kvs.length)) = some (Γ3, n) → ∃ a H4, V.ref p = .ref a ∧ DPut W'.H a u w H4 ∧ D.nx σ H4 := fun {s kvs} h1 h2 h3 => by
    obtain ⟨p', us, g1, g2, g3⟩ := own_dK R' h1 h2
    rw [e0] at g1
    cases g1
    obtain ⟨k, f1, f2⟩ := Option.map_eq_some_iff.mp h3
    cases f2
    have hh : OwnH K (W'.S F) (.dK (putK us k w)) (.dK (putD kvs k d)) := ⟨_, rfl, g3.put k hw⟩
    refine ⟨p, _, rfl, keyD_ok hy f1 ▸ DPut.k g2 (by rw [g3.length]; exact hn), ?_⟩
    exact L.nx { W' with H := upd W'.H p (.dK (putK us k w)) } σ _ (s1.sh.trans (s'.sh.trans (Stp.put R' h1 h2 rfl e0 hh).sh)) (R'.put h1 h2 rfl e0 hh).1 q
  have useT : ∀ (kt : ¬ KT = true) {s : Sl} {kvs : List (List Key × PyData)} {ds : List PyData}, key = .tuple ds → Γ'[i]? = some s → s.own? = some (.dT kvs) → (keysD ds).map (fun k => (Γ'.set i (setOwn s (.dT (putD kvs k d))), kvs.length)) = some (Γ3, n) → ∃ a H4, V.ref p = .ref a ∧ DPut W'.H a u w H4 ∧ D.nx σ H4 := fun kt {s kvs ds} hk h1 h2 h3 => by
    obtain ⟨p', us, g1, g2, g3⟩ := own_dT R' h1 h2
    rw [e0] at g1
    cases g1
    obtain ⟨k, f1, f2⟩ := Option.map_eq_some_iff.mp h3
    cases f2
    subst hk
    obtain ⟨b, vs, rfl, t1, t2⟩ := tup_ref kt hy
    rw [keysD_ok t2 f1] at t1
    have hh : OwnH K (W'.S F) (.dT (putK us k w)) (.dT (putD kvs k d)) := ⟨_, rfl, g3.put k hw⟩
    refine ⟨p, _, rfl, DPut.t g2 t1 (by rw [g3.length]; exact hn), ?_⟩
    exact L.nx { W' with H := upd W'.H p (.dT (putK us k w)) } σ _ (s1.sh.trans (s'.sh.trans (Stp.put R' h1 h2 rfl e0 hh).sh)) (R'.put h1 h2 rfl e0 hh).1 q
  unfold dictPut at e3
  split at e3
  · rename_i kvs e
    exact useK e rfl e3
  · rename_i kvs e
    exact useK e rfl e3
  · rename_i kvs e
    cases key with
    | tuple ds =>
      by_cases kt : KT = true
      · dsimp only at e3; rw [if_pos kt] at e3; cases e3
      · dsimp only at e3; rw [if_neg kt] at e3; exact useT kt rfl e rfl e3
    | _ => cases e3
  · rename_i kvs e
    cases key with
    | tuple ds =>
      by_cases kt : KT = true
      · dsimp only at e3; rw [if_pos kt] at e3; cases e3
      · dsimp only at e3; rw [if_neg kt] at e3; exact useT kt rfl e rfl e3
    | _ => cases e3
  · cases e3⟩
def dDNewK : TFd := fun Γ Q => Q (.dK []) Γ
def dDNewT : TFd := fun Γ Q => Q (.dT []) Γ
instance sf_dnewK : SEF K tDNewK dDNewK := ⟨fun F W σ Γ Q Qd R q k => fun p hp => k (.dK []) W Γ p _ (Stp.refl ..) R hp ⟨[], rfl, .nil⟩ q⟩
instance sf_dnewT : SEF K tDNewT dDNewT := ⟨fun F W σ Γ Q Qd R q k => fun p hp => k (.dT []) W Γ p _ (Stp.refl ..) R hp ⟨[], rfl, .nil⟩ q⟩
/-- sorted(d), keys whole numbers -/
def rSortDI : List V → Hp → VK → Prop := fun xs H Q => ∃ (a : Addr) (kvs : List (Key × V)) (ks : List Int), xs = [.ref a] ∧ Rd H a (.dK kvs) ∧ kvs.map (·.1) = ks.map Sum.inl ∧ ks.length ≤ sizeLine ∧ ∀ (ys : List Int) (p : Addr), ys.Perm ks → ys.Pairwise (· ≤ ·) → H p = none → Q (.ref p) (upd H p (.lst (ys.map V.int)))
/-- whole numbers, place by place -/
theorem ints_by_place : ∀ (us : List Value) (ks : List Int), us.length = ks.length → (∀ (j : Nat) (n : Int), ks[j]? = some n → ∃ t, us[j]? = some (.int n t)) → IntsAre us ks
  | [], [], _, _ => .nil
  | u :: us, n :: ks, el, q => by
    obtain ⟨t, e⟩ := q 0 n rfl
    cases e
    exact .cons n t (ints_by_place us ks (Nat.succ.inj el) fun j m e => q (j + 1) m e)
/-- what a walk over a dict's keys gathers, where all keys are whole numbers -/
theorem gathered_ints {ents : List (Key × Value)} {ks : List Int} {got : Array Value} (hk : ents.map Prod.fst = ks.map Sum.inl) (hn : got.size = ents.length) (hg : ∀ (j : Nat) (v : Value), got[j]? = some v → ∃ (key : Key) (x : Value), ents[j]? = some (key, x) ∧ keyIs key v = true) : IntsAre got.toList ks := by
  have len : ents.length = ks.length := by simpa using congrArg List.length hk
  refine ints_by_place _ _ (by rw [Array.length_toList, hn, len]) fun j n e => ?_
  have jl : j < got.size := by
    have := (List.getElem?_eq_some_iff.mp e).1
    omega
  obtain ⟨key, x, e1, e2⟩ := hg j got[j] (Array.getElem?_eq_getElem jl)
  have e3 : some key = some (Sum.inl n) := by
    have := congrArg (fun l : List Key => l[j]?) hk
    simpa [List.getElem?_map, e1, e] using this
  cases e3
  have e4 : got.toList[j]? = some got[j] := by rw [Array.getElem?_toList]; exact Array.getElem?_eq_getElem jl
  rcases keyIs_shape e2 with ⟨_, t, c, ev⟩ | ⟨_, _, c, _⟩
  · cases c
    exact ⟨t, e4.trans (congrArg some ev)⟩
  · cases c
/-- list.sort on a list of whole numbers that lies on the heap -/
theorem sort_ints_at {prog : Program} {w : World} {A : Around} {Ex : Value → Shared → Prop} {st : Shared} {L : Addr} {us : List Value} {n : Nat} {ks : List Int} {R : PySem.Fin → Shared → Prop} (o : st.heap.get? L = some (seqObj "list" us.toArray n)) (fit : us.length ≤ sizeLine) (hI : IntsAre us ks)
    (go : ∀ (out : List Value) (ms : List Int), IntsAre out ms → ms.Perm ks → ms.Pairwise (· ≤ ·) → R (.done (.ret .none)) { st with heap := sortedHeap st.heap L us out.toArray }) : wpAny (model prog w) A (Builtin.«list.sort» ⟨[.ref L], []⟩) R Ex st :=
  SrtO.list_sort_ord SrtO.swo_int o fit (fun two => SrtO.ints_sortable hI two) fun out a b => go out _ (SrtO.ints_out hI a b).1 (SrtO.ints_out hI a b).2.1 (SrtO.ints_out hI a b).2.2
theorem b_sortDI {X : Cx} (calm : X.calm = true) : CallR X (.builtin "sorted") rSortDI := fun pn st σ H as vals Q J rv ⟨a, kv, ks, ea, rd, hk, fit, go⟩ => by
  cases ea
  obtain ⟨u, rfl, ru⟩ := vals1 rv
  cases ru
  obtain ⟨_, lay, ents, same, dob⟩ := dk_rd J.hok rd
  obtain ⟨_, dAt⟩ := dob.dictAt
  have hk' : ents.map Prod.fst = ks.map Sum.inl := same.keys.symm.trans hk
  have len : ents.length = ks.length := by simpa using congrArg List.length hk'
  apply Calls.call_function_entry kind_sorted plain_sorted entry_sorted (args_sorted1 _)
  unfold Builtin.«sorted»
  apply wpAny_bind (m := checkCount "sorted" 1 1 _)
  apply wpAny_pure
  apply wpAny_bind
  refine PySem.W.kdu_collect (A := X.A.in1) (PySem.W.kdl_dict (knd := mixKind X.prog X.w) lay) (J.ok.hd calm) dAt (len ▸ fit) fun hp tk got keep gath => ?_
  have hI := gathered_ints hk' gath.1 gath.2
  have gl : got.toList.length ≤ sizeLine := by rw [Array.length_toList, gath.1, len]; exact fit
  have J' : Inv X pn σ H { st with heap := hp, toks := tk } := J.kept keep
  apply wpAny_bind
  refine wpAny_newList ?_ gl
  let st2 : Shared := { st with heap := hp.push (seqObj "list" got.toList.toArray 0), toks := tk }
  have atL : st2.heap.get? hp.objs.size = some (seqObj "list" got.toList.toArray 0) := Heap.get?_push_size _ rfl
  show wpAny _ _ _ _ _ st2
  apply wpAny_bind
  apply wpAny_holding
  refine wpAny_call_entry slot_list_sort ⟨_, atL, rfl⟩ entry_list_sort (sort_ints_at atL gl hI fun out ms i1 i2 i3 => ⟨_, rfl, ?_⟩) (args_list_sort _)
  obtain ⟨_, atE⟩ := sortedHeap_at (vs := got.toList) (out := out.toArray) atL
  have ml : (ms.map V.int).length ≤ sizeLine := by rw [List.length_map, i2.length_eq]; exact fit
  apply wpAny_pure
  refine ⟨_, rfl, .ref hp.objs.size, _, J'.laid (o := .lst (ms.map V.int)) (t' := tk) (fun b u e => ?_) (Nat.le_refl _) ⟨ml, out, _, vals_of_ints i1, atE⟩, rfl, go ms _ i2 i3 (J'.hok.fresh (Nat.le_refl _))⟩
  have lt : b < hp.objs.size := Heap.lt_size e
  exact (sortedHeap_old (Nat.ne_of_lt lt) (by show b < (hp.push _).objs.size; rw [size_push']; exact Nat.lt_succ_of_lt lt)).trans (Heap.get?_push_of_some _ e)
def dictKs (Γ : G) (i : Nat) : Option (List Key) := match Γ[i]? with
  | some (.ow (.dK kvs)) => some (kvs.map (·.1))
  | some (.rf (.dK kvs)) => some (kvs.map (·.1))
  | _ => none
def dSortDI (i : Nat) : TFd := fun Γ Q => ∃ ks : List Int, dictKs Γ i = some (ks.map Sum.inl) ∧ ks.length ≤ sizeLine ∧ ∀ ys : List Int, ys.Perm ks → ys.Pairwise (· ≤ ·) → Q (.lst (ys.map .int)) Γ
instance sf_sortDI {i : Nat} : SEF K (tCB rSortDI (tCons (tVar i) tNil)) (dSortDI i) := ⟨fun F W σ Γ Q Qd R ⟨ks, e, hl, q⟩ k => by
  have use : ∀ {s : Sl} {kvs : List (Key × PyData)}, Γ[i]? = some s → s.own? = some (.dK kvs) → kvs.map (·.1) = ks.map Sum.inl → tCB rSortDI (tCons (tVar i) tNil) σ W.H Q := fun {s kvs} h1 h2 h3 => by
    obtain ⟨p, us, g1, g2, g3⟩ := own_dK R h1 h2
    exact ⟨.ref p, g1, p, us, ks, rfl, .inl g2, by rw [g3.keys, h3], hl, fun ys p' hp hs hn => k (.lst (ys.map .int)) W Γ p' _ (Stp.refl ..) R hn ⟨_, rfl, DqAll.ofInts ys⟩ (q ys hp hs)⟩
  unfold dictKs at e
  split at e
  · rename_i kvs h
    exact use h rfl (Option.some.inj e)
  · rename_i kvs h
    exact use h rfl (Option.some.inj e)
  · cases e⟩
end
end Dk

namespace Dk
open PySem PySem.Spec PyProof.Rows L2
/-! ### objects that are told by a word of their own -/
class AbI (I : Hp → Addr → List Addr → Prop) : Prop where
  mem : ∀ {H : Hp} {p : Addr} {f : List Addr}, I H p f → p ∈ f
  mo : ∀ {H : Hp} {p : Addr} {f : List Addr}, I H p f → ∀ a ∈ f, Mo (H a) ∧ notIns (H a)
  st : ∀ {H H' : Hp} {p : Addr} {f : List Addr}, I H p f → (∀ a ∈ f, H' a = H a) → Tx H H' → I H' p f
/-- the first argument's object may be changed, its word stays -/
def RefSp (K : Fg) (I : Hp → Addr → List Addr → Prop) (C : List PyData → (PyData → Prop) → Prop) : Sp := fun vs H Q _ => ∃ (p : Addr) (f : List Addr) (us : List V) (ds : List PyData) (Qd : PyData → Prop), vs = .ref p :: us ∧ I H p f ∧ DqAll K (less H fun a => a ∈ f) us ds ∧ C ds Qd ∧
  ∀ (v : V) (H' : Hp) (d : PyData), (∀ a o, a ∉ f → H a = some o → H' a = some o) → I H' p f → Dq K (less H' fun a => Mo (H a)) v d → Qd d → Q v H'
def RefFreshSp (K : Fg) (I : Hp → Addr → List Addr → Prop) (C : List PyData → (OD → Prop) → Prop) : Sp := fun vs H Q _ => ∃ (p : Addr) (f : List Addr) (us : List V) (ds : List PyData) (Qd : OD → Prop), vs = .ref p :: us ∧ I H p f ∧ DqAll K (less H fun a => a ∈ f) us ds ∧ C ds Qd ∧
  ∀ (q : Addr) (ho : HO) (H' : Hp) (o : OD), (∀ a o, a ∉ f → H a = some o → H' a = some o) → I H' p f → H' q = none → OwnH K (less H' fun a => Mo (H a)) ho o → Qd o → Q (.ref q) (upd H' q ho)
def isAb (I : Hp → Addr → List Addr → Prop) (Γ : G) (i : Nat) : Prop := Γ[i]? = some (.ow (.ab I)) ∨ Γ[i]? = some (.rf (.ab I))
section
variable {K : Fg} {F : Fx K} {W : Wd} {σ : L2.St} {Γ : G} {I : Hp → Addr → List Addr → Prop} {i : Nat}
theorem isAb.slot (R : Rel F W σ Γ) (h : isAb I Γ i) : ∃ s p, Γ[i]? = some s ∧ s.own? = some (.ab I) ∧ σ[i]? = some (some (.ref p)) ∧ (∀ a ∈ W.ft i, W.O a) ∧ I W.H p (W.ft i) := by
  rcases h with h | h
  · obtain ⟨p, e1, e2, e3⟩ := R.slot i _ h
    exact ⟨_, p, h, rfl, e1, fun a ha => (e2 a ha).1, e3.2.1⟩
  · obtain ⟨p, _, e1, e2, e3⟩ := R.slot i _ h
    exact ⟨_, p, h, rfl, e1, e2, e3.2.1⟩
theorem Rel.ref [A : AbI I] (R : Rel F W σ Γ) (h : isAb I Γ i) {p : Addr} {H' : Hp} (e0 : σ[i]? = some (some (.ref p))) (fr : ∀ a o, a ∉ W.ft i → W.H a = some o → H' a = some o) (hI : I H' p (W.ft i)) :
    Rel F { W with H := H' } σ Γ ∧ Stp F W Γ { W with H := H' } Γ := by
  obtain ⟨s, p', h1, h2, h3, h4, h5⟩ := h.slot R
  rw [e0] at h3
  cases h3
  have hs : Same (W.S F) (({ W with H := H' } : Wd).S F) := same_less fun a o nx e => ⟨nx, fr a o (fun z => nx (.inr (h4 a z))) e⟩
  have tx : Tx W.H H' := fun a o nm e => fr a o (fun z => nm (by have m := (A.mo h5 a z).1; rw [e] at m; exact m)) e
  have keep : ∀ a, a ∉ W.ft i → W.O a → H' a = W.H a := fun a na ha => by
    obtain ⟨o, q⟩ := mo_some (R.mu a ha)
    rw [fr a o na q, q]
  refine ⟨⟨fun a o e nr => ?_, R.new, fun a ha => ?_, R.rfo, R.len, fun j t e => ?_, R.dis⟩, ⟨⟨⟨hs, fun q t => ⟨t, keep q (t.2 i s _ h1 h2) t.1⟩⟩, fun a C dx vs e => fr a _ (fun z => by have m := (A.mo h5 a z).2; rw [e] at m; exact m) e⟩, fun j t e => ⟨t, e, Kn.refl t⟩, rfl⟩⟩
  · refine fr a o (fun z => ?_) (R.base a o e nr)
    rcases R.new a (h4 a z) with q | q
    · rw [q] at e; cases e
    · exact nr q
  · by_cases z : a ∈ W.ft i
    · exact (A.mo hI a z).1
    · show Mo (H' a)
      rw [keep a z ha]
      exact R.mu a ha
  · by_cases q : j = i
    · subst q
      rw [h1] at e
      cases e
      have ok : OwnOk K (({ W with H := H' } : Wd).S F) H' p (W.ft j) (.ab I) := ⟨A.mem hI, hI, (fun H'' hk ht => A.st hI hk ht), fun a ha => A.mo hI a ha⟩
      have z := R.slot j s h1
      cases s with
      | no => cases h2
      | sh _ => cases h2
      | ar _ => cases h2
      | ro _ => cases h2
      | ow o =>
        cases h2
        obtain ⟨p', a1, a2, a3⟩ := z
        rw [e0] at a1
        cases a1
        exact ⟨p, e0, a2, ok⟩
      | rf o =>
        cases h2
        obtain ⟨p', a0, a1, a2, a3⟩ := z
        rw [e0] at a1
        cases a1
        exact ⟨p, a0, e0, a2, ok⟩
    · have z := R.slot j t e
      refine z.keep (W' := { W with H := H' }) rfl hs (fun _ _ q => q) (fun a ha so => ?_) tx
      obtain ⟨oj, so⟩ := Option.isSome_iff_exists.mp so
      exact keep a (R.dis j i t s oj _ a q e h1 so h2 ha) (slot_O z so a ha)
theorem VOk.apart (R : Rel F W σ Γ) (h : isAb I Γ i) {v : V} {x : RV} {d : PyData} (o : VOk F W σ Γ v x) (e : dat Γ x = some d) : Dq K (less W.H fun a => a ∈ W.ft i) v d := by
  obtain ⟨s, p, h1, h2, h3, h4, h5⟩ := h.slot R
  have sS : Same (W.S F) (less W.H fun a => a ∈ W.ft i) := same_less fun a o nx e => ⟨fun z => nx (.inr (h4 a z)), e⟩
  have sA : Same (less F.H0 F.rf) (less W.H fun a => a ∈ W.ft i) := same_less fun a o nx e => ⟨fun z => by
    rcases R.new a (h4 a z) with q | q
    · rw [q] at e; cases e
    · exact nx q, R.base a o e nx⟩
  cases x with
  | sh d' => cases e; exact Dq.same sS o
  | ar d' => cases e; exact Dq.same sA o
  | own j =>
    obtain ⟨t, g1, g2, g3⟩ := o
    have q := R.slot j t g1
    simp only [dat, g1] at e
    have key : ∀ {o' : OD} {q : Addr}, t.own? = some o' → OwnOk K (W.S F) W.H q (W.ft j) o' → odB o' = some d → Dq K (less W.H fun a => a ∈ W.ft i) (.ref q) d := fun {o' q} b1 b2 b3 => by
      have ne : j ≠ i := fun w => by
        subst w
        rw [h1] at g1
        cases g1
        rw [h2] at b1
        cases b1
        simp [odB] at b3
      exact odB_ok sS (ownO_ok.mpr b2) (fun a ha u z => less_some.mpr ⟨R.dis j i t s _ _ a ne g1 h1 b1 h2 ha, z⟩) b3
    cases t with
    | no => cases g2
    | sh d' =>
      cases e
      obtain ⟨v', e1, e2⟩ := q
      rw [g3] at e1
      cases e1
      exact Dq.same sS e2
    | ar d' =>
      cases e
      obtain ⟨v', e1, e2⟩ := q
      rw [g3] at e1
      cases e1
      exact Dq.same sA e2
    | ow o' =>
      obtain ⟨p, e1, _, e2⟩ := q
      rw [g3] at e1
      cases e1
      exact key rfl e2 e
    | rf o' =>
      obtain ⟨p, _, e1, _, e2⟩ := q
      rw [g3] at e1
      cases e1
      exact key rfl e2 e
    | ro o' => cases e
  | fld j path =>
    obtain ⟨t, p2, o2, g1, g2, g3, g4⟩ := o
    simp only [dat, g1, g2, Option.bind_some] at e
    obtain ⟨o', e1, e2⟩ := Option.bind_eq_some_iff.mp e
    obtain ⟨p', f, k1, k2, k3⟩ := R.insOk g1 g2
    rw [g3] at k1
    cases k1
    obtain ⟨q, F', rfl, hF, hO⟩ := k2.path Rel.S_same e1 g4
    have na : ∀ a ∈ F', a ∉ W.ft i := fun a ha z => by
      obtain ⟨b1, b2⟩ := k3 a (hF a ha) (h4 a z)
      have ne : j ≠ i := fun w => by
        subst w
        rw [h1] at g1
        cases g1
        rw [h2] at b2
        cases b2
        cases s with
        | ow q => cases h2; have := (insO_eq g2).2; cases this
        | rf q => cases h2; have := (insO_eq g2).2; cases this
        | _ => cases h2
      exact R.dis j i t s _ _ a ne g1 h1 b2 h2 b1 z
    exact odB_ok sS hO (fun a ha u z => less_some.mpr ⟨na a ha, z⟩) e2
theorem VOks.apart (R : Rel F W σ Γ) (h : isAb I Γ i) : ∀ {xs : List RV} {vs : List V} {ds : List PyData}, VOks F W σ Γ vs xs → dats Γ xs = some ds → DqAll K (less W.H fun a => a ∈ W.ft i) vs ds
  | [], _, _, o, e => by cases o; cases e; exact .nil
  | x :: xs, _, _, o, e => by
    cases o with
    | cons a b =>
      simp only [dats] at e
      split at e
      · rename_i d ds h1 h2
        cases e
        exact .cons (a.apart R h h1) (VOks.apart R h b h2)
      · cases e
end
section
variable {K : Fg} {I : Hp → Addr → List Addr → Prop} {i : Nat} {t : TA} {d : TAd} {E : XK}
def dCallR (I : Hp → Addr → List Addr → Prop) (i : Nat) (C : List PyData → (PyData → Prop) → Prop) (d : TAd) : TEd := fun Γ Q => isAb I Γ i ∧ d Γ fun xs Γ1 => ∃ ds, isAb I Γ1 i ∧ dats Γ1 xs = some ds ∧ C ds fun r => Q (.sh r) Γ1
instance se_callR [AbI I] {C : List PyData → (PyData → Prop) → Prop} [A : SA K t d] : SE K (tCall (RefSp K I C) [] E (tCons (tVar i) t)) (dCallR I i C d) := ⟨fun F W σ Γ Q Qd R ⟨h0, q⟩ k => by
  obtain ⟨_, p, _, _, e0, _, _⟩ := h0.slot R
  refine ⟨.ref p, e0, A.run F W σ Γ _ _ R q fun xs W' Γ' vs s' R' o1 ⟨ds, h1, e1, q⟩ => ?_⟩
  obtain ⟨s, p', g1, g2, g3, g4, g5⟩ := h1.slot R'
  rw [e0] at g3
  cases g3
  rw [List.append_nil]
  refine ⟨p, W'.ft i, vs, ds, _, rfl, g5, o1.apart R' h1 e1, q, fun v H' r fr hI hv hq => ?_⟩
  obtain ⟨R2, s2⟩ := R'.ref h1 e0 fr hI
  refine k (.sh r) { W' with H := H' } Γ' v (s'.trans s2) R2 (.ofSh ?_) hq
  exact hv.same (same_less fun a o nx e => ⟨fun z => nx (R'.exmo z), e⟩)⟩
def dCallRF (I : Hp → Addr → List Addr → Prop) (i : Nat) (C : List PyData → (OD → Prop) → Prop) (d : TAd) : TFd := fun Γ Q => isAb I Γ i ∧ d Γ fun xs Γ1 => ∃ ds, isAb I Γ1 i ∧ dats Γ1 xs = some ds ∧ C ds fun r => Q r Γ1
instance sf_callR [AbI I] {C : List PyData → (OD → Prop) → Prop} [A : SA K t d] : SEF K (tCall (RefFreshSp K I C) [] E (tCons (tVar i) t)) (dCallRF I i C d) := ⟨fun F W σ Γ Q Qd R ⟨h0, q⟩ k => by
  obtain ⟨_, p, _, _, e0, _, _⟩ := h0.slot R
  refine ⟨.ref p, e0, A.run F W σ Γ _ _ R q fun xs W' Γ' vs s' R' o1 ⟨ds, h1, e1, q⟩ => ?_⟩
  obtain ⟨s, p', g1, g2, g3, g4, g5⟩ := h1.slot R'
  rw [e0] at g3
  cases g3
  rw [List.append_nil]
  refine ⟨p, W'.ft i, vs, ds, _, rfl, g5, o1.apart R' h1 e1, q, fun l ho H' r fr hI hl hv hq => ?_⟩
  obtain ⟨R2, s2⟩ := R'.ref h1 e0 fr hI
  refine k r { W' with H := H' } Γ' l ho (s'.trans s2) R2 hl ?_ hq
  exact hv.same (same_less fun a o nx e => ⟨fun z => nx (R'.exmo z), e⟩)⟩
end
/-! ### defs -/
def startG (N : List Str) (sl : List Sl) : G := sl ++ List.replicate (N.length - sl.length) .no
def argOk (s : Sl) (d : PyData) : Prop := s = .ar d ∨ (s = .sh d ∧ tupO d = true)
def retOf (Γ : G) : RV → Option PyData
  | .own i => match Γ[i]? with
    | some (.ow (.lst ds)) => some (.list ds)
    | some (.sh d) => some d
    | _ => none
  | x => shOf x
def retFresh (Γ : G) : RV → Option OD
  | .own i => match Γ[i]? with
    | some (.ow (.lst ds)) => some (.lst ds)
    | some (.ow (.dK ds)) => some (.dK ds)
    | some (.ow (.dT ds)) => some (.dT ds)
    | _ => none
  | _ => none
section
variable {K : Fg} {F : Fx K} {W : Wd} {σ : L2.St} {Γ : G}
theorem ret_ok {v : V} {x : RV} {d : PyData} (R : Rel F W σ Γ) (o : VOk F W σ Γ v x) (e : retOf Γ x = some d) : Dq K (less W.H F.ex) v d := by
  have sS : Same (W.S F) (less W.H F.ex) := same_less fun a o nx e => ⟨fun z => nx (.inl z), e⟩
  cases x with
  | fld _ _ => cases e
  | sh d' => cases e; exact Dq.same sS o
  | ar d' => exact (VOk.sh R o e).same sS
  | own i =>
    obtain ⟨s, h1, h2, h3⟩ := o
    simp only [retOf, h1] at e
    cases s with
    | no => cases e
    | ar d => cases e
    | rf o => cases e
    | ro o => cases e
    | sh d' =>
      cases e
      obtain ⟨v', e1, e2⟩ := R.slot i _ h1
      rw [h3] at e1
      cases e1
      exact e2.same sS
    | ow o =>
      cases o with
      | lst ds =>
        cases e
        obtain ⟨p, e1, hO, hf, vs, e2, e3⟩ := R.slot i _ h1
        rw [h3] at e1
        cases e1
        have hp : p ∈ W.ft i := by rw [hf]; simp
        have h0 : F.H0 p = none := (R.new p (hO p hp).1).resolve_right (hO p hp).2
        exact .lst (less_some.mpr ⟨fun z => by have m := F.xm p z; rw [h0] at m; exact m, e2⟩) (e3.same sS)
      | dK _ => cases e
      | dT _ => cases e
      | ab _ => cases e
      | ins _ _ => cases e
      | box _ _ => cases e
open Classical in
noncomputable def dropH (H : Hp) (p : Addr) : Hp := fun a => if a = p then none else H a
theorem dropH_at {H : Hp} {p : Addr} : dropH H p p = none := if_pos rfl
theorem dropH_ne {H : Hp} {p a : Addr} (h : a ≠ p) : dropH H p a = H a := if_neg h
theorem dropH_upd {H : Hp} {p : Addr} {ho : HO} (h : H p = some ho) : upd (dropH H p) p ho = H := by
  funext a
  by_cases e : a = p
  · subst e
    rw [upd_same, h]
  · rw [upd_ne e, dropH_ne e]
theorem retFresh_ok {v : V} {x : RV} {od : OD} (R : Rel F W σ Γ) (o : VOk F W σ Γ v x) (e : retFresh Γ x = some od) : ∃ p ho, v = .ref p ∧ W.H p = some ho ∧ F.H0 p = none ∧ ¬ F.rf p ∧ OwnH K (less (dropH W.H p) F.ex) ho od := by
  cases x with
  | fld _ _ => cases e
  | sh d' => cases e
  | ar d' => cases e
  | own i =>
    obtain ⟨s, h1, h2, h3⟩ := o
    simp only [retFresh, h1] at e
    have key : ∀ {p : Addr} {ho : HO}, (∀ a ∈ W.ft i, W.O a ∧ ¬ F.rf a) → W.ft i = [p] → W.H p = some ho → F.H0 p = none ∧ ¬ F.rf p ∧ Same (W.S F) (less (dropH W.H p) F.ex) := fun {p ho} hO hf e2 => by
      have hp : p ∈ W.ft i := by rw [hf]; simp
      refine ⟨(R.new p (hO p hp).1).resolve_right (hO p hp).2, (hO p hp).2, same_less fun a o nx e => ⟨fun z => nx (.inl z), ?_⟩⟩
      rw [dropH_ne]
      · exact e
      · intro z
        subst z
        exact nx (.inr (hO a hp).1)
    cases s with
    | no => cases e
    | ar d => cases e
    | rf o => cases e
    | ro o => cases e
    | sh d' => cases e
    | ow o =>
      cases o with
      | lst ds =>
        cases e
        obtain ⟨p, e1, hO, hf, vs, e2, e3⟩ := R.slot i _ h1
        rw [h3] at e1
        cases e1
        obtain ⟨k1, k2, k3⟩ := key hO hf e2
        exact ⟨p, _, rfl, e2, k1, k2, vs, rfl, e3.same k3⟩
      | dK _ =>
        cases e
        obtain ⟨p, e1, hO, hf, vs, e2, e3⟩ := R.slot i _ h1
        rw [h3] at e1
        cases e1
        obtain ⟨k1, k2, k3⟩ := key hO hf e2
        exact ⟨p, _, rfl, e2, k1, k2, vs, rfl, Paired.mapP e3 fun _ _ z => ⟨z.1, z.2.same k3⟩⟩
      | dT _ =>
        cases e
        obtain ⟨p, e1, hO, hf, vs, e2, e3⟩ := R.slot i _ h1
        rw [h3] at e1
        cases e1
        obtain ⟨k1, k2, k3⟩ := key hO hf e2
        exact ⟨p, _, rfl, e2, k1, k2, vs, rfl, Paired.mapP e3 fun _ _ z => ⟨z.1, z.2.same k3⟩⟩
      | ab _ => cases e
      | ins _ _ => cases e
      | box _ _ => cases e
theorem start_get {N : List Str} {vs : List V} {i : Nat} {v : V} (h : vs[i]? = some v) : (start N vs)[i]? = some (some v) := by
  have hi := lt_of_get h
  unfold L2.start
  rw [List.getElem?_append_left (by simpa using hi), List.getElem?_map, h]
  rfl
theorem startG_get {N : List Str} {sl : List Sl} {i : Nat} {s : Sl} (h : (startG N sl)[i]? = some s) : sl[i]? = some s ∨ s = .no := by
  unfold startG at h
  by_cases hi : i < sl.length
  · rw [List.getElem?_append_left hi] at h
    exact .inl h
  · rw [List.getElem?_append_right (by omega), List.getElem?_replicate] at h
    split at h
    · cases h; exact .inr rfl
    · cases h
abbrev F0 (K : Fg) (H : Hp) : Fx K := { H0 := H, rf := fun _ => False, rp := fun _ => none }
theorem rel_start {H : Hp} {N : List Str} {vs : List V} {ds : List PyData} {sl : List Sl} (h : DqAll K H vs ds) (ha : Paired argOk sl ds) : Rel (F0 K H) ⟨fun _ => False, fun _ => [], H⟩ (start N vs) (startG N sl) := by
  have hl : vs.length = sl.length := by rw [h.length, Paired.length ha]
  refine ⟨fun a o e _ => e, fun a z => z.elim, fun a z => z.elim, fun a z => z, by simp [L2.start, startG, hl], fun i s e => ?_, fun i j s t oi oj a ne e1 e2 g1 g2 => ?_⟩
  · rcases startG_get e with e | e
    · obtain ⟨d, e1, e2⟩ := paired_get ha e
      obtain ⟨v, g1, g2⟩ := h.get e1
      rcases e2 with rfl | ⟨rfl, ht⟩
      · exact ⟨v, start_get g1, g2.same fun a o q => less_some.mpr ⟨fun z => z, q⟩⟩
      · exact ⟨v, start_get g1, Dq.tupO_less (H' := H) (fun a z => by
          rcases z with z | z
          · exact z
          · exact z.elim) _ _ ht g2⟩
    · subst e
      trivial
  · rcases startG_get e1 with e1 | e1
    · obtain ⟨d, q1, q2⟩ := paired_get ha e1
      rcases q2 with rfl | ⟨rfl, _⟩ <;> cases g1
    · subst e1
      cases g1
end
section
variable {P : Program} {w : World} {K : Fg} {mg : Str → Option Value} {base : Heap}
abbrev PEnds (Qd : PyData → Prop) : DE := { nx := fun _ => Qd .none, rt := fun x Γ => ∃ r, retOf Γ x = some r ∧ Qd r, rn := fun o _ => ∃ xs, o = .lst xs ∧ Qd (.list xs) }
/-- a def that changes nothing, in data -/
theorem pure_ok {x qual : Str} {st : Stmt} {f : Addr} {fd : FuncData} {N ps : List Str} {k : Nat} {C : List PyData → (PyData → Prop) → Prop} (Fn : L2.Fun K x qual st f fd) (S : FnScope N ps (defScope st)) (hl : ∀ ds Qd, C ds Qd → ds.length = ps.length)
    (hbody : ∀ (cdv : Value) (A : Around) (outer : List Env) (s : Shared) (H : Hp) (E : XK), Room k (A.deeper (envOfC qual (defScope st) s.heap.objs.size f cdv)) →
      ∃ t, PSs (cxOf CX0 P w K mg base N qual (defScope st) f cdv A outer s H E).nox (defBody st) t ∧ ∃ d, SS K X0 t d ∧ ∀ ds Qd, C ds Qd → ∃ sl, Paired argOk sl ds ∧ d (PEnds Qd) (startG N sl)) : FnOk P w K mg base CX0 (k + 1) f fd ps (PureSp K C) := by
  refine Fn.ok S (fun vs H Q E h => ?_) (fun cdv A outer s H vs Q E hr h => ?_)
  · obtain ⟨ds, Qd, h1, h2, _⟩ := h
    rw [h1.length]
    exact hl ds Qd h2
  · obtain ⟨ds, Qd, h1, h2, q⟩ := h
    obtain ⟨t, ht, d, hs, hd⟩ := hbody cdv A outer s H E hr
    obtain ⟨sl, ha, hd⟩ := hd ds Qd h2
    refine ⟨t, ht, hs.run (F0 K H) ⟨fun _ => False, fun _ => [], H⟩ (start N vs) (startG N sl) _ _ (rel_start h1 ha) hd ⟨fun W σ Γ _ R e => ?_, fun W σ Γ y v _ R o ⟨r, e, z⟩ => ?_, fun W σ Γ o p ho _ R hp oh ⟨xs, e, z⟩ => ?_, fun W σ Γ _ R e => e, fun W σ Γ _ R e => e, fun W σ Γ c _ R e => e⟩⟩
    · exact q .non W.H .none (fun a o e => R.base a o e fun z => z) .non e
    · exact q v W.H r (fun a o e => R.base a o e fun z => z) (ret_ok R o e) z
    · subst e
      obtain ⟨us, rfl, hu⟩ := oh
      have h0 : H p = none := by
        cases e : H p with
        | none => rfl
        | some o => have := R.base p o e (fun z => z); rw [hp] at this; cases this
      refine q (.ref p) _ (.list xs) (fun a o e => ?_) (.lst (less_some.mpr ⟨by rw [h0]; exact fun z => z, upd_same⟩) (hu.same (same_less fun a o nx e => ⟨fun z => nx (.inl z), ?_⟩))) z
      · have b := R.base a o e (fun z => z)
        rw [upd_ne (ne_of_none b hp)]
        exact b
      · rw [upd_ne (ne_of_none e hp)]
        exact e
abbrev FEnds (Qd : OD → Prop) : DE := { nx := fun _ => False, rt := fun x Γ => ∃ r, retFresh Γ x = some r ∧ Qd r, rn := fun o _ => Qd o }
theorem fresh_ok {x qual : Str} {st : Stmt} {f : Addr} {fd : FuncData} {N ps : List Str} {k : Nat} {C : List PyData → (OD → Prop) → Prop} (Fn : L2.Fun K x qual st f fd) (S : FnScope N ps (defScope st)) (hl : ∀ ds Qd, C ds Qd → ds.length = ps.length)
    (hbody : ∀ (cdv : Value) (A : Around) (outer : List Env) (s : Shared) (H : Hp) (E : XK), Room k (A.deeper (envOfC qual (defScope st) s.heap.objs.size f cdv)) →
      ∃ t, PSs (cxOf CX0 P w K mg base N qual (defScope st) f cdv A outer s H E).nox (defBody st) t ∧ ∃ d, SS K X0 t d ∧ ∀ ds Qd, C ds Qd → ∃ sl, Paired argOk sl ds ∧ d (FEnds Qd) (startG N sl)) : FnOk P w K mg base CX0 (k + 1) f fd ps (FreshSp K C) := by
  refine Fn.ok S (fun vs H Q E h => ?_) (fun cdv A outer s H vs Q E hr h => ?_)
  · obtain ⟨ds, Qd, h1, h2, _⟩ := h
    rw [h1.length]
    exact hl ds Qd h2
  · obtain ⟨ds, Qd, h1, h2, q⟩ := h
    obtain ⟨t, ht, d, hs, hd⟩ := hbody cdv A outer s H E hr
    obtain ⟨sl, ha, hd⟩ := hd ds Qd h2
    refine ⟨t, ht, hs.run (F0 K H) ⟨fun _ => False, fun _ => [], H⟩ (start N vs) (startG N sl) _ _ (rel_start h1 ha) hd ⟨fun W σ Γ _ R e => e.elim, fun W σ Γ y v _ R o ⟨r, e, z⟩ => ?_, fun W σ Γ o p ho _ R hp oh z => ?_, fun W σ Γ _ R e => e, fun W σ Γ _ R e => e, fun W σ Γ c _ R e => e⟩⟩
    · obtain ⟨p, ho, rfl, g1, g2, g3, g4⟩ := retFresh_ok R o e
      have := q p ho (dropH W.H p) r (fun a o e => ?_) dropH_at g4 z
      · rw [dropH_upd g1] at this
        exact this
      · rw [dropH_ne]
        · exact R.base a o e fun z => z
        · intro z
          have e' : H p = some o := z ▸ e
          rw [show H p = none from g2] at e'
          cases e'
    · exact q p ho W.H o (fun a o e => R.base a o e fun z => z) hp (oh.same (same_less fun a o nx e => ⟨fun z => nx (.inl z), e⟩)) z
end
end Dk

namespace Dk
open PySem PySem.Spec PyProof.Rows L2
/-! ### defs whose first argument is changed -/
section
variable {P : Program} {w : World} {K : Fg} {mg : Str → Option Value} {base : Heap} {I : Hp → Addr → List Addr → Prop}
noncomputable abbrev Fr (K : Fg) (H : Hp) (p : Addr) (f : List Addr) (hm : ∀ a ∈ f, Mo (H a)) : Fx K := { H0 := H, rf := fun a => a ∈ f, rp := fun i => if i = 0 then some (p, f) else none, rm := hm }
noncomputable abbrev Wr (H : Hp) (f : List Addr) : Wd := ⟨fun a => a ∈ f, fun i => if i = 0 then f else [], H⟩
theorem rel_startR [A : AbI I] {H : Hp} {N : List Str} {p : Addr} {f : List Addr} {vs : List V} {ds : List PyData} {sl : List Sl} (hI : I H p f) (h : DqAll K (less H fun a => a ∈ f) vs ds) (ha : Paired argOk sl ds) :
    Rel (Fr K H p f fun a z => (A.mo hI a z).1) (Wr H f) (L2.start N (.ref p :: vs)) (startG N (.rf (.ab I) :: sl)) := by
  have hl : vs.length = sl.length := by rw [h.length, Paired.length ha]
  have own : ∀ (i : Nat) (s : Sl) (o : OD), (startG N (.rf (.ab I) :: sl))[i]? = some s → s.own? = some o → i = 0 := fun i s o e g => by
    rcases startG_get e with e | e
    · cases i with
      | zero => rfl
      | succ i =>
        obtain ⟨d, q1, q2⟩ := paired_get ha (by simpa using e)
        rcases q2 with rfl | ⟨rfl, _⟩ <;> cases g
    · subst e
      cases g
  refine ⟨fun a o e _ => e, fun a z => .inr z, fun a z => (A.mo hI a z).1, fun a z => z, by simp [L2.start, startG, hl], fun i s e => ?_, fun i j s t oi oj a ne e1 e2 g1 g2 => ?_⟩
  · rcases startG_get e with e | e
    · cases i with
      | zero =>
        cases e
        exact ⟨p, ⟨f, rfl, fun _ => rfl⟩, start_get rfl, fun a ha => ha, A.mem hI, hI, (fun H' hk ht => A.st hI hk ht), fun a ha => A.mo hI a ha⟩
      | succ i =>
        obtain ⟨d, e1, e2⟩ := paired_get ha (by simpa using e)
        obtain ⟨v, g1, g2⟩ := h.get e1
        have g1' : (V.ref p :: vs)[i + 1]? = some v := by simpa using g1
        rcases e2 with rfl | ⟨rfl, ht⟩
        · exact ⟨v, start_get g1', g2⟩
        · refine ⟨v, start_get g1', Dq.tupO_less (H' := H) (fun a z => ?_) _ _ ht (g2.same less_same)⟩
          rcases z with z | z
          · exact z
          · exact (A.mo hI a z).1
    · subst e
      trivial
  · exact absurd ((own i s oi e1 g1).trans (own j t oj e2 g2).symm) ne
theorem rf_end [A : AbI I] {H : Hp} {p : Addr} {f : List Addr} {W : Wd} {σ : L2.St} {Γ : G} {hm : ∀ a ∈ f, Mo (H a)} (R : Rel (Fr K H p f hm) W σ Γ) (h : Γ[0]? = some (.rf (.ab I))) : I W.H p f := by
  obtain ⟨p', ⟨f0, e0, ef⟩, e1, e2, e3⟩ := R.slot 0 _ h
  have e0' : some (p, f) = some (p', f0) := e0
  cases e0'
  cases ef rfl
  exact e3.2.1
abbrev REnds (I : Hp → Addr → List Addr → Prop) (Qd : PyData → Prop) : DE := { nx := fun Γ => Γ[0]? = some (.rf (.ab I)) ∧ Qd .none, rt := fun x Γ => Γ[0]? = some (.rf (.ab I)) ∧ ∃ r, retOf Γ x = some r ∧ Qd r, rn := fun o Γ => Γ[0]? = some (.rf (.ab I)) ∧ ∃ xs, o = .lst xs ∧ Qd (.list xs) }
theorem ref_ok [A1 : AbI I] {x qual : Str} {st : Stmt} {f : Addr} {fd : FuncData} {N ps : List Str} {k : Nat} {C : List PyData → (PyData → Prop) → Prop} (Fn : L2.Fun K x qual st f fd) (S : FnScope N ps (defScope st)) (hl : ∀ ds Qd, C ds Qd → ds.length + 1 = ps.length)
    (hbody : ∀ (cdv : Value) (A : Around) (outer : List Env) (s : Shared) (H : Hp) (E : XK), Room k (A.deeper (envOfC qual (defScope st) s.heap.objs.size f cdv)) →
      ∃ t, PSs (cxOf CX0 P w K mg base N qual (defScope st) f cdv A outer s H E).nox (defBody st) t ∧ ∃ d, SS K X0 t d ∧ ∀ ds Qd, C ds Qd → ∃ sl, Paired argOk sl ds ∧ d (REnds I Qd) (startG N (.rf (.ab I) :: sl))) : FnOk P w K mg base CX0 (k + 1) f fd ps (RefSp K I C) := by
  refine Fn.ok S (fun vs H Q E h => ?_) (fun cdv A outer s H vs Q E hr h => ?_)
  · obtain ⟨p, g, us, ds, Qd, rfl, h0, h1, h2, _⟩ := h
    rw [List.length_cons, h1.length]
    exact hl ds Qd h2
  · obtain ⟨p, g, us, ds, Qd, rfl, h0, h1, h2, q⟩ := h
    obtain ⟨t, ht, d, hs, hd⟩ := hbody cdv A outer s H E hr
    obtain ⟨sl, ha, hd⟩ := hd ds Qd h2
    refine ⟨t, ht, hs.run (Fr K H p g fun a z => (A1.mo h0 a z).1) (Wr H g) _ _ _ _ (rel_startR h0 h1 ha) hd ⟨fun W σ Γ _ R ⟨e0, e⟩ => ?_, fun W σ Γ y v _ R o ⟨e0, r, e, z⟩ => ?_, fun W σ Γ o l ho _ R hp oh ⟨e0, xs, e, z⟩ => ?_, fun W σ Γ _ R e => e, fun W σ Γ _ R e => e, fun W σ Γ c _ R e => e⟩⟩
    · exact q .non W.H .none (fun a o n e => R.base a o e n) (rf_end R e0) .non e
    · exact q v W.H r (fun a o n e => R.base a o e n) (rf_end R e0) (ret_ok R o e) z
    · subst e
      obtain ⟨us', rfl, hu⟩ := oh
      have nl := R.free hp
      have ng : l ∉ g := fun z => nl (.inr (R.rfo l z))
      have h0' : H l = none := by
        cases e : H l with
        | none => rfl
        | some o => have := R.base l o e ng; rw [hp] at this; cases this
      have hS : ∀ a o, W.H a = some o → (upd W.H l (.lst us')) a = some o := fun a o e => by
        rw [upd_ne (ne_of_none e hp)]
        exact e
      refine q (.ref l) _ (.list xs) (fun a o n e => hS a o (R.base a o e n)) ?_ (.lst (less_some.mpr ⟨by rw [h0']; exact fun z => z, upd_same⟩) (hu.same (same_less fun a o nx e => ⟨fun z => nx (.inl z), hS a o e⟩))) z
      refine AbI.st (rf_end R e0) (fun a ha => ?_) fun a o nm e => hS a o e
      rw [upd_ne]
      intro z
      exact ng (z ▸ ha)
abbrev RFEnds (I : Hp → Addr → List Addr → Prop) (Qd : OD → Prop) : DE := { nx := fun _ => False, rt := fun x Γ => Γ[0]? = some (.rf (.ab I)) ∧ ∃ r, retFresh Γ x = some r ∧ Qd r, rn := fun o Γ => Γ[0]? = some (.rf (.ab I)) ∧ Qd o }
theorem refFresh_ok [A1 : AbI I] {x qual : Str} {st : Stmt} {f : Addr} {fd : FuncData} {N ps : List Str} {k : Nat} {C : List PyData → (OD → Prop) → Prop} (Fn : L2.Fun K x qual st f fd) (S : FnScope N ps (defScope st)) (hl : ∀ ds Qd, C ds Qd → ds.length + 1 = ps.length)
    (hbody : ∀ (cdv : Value) (A : Around) (outer : List Env) (s : Shared) (H : Hp) (E : XK), Room k (A.deeper (envOfC qual (defScope st) s.heap.objs.size f cdv)) →
      ∃ t, PSs (cxOf CX0 P w K mg base N qual (defScope st) f cdv A outer s H E).nox (defBody st) t ∧ ∃ d, SS K X0 t d ∧ ∀ ds Qd, C ds Qd → ∃ sl, Paired argOk sl ds ∧ d (RFEnds I Qd) (startG N (.rf (.ab I) :: sl))) : FnOk P w K mg base CX0 (k + 1) f fd ps (RefFreshSp K I C) := by
  refine Fn.ok S (fun vs H Q E h => ?_) (fun cdv A outer s H vs Q E hr h => ?_)
  · obtain ⟨p, g, us, ds, Qd, rfl, h0, h1, h2, _⟩ := h
    rw [List.length_cons, h1.length]
    exact hl ds Qd h2
  · obtain ⟨p, g, us, ds, Qd, rfl, h0, h1, h2, q⟩ := h
    obtain ⟨t, ht, d, hs, hd⟩ := hbody cdv A outer s H E hr
    obtain ⟨sl, ha, hd⟩ := hd ds Qd h2
    refine ⟨t, ht, hs.run (Fr K H p g fun a z => (A1.mo h0 a z).1) (Wr H g) _ _ _ _ (rel_startR h0 h1 ha) hd ⟨fun W σ Γ _ R e => e.elim, fun W σ Γ y v _ R o ⟨e0, r, e, z⟩ => ?_, fun W σ Γ o l ho _ R hp oh ⟨e0, z⟩ => ?_, fun W σ Γ _ R e => e, fun W σ Γ _ R e => e, fun W σ Γ c _ R e => e⟩⟩
    · obtain ⟨l, ho, rfl, g1, g2, g3, g4⟩ := retFresh_ok R o e
      have ne : ∀ a o, H a = some o → a ≠ l := fun a o e z => by
        rw [z] at e
        rw [show H l = none from g2] at e
        cases e
      have := q l ho (dropH W.H l) r (fun a o n e => ?_) ?_ dropH_at g4 z
      · rw [dropH_upd g1] at this
        exact this
      · rw [dropH_ne (ne a o e)]
        exact R.base a o e n
      · have i1 := rf_end R e0
        have nl : l ∉ g := g3
        refine AbI.st i1 (fun a ha => dropH_ne fun z => nl (z ▸ ha)) fun a u nm eu => ?_
        have i0 : a ≠ l := fun z => by
          rw [z, g1] at eu
          cases eu
          exact nm (mo_ownH g4)
        rw [dropH_ne i0]
        exact eu
    · exact q l ho W.H o (fun a o n e => R.base a o e n) (rf_end R e0) hp (oh.same (same_less fun a o nx e => ⟨fun z => nx (.inl z), e⟩)) z
end
/-! isinstance: the kinds of data -/
theorem kb_NoneType_int : kitB "NoneType" "int" = some false := by decide +kernel
theorem kb_NoneType_bool : kitB "NoneType" "bool" = some false := by decide +kernel
theorem kb_NoneType_str : kitB "NoneType" "str" = some false := by decide +kernel
theorem kb_NoneType_list : kitB "NoneType" "list" = some false := by decide +kernel
theorem kb_NoneType_tuple : kitB "NoneType" "tuple" = some false := by decide +kernel
theorem kb_bool_int : kitB "bool" "int" = some true := by decide +kernel
theorem kb_bool_bool : kitB "bool" "bool" = some true := by decide +kernel
theorem kb_bool_str : kitB "bool" "str" = some false := by decide +kernel
theorem kb_bool_list : kitB "bool" "list" = some false := by decide +kernel
theorem kb_bool_tuple : kitB "bool" "tuple" = some false := by decide +kernel
theorem kb_int_int : kitB "int" "int" = some true := by decide +kernel
theorem kb_int_bool : kitB "int" "bool" = some false := by decide +kernel
theorem kb_int_str : kitB "int" "str" = some false := by decide +kernel
theorem kb_int_list : kitB "int" "list" = some false := by decide +kernel
theorem kb_int_tuple : kitB "int" "tuple" = some false := by decide +kernel
theorem kb_str_int : kitB "str" "int" = some false := by decide +kernel
theorem kb_str_bool : kitB "str" "bool" = some false := by decide +kernel
theorem kb_str_str : kitB "str" "str" = some true := by decide +kernel
theorem kb_str_list : kitB "str" "list" = some false := by decide +kernel
theorem kb_str_tuple : kitB "str" "tuple" = some false := by decide +kernel
theorem kb_list_int : kitB "list" "int" = some false := by decide +kernel
theorem kb_list_bool : kitB "list" "bool" = some false := by decide +kernel
theorem kb_list_str : kitB "list" "str" = some false := by decide +kernel
theorem kb_list_list : kitB "list" "list" = some true := by decide +kernel
theorem kb_list_tuple : kitB "list" "tuple" = some false := by decide +kernel
theorem kb_tuple_int : kitB "tuple" "int" = some false := by decide +kernel
theorem kb_tuple_bool : kitB "tuple" "bool" = some false := by decide +kernel
theorem kb_tuple_str : kitB "tuple" "str" = some false := by decide +kernel
theorem kb_tuple_list : kitB "tuple" "list" = some false := by decide +kernel
theorem kb_tuple_tuple : kitB "tuple" "tuple" = some true := by decide +kernel
theorem iteFb {b : Bool} {A B : Prop} (h : b = false) (q : B) : if b = true then A else B := by subst h; exact iteF q
theorem iteTb {b : Bool} {A B : Prop} (h : b = true) (q : A) : if b = true then A else B := by subst h; exact iteT q
theorem ite2b {b : Bool} {A B : Prop} (h1 : b = true → A) (h2 : b = false → B) : if b = true then A else B := by cases b with
  | true => exact iteT (h1 rfl)
  | false => exact iteF (h2 rfl)
/-! ### loops by the part that is gone through -/
theorem take_snoc {α : Type} {xs : List α} {k : Nat} {x : α} (h : xs[k]? = some x) : xs.take (k + 1) = xs.take k ++ [x] := by
  rw [List.take_add_one, h]
  rfl
theorem map_get {α : Type} {f : α → PyData} {xs : List α} {k : Nat} {d : PyData} (h : (xs.map f)[k]? = some d) : ∃ x, xs[k]? = some x ∧ d = f x := by
  rw [List.getElem?_map] at h
  obtain ⟨x, h1, h2⟩ := Option.map_eq_some_iff.mp h
  exact ⟨x, h1, h2.symm⟩
theorem cut_at {α : Type} {xs : List α} {k : Nat} {x : α} (h : xs[k]? = some x) : xs = xs.take k ++ x :: xs.drop (k + 1) := by
  have hk := lt_of_get h
  have e : xs[k] = x := by
    rw [List.getElem?_eq_getElem hk] at h
    exact Option.some.inj h
  rw [← e, List.getElem_cons_drop, List.take_append_drop]
section
variable {α : Type} {xs : List α} {f : α → PyData} {dg : TGd} {db : TSd} {E : DE} {Γ2 : G} {kd : PyData → RV}
/-- for x in xs: what holds between two turns, by the part that is gone through -/
theorem for_pre (I : List α → G → Prop) (h0 : I [] Γ2) (step : ∀ (pre : List α) (x : α) (post : List α) (Γ' : G), xs = pre ++ x :: post → I pre Γ' → dg (kd (f x)) Γ' fun Γ3 => db (E.lp (I (pre ++ [x]))) Γ3) (done : ∀ Γ', I xs Γ' → E.nx Γ') :
    ∃ J : Nat → G → Prop, J 0 Γ2 ∧ (∀ k d Γ', (xs.map f)[k]? = some d → J k Γ' → dg (kd d) Γ' fun Γ3 => db (E.lp (J (k + 1))) Γ3) ∧ ∀ Γ', J (xs.map f).length Γ' → E.nx Γ' := by
  refine ⟨fun k Γ => I (xs.take k) Γ, by simpa using h0, fun k d Γ' hd hi => ?_, fun Γ' hi => ?_⟩
  · obtain ⟨x, hx, rfl⟩ := map_get hd
    have e := take_snoc hx
    have s := step (xs.take k) x (xs.drop (k + 1)) Γ' (cut_at hx) hi
    rw [← e] at s
    exact s
  · rw [List.length_map, List.take_length] at hi
    exact done Γ' hi
end
section
variable {α : Type} {xs : List α} {f : α → PyData} {dg : TGd} {dt : TTd} {de : TEd} {vs : List Nat} {Γ2 : G} {kd : PyData → RV} {Q : OD → G → Prop}
/-- a comprehension by the part that is gone through -/
theorem lc_pre {R : List PyData → G → Prop} (I : List α → List PyData → G → Prop) (h0 : I [] [] (wipeG Γ2 vs)) (step : ∀ (pre : List α) (x : α) (post : List α) (acc : List PyData) (Γ' : G), xs = pre ++ x :: post → I pre acc Γ' → LcTurn dg dt de vs (kd (f x)) Γ' fun o Γ5 => I (pre ++ [x]) (acc ++ o.toList) Γ5) (done : ∀ acc Γ', I xs acc Γ' → R acc Γ') :
    ∃ J : Nat → List PyData → G → Prop, J 0 [] (wipeG Γ2 vs) ∧ (∀ k d acc Γ', (xs.map f)[k]? = some d → J k acc Γ' → LcTurn dg dt de vs (kd d) Γ' fun o Γ5 => J (k + 1) (acc ++ o.toList) Γ5) ∧ ∀ acc Γ', J (xs.map f).length acc Γ' → R acc Γ' := by
  refine ⟨fun k acc Γ => I (xs.take k) acc Γ, by simpa using h0, fun k d acc Γ' hd hi => ?_, fun acc Γ' hi => ?_⟩
  · obtain ⟨x, hx, rfl⟩ := map_get hd
    have e := take_snoc hx
    have s := step (xs.take k) x (xs.drop (k + 1)) acc Γ' (cut_at hx) hi
    rw [← e] at s
    exact s
  · rw [List.length_map, List.take_length] at hi
    exact done acc Γ' hi
/-- .. whose items are told one by one, and nothing else is changed -/
theorem lc_map {R : List PyData → G → Prop} (h : α → Option PyData) (step : ∀ (x : α), x ∈ xs → ∀ P : Option PyData → G → Prop, P (h x) (wipeG Γ2 vs) → LcTurn dg dt de vs (kd (f x)) (wipeG Γ2 vs) P) (done : R (xs.filterMap h) (wipeG Γ2 vs)) :
    ∃ J : Nat → List PyData → G → Prop, J 0 [] (wipeG Γ2 vs) ∧ (∀ k d acc Γ', (xs.map f)[k]? = some d → J k acc Γ' → LcTurn dg dt de vs (kd d) Γ' fun o Γ5 => J (k + 1) (acc ++ o.toList) Γ5) ∧ ∀ acc Γ', J (xs.map f).length acc Γ' → R acc Γ' := by
  refine lc_pre (fun pre acc Γ => acc = pre.filterMap h ∧ Γ = wipeG Γ2 vs) ⟨rfl, rfl⟩ (fun pre x post acc Γ' e hi => ?_) fun acc Γ' hi => ?_
  · obtain ⟨rfl, rfl⟩ := hi
    refine step x (by rw [e]; simp) _ ⟨?_, rfl⟩
    rw [List.filterMap_append]
    cases e' : h x <;> simp [e']
  · obtain ⟨rfl, rfl⟩ := hi
    exact done
/-- .. over a range -/
theorem lcR_map {R : List PyData → G → Prop} {n : Nat} {lo : Int} (h : Nat → Option PyData) (step : ∀ (k : Nat), k < n → ∀ P : Option PyData → G → Prop, P (h k) (wipeG Γ2 vs) → LcTurn dg dt de vs (.sh (.int (lo + k))) (wipeG Γ2 vs) P) (done : R ((List.range n).filterMap h) (wipeG Γ2 vs)) :
    ∃ J : Nat → List PyData → G → Prop, J 0 [] (wipeG Γ2 vs) ∧ (∀ k acc Γ', k < n → J k acc Γ' → LcTurn dg dt de vs (.sh (.int (lo + k))) Γ' fun o Γ5 => J (k + 1) (acc ++ o.toList) Γ5) ∧ ∀ acc Γ', J n acc Γ' → R acc Γ' := by
  refine ⟨fun k acc Γ => acc = (List.range k).filterMap h ∧ Γ = wipeG Γ2 vs, ⟨rfl, rfl⟩, fun k acc Γ' hk hi => ?_, fun acc Γ' hi => ?_⟩
  · obtain ⟨rfl, rfl⟩ := hi
    refine step k hk _ ⟨?_, rfl⟩
    rw [List.range_succ, List.filterMap_append]
    cases e' : h k <;> simp [e']
  · obtain ⟨rfl, rfl⟩ := hi
    exact done
end
end Dk

namespace Dk
open PySem PySem.Spec PyProof.Rows L2
section
variable {K : Fg} {ta tb : TE} {da db : TEd}
/-- a list times a number -/
def dRep (da db : TEd) : TFd := fun Γ Q => da Γ fun x Γ1 => db Γ1 fun y Γ2 => ∃ ds k, lstOf Γ2 x = some ds ∧ dat Γ2 y = some (.int k) ∧ keepable x ds ∧ -(2 ^ 63) ≤ k ∧ k < 2 ^ 63 ∧ ds.length * k.toNat ≤ sizeLine ∧ Q (.lst (repD ds k.toNat)) Γ2
theorem DqAll.rep {H : Hp} {vs : List V} {ds : List PyData} (h : DqAll K H vs ds) : ∀ n : Nat, DqAll K H (List.replicate n vs).flatten (repD ds n)
  | 0 => .nil
  | n + 1 => by
    unfold repD
    rw [List.replicate_succ, List.replicate_succ, List.flatten_cons, List.flatten_cons]
    exact h.app (DqAll.rep h n)
instance sf_rep [SE K ta da] [SE K tb db] : SEF K (tOp rRep ta tb) (dRep da db) := ⟨fun F W σ Γ Q Qd R q k => two R q fun x y W' Γ' u v s' R' o1 o2 ⟨ds, n, e1, e2, k1, h1, h2, hl, q⟩ => by
  obtain ⟨a, xs, rfl, g1, g2, _⟩ := lstOf_ok R' o1 e1
  have hd := keep_ok R' g2 k1
  have hv := int_of (o2.full R' e2)
  subst hv
  exact ⟨a, n, xs, rfl, rfl, g1, h1, h2, by rw [hd.length]; exact hl, fun p hp => k (.lst (repD ds n.toNat)) W' Γ' p _ s' R' hp ⟨_, rfl, DqAll.rep hd _⟩ q⟩⟩
/-- a statement that is never come to -/
def tDead : TS := fun _ _ _ => False
def dDead : TSd := fun _ _ => False
theorem ps_dead {X : Cx} {st : Stmt} : PS X st tDead := ⟨fun _ _ _ _ _ _ h => h.elim⟩
instance ss_dead {Xw : WX} : SS K Xw tDead dDead := ⟨fun _ _ _ _ _ _ _ h _ => h.elim⟩
/-- list.extend by a tuple, whatever else the tuple's object has -/
theorem extT_meets (l b : Addr) (xs ys : Array Value) (n m : Nat) (dd : Option Addr) (sl : Array (Option Value)) (h0 : ¬(!xs.isEmpty && Builtin.List.listTooLong (xs.size + ys.size)) = true) (h1 : xs.size ≤ sizeLine) (h2 : xs.size + ys.size ≤ sizeLine + 1) :
    Meets (Builtin.«list.extend» ⟨[.ref l, .ref b], []⟩) (fun _ R st => st.heap.get? l = some { cls := .type "list", dict := none, data := .seq xs n, slots := #[] } ∧ st.heap.get? b = some { cls := .type "tuple", dict := dd, data := .seq ys m, slots := sl } ∧ R (.ok (.ret Value.none)) { st with heap := st.heap.update l (Obj.mapSeq fun x => x ++ ys), toks := st.toks }) :=
  .of_wp fun prog w A R st h => by
    obtain ⟨hp, gn, dr, tk, os⟩ := st
    obtain ⟨at1, at2, h⟩ := h
    have t1 := PySem.AutoSeq1.sub_tuple_tuple
    have t2 := PySem.AutoSeq1.sub_list_list
    have t3 := PySem.AutoSeq1.sub_tuple_list
    have t4 := PySem.AutoSeq1.sub_list_tuple
    have hz : (xs ++ ys).size ≤ sizeLine + 1 := by rw [Array.size_append]; exact h2
    wp_walk using (wpAny_updateSeq at1 rfl (hz := h1) (_hz' := hz)), PySem.AutoSeq1.wpAny_loadPart' at1, PySem.AutoSeq1.wpAny_loadPart' at2
    exact ⟨_, rfl, h⟩
def rExtT (K : Fg) : V → List V → Hp → VK → Prop := fun x vs H Q => ∃ l b xs zs, x = .ref l ∧ vs = [.ref b] ∧ H l = some (.lst xs) ∧ SqT K H b zs ∧ xs.length + zs.length ≤ sizeLine ∧ Q .non (upd H l (.lst (xs ++ zs)))
theorem mt_extT {X : Cx} : MtR X "list.extend" (rExtT X.K) := by
  intro pn st σ H x vs v us Q J rx rv ⟨l, b, xs, zs, e1, e2, hl, hb, fit, q⟩
  subst e1 e2
  cases rx
  obtain ⟨u, rfl, ru⟩ := rv.one
  cases ru
  obtain ⟨_, its, n, r1, len1, at1⟩ := J.lstM hl
  obtain ⟨its2, r2, ⟨⟨cls, dd, data, sl⟩, at2, hc, m, hd⟩, _⟩ := J.tuple hb
  simp only at hc hd
  subst hc hd
  have s1 : its.toArray.size = xs.length := by rw [List.size_toArray, len1]
  have s2 : its2.toArray.size = zs.length := by rw [List.size_toArray, ← r2.length]
  have nl : ¬(!its.toArray.isEmpty && Builtin.List.listTooLong (its.toArray.size + its2.toArray.size)) = true := by
    rw [notLongL (by omega), Bool.and_false]
    exact Bool.false_ne_true
  refine call_meets F.slot_list_extend ⟨_, at1, rfl⟩ F.entry_list_extend (F.args_list_extend_2 _ _) (extT_meets l b its.toArray its2.toArray n m dd sl nl (by omega) (by omega)) ⟨at1, at2, ?_⟩
  exact ⟨.non, _, J.lset (its' := its ++ its2) hl at1 (by simp) (r1.append r2) (by rw [List.length_append]; omega), rfl, q⟩
theorem kextT {X : Cx} (K : Fg) (h : X.K = K := by rfl) : MtR X "list.extend" (rExtT K) := h ▸ mt_extT
variable {te : TE} {de : TEd}
def dExtT (i : Nat) (de : TEd) : TEd := fun Γ Q => (ownL Γ i).isSome = true ∧ de Γ fun x Γ1 => ∃ ds es, ownL Γ1 i = some ds ∧ tupOf Γ1 x = some es ∧ keepable x es ∧ ds.length + es.length ≤ sizeLine ∧ Q (.sh .none) (putL Γ1 i (ds ++ es))
instance se_extT {i : Nat} [A : SE K te de] : SE K (tBM K "list" (rExtT K) (tVar i) (tCons te tNil)) (dExtT i de) := ⟨fun F W σ Γ Q Qd R ⟨h0, q⟩ k => by
  obtain ⟨ds0, h0⟩ := Option.isSome_iff_exists.mp h0
  obtain ⟨s0, a1, a2, _⟩ := ownL_of h0
  obtain ⟨p, e0⟩ := own_ref R a1 a2
  obtain ⟨vs0, b1, b2⟩ := own_lst R a1 a2 e0
  refine ⟨.ref p, e0, .inl ⟨rfl, _, SqL.of b1⟩, ?_⟩
  refine A.run F W σ Γ _ _ R q fun x W' Γ' v s' R' o ⟨ds, es, h1, e2, hk, hl, q⟩ => ?_
  obtain ⟨s, c1, c2, c3⟩ := ownL_of h1
  obtain ⟨vs, b1, b2⟩ := own_lst R' c1 c2 e0
  obtain ⟨b, ys, rfl, g1, g2, g3⟩ := tupOf_ok R' o e2
  have he := keep_ok R' g2 hk
  have hh : OwnH K (W'.S F) (.lst (vs ++ ys)) (.lst (ds ++ es)) := ⟨_, rfl, b2.app he⟩
  refine ⟨p, b, vs, ys, rfl, rfl, b1, g1.sq, by rw [b2.length, he.length]; exact hl, ?_⟩
  rw [c3] at q
  exact k _ { W' with H := upd W'.H p (.lst (vs ++ ys)) } _ _ (s'.trans (Stp.put R' c1 c2 rfl e0 hh)) (R'.put c1 c2 rfl e0 hh).1 .non q⟩
/-- int(x) of a number or of a truth -/
def rInt1 : List V → Hp → VK → Prop := fun xs H Q => (∃ i, xs = [.int i] ∧ Q (.int i) H) ∨ ∃ k, xs = [.bl k] ∧ Q (.int (if k then 1 else 0)) H
theorem b_int {X : Cx} : CallR X (.type "int") rInt1 := call_int1
def numD : PyData → Option Int
  | .int i => some i
  | .bool b => some (if b then 1 else 0)
  | _ => none
def dInt1 (da : TEd) : TEd := fun Γ Q => da Γ fun x Γ1 => ∃ d i, dat Γ1 x = some d ∧ numD d = some i ∧ Q (.sh (.int i)) Γ1
instance se_int1 [SE K ta da] : SE K (tCB rInt1 (tCons ta tNil)) (dInt1 da) := ⟨fun F W σ Γ Q Qd R q k => one (ta := ta) (da := da) R q fun x W' Γ' v s' R' o ⟨d, i, e, e2, q⟩ => by
  cases d with
  | int j =>
    cases e2
    exact .inl ⟨_, by rw [int_of (o.full R' e)], k _ W' Γ' _ s' R' (.int _) q⟩
  | bool b =>
    cases e2
    exact .inr ⟨_, by rw [bl_of (o.full R' e)], k _ W' Γ' _ s' R' (.int _) q⟩
  | _ => cases e2⟩
end
end Dk

namespace Dk
open PySem PySem.Spec PyProof.Rows L2
/-! ### xs[i] += e -/
theorem get_listP {X : Cx} : PGet X (rIxL X.K) := by
  intro pins s σ H o i ov iv Q I rx ry h
  obtain ⟨p, xs, k, z, rfl, rfl, hq, he, q⟩ := h
  cases rx
  obtain ⟨t, rfl⟩ := ry
  obtain ⟨its, r, pl, hz⟩ := I.list hq
  obtain ⟨j, h1, h2, h3, h4, h5⟩ := atI_get he
  obtain ⟨w, ew, rw'⟩ := r.get h2
  have hl := r.length
  have hn := line63
  have fin : EP X pins σ Q w s := ⟨z, H, I, rw', q⟩
  by_cases h0 : 0 ≤ k
  · have hj : k.toNat = j := by
      rw [seqIndex_of h0 h5] at h1
      exact Option.some.inj h1
    exact wpAny_getItem_list pl.isList h0 (by omega) (by rw [hj]; simpa using ew) fin
  · have hj : (k + (its.toArray.size : Int)).toNat = j := by
      rw [seqIndex_neg (by omega) h4] at h1
      rw [List.size_toArray, ← hl]
      exact Option.some.inj h1
    exact wpAny_getItem_list_neg pl.isList (by omega) (by rw [List.size_toArray] <;> omega) (by omega) (by rw [hj]; simpa using ew) fin
theorem kgetL {X : Cx} (K : Fg) (h : X.K = K := by rfl) : PGet X (rIxL K) := h ▸ get_listP
section
variable {K : Fg} {ti te : TE} {di de : TEd}
def dAugL (i : Nat) (h : Int → Int → Int) (di de : TEd) : TSd := fun E Γ => (ownL Γ i).isSome = true ∧ di Γ fun y Γ1 => ∃ k j ds a, dat Γ1 y = some (.int k) ∧ ownL Γ1 i = some ds ∧ atI ds k = some (.int a) ∧
  de Γ1 fun z Γ2 => ∃ b ds2, dat Γ2 z = some (.int b) ∧ ownL Γ2 i = some ds2 ∧ ixN ds2.length k = some j ∧ E.nx (putL Γ2 i (ds2.set j (.int (h a b))))
instance ss_augL {Xw : WX} {i : Nat} {h : Int → Int → Int} [A : SE K ti di] [B : SE K te de] : SS K Xw (tAugS (tVar i) ti te (rIxL K) (ipI h) rSetL) (dAugL i h di de) := ⟨fun F W σ Γ D E R ⟨h0, q⟩ L => by
  obtain ⟨ds0, h0⟩ := Option.isSome_iff_exists.mp h0
  obtain ⟨s0, a1, a2, _⟩ := ownL_of h0
  obtain ⟨p, e0⟩ := own_ref R a1 a2
  refine ⟨.ref p, e0, A.run F W σ Γ _ _ R q fun y W1 Γ1 u s1 R1 o1 ⟨k, j, ds, a, e1, h1, e2, q⟩ => ?_⟩
  obtain ⟨s, c1, c2, c3⟩ := ownL_of h1
  obtain ⟨vs, b1, b2⟩ := own_lst R1 c1 c2 e0
  obtain ⟨z, g1, g2⟩ := paired_atI (paired_of b2) e2
  refine ⟨p, vs, k, z, rfl, int_of (o1.full R1 e1), SqL.of b1, g1, ?_⟩
  refine B.run F W1 σ Γ1 _ _ R1 q fun y2 W2 Γ2 u2 s2 R2 o2 ⟨b, ds2, e3, h2, e4, q⟩ => ?_
  refine ⟨a, b, int_of g2, int_of (o2.full R2 e3), ?_⟩
  obtain ⟨s', d1, d2, d3⟩ := ownL_of h2
  obtain ⟨vs2, b1', b2'⟩ := own_lst R2 d1 d2 e0
  have hh : OwnH K (W2.S F) (.lst (vs2.set j (.int (h a b)))) (.lst (ds2.set j (.int (h a b)))) := ⟨_, rfl, b2'.setAt (.int _)⟩
  refine ⟨p, vs2, k, j, rfl, int_of (o1.full R1 e1), b1', by rw [b2'.length]; exact e4, ?_⟩
  rw [d3] at q
  exact L.nx { W2 with H := upd W2.H p (.lst (vs2.set j (.int (h a b)))) } σ _ (s1.sh.trans (s2.sh.trans (Stp.put R2 d1 d2 rfl e0 hh).sh)) (R2.put d1 d2 rfl e0 hh).1 q⟩
end
end Dk

namespace Dk
open PySem PySem.Spec PyProof.Rows L2
section
variable {K : Fg} {ta tb : TE} {da db : TEd}
/-! ### list(range(a, b)), xs[::-1] -/
def runD (a b : Int) : List PyData := (List.range (b - a).toNat).map fun (i : Nat) => PyData.int (a + (i : Int))
theorem DqAll.ofRun {H : Hp} (a b : Int) : DqAll K H (rgV a b) (runD a b) := by
  unfold rgV runD
  generalize (b - a).toNat = n
  have h := DqAll.ofInts (K := K) (H := H) ((List.range n).map fun (i : Nat) => a + (i : Int))
  rw [List.map_map, List.map_map] at h
  exact h
def dLstRg2 (da db : TEd) : TFd := fun Γ Q => da Γ fun x Γ1 => db Γ1 fun y Γ2 => ∃ i j, dat Γ2 x = some (.int i) ∧ dat Γ2 y = some (.int j) ∧ RgOk i j ∧ Q (.lst (runD i j)) Γ2
instance sf_lstRg2 [SE K ta da] [SE K tb db] : SEF K (tLstRg (tRg2 ta tb)) (dLstRg2 da db) := ⟨fun F W σ Γ Q Qd R q k => two R q fun x y W' Γ' u v s' R' o1 o2 ⟨i, j, e1, e2, h, q⟩ =>
  ⟨i, j, int_of (o1.full R' e1), int_of (o2.full R' e2), h, fun p hp => k (.lst (runD i j)) W' Γ' p _ s' R' hp ⟨_, rfl, DqAll.ofRun i j⟩ q⟩⟩
def dLstRg1 (da : TEd) : TFd := fun Γ Q => da Γ fun x Γ1 => ∃ j, dat Γ1 x = some (.int j) ∧ RgOk 0 j ∧ Q (.lst (runD 0 j)) Γ1
instance sf_lstRg1 [A : SE K ta da] : SEF K (tLstRg (tRg1 ta)) (dLstRg1 da) := ⟨fun F W σ Γ Q Qd R q k => A.run F W σ Γ _ _ R q fun x W' Γ' u s' R' o1 ⟨j, e1, h, q⟩ =>
  ⟨j, int_of (o1.full R' e1), h, fun p hp => k (.lst (runD 0 j)) W' Γ' p _ s' R' hp ⟨_, rfl, DqAll.ofRun 0 j⟩ q⟩⟩
def dRevL (da : TEd) : TFd := fun Γ Q => da Γ fun x Γ1 => ∃ ds, lstOf Γ1 x = some ds ∧ keepable x ds ∧ Q (.lst ds.reverse) Γ1
instance sf_revL [A : SE K ta da] : SEF K (tRevL K ta) (dRevL da) := ⟨fun F W σ Γ Q Qd R q k => A.run F W σ Γ _ _ R q fun x W' Γ' u s' R' o1 ⟨ds, e1, hk, q⟩ => by
  obtain ⟨a, xs, rfl, h1, h2, _⟩ := lstOf_ok R' o1 e1
  exact ⟨a, xs, rfl, SqL.of h1, fun p hp => k (.lst ds.reverse) W' Γ' p _ s' R' hp ⟨_, rfl, (keep_ok R' h2 hk).reverse⟩ q⟩⟩
theorem krevL {X : Cx} (K : Fg) {e : Expr} {te : TE} {k : Nat} {p1 p2 p3 pos : Pos} (he : PE X e te) (h : X.K = K := by rfl) : PE X (.Subscript e (.Slice none none (some (.UnaryOp .USub (.Constant (.int 1) k p1) p2)) p3) pos) (tRevL K te) := h ▸ pe_revL he
end
/-! ### ranges by steps -/
section
variable {K : Fg} {Xw : WX} {ta : TA} {da : TAd} {g : TG} {dg : TGd} {ix vs : List Nat} {tb : TS} {db : TSd} {tt : TT} {dt : TTd} {te : TE} {de : TEd}
theorem ints3 {H : Hp} {vs : List V} {i j k : Int} (h : DqAll K H vs [.int i, .int j, .int k]) : vs = [.int i, .int j, .int k] := DqAll.ints (ns := [i, j, k]) h
def dForC (da : TAd) (dg : TGd) (db : TSd) : TSd := fun E Γ => da Γ fun xs Γ1 => ∃ lo hi c n, dats Γ1 xs = some [.int lo, .int hi, .int c] ∧ RgC lo hi c n ∧ ∃ I : Nat → G → Prop, I 0 Γ1 ∧
  (∀ k Γ', k < n → I k Γ' → dg (.sh (.int (lo + (k : Int) * c))) Γ' fun Γ3 => db (E.lp (I (k + 1))) Γ3) ∧ ∀ Γ', I n Γ' → E.nx Γ'
instance ss_forR3 [A : SA K ta da] [B : SG K g dg ix] [C : SS K Xw tb db] : SS K Xw (tFor (iRng3 ta) g tb) (dForC da dg db) := ⟨fun F W σ Γ D E R q L => A.run F W σ Γ _ _ R q fun xs W1 Γ1 vs s1 R1 o1 ⟨lo, hi, c, n, e, hr, I, i0, step, done⟩ => by
  refine ⟨lo, hi, c, n, ints3 (o1.full R1 e), hr, ?_⟩
  have s12 := s1.sh
  refine for_rangeC (fun k σ' H' => ∃ W' Γ', W'.H = H' ∧ Same (W1.S F) (W'.S F) ∧ Rel F W' σ' Γ' ∧ I k Γ') ⟨W1, Γ1, rfl, Same.refl _, R1, i0⟩ ?_ ?_
  · rintro k σ' H' hk ⟨W', Γ', rfl, s', R', i'⟩
    refine B.run F W' σ' Γ' _ _ _ _ R' (.int _) (step k Γ' hk i') fun W3 σ3 Γ3 k3 f3 R3 q3 => ?_
    refine C.run F W3 σ3 Γ3 _ _ R3 q3 ⟨fun W4 σ4 Γ4 s4 R4 q4 => ⟨W4, Γ4, rfl, (s'.trans k3.sh).trans s4, R4, q4⟩, fun W4 σ4 Γ4 x4 v4 s4 => L.rt W4 σ4 Γ4 x4 v4 (s12.trans ((s'.trans k3.sh).trans s4)), fun W4 σ4 Γ4 o4 p4 h4 s4 => L.rn W4 σ4 Γ4 o4 p4 h4 (s12.trans ((s'.trans k3.sh).trans s4)), fun W4 σ4 Γ4 s4 => L.nx W4 σ4 Γ4 (s12.trans ((s'.trans k3.sh).trans s4)), fun W4 σ4 Γ4 s4 R4 q4 => ⟨W4, Γ4, rfl, (s'.trans k3.sh).trans s4, R4, q4⟩, fun W4 σ4 Γ4 c4 s4 => L.xs W4 σ4 Γ4 c4 (s12.trans ((s'.trans k3.sh).trans s4))⟩
  · rintro σ' H' ⟨W', Γ', rfl, s', R', i'⟩
    exact L.nx W' σ' Γ' (s12.trans s') R' (done Γ' i')⟩
def dLcC (da : TAd) (dg : TGd) (dt : TTd) (de : TEd) (ix vs : List Nat) : TFd := fun Γ Q => da Γ fun xs Γ2 => ∃ lo hi c n, dats Γ2 xs = some [.int lo, .int hi, .int c] ∧ RgC lo hi c n ∧ ownFree Γ2 vs = true ∧ subL ix vs = true ∧ n ≤ sizeLine ∧
  ∃ I : Nat → List PyData → G → Prop, I 0 [] (wipeG Γ2 vs) ∧ (∀ k acc Γ', k < n → I k acc Γ' → LcTurn dg dt de vs (.sh (.int (lo + (k : Int) * c))) Γ' fun o Γ5 => I (k + 1) (acc ++ o.toList) Γ5) ∧ ∀ acc Γ', I n acc Γ' → Q (.lst acc) (backG Γ2 Γ' vs)
instance sf_lcR3 [A : SA K ta da] [B : SG K g dg ix] [T : ST K tt dt] [C : SE K te de] : SEF K (tLc (iRng3 ta) g tt te vs) (dLcC da dg dt de ix vs) := ⟨fun F W σ Γ Q Qd R q kk => A.run F W σ Γ _ _ R q fun xs W2 Γ2 v s1 R2 o1 ⟨lo, hi, c, n, e, hr, hf, hix, hl, I, i0, step, done⟩ => by
  refine ⟨lo, hi, c, n, ints3 (o1.full R2 e), hr, fun D hD => ?_⟩
  obtain ⟨_, _, _, h0, nrf⟩ := R2.temp (ho := .lst []) hD trivial
  refine lc_it walk_rangeC (LcSt F W2 σ Γ2 vs D I) (lc_begin R2 hD i0) (fun _ _ _ _ => trivial) ?_ ?_
  · rintro k x H' H'' hk ⟨W', Γ', acc, us, rfl, R', t', hd', hu, ha, s', tm', kn', ik', i'⟩ y
    obtain ⟨rfl, rfl⟩ := y
    exact lc_turn (x := .sh (.int _)) hix nrf R' t' hd' hu (by omega) ha s' tm' kn' ik' (.int _) (step k acc Γ' hk i')
  · intro H' h
    exact lc_end R2 hD h0 nrf hf h done fun o W' Γ' p ho s' R' hp oh q => kk o W' Γ' p ho (s1.trans s') R' hp oh q⟩
end
end Dk

namespace Dk
open PySem PySem.Spec PyProof.Rows L2
/-! ### is None -/
def nonD : PyData → Bool
  | .none => true
  | _ => false
def dIsN (f : Bool → Bool) (da db : TEd) : TEd := fun Γ Q => da Γ fun x Γ1 => db Γ1 fun y Γ2 => ∃ a, dat Γ2 x = some a ∧ dat Γ2 y = some .none ∧ Q (.sh (.bool (f (nonD a)))) Γ2
theorem nonD_ok {K : Fg} {H : Hp} {v : V} {d : PyData} (h : Dq K H v d) : decide (v = .non) = nonD d := by
  cases d with
  | none => cases h; rfl
  | bool b => cases h; rfl
  | int b => cases h; rfl
  | str b => cases h; rfl
  | list b => cases h; rfl
  | tuple b => cases h; rfl
  | dict b => cases h; rfl
def rNone (f : Bool → Bool) : R2 := fun x y H Q => y = .non ∧ Q (.bl (f (decide (x = .non)))) H
theorem k_isN {X : Cx} : OpR X (compareOp .Is) (rNone id) := op_isN
theorem k_notN {X : Cx} : OpR X (compareOp .IsNot) (rNone not) := op_notN
section
variable {K : Fg} {ta tb : TE} {da db : TEd}
instance se_isN {f : Bool → Bool} [SE K ta da] [SE K tb db] : SE K (tOp (rNone f) ta tb) (dIsN f da db) := ⟨fun F W σ Γ Q Qd R q k => two R q fun x y W' Γ' u v s' R' o1 o2 ⟨a, e1, e2, q⟩ => by
  have h2 := o2.full R' e2
  cases h2
  refine ⟨rfl, ?_⟩
  rw [nonD_ok (o1.full R' e1)]
  exact k _ W' Γ' _ s' R' (.bl _) q⟩
end
theorem ite_and {c b : Bool} {A : Prop} {Q : RV → G → Prop} {Γ : G} (hA : Q (.sh (.bool b)) Γ → A) (h : ∀ x : Bool, x = (c && b) → Q (.sh (.bool x)) Γ) : if c = true then A else Q (.sh (.bool false)) Γ := by
  cases c with
  | true => exact iteT (hA (h b rfl))
  | false => exact iteF (h false rfl)
theorem ixN_at {n j : Nat} (h : j < n) : ixN n (j : Int) = some j := by
  unfold ixN
  rw [if_pos (by omega), if_pos (by omega)]
  congr 1
/-! ### exceptions -/
/-- an own class over ValueError, without own words -/
structure ExcIn (K : Fg) (mg : Str → Option Value) (x : Str) where
  C : Addr
  g : mg x = some (.ref C)
  x : PySem.W.excIn K C [.type "ValueError", .type "Exception", .type "BaseException", .type "object"] "ValueError.__new__" = true
  k : PySem.W.keepIn K (.ref C) = true
  b : PySem.W.subIn K (.ref C) (.type "BaseException") = some true
  t : PySem.W.typeIn K (.ref C) = some (.type "type")
/-- what a caught one is asked -/
structure ToldIn (K : Fg) (D S B : Addr) : Prop where
  c : ExcC K D
  m : PySem.W.exmOne K (.ref D) (.ref D) = some true
  k1 : PySem.W.kitOne K (.ref D) (.ref S) = some true
  k2 : PySem.W.kitOne K (.ref D) (.type "ValueError") = some true
  k3 : PySem.W.kitOne K (.ref D) (.ref B) = some false
def tRaise (Xw : WX) (c : Value) : TS := fun _ σ H => Xw c none σ H
def dRaise (c : Value) : TSd := fun E Γ => E.xs c Γ
theorem ps_raiseD {X : Cx} {W : WX} {mg : Str → Option Value} {x m : Str} {j : Nat} {p p2 pos pos' : Pos} (e : ExcIn X.K mg x) (hc : X.calm = true) (tk : Takes X W) (hg : Gl X x) (hm : X.mg = mg) (hdb : (x == ("__debug__" : Str)) = false := by decide) :
    PS X (.Raise (some (.Call (.Name x p) [.Constant (.str m) j p2] [] pos)) none pos') (tRaise W (.ref e.C)) := by
  subst hm
  exact ps_raise hc tk (pmk_own PySem.F.excBase_ValueError e.x e.g e.k (raises_own e.b e.t) hg hdb)
/-- a promise in data of a def that may raise -/
def PureXSp (K : Fg) (C : List PyData → (PyData → Prop) → (Value → Prop) → Prop) : Sp := fun vs H Q E => ∃ (ds : List PyData) (Qd : PyData → Prop) (Qx : Value → Prop), DqAll K H vs ds ∧ C ds Qd Qx ∧ (∀ (v : V) (H' : Hp) (d : PyData), Same H H' → Dq K (less H' fun a => Mo (H a)) v d → Qd d → Q v H') ∧ ∀ (c : Value) (H' : Hp), Same H H' → Qx c → E c none H'
section
variable {K : Fg} {Xw : WX} {t : TA} {d : TAd} {g : TG} {dg : TGd} {ix : List Nat} {C : List PyData → (PyData → Prop) → (Value → Prop) → Prop}
instance ss_raise {c : Value} : SS K Xw (tRaise Xw c) (dRaise c) := ⟨fun F W σ Γ D E R q L => L.xs W σ Γ c (Same.refl _) R q⟩
theorem callX {F : Fx K} {W : Wd} {σ : L2.St} {Γ : G} {Q : VK} {E : XK} {Qd : PyData → G → Prop} {Qx : Value → G → Prop} [A : SA K t d] (R : Rel F W σ Γ) (q : d Γ fun xs Γ1 => ∃ ds, dats Γ1 xs = some ds ∧ C ds (fun r => Qd r Γ1) fun c => Qx c Γ1)
    (k : ∀ (r : PyData) (W' : Wd) (Γ' : G) (v : V), Stp F W Γ W' Γ' → Rel F W' σ Γ' → VOk F W' σ Γ' v (.sh r) → Qd r Γ' → Q v W'.H) (kx : ∀ (c : Value) (W' : Wd) (Γ' : G), Stp F W Γ W' Γ' → Rel F W' σ Γ' → Qx c Γ' → E c none W'.H) : t σ W.H fun vs H1 => PureXSp K C vs H1 Q E := by
  refine A.run F W σ Γ _ _ R q fun xs W' Γ' vs s' R' o1 ⟨ds, e1, q⟩ => ?_
  refine ⟨ds, _, _, o1.full R' e1, q, fun v H' r hS hv hq => ?_, fun c H' hS hq => ?_⟩
  · refine k r { W' with H := H' } Γ' v (s'.trans (Stp.grow R' hS)) (R'.grow hS).1 (.ofSh ?_) hq
    exact hv.same (same_less fun a o nx e => ⟨fun z => nx (R'.exmo z), e⟩)
  · exact kx c { W' with H := H' } Γ' (s'.trans (Stp.grow R' hS)) (R'.grow hS).1 hq
def dAsgX (C : List PyData → (PyData → Prop) → (Value → Prop) → Prop) (d : TAd) (g : TGd) : TSd := fun E Γ => d Γ fun xs Γ1 => ∃ ds, dats Γ1 xs = some ds ∧ C ds (fun r => g (.sh r) Γ1 E.nx) fun c => E.xs c Γ1
instance ss_asgX [A : SA K t d] [B : SG K g dg ix] : SS K Xw (tAsg (tCallS (PureXSp K C) (WE Xw) t) g) (dAsgX C d dg) := ⟨fun F W σ Γ D E R q L => callX (t := t) (d := d) (C := C) (Qd := fun r Γ1 => dg (.sh r) Γ1 E.nx) (Qx := E.xs) R q (fun r W' Γ' v s R' o q => B.run F W' σ Γ' v _ _ _ R' o q fun W2 σ2 Γ2 s2 _ R2 q => L.nx W2 σ2 Γ2 (s.sh.trans s2.sh) R2 q) fun c W' Γ' s R' q => L.xs W' σ Γ' c s.sh R' q⟩
def dRetX (C : List PyData → (PyData → Prop) → (Value → Prop) → Prop) (d : TAd) : TSd := fun E Γ => d Γ fun xs Γ1 => ∃ ds, dats Γ1 xs = some ds ∧ C ds (fun r => E.rt (.sh r) Γ1) fun c => E.xs c Γ1
instance ss_retX [A : SA K t d] : SS K Xw (tRet (tCallS (PureXSp K C) (WE Xw) t)) (dRetX C d) := ⟨fun F W σ Γ D E R q L => callX (t := t) (d := d) (C := C) (Qd := fun r Γ1 => E.rt (.sh r) Γ1) (Qx := E.xs) R q (fun r W' Γ' v s R' o q => L.rt W' σ Γ' _ v s.sh R' o q) fun c W' Γ' s R' q => L.xs W' σ Γ' c s.sh R' q⟩
def dDropX (C : List PyData → (PyData → Prop) → (Value → Prop) → Prop) (d : TAd) : TSd := fun E Γ => d Γ fun xs Γ1 => ∃ ds, dats Γ1 xs = some ds ∧ C ds (fun _ => E.nx Γ1) fun c => E.xs c Γ1
instance ss_dropX [A : SA K t d] : SS K Xw (tDrop (tCallS (PureXSp K C) (WE Xw) t)) (dDropX C d) := ⟨fun F W σ Γ D E R q L => callX (t := t) (d := d) (C := C) (Qd := fun _ Γ1 => E.nx Γ1) (Qx := E.xs) R q (fun r W' Γ' v s R' o q => L.nx W' σ Γ' s.sh R' q) fun c W' Γ' s R' q => L.xs W' σ Γ' c s.sh R' q⟩
end
/-! a call that raises nothing where it stands: as one that never may -/
def dCallN (C : List PyData → (PyData → Prop) → (Value → Prop) → Prop) (d : TAd) : TEd := fun Γ Q => d Γ fun xs Γ1 => ∃ ds, dats Γ1 xs = some ds ∧ C ds (fun r => Q (.sh r) Γ1) fun _ => False
instance se_callN {K : Fg} {t : TA} {d : TAd} {C : List PyData → (PyData → Prop) → (Value → Prop) → Prop} {E : XK} [A : SA K t d] : SE K (tCall (PureXSp K C) [] E t) (dCallN C d) := ⟨fun F W σ Γ Q Qd R q k => by
  have := callX (t := t) (d := d) (C := C) (Q := Q) (E := E) (Qd := fun r Γ1 => Qd (.sh r) Γ1) (Qx := fun _ _ => False) R q (fun r W' Γ' v s R' o q => k _ W' Γ' v s R' o q) fun c W' Γ' s R' q => q.elim
  simp only [tCall, List.append_nil]
  exact this⟩
/-! ### try: x = f(..) except X as e: y = (isinstance(e, ..), isinstance(e, ..), isinstance(e, ..)) -/
def vOf : V → Option Value
  | .ref a => some (.ref a)
  | .ty n => some (.type n)
  | _ => none
theorem vOf_ok {c : V} {cv u : Value} (h : vOf c = some cv) (r : RelV c u) : u = cv := by
  cases c with
  | ref a => cases h; cases r; rfl
  | ty n => cases h; cases r; rfl
  | _ => cases h
def tIs (D : Addr) (cls : Value) (d : Option Addr) (t : TS) : TS := fun Dn σ H => cls = .ref D ∧ d = none ∧ t Dn σ H
abbrev tAsk (K : Fg) (D a : Addr) (i : Nat) (c : V) : TE := tCB (rIsE K D a) (tCons (tVar i) (tCons (tC c) tNil))
abbrev tTold (K : Fg) (D a : Addr) (i l : Nat) (c1 c2 c3 : V) : TS := tAsg (tTup (tCons (tAsk K D a i c1) (tCons (tAsk K D a i c2) (tCons (tAsk K D a i c3) tNil)))) (gName l)
def tTry (K : Fg) (c : Value) (i : Nat) (tb : WX → TS) (ts : Addr → Value → Option Addr → TS) (Wout : WX) : TS := fun D σ H => tb (wAs K c i ts Wout D) D σ H
theorem ps_tryD {X : Cx} {x n : Str} {c : Value} {i : Nat} {body suite : List Stmt} {b₀ : Stmt} {np pos pos' : Pos} {tb : WX → TS} {D : Addr} {ts : Addr → TS} {Wout : WX} (hs : X.stack = X.env :: X.outer) (hf : X.env.frame = some X.env.locals) (hN : X.N.Nodup) (hi : X.N[i]? = some n) (hln : X.env.kindOf n = some .local) (hc : Names X x c) (tk : Takes X Wout)
    (hb : ∀ (W : WX) (pn : List (Addr × Obj)) (xe : Value → Shared → Prop), Takes (X.tr pn xe) W → PassesOwn (model X.prog X.w) X.A X.env xe → PSs (X.tr pn xe) body (tb W))
    (hsu : ∀ (a : Addr) (oe : Obj) (pn : List (Addr × Obj)), Zc (.ref D) none oe → (∃ vs, oe.data = .fields vs) → PSs (X.suite a ((a, oe) :: pn)) (b₀ :: suite) (ts a)) :
    PS X (.Try body [.ExceptHandler (some (.Name x np)) (some n) (b₀ :: suite) pos'] [] [] pos) (tTry X.K c i tb (fun a cls d => tIs D cls d (ts a)) Wout) :=
  ps_try_as hs hf hN hi hln hc tk hb fun a oe cls d pn hz hv => ⟨fun pins s σ H Dn I h => by
    obtain ⟨rfl, rfl, h⟩ := h
    exact (hsu a oe pn hz hv).run pins s σ H Dn I h⟩
section
variable {K : Fg} {Xw : WX} {t : TA} {d : TAd} {C : List PyData → (PyData → Prop) → (Value → Prop) → Prop}
def dTry (K : Fg) (c : Value) (i j l : Nat) (D : Addr) (c1 c2 c3 : V) (C : List PyData → (PyData → Prop) → (Value → Prop) → Prop) (d : TAd) : TSd := fun E Γ => d Γ fun xs Γ1 => ∃ ds, dats Γ1 xs = some ds ∧ C ds (fun r => E.nx (Γ1.set j (.sh r)))
  fun cx => cx = .ref D ∧ PySem.W.exmOne K (.ref D) c = some true ∧ ∃ v1 v2 v3 b1 b2 b3, vOf c1 = some v1 ∧ vOf c2 = some v2 ∧ vOf c3 = some v3 ∧ PySem.W.kitOne K (.ref D) v1 = some b1 ∧ PySem.W.kitOne K (.ref D) v2 = some b2 ∧ PySem.W.kitOne K (.ref D) v3 = some b3 ∧ i < Γ1.length ∧ i ≠ l ∧ E.nx (((Γ1.set i .no).set l (.sh (.tuple [.bool b1, .bool b2, .bool b3]))).set i .no)
instance ss_try {c : Value} {i j l : Nat} {D : Addr} {c1 c2 c3 : V} [A : SA K t d] : SS K Xw (tTry K c i (fun W => tAsg (tCallS (PureXSp K C) (WE W) t) (gName j)) (fun a cls dd => tIs D cls dd (tTold K D a i l c1 c2 c3)) Xw) (dTry K c i j l D c1 c2 c3 C d) := ⟨fun F W σ Γ Dn E R q L => by
  refine callX (t := t) (d := d) (C := C) (Qd := fun r Γ1 => E.nx (Γ1.set j (.sh r))) R q (fun r W' Γ' v s R' o q => ?_) fun cx W' Γ' s R' q => ?_
  · exact L.nx W' _ _ s.sh (R'.setSh o) q
  · obtain ⟨rfl, hm, v1, v2, v3, b1, b2, b3, w1, w2, w3, k1, k2, k3, hi, ne, q⟩ := q
    refine ⟨true, hm, fun _ a ha => ⟨rfl, rfl, ?_⟩, fun z => nomatch z⟩
    have hl : i < σ.length := by rw [R'.len]; exact hi
    have ei : (σ.set i (some (.ref a)))[i]? = some (some (V.ref a)) := List.getElem?_set_self hl
    refine ⟨_, ei, c1, v1, b1, rfl, fun u r => vOf_ok w1 r, k1, ?_⟩
    refine ⟨_, ei, c2, v2, b2, rfl, fun u r => vOf_ok w2 r, k2, ?_⟩
    refine ⟨_, ei, c3, v3, b3, rfl, fun u r => vOf_ok w3 r, k3, ?_⟩
    refine ⟨by show 3 ≤ sizeLine; decide, fun p hp => ?_⟩
    have hS := same_new (o := .tup [V.bl b1, .bl b2, .bl b3]) hp
    have R2 := (R'.grow hS).1
    have ok : Dq K (({ W' with H := upd W'.H p (.tup [V.bl b1, .bl b2, .bl b3]) } : Wd).S F) (.ref p) (.tuple [.bool b1, .bool b2, .bool b3]) :=
      .tup (.inl (S_of (W := { W' with H := upd W'.H p (.tup [V.bl b1, .bl b2, .bl b3]) }) (R'.free hp) upd_same)) (.cons (.bl _) (.cons (.bl _) (.cons (.bl _) .nil)))
    exact L.nx { W' with H := upd W'.H p (.tup [V.bl b1, .bl b2, .bl b3]) } _ _ (s.sh.trans (R'.grow hS).2) (((R2.setNo).setSh ok).setNo) q⟩
end
/-! ### defs that may raise -/
section
variable {P : Program} {w : World} {K : Fg} {mg : Str → Option Value} {base : Heap}
abbrev PXEnds (Qd : PyData → Prop) (Qx : Value → Prop) : DE := { nx := fun _ => Qd .none, rt := fun x Γ => ∃ r, retOf Γ x = some r ∧ Qd r, rn := fun o _ => ∃ xs, o = .lst xs ∧ Qd (.list xs), xs := fun c _ => Qx c }
theorem pureX_ok {x qual : Str} {st : Stmt} {f : Addr} {fd : FuncData} {N ps : List Str} {k : Nat} {C : List PyData → (PyData → Prop) → (Value → Prop) → Prop} (Fn : L2.Fun K x qual st f fd) (S : FnScope N ps (defScope st)) (hl : ∀ ds Qd Qx, C ds Qd Qx → ds.length = ps.length)
    (hbody : ∀ (cdv : Value) (A : Around) (outer : List Env) (s : Shared) (H : Hp) (E : XK), Room k (A.deeper (envOfC qual (defScope st) s.heap.objs.size f cdv)) →
      ∃ t, PSs (cxOf (L2.CX P w) P w K mg base N qual (defScope st) f cdv A outer s H E) (defBody st) t ∧ ∃ d, SS K (fun cls d _ H => E cls d H) t d ∧ ∀ ds Qd Qx, C ds Qd Qx → ∃ sl, Paired argOk sl ds ∧ d (PXEnds Qd Qx) (startG N sl)) : FnOk P w K mg base (L2.CX P w) (k + 1) f fd ps (PureXSp K C) := by
  refine Fn.okX S (fun vs H Q E h => ?_) (fun cdv A outer s H vs Q E hr h => ?_)
  · obtain ⟨ds, Qd, Qx, h1, h2, _⟩ := h
    rw [h1.length]
    exact hl ds Qd Qx h2
  · obtain ⟨ds, Qd, Qx, h1, h2, q, qx⟩ := h
    obtain ⟨t, ht, d, hs, hd⟩ := hbody cdv A outer s H E hr
    obtain ⟨sl, ha, hd⟩ := hd ds Qd Qx h2
    refine ⟨t, ht, hs.run (F0 K H) ⟨fun _ => False, fun _ => [], H⟩ (start N vs) (startG N sl) _ _ (rel_start h1 ha) hd ⟨fun W σ Γ _ R e => ?_, fun W σ Γ y v _ R o ⟨r, e, z⟩ => ?_, fun W σ Γ o p ho _ R hp oh ⟨xs, e, z⟩ => ?_, fun W σ Γ _ R e => e, fun W σ Γ _ R e => e, fun W σ Γ c _ R e => ?_⟩⟩
    · exact q .non W.H .none (fun a o e => R.base a o e fun z => z) .non e
    · exact q v W.H r (fun a o e => R.base a o e fun z => z) (ret_ok R o e) z
    · subst e
      obtain ⟨us, rfl, hu⟩ := oh
      have h0 : H p = none := by
        cases e : H p with
        | none => rfl
        | some o => have := R.base p o e (fun z => z); rw [hp] at this; cases this
      refine q (.ref p) _ (.list xs) (fun a o e => ?_) (.lst (less_some.mpr ⟨by rw [h0]; exact fun z => z, upd_same⟩) (hu.same (same_less fun a o nx e => ⟨fun z => nx (.inl z), ?_⟩))) z
      · have b := R.base a o e (fun z => z)
        rw [upd_ne (ne_of_none b hp)]
        exact b
      · rw [upd_ne (ne_of_none e hp)]
        exact e
    · exact qx c W.H (fun a o e => R.base a o e fun z => z) e
end
end Dk

namespace Dk
open PySem PySem.Spec PyProof.Rows L2
/-! ### how numbers, pairs, patterns, rounds stand as data -/
/-- plain data of a depth -/
def Shp (n : Nat) (d : PyData) : Prop := d.canLay0 = true ∧ d.depth ≤ n
theorem Shp.int (i : Int) : Shp 0 (.int i) := ⟨by simp [PyData.canLay0], by simp [PyData.depth]⟩
theorem Shp.bool (i : Bool) : Shp 0 (.bool i) := ⟨by simp [PyData.canLay0], by simp [PyData.depth]⟩
theorem Shp.none : Shp 0 .none := ⟨by simp [PyData.canLay0], by simp [PyData.depth]⟩
theorem Shp.mono {n m : Nat} {d : PyData} (h : Shp n d) (l : n ≤ m) : Shp m d := ⟨h.1, Nat.le_trans h.2 l⟩
theorem shp_all {n : Nat} : ∀ {ds : List PyData}, (∀ d ∈ ds, Shp n d) → PyData.canLayAll0 ds = true ∧ PyData.depthAll ds ≤ n
  | [], _ => ⟨by simp [PyData.canLayAll0], by simp [PyData.depthAll]⟩
  | d :: ds, h => by
    obtain ⟨h1, h2⟩ := h d (by simp)
    obtain ⟨h3, h4⟩ := shp_all fun x hx => h x (List.mem_cons_of_mem _ hx)
    refine ⟨by simp [PyData.canLayAll0, h1, h3], ?_⟩
    simp only [PyData.depthAll]
    omega
theorem Shp.tup {n : Nat} {ds : List PyData} (h : ∀ d ∈ ds, Shp n d) : Shp (n + 1) (.tuple ds) := by
  obtain ⟨h1, h2⟩ := shp_all h
  refine ⟨by simpa [PyData.canLay0] using h1, ?_⟩
  simp only [PyData.depth]
  omega
theorem Shp.list {n : Nat} {ds : List PyData} (h : ∀ d ∈ ds, Shp n d) : Shp (n + 1) (.list ds) := by
  obtain ⟨h1, h2⟩ := shp_all h
  refine ⟨by simpa [PyData.canLay0] using h1, ?_⟩
  simp only [PyData.depth]
  omega
theorem Shp.ok {n : Nat} {d : PyData} (h : Shp n d) (l : n ≤ 64 := by decide) : SeqAt.shaped d = true := by
  show (d.canLay0 && decide (d.depth ≤ 64)) = true
  rw [Bool.and_eq_true]
  exact ⟨h.1, decide_eq_true (Nat.le_trans h.2 l)⟩
theorem Shp.refl {n : Nat} {d : PyData} (h : Shp n d) : PyData.eqv d d = true := SeqAt.eqv_refl d h.1
/-- things that are equal just where their data are -/
class EqE {α : Type} [DecidableEq α] (e : α → PyData) : Prop where
  eq : ∀ x y, PyData.eqv (e x) (e y) = decide (x = y)
theorem eqvAll_map {α : Type} [DecidableEq α] {e : α → PyData} [h : EqE e] : ∀ xs ys : List α, PyData.eqvAll (xs.map e) (ys.map e) = decide (xs = ys)
  | [], [] => by simp [PyData.eqvAll]
  | [], _ :: _ => by simp [PyData.eqvAll]
  | _ :: _, [] => by simp [PyData.eqvAll]
  | x :: xs, y :: ys => by
    simp only [List.map_cons, PyData.eqvAll, h.eq, eqvAll_map xs ys]
    by_cases e1 : x = y
    · by_cases e2 : xs = ys <;> simp [e1, e2]
    · simp [e1]
def ePair (x : Int × Int) : PyData := .tuple [.int x.1, .int x.2]
def ePat (xs : Pt.Pat) : PyData := .tuple (xs.map ePair)
def ePairs (xs : Pt.Pat) : PyData := .list (xs.map ePair)
def eRound (r : Int × Pt.Pat) : PyData := .tuple [.int r.1, ePat r.2]
theorem ePair_tupO (x : Int × Int) : tupO (ePair x) = true := rfl
theorem map_tupO {α : Type} {e : α → PyData} (h : ∀ x, tupO (e x) = true) : ∀ xs : List α, tupOs (xs.map e) = true
  | [] => rfl
  | x :: xs => by
    simp only [List.map_cons, tupOs, h x, map_tupO h xs]
    rfl
theorem ePairs_tupO (xs : Pt.Pat) : tupOs (xs.map ePair) = true := map_tupO ePair_tupO xs
theorem ePat_tupO (xs : Pt.Pat) : tupO (ePat xs) = true := ePairs_tupO xs
theorem eRound_tupO (r : Int × Pt.Pat) : tupO (eRound r) = true := by
  show (tupO (.int r.1) && (tupO (ePat r.2) && true)) = true
  rw [ePat_tupO]
  rfl
theorem ePair_shp (x : Int × Int) : Shp 1 (ePair x) := Shp.tup fun d hd => by
  simp only [List.mem_cons, List.not_mem_nil, or_false] at hd
  rcases hd with rfl | rfl <;> exact Shp.int _
theorem ePat_shp (xs : Pt.Pat) : Shp 2 (ePat xs) := Shp.tup fun d hd => by
  obtain ⟨x, _, rfl⟩ := List.mem_map.mp hd
  exact ePair_shp x
theorem ePairs_shp (xs : Pt.Pat) : Shp 2 (ePairs xs) := Shp.list fun d hd => by
  obtain ⟨x, _, rfl⟩ := List.mem_map.mp hd
  exact ePair_shp x
theorem eRound_shp (r : Int × Pt.Pat) : Shp 3 (eRound r) := Shp.tup fun d hd => by
  simp only [List.mem_cons, List.not_mem_nil, or_false] at hd
  rcases hd with rfl | rfl
  · exact (Shp.int _).mono (by decide)
  · exact ePat_shp _
instance eqe_pair : EqE ePair := ⟨fun x y => by
  simp only [ePair, PyData.eqv, PyData.eqvAll, Bool.and_true]
  obtain ⟨a, b⟩ := x
  obtain ⟨c, d⟩ := y
  simp only [Prod.mk.injEq]
  by_cases h1 : a = c <;> by_cases h2 : b = d <;> simp [h1, h2]⟩
instance eqe_pat : EqE ePat := ⟨fun x y => by
  simp only [ePat, PyData.eqv]
  exact eqvAll_map x y⟩
instance eqe_pairs : EqE ePairs := ⟨fun x y => by
  simp only [ePairs, PyData.eqv]
  exact eqvAll_map x y⟩
instance eqe_round : EqE eRound := ⟨fun x y => by
  simp only [eRound, PyData.eqv, PyData.eqvAll, Bool.and_true, eqe_pat.eq]
  obtain ⟨a, b⟩ := x
  obtain ⟨c, d⟩ := y
  simp only [Prod.mk.injEq]
  by_cases h1 : a = c <;> by_cases h2 : b = d <;> simp [h1, h2]⟩
end Dk

namespace Dk
open PySem PySem.Spec PyProof.Rows L2
/-! ### contracts and what they lean on -/
def sumsD (p : Int) (xs : Pt.Pat) : List (Key × PyData) := (Pt.keys xs).map fun k => (Sum.inl k, .int (Pt.sumAt xs k % p))
theorem valD_map (ks : List Int) (f : Int → PyData) (k : Int) : valD (ks.map fun j => ((Sum.inl j : Key), f j)) (Sum.inl k) = if k ∈ ks then some (f k) else none := by
  induction ks with
  | nil => rfl
  | cons j r ih =>
    by_cases e : j = k
    · subst e
      simp [valD, List.find?_cons]
    · have h1 : ¬ (Sum.inl j : Key) = Sum.inl k := fun z => e (Sum.inl.inj z)
      have h2 : valD ((j :: r).map fun j => ((Sum.inl j : Key), f j)) (Sum.inl k) = valD (r.map fun j => ((Sum.inl j : Key), f j)) (Sum.inl k) := by
        simp [valD, List.find?_cons, h1]
      rw [h2, ih]
      simp [Ne.symm e]
theorem putD_map (ks : List Int) (f : Int → PyData) (k : Int) (v : PyData) : putD (ks.map fun j => ((Sum.inl j : Key), f j)) (Sum.inl k) v = (Pt.addK ks k).map fun j => ((Sum.inl j : Key), if j = k then v else f j) := by
  have ha : ((ks.map fun j => ((Sum.inl j : Key), f j)).any fun kv => decide (kv.1 = Sum.inl k)) = decide (k ∈ ks) := by
    rw [Bool.eq_iff_iff]
    simp
  unfold putD Pt.addK
  rw [ha]
  by_cases h : k ∈ ks
  · simp only [h, decide_true, if_true]
    rw [List.map_map]
    refine List.map_congr_left fun j hj => ?_
    simp only [Function.comp]
    by_cases e : j = k
    · subst e
      simp
    · have h1 : ¬ (Sum.inl j : Key) = Sum.inl k := fun z => e (Sum.inl.inj z)
      rw [if_neg h1, if_neg e]
  · simp only [h, decide_false, if_false, Bool.false_eq_true]
    rw [List.map_append]
    congr 1
    · refine List.map_congr_left fun j hj => ?_
      rw [if_neg (fun z : j = k => h (z ▸ hj))]
    · simp
theorem sums_turn {p : Int} (xs : Pt.Pat) (x : Int × Int) : putD (sumsD p xs) (Sum.inl x.1) (.int ((((if x.1 ∈ Pt.keys xs then Pt.sumAt xs x.1 % p else 0) + x.2) % p))) = sumsD p (xs ++ [x]) := by
  unfold sumsD
  rw [putD_map, Pt.keys_snoc]
  refine List.map_congr_left fun j hj => ?_
  rw [Pt.sumAt_app]
  simp only [Pt.sumAt]
  by_cases e : j = x.1
  · subst e
    rw [if_pos rfl, if_pos rfl]
    split
    · rw [Int.emod_add_emod]
      congr 2
      congr 1
      omega
    · rename_i h
      rw [Pt.sumAt_none (fun y hy z => h ((Pt.mem_keys xs x.1).mpr ⟨y, hy, z⟩))]
      congr 2
      congr 1
      omega
  · rw [if_neg e, if_neg (Ne.symm e)]
    congr 2
    congr 1
    omega
theorem ePair_pick (p : Int) (xs : Pt.Pat) (ys : List Int) : ys.filterMap (fun k => (Pt.pick p xs k).map ePair) = (ys.filterMap (Pt.pick p xs)).map ePair := by
  rw [List.map_filterMap]
def cTidy : List PyData → (PyData → Prop) → Prop := fun ds Qd => ∃ (p : Int) (xs : Pt.Pat), ds = [.int p, ePairs xs] ∧ 0 < p ∧ (Pt.keys xs).length ≤ 13000000 ∧ Qd (ePat (Pt.tidy p xs))
/-! the draws: a list of the script's numbers, a place, a number, a seed -/
def IsDraw : Hp → Addr → List Addr → Prop := fun H p f => ∃ (l : Addr) (ns : List Int) (pos left seed : Int), f = [p, l] ∧ p ≠ l ∧ H p = some (.lst [.ref l, .int pos, .int left, .int seed]) ∧ H l = some (.lst (ns.map V.int)) ∧ 0 ≤ pos ∧ 0 ≤ left
instance abDraw : AbI IsDraw where
  mem := fun h => by
    obtain ⟨l, ns, pos, left, seed, rfl, _⟩ := h
    simp
  mo := fun h => by
    obtain ⟨l, ns, pos, left, seed, rfl, ne, h1, h2, _⟩ := h
    intro a ha
    simp only [List.mem_cons, List.not_mem_nil, or_false] at ha
    rcases ha with rfl | rfl
    · rw [h1]; exact ⟨trivial, trivial⟩
    · rw [h2]; exact ⟨trivial, trivial⟩
  st := fun h hk _ => by
    obtain ⟨l, ns, pos, left, seed, rfl, ne, h1, h2, h3⟩ := h
    exact ⟨l, ns, pos, left, seed, rfl, ne, (hk _ (by simp)).trans h1, (hk _ (by simp)).trans h2, h3⟩
def spBegin (K : Fg) : Sp := fun vs H Q _ => ∃ (a : Addr) (ns : List Int), vs = [.ref a] ∧ SqL K H a (ns.map V.int) ∧ ∀ (p : Addr) (f : List Addr) (H' : Hp), Same H H' → (∀ x ∈ f, H x = none) → IsDraw H' p f → Q (.ref p) H'
section
variable {P : Program} {w : World} {K : Fg} {mg : Str → Option Value} {base : Heap}
/-! the law's own def: the first line makes the draws -/
def spLaw (K : Fg) : Sp := fun vs H Q _ => ∃ (a : Addr) (ns : List Int), vs = [.ref a] ∧ SqL K H a (ns.map V.int) ∧ ∀ H', Q (.bl true) H'
abbrev LEnds : DE := { nx := fun _ => False, rt := fun x Γ => dat Γ x = some (.bool true) }
def lawG (N : List Str) : G := .no :: .ow (.ab IsDraw) :: List.replicate (N.length - 2) .no
theorem law_ok {st : Stmt} {f : Addr} {fd : FuncData} {N : List Str} {k : Nat} (Fn : L2.Fun K "law" "law" st f fd) (S : FnScope N ["_law_script"] (defScope st)) (hN : 2 ≤ N.length)
    (hbody : ∀ (cdv : Value) (A : Around) (outer : List Env) (s : Shared) (H : Hp) (E : XK), Room k (A.deeper (envOfC "law" (defScope st) s.heap.objs.size f cdv)) →
      ∃ (E' : XK) (t : TS), PSs (cxOf CX0 P w K mg base N "law" (defScope st) f cdv A outer s H E).nox (defBody st) (tSeq (tAsg (tCall (spBegin K) [] E' (tCons (tVar 0) tNil)) (gName 1)) t) ∧ ∃ d, SS K X0 t d ∧ d LEnds (lawG N)) : FnOk P w K mg base CX0 (k + 1) f fd ["_law_script"] (spLaw K) := by
  refine Fn.ok S (fun vs H Q E h => ?_) (fun cdv A outer s H vs Q E hr h => ?_)
  · obtain ⟨a, ns, rfl, _⟩ := h
    rfl
  · obtain ⟨a, ns, rfl, hS, q⟩ := h
    obtain ⟨E', t, ht, d, hs, hd⟩ := hbody cdv A outer s H E hr
    refine ⟨_, ht, .ref a, start_get rfl, a, ns, rfl, hS, fun p g H' sm nf hI => ?_⟩
    have hl : ((L2.start N [V.ref a]).set 1 (some (.ref p))).length = (lawG N).length := by
      simp [L2.start, lawG]
      omega
    have own : ∀ (i : Nat) (u : Sl) (o : OD), (lawG N)[i]? = some u → u.own? = some o → i = 1 ∧ u = .ow (.ab IsDraw) := fun i u o e1 e2 => by
      match i, e1 with
      | 0, e1 => cases e1; cases e2
      | 1, e1 => cases e1; exact ⟨rfl, rfl⟩
      | i + 2, e1 =>
        simp only [lawG, List.getElem?_cons_succ, List.getElem?_replicate] at e1
        split at e1
        · cases e1; cases e2
        · cases e1
    refine hs.run (F0 K fun _ => none) ⟨fun x => x ∈ g, fun i => if i = 1 then g else [], H'⟩ _ (lawG N) _ LEnds ⟨(fun _ _ e => by cases e), (fun _ _ => .inl rfl), fun x hx => (AbI.mo hI x hx).1, fun _ z => z.elim, hl, fun i u e => ?_, fun i j u v oi oj x ne e1 e2 g1 g2 => ?_⟩ hd ⟨fun W σ Γ _ R e => e.elim, fun W σ Γ x v _ R o e => ?_, fun W σ Γ o p ho _ R hp oh e => e.elim, fun W σ Γ _ R e => e, fun W σ Γ _ R e => e, fun W σ Γ c _ R e => e⟩
    · cases u with
      | no => trivial
      | sh d => 
        exfalso
        match i, e with
        | 0, e => cases e
        | 1, e => cases e
        | i + 2, e =>
          simp only [lawG, List.getElem?_cons_succ, List.getElem?_replicate] at e
          split at e <;> cases e
      | ar d =>
        exfalso
        match i, e with
        | 0, e => cases e
        | 1, e => cases e
        | i + 2, e =>
          simp only [lawG, List.getElem?_cons_succ, List.getElem?_replicate] at e
          split at e <;> cases e
      | ow o =>
        obtain ⟨rfl, e2⟩ := own i _ o e rfl
        cases e2
        refine ⟨p, ?_, fun x hx => ⟨hx, fun z => z⟩, AbI.mem hI, hI, (fun H'' hk ht => AbI.st hI hk ht), fun a ha => AbI.mo hI a ha⟩
        refine List.getElem?_set_self ?_
        simp [L2.start]
        omega
      | rf o =>
        obtain ⟨_, e2⟩ := own i _ o e rfl
        cases e2
      | ro d =>
        exfalso
        match i, e with
        | 0, e => cases e
        | 1, e => cases e
        | i + 2, e =>
          simp only [lawG, List.getElem?_cons_succ, List.getElem?_replicate] at e
          split at e <;> cases e
    · exact absurd ((own i u oi e1 g1).1.trans (own j v oj e2 g2).1.symm) ne
    · rw [bl_of (o.full R e)]
      exact q _
end
def cTake : List PyData → (PyData → Prop) → Prop := fun ds Qd => ∃ m : Int, ds = [.int m] ∧ 0 < m ∧ m < 1073741824 ∧ ∀ r : Int, 0 ≤ r → r < m → Qd (.int r)
def GoodP (p : Int) : Prop := p = 2 ∨ p = 3 ∨ p = 5 ∨ p = 7
theorem GoodP.pos {p : Int} (h : GoodP p) : 0 < p := by unfold GoodP at h; omega
theorem GoodP.le {p : Int} (h : GoodP p) : p ≤ 7 := by unfold GoodP at h; omega
theorem GoodP.two {p : Int} (h : GoodP p) : 2 ≤ p := by unfold GoodP at h; omega
def cP : List PyData → (PyData → Prop) → Prop := fun ds Qd => ds = [] ∧ ∀ p : Int, GoodP p → Qd (.int p)
def cWide : List PyData → (PyData → Prop) → Prop := fun ds Qd => ds = [] ∧ ∀ n : Int, -(10 ^ 22) < n → n < 10 ^ 22 → Qd (.int n)
def cAt : List PyData → (PyData → Prop) → Prop := fun ds Qd => ∃ (xs : Pt.Pat) (k : Int), ds = [ePat xs, .int k] ∧ Qd (.int (Pt.at_ xs k))
theorem at_pre {pre post : Pt.Pat} {x : Int × Int} {k : Int} (h : ∀ y ∈ pre, y.1 ≠ k) : Pt.at_ (pre ++ x :: post) k = if x.1 = k then x.2 else Pt.at_ post k := by
  induction pre with
  | nil => rfl
  | cons y r ih =>
    have h1 := h y (by simp)
    simp only [List.cons_append, Pt.at_, if_neg h1]
    exact ih fun z hz => h z (by simp [hz])
def isIntD : PyData → Bool
  | .int _ => true
  | _ => false
def cInt : List PyData → (PyData → Prop) → Prop := fun ds Qd => ∃ d : PyData, ds = [d] ∧ (∀ kvs, d ≠ .dict kvs) ∧ Qd (.bool (isIntD d))
def cIsPattern : List PyData → (PyData → Prop) → Prop := fun ds Qd => ∃ (p : Int) (xs : Pt.Pat), ds = [.int p, ePat xs] ∧ Pt.IsPat p xs ∧ xs.length < 2 ^ 62 ∧ Qd (.bool true)
theorem fm_ints (xs : Pt.Pat) (h : Int × Int → Option Int) : xs.filterMap (fun x => (h x).map PyData.int) = (xs.filterMap h).map PyData.int := by rw [List.map_filterMap]
theorem fm_fst (xs : Pt.Pat) : xs.filterMap (fun y => some (PyData.int y.1)) = (xs.map (·.1)).map PyData.int := by
  rw [List.map_map, ← List.filterMap_eq_map]
  rfl
theorem fm_sum (xs : Pt.Pat) (k : Int) : (xs.filterMap fun x => if x.1 = k then some x.2 else none).sum = Pt.sumAt xs k := by
  induction xs with
  | nil => rfl
  | cons x r ih =>
    rw [List.filterMap_cons]
    by_cases e : x.1 = k
    · rw [if_pos e]
      simp only [List.sum_cons, Pt.sumAt, if_pos e, ih]
    · rw [if_neg e]
      simp only [Pt.sumAt, if_neg e, ih, Int.zero_add]
def cMoved : List PyData → (PyData → Prop) → Prop := fun ds Qd => ∃ (xs : Pt.Pat) (b : Int), ds = [ePat xs, .int b] ∧ xs.length ≤ 8000000 ∧ Qd (ePat (Pt.moved xs b))
theorem small100000 {n : Nat} (h : n ≤ 16000000) : n < sizeLine := Nat.lt_of_le_of_lt h (by decide)
theorem fm_map {α : Type} (xs : List α) (f : α → PyData) : xs.filterMap (fun x => some (f x)) = xs.map f := by
  rw [← List.filterMap_eq_map]
  rfl
/-- a pattern that is drawn -/
def cPattern : List PyData → (PyData → Prop) → Prop := fun ds Qd => ∃ (p most far : Int), ds = [.int p, .int most, .int far] ∧ GoodP p ∧ 0 ≤ most ∧ most ≤ 63 ∧ 0 ≤ far ∧ far ≤ 100000 ∧ ∀ xs : Pt.Pat, Pt.IsPat p xs → (xs.length : Int) ≤ most → (∀ x ∈ xs, -far ≤ x.1 ∧ x.1 ≤ far) → Qd (ePat xs)
def cAdded : List PyData → (PyData → Prop) → Prop := fun ds Qd => ∃ (p : Int) (xs ys : Pt.Pat), ds = [.int p, ePat xs, ePat ys] ∧ 0 < p ∧ xs.length ≤ 4000000 ∧ ys.length ≤ 4000000 ∧ Qd (ePat (Pt.added p xs ys))
def cTimed : List PyData → (PyData → Prop) → Prop := fun ds Qd => ∃ (p : Int) (xs : Pt.Pat) (n : Int), ds = [.int p, ePat xs, .int n] ∧ 0 < p ∧ xs.length ≤ 8000000 ∧ (∀ x ∈ xs, CMul x.2 n) ∧ Qd (ePat (Pt.timed p xs n))
def cSum : List PyData → (PyData → Prop) → Prop := fun ds Qd => ∃ (p : Int) (xs ys : Pt.Pat) (b n : Int), ds = [.int p, ePat xs, ePat ys, .int b, .int n] ∧ 0 < p ∧ xs.length ≤ 4000000 ∧ ys.length ≤ 4000000 ∧ (∀ y ∈ ys, CMul y.2 n) ∧ Qd (ePat (Pt.tidy p (xs ++ ys.map fun y => (y.1 + b, y.2 * n))))
theorem mulPat {p n : Int} {xs : Pt.Pat} (hp : GoodP p) (h : Pt.IsPat p xs) : ∀ x ∈ xs, CMul x.2 n := fun x hx => .inl ⟨by have := h.rng x hx; omega, by have := h.rng x hx; have := hp.le; omega⟩
/-! rounds -/
def cJoin : List PyData → (PyData → Prop) → Prop := fun ds Qd => ∃ (p : Int) (a b : Rd.R), ds = [.int p, eRound a, eRound b] ∧ 0 < p ∧ a.2.length ≤ 4000000 ∧ b.2.length ≤ 4000000 ∧ Qd (eRound (Rd.join p a b))
def cInv : List PyData → (PyData → Prop) → Prop := fun ds Qd => ∃ (p : Int) (a : Rd.R), ds = [.int p, eRound a] ∧ 0 < p ∧ a.2.length ≤ 4000000 ∧ Qd (eRound (Rd.inv p a))
def cStill : List PyData → (PyData → Prop) → Prop := fun ds Qd => ds = [] ∧ Qd (eRound Rd.still)
def cIsRound : List PyData → (PyData → Prop) → Prop := fun ds Qd => ∃ (p : Int) (a : Rd.R), ds = [.int p, eRound a] ∧ Rd.IsRound p a ∧ a.2.length < 2 ^ 62 ∧ Qd (.bool true)
/-- a round that is drawn -/
def cRound : List PyData → (PyData → Prop) → Prop := fun ds Qd => ∃ (p fin most far : Int), ds = [.int p, .int fin, .int most, .int far] ∧ GoodP p ∧ 0 ≤ fin ∧ fin ≤ 100000 ∧ 0 ≤ most ∧ most ≤ 63 ∧ 0 ≤ far ∧ far ≤ 100000 ∧
  ∀ a : Rd.R, Rd.IsRound p a → (a.2.length : Int) ≤ most → -fin ≤ a.1 → a.1 ≤ fin → (∀ x ∈ a.2, -far ≤ x.1 ∧ x.1 ≤ far) → Qd (eRound a)
/-! rows of numbers -/
def eNums (xs : List Int) : PyData := .tuple (xs.map .int)
theorem nums_len (xs : List Int) : (xs.map PyData.int).length = xs.length := by simp
theorem at4 {a b c d r : Int} (r0 : 0 ≤ r) (r1 : r < 4) : ∃ e : Int, atI [PyData.int a, .int b, .int c, .int d] r = some (.int e) ∧ (e = a ∨ e = b ∨ e = c ∨ e = d) := by
  have h : r = 0 ∨ r = 1 ∨ r = 2 ∨ r = 3 := by omega
  rcases h with rfl | rfl | rfl | rfl
  · exact ⟨a, rfl, .inl rfl⟩
  · exact ⟨b, rfl, .inr (.inl rfl)⟩
  · exact ⟨c, rfl, .inr (.inr (.inl rfl))⟩
  · exact ⟨d, rfl, .inr (.inr (.inr rfl))⟩
theorem eNums_shp (xs : List Int) : Shp 1 (eNums xs) := Shp.tup fun d hd => by
  obtain ⟨x, _, rfl⟩ := List.mem_map.mp hd
  exact Shp.int _
theorem eNums_tupO (xs : List Int) : tupO (eNums xs) = true := map_tupO (fun _ => rfl) xs
instance eqe_int : EqE PyData.int := ⟨fun x y => by simp only [PyData.eqv]; by_cases h : x = y <;> simp [h]⟩
instance eqe_nums : EqE eNums := ⟨fun x y => by
  simp only [eNums, PyData.eqv]
  exact eqvAll_map x y⟩
def eList (xs : List Int) : PyData := .list (xs.map .int)
theorem eList_shp (xs : List Int) : Shp 1 (eList xs) := Shp.list fun d hd => by
  obtain ⟨x, _, rfl⟩ := List.mem_map.mp hd
  exact Shp.int _
instance eqe_list : EqE eList := ⟨fun x y => by
  simp only [eList, PyData.eqv]
  exact eqvAll_map x y⟩
end Dk

/-! what a round costs -/
namespace Rd
open Pt
def price (p s : Int) : Int := if p - s < s then p - s else s
def ab (i : Int) : Int := if i < 0 then -i else i
def spots (a : R) : List Int := 0 :: a.1 :: a.2.map (·.1)
def lo (a : R) : Int := (a.1 :: a.2.map (·.1)).foldl min 0
def hi (a : R) : Int := (a.1 :: a.2.map (·.1)).foldl max 0
def turns (p : Int) (xs : Pat) : Int := (xs.map fun x => price p x.2).sum
def fewest (p : Int) (a : R) : Int := turns p a.2 + 2 * (hi a - lo a) - ab a.1
theorem foldl_min : ∀ (xs : List Int) (m : Int), (xs.foldl min m ∈ m :: xs) ∧ ∀ y ∈ m :: xs, xs.foldl min m ≤ y
  | [], m => ⟨by simp, by simp⟩
  | x :: r, m => by
    obtain ⟨h1, h2⟩ := foldl_min r (min m x)
    refine ⟨?_, fun y hy => ?_⟩
    · rw [List.foldl_cons]
      rcases List.mem_cons.mp h1 with h | h
      · rw [h]
        rcases Int.le_total m x with z | z
        · rw [Int.min_eq_left z]; simp
        · rw [Int.min_eq_right z]; simp
      · simp [h]
    · rw [List.foldl_cons]
      have h0 := h2 (min m x) (by simp)
      rcases List.mem_cons.mp hy with rfl | hy
      · omega
      · rcases List.mem_cons.mp hy with rfl | hy
        · omega
        · exact h2 y (by simp [hy])
theorem foldl_max : ∀ (xs : List Int) (m : Int), (xs.foldl max m ∈ m :: xs) ∧ ∀ y ∈ m :: xs, y ≤ xs.foldl max m
  | [], m => ⟨by simp, by simp⟩
  | x :: r, m => by
    obtain ⟨h1, h2⟩ := foldl_max r (max m x)
    refine ⟨?_, fun y hy => ?_⟩
    · rw [List.foldl_cons]
      rcases List.mem_cons.mp h1 with h | h
      · rw [h]
        rcases Int.le_total m x with z | z
        · rw [Int.max_eq_right z]; simp
        · rw [Int.max_eq_left z]; simp
      · simp [h]
    · rw [List.foldl_cons]
      have h0 := h2 (max m x) (by simp)
      rcases List.mem_cons.mp hy with rfl | hy
      · omega
      · rcases List.mem_cons.mp hy with rfl | hy
        · omega
        · exact h2 y (by simp [hy])
theorem lo_mem (a : R) : lo a ∈ spots a := (foldl_min _ _).1
theorem lo_le {a : R} {y : Int} (h : y ∈ spots a) : lo a ≤ y := (foldl_min _ _).2 y h
theorem hi_mem (a : R) : hi a ∈ spots a := (foldl_max _ _).1
theorem le_hi {a : R} {y : Int} (h : y ∈ spots a) : y ≤ hi a := (foldl_max _ _).2 y h
theorem lo_is {a : R} {m : Int} (h1 : m ∈ spots a) (h2 : ∀ y, y ∈ spots a → m ≤ y) : m = lo a := Int.le_antisymm (h2 _ (lo_mem a)) (lo_le h1)
theorem hi_is {a : R} {m : Int} (h1 : m ∈ spots a) (h2 : ∀ y, y ∈ spots a → y ≤ m) : m = hi a := Int.le_antisymm (le_hi h1) (h2 _ (hi_mem a))
end Rd

namespace Dk
open PySem PySem.Spec PyProof.Rows L2
def cPrice : List PyData → (PyData → Prop) → Prop := fun ds Qd => ∃ (p s : Int), ds = [.int p, .int s] ∧ Qd (.int (Rd.price p s))
def cStretch : List PyData → (PyData → Prop) → Prop := fun ds Qd => ∃ (a : Rd.R), ds = [eRound a] ∧ a.2.length ≤ 50000 ∧ Qd (.tuple [.int (Rd.lo a), .int (Rd.hi a)])
def cFewest : List PyData → (PyData → Prop) → Prop := fun ds Qd => ∃ (p : Int) (a : Rd.R), ds = [.int p, eRound a] ∧ a.2.length ≤ 50000 ∧ Qd (.int (Rd.fewest p a))
theorem spots_map (a : Rd.R) : [PyData.int 0, .int a.1] ++ (a.2.map fun x => PyData.int x.1) = (Rd.spots a).map .int := by
  simp [Rd.spots]
theorem prices_map (p : Int) (xs : Pt.Pat) : (xs.map fun x => PyData.int (Rd.price p x.2)) = (xs.map fun x => Rd.price p x.2).map .int := by
  rw [List.map_map]
  rfl
end Dk

/-! instances: their attributes, methods; contracts with things that are changed -/
namespace Dk
open PySem PySem.Spec PyProof.Rows L2
/-! ### a method that may raise -/
def tMethE (C : Addr) (m : Str) (sp : Sp) (E : L2.St → XK) (ta : TE) (t : TA) : TE := fun σ H Q => ta σ H fun x H1 => ∃ a dx fs, x = .ref a ∧ H1 a = some (.ins C dx fs) ∧ fs.lookup m = none ∧ t σ H1 fun vs H2 => sp (x :: vs) H2 Q (E σ)
section
variable {X : Cx} {cx : CXT} {n : Nat} {g cl : Addr} {fd : FuncData} {names : List Str} {sp : Sp} {E : L2.St → XK} {m : Str} {here there : Pos} {e0 ob : Expr} {more : List Expr} {tr : TE} {tas : TA}
theorem pe_methE {pl : Sem Bool} (hob : PE X ob tr) (kc : Cls X.K cl) (km : Meth X.K cl m g) (fn : FnOk X.prog X.w X.K X.mg X.base cx n g fd names sp) (room : Room n X.A) (bnd : Binds X.K fd names []) (px : ∀ st, PassesAt cx X st (E st)) (args : PA X (e0 :: more) tas)
    (st1 : starEach (e0 :: more) X.env = (false, eval e0 X.env) :: starEach more X.env := by rfl) (st2 : (backTo here (starEach more X.env)).any (·.1) = false := by rfl)
    (tree : eval (.Call (.Attribute ob m there) (e0 :: more) [] here) X.env = (do
      let rec ← eval ob X.env
      standAt there.atName
      let (fn, fst) ← holding [rec] (getMethod rec m pl)
      callWith here fn fst (backTo here (starEach (e0 :: more) X.env)) (backToKw here (keywordEach [] X.env))) := by rfl) :
    PE X (.Call (.Attribute ob m there) (e0 :: more) [] here) (tMethE cl m sp E tr tas) := ⟨fun pn sh st hp Qv iv ask => by
  refine PySem.W.methodCall_KW (pl := pl) ?_ tree
  refine thn (hob.run pn sh st hp _ iv ask) fun val sh1 ⟨xv, hp1, iv1, rel1, a, dx, fs, ex, ea, no, ask1⟩ => ?_
  cases ex
  cases (show val = Value.ref a from rel1)
  refine getmeth_ok iv1 ea kc km no (PySem.W.callWith_K (first := [.ref a]) (h₀ := X.base) iv.ok.mod.kin km.kp ?_ st1 st2)
  refine thn (args.run here pn sh1 st hp1 _ iv1 ask1) fun vals sh2 ⟨vs, hp2, iv2, rel2, ask2⟩ => ⟨iv2.kIn, ?_⟩
  exact run_fnS (vs := .ref a :: vs) (us := .ref a :: vals) fn room bnd (px st) iv2 (.cons rfl rel2) ask2⟩
theorem pe_methE0 {pl : Sem Bool} (hob : PE X ob tr) (kc : Cls X.K cl) (km : Meth X.K cl m g) (fn : FnOk X.prog X.w X.K X.mg X.base cx n g fd names sp) (room : Room n X.A) (bnd : Binds X.K fd names []) (px : ∀ st, PassesAt cx X st (E st))
    (tree : eval (.Call (.Attribute ob m there) [] [] here) X.env = (do
      let rec ← eval ob X.env
      standAt there.atName
      let (fn, fst) ← holding [rec] (getMethod rec m pl)
      callWith here fn fst (backTo here (starEach [] X.env)) (backToKw here (keywordEach [] X.env))) := by rfl) :
    PE X (.Call (.Attribute ob m there) [] [] here) (tMethE cl m sp E tr tNil) := ⟨fun pn sh st hp Qv iv ask => by
  refine PySem.W.methodCall_KW (pl := pl) ?_ tree
  refine thn (hob.run pn sh st hp _ iv ask) fun val sh1 ⟨xv, hp1, iv1, rel1, a, dx, fs, ex, ea, no, ask1⟩ => ?_
  cases ex
  cases (show val = Value.ref a from rel1)
  refine getmeth_ok iv1 ea kc km no (PySem.W.callWith_K0 (first := [.ref a]) iv1.kIn km.kp ?_)
  exact run_fnS (vs := [.ref a]) (us := [.ref a]) fn room bnd (px st) iv1 (.cons rfl .nil) ask1⟩
end
/-! ### objects of names that are changed -/
abbrev Chg := Nat → Option (OD × List Addr)
def chR (W : Wd) (M : Chg) (a : Addr) : Prop := ∃ i m, M i = some m ∧ a ∈ W.ft i
def chN (M : Chg) (a : Addr) : Prop := ∃ i o f, M i = some (o, f) ∧ a ∈ f
/-- T: new things without a name -/
def chW (W : Wd) (M : Chg) (H' : Hp) (T : Addr → Prop) : Wd := ⟨fun a => W.O a ∨ chN M a ∨ T a, fun i => match M i with
  | some m => m.2
  | none => W.ft i, H'⟩
def chG (Γ : G) (M : Chg) : G := Γ.mapIdx fun i s => match M i with
  | some m => setOwn s m.1
  | none => s
theorem chG_len (Γ : G) (M : Chg) : (chG Γ M).length = Γ.length := by simp [chG]
theorem chG_some {Γ : G} {M : Chg} {i : Nat} {s : Sl} {m : OD × List Addr} (h : Γ[i]? = some s) (e : M i = some m) : (chG Γ M)[i]? = some (setOwn s m.1) := by
  simp [chG, List.getElem?_mapIdx, h, e]
theorem chG_none {Γ : G} {M : Chg} {i : Nat} (e : M i = none) : (chG Γ M)[i]? = Γ[i]? := by
  rw [chG, List.getElem?_mapIdx, e]
  cases Γ[i]? <;> rfl
theorem chG_inv {Γ : G} {M : Chg} {i : Nat} {t : Sl} (h : (chG Γ M)[i]? = some t) : ∃ s, Γ[i]? = some s ∧ ((M i = none ∧ t = s) ∨ ∃ m, M i = some m ∧ t = setOwn s m.1) := by
  rw [chG, List.getElem?_mapIdx] at h
  cases q : Γ[i]? with
  | none => rw [q] at h; cases h
  | some s =>
    rw [q] at h
    refine ⟨s, rfl, ?_⟩
    cases e : M i with
    | none => simp [e] at h; exact .inl ⟨rfl, h.symm⟩
    | some m => simp [e] at h; exact .inr ⟨m, rfl, h.symm⟩
structure ChOk {K : Fg} (F : Fx K) (W : Wd) (σ : L2.St) (Γ : G) (M : Chg) (H' : Hp) (T : Addr → Prop) : Prop where
  fr : ∀ a u, ¬ chR W M a → W.H a = some u → H' a = some u
  nw : ∀ a, chN M a → chR W M a ∨ W.H a = none
  mo : ∀ a, chR W M a ∨ chN M a → Mo (H' a)
  sl : ∀ i m, M i = some m → ∃ s o p, Γ[i]? = some s ∧ s.own? = some o ∧ σ[i]? = some (some (.ref p)) ∧ OwnO K ((chW W M H' T).S F) H' m.1 p m.2 ∧ (m.1.isIns = false → m.2 = W.ft i) ∧ m.1.isIns = o.isIns
  dj : ∀ i k m n a, i ≠ k → M i = some m → M k = some n → a ∈ m.2 → a ∉ n.2
  tn : ∀ a, T a → W.H a = none ∧ ¬ chN M a ∧ Mo (H' a)
  un : (∀ i m s, M i = some m → Γ[i]? = some s → ∃ o, s = .ow o) ∨ (∀ i m s, M i = some m → Γ[i]? = some s → ∃ o, s = .rf o)
section
variable {K : Fg} {F : Fx K} {W : Wd} {σ : L2.St} {Γ : G} {M : Chg} {H' : Hp} {T : Addr → Prop}
theorem ChOk.O (h : ChOk F W σ Γ M H' T) (R : Rel F W σ Γ) {a : Addr} (c : chR W M a) : W.O a := by
  obtain ⟨i, m, e, ha⟩ := c
  obtain ⟨s, o, p, h1, h2, _⟩ := h.sl i m e
  exact slot_O (R.slot i s h1) h2 a ha
theorem ChOk.same (h : ChOk F W σ Γ M H' T) (R : Rel F W σ Γ) : Same (W.S F) ((chW W M H' T).S F) := same_less fun a o nx e => by
  refine ⟨fun z => ?_, h.fr a o (fun c => nx (.inr (h.O R c))) e⟩
  rcases z with z | z | z | z
  · exact nx (.inl z)
  · exact nx (.inr z)
  · rcases h.nw a z with c | c
    · exact nx (.inr (h.O R c))
    · rw [e] at c; cases c
  · rw [(h.tn a z).1] at e
    cases e
theorem ChOk.keep (h : ChOk F W σ Γ M H' T) (R : Rel F W σ Γ) {a : Addr} (ha : W.O a) (n : ¬ chR W M a) : H' a = W.H a := by
  obtain ⟨o, q⟩ := mo_some (R.mu a ha)
  rw [h.fr a o n q, q]
theorem Rel.objs (R : Rel F W σ Γ) (h : ChOk F W σ Γ M H' T) : Rel F (chW W M H' T) σ (chG Γ M) ∧ Kq F W Γ (chW W M H' T) (chG Γ M) := by
  have hs := h.same R
  have tx : Tx W.H H' := fun a o nm e => h.fr a o (fun c => nm (by have m := R.mu a (h.O R c); rw [e] at m; exact m)) e
  have apart : ∀ (i : Nat) (s : Sl) (o : OD) (a : Addr), M i = none → Γ[i]? = some s → s.own? = some o → a ∈ W.ft i → ¬ chR W M a := fun i s o a e h1 h2 ha ⟨k, m, e2, hk⟩ => by
    obtain ⟨s2, o2, p2, g1, g2, _⟩ := h.sl k m e2
    have ne : i ≠ k := fun z => by rw [z, e2] at e; cases e
    exact R.dis i k s s2 o o2 a ne h1 g1 h2 g2 ha hk
  have none_new : ∀ a, W.H a = none → F.H0 a = none ∨ F.rf a := fun a e => by
    by_cases r : F.rf a
    · exact .inr r
    · left
      cases q : F.H0 a with
      | none => rfl
      | some u => have := R.base a u q r; rw [e] at this; cases this
  have ftN : ∀ i m, M i = some m → (chW W M H' T).ft i = m.2 := fun i m e => by show (match M i with | some m => m.2 | none => W.ft i) = m.2; rw [e]
  have ft0 : ∀ i, M i = none → (chW W M H' T).ft i = W.ft i := fun i e => by show (match M i with | some m => m.2 | none => W.ft i) = _; rw [e]
  have own_set : ∀ (s : Sl) (o o' : OD), s.own? = some o → (setOwn s o').own? = some o' := fun s o o' e => by cases s <;> first | rfl | cases e
  refine ⟨⟨fun a o e nr => ?_, fun a ha => ?_, fun a ha => ?_, fun a ha => .inl (R.rfo a ha), by rw [chG_len]; exact R.len, fun i t e => ?_, fun i k s t oi ok a ne e1 e2 g1 g2 => ?_⟩, ⟨hs, fun q t => ?_⟩⟩
  · refine h.fr a o (fun c => ?_) (R.base a o e nr)
    rcases R.new a (h.O R c) with z | z
    · rw [z] at e; cases e
    · exact nr z
  · rcases ha with ha | ha | ha
    · exact R.new a ha
    · rcases h.nw a ha with c | c
      · exact R.new a (h.O R c)
      · exact none_new a c
    · exact none_new a (h.tn a ha).1
  · by_cases c : chR W M a
    · exact h.mo a (.inl c)
    · rcases ha with ha | ha | ha
      · show Mo (H' a)
        rw [h.keep R ha c]
        exact R.mu a ha
      · exact h.mo a (.inr ha)
      · exact (h.tn a ha).2.2
  · obtain ⟨s, h1, ⟨e2, rfl⟩ | ⟨m, e2, rfl⟩⟩ := chG_inv e
    · have z := R.slot i t h1
      refine z.keep (W' := chW W M H' T) (ft0 i e2) hs (fun a _ q => .inl q) (fun a ha so => ?_) tx
      obtain ⟨o', so⟩ := Option.isSome_iff_exists.mp so
      exact h.keep R (slot_O z so a ha) (apart i t o' a e2 h1 so ha)
    · obtain ⟨s', o, p, g1, g2, g3, g4, g5, g6⟩ := h.sl i m e2
      rw [h1] at g1
      cases g1
      have z := R.slot i s h1
      have inO : ∀ a ∈ (chW W M H' T).ft i, (chW W M H' T).O a := fun a ha => by
        rw [ftN i m e2] at ha
        exact .inr (.inl ⟨i, m.1, m.2, e2, ha⟩)
      have ok : OwnOk K ((chW W M H' T).S F) (chW W M H' T).H p ((chW W M H' T).ft i) m.1 := by
        rw [ftN i m e2]
        exact ownO_ok.mp g4
      cases s with
      | no => cases g2
      | sh _ => cases g2
      | ar _ => cases g2
      | ro _ => cases g2
      | ow q =>
        refine ⟨p, g3, fun a ha => ⟨inO a ha, fun r => ?_⟩, ok⟩
        rcases h.un with u | u
        · rw [ftN i m e2] at ha
          rcases h.nw a ⟨i, m.1, m.2, e2, ha⟩ with ⟨k, n, ek, hk⟩ | c
          · obtain ⟨s2, o2, p2, b1, b2, _⟩ := h.sl k n ek
            obtain ⟨o3, rfl⟩ := u k n s2 ek b1
            obtain ⟨_, _, b3, _⟩ := R.slot k _ b1
            exact (b3 a hk).2 r
          · have := R.mu a (R.rfo a r)
            rw [c] at this
            exact this
        · obtain ⟨o3, z3⟩ := u i m _ e2 h1
          cases z3
      | rf q =>
        cases g2
        obtain ⟨p', ⟨f0, b0, b1⟩, b2, _⟩ := z
        rw [g3] at b2
        cases b2
        refine ⟨p, ⟨f0, b0, fun n => ?_⟩, g3, inO, ok⟩
        rw [ftN i m e2, g5 n]
        exact b1 (by rw [← g6]; exact n)
  · intro ha hb
    obtain ⟨s0, h1, c1⟩ := chG_inv e1
    obtain ⟨t0, h2, c2⟩ := chG_inv e2
    rcases c1 with ⟨n1, rfl⟩ | ⟨m1, n1, rfl⟩
    · rw [ft0 i n1] at ha
      rcases c2 with ⟨n2, rfl⟩ | ⟨m2, n2, rfl⟩
      · rw [ft0 k n2] at hb
        exact R.dis i k s t oi ok a ne h1 h2 g1 g2 ha hb
      · rw [ftN k m2 n2] at hb
        rcases h.nw a ⟨k, m2.1, m2.2, n2, hb⟩ with c | c
        · exact apart i s oi a n1 h1 g1 ha c
        · have := R.mu a (slot_O (R.slot i s h1) g1 a ha)
          rw [c] at this
          exact this
    · rw [ftN i m1 n1] at ha
      rcases c2 with ⟨n2, rfl⟩ | ⟨m2, n2, rfl⟩
      · rw [ft0 k n2] at hb
        rcases h.nw a ⟨i, m1.1, m1.2, n1, ha⟩ with c | c
        · exact apart k t ok a n2 h2 g2 hb c
        · have := R.mu a (slot_O (R.slot k t h2) g2 a hb)
          rw [c] at this
          exact this
      · rw [ftN k m2 n2] at hb
        exact h.dj i k m1 m2 a ne n1 n2 ha hb
  · have nc : ¬ chR W M q := fun ⟨k, m, ek, hk⟩ => by
      obtain ⟨s2, o2, p2, b1, b2, _⟩ := h.sl k m ek
      exact t.2 k s2 o2 b1 b2 hk
    refine ⟨⟨.inl t.1, fun j s o e g hj => ?_⟩, h.keep R t.1 nc⟩
    obtain ⟨s0, h1, ⟨n1, rfl⟩ | ⟨m1, n1, rfl⟩⟩ := chG_inv e
    · rw [ft0 j n1] at hj
      exact t.2 j s o h1 g hj
    · rw [ftN j m1 n1] at hj
      rcases h.nw q ⟨j, m1.1, m1.2, n1, hj⟩ with c | c
      · exact nc c
      · have := R.mu q t.1
        rw [c] at this
        exact this
end
theorem ChOk.tm {K : Fg} {F : Fx K} {W : Wd} {σ : L2.St} {Γ : G} {M : Chg} {H' : Hp} {T : Addr → Prop} (h : ChOk F W σ Γ M H' T) (R : Rel F W σ Γ) {a : Addr} (ha : T a) : Tm (chW W M H' T) (chG Γ M) a ∧ F.H0 a = none ∧ ¬ F.rf a := by
  obtain ⟨n, nn, _⟩ := h.tn a ha
  have nO : ¬ W.O a := fun z => by
    have := R.mu a z
    rw [n] at this
    exact this
  have nr : ¬ F.rf a := fun z => nO (R.rfo a z)
  refine ⟨⟨.inr (.inr ha), fun j s o e g hj => ?_⟩, ?_, nr⟩
  · obtain ⟨s0, h1, ⟨n1, rfl⟩ | ⟨m1, n1, rfl⟩⟩ := chG_inv e
    · have e1 : (chW W M H' T).ft j = W.ft j := by show (match M j with | some m => m.2 | none => W.ft j) = _; rw [n1]
      rw [e1] at hj
      exact nO (slot_O (R.slot j s h1) g a hj)
    · have e1 : (chW W M H' T).ft j = m1.2 := by show (match M j with | some m => m.2 | none => W.ft j) = _; rw [n1]
      rw [e1] at hj
      exact nn ⟨j, m1.1, m1.2, n1, hj⟩
  · cases q : F.H0 a with
    | none => rfl
    | some u => have := R.base a u q nr; rw [n] at this; cases this
/-- what a run leaves as it was, instances aside -/
structure Stx {K : Fg} (F : Fx K) (W : Wd) (Γ : G) (W' : Wd) (Γ' : G) : Prop extends Kq F W Γ W' Γ' where
  kin : ∀ (i : Nat) (s : Sl), Γ[i]? = some s → ∃ s' : Sl, Γ'[i]? = some s' ∧ Kx s s'
  len : Γ'.length = Γ.length
theorem Kx.refl (s : Sl) : Kx s s := ⟨fun z => z, fun _ => rfl, fun o z => ⟨o, z⟩⟩
theorem Kn.kx {s s' : Sl} (h : Kn s s') : Kx s s' := ⟨h.1, h.2.1, h.2.2.1⟩
theorem Kx.trans {s s1 s2 : Sl} (a : Kx s s1) (b : Kx s1 s2) : Kx s s2 := ⟨fun z => b.1 (a.1 z), fun q => by
  have z := a.2.1 q
  subst z
  exact b.2.1 q, fun o q => by
  obtain ⟨o1, q1⟩ := a.2.2 o q
  exact b.2.2 o1 q1⟩
theorem Stp.stx {K : Fg} {F : Fx K} {W W' : Wd} {Γ Γ' : G} (s : Stp F W Γ W' Γ') : Stx F W Γ W' Γ' := ⟨s.toKq, fun i t e => by
  obtain ⟨t', h1, h2⟩ := s.kin i t e
  exact ⟨t', h1, h2.kx⟩, s.len⟩
theorem Stx.trans {K : Fg} {F : Fx K} {W W1 W2 : Wd} {Γ Γ1 Γ2 : G} (a : Stx F W Γ W1 Γ1) (b : Stx F W1 Γ1 W2 Γ2) : Stx F W Γ W2 Γ2 := ⟨a.toKq.trans b.toKq, fun i s h => by
  obtain ⟨s1, h1, k1⟩ := a.kin i s h
  obtain ⟨s2, h2, k2⟩ := b.kin i s1 h1
  exact ⟨s2, h2, k1.trans k2⟩, b.len.trans a.len⟩
/-- m: instances may be changed -/
def StM {K : Fg} (m : Bool) (F : Fx K) (W : Wd) (Γ : G) (W' : Wd) (Γ' : G) : Prop := match m with
  | true => Stx F W Γ W' Γ'
  | false => Stp F W Γ W' Γ'
theorem StM.stx {K : Fg} {m : Bool} {F : Fx K} {W W' : Wd} {Γ Γ' : G} (s : StM m F W Γ W' Γ') : Stx F W Γ W' Γ' := by
  cases m with
  | true => exact s
  | false => exact Stp.stx s
theorem StM.trans {K : Fg} {m n : Bool} {F : Fx K} {W W1 W2 : Wd} {Γ Γ1 Γ2 : G} (a : StM m F W Γ W1 Γ1) (b : StM n F W1 Γ1 W2 Γ2) : StM (m || n) F W Γ W2 Γ2 := by
  cases m with
  | true => exact Stx.trans a b.stx
  | false =>
    cases n with
    | true => exact Stx.trans (Stp.stx a) b
    | false => exact Stp.trans a b
theorem StM.refl {K : Fg} {m : Bool} (F : Fx K) (W : Wd) (Γ : G) : StM m F W Γ W Γ := by
  cases m with
  | true => exact Stp.stx (Stp.refl ..)
  | false => exact Stp.refl ..
/-- values that stay when instances are changed -/
def stayM (m : Bool) : RV → Bool
  | .fld _ _ => !m
  | _ => true
theorem VOk.stm {K : Fg} {m : Bool} {F : Fx K} {W W' : Wd} {σ : L2.St} {Γ Γ' : G} {v : V} {x : RV} (a : StM m F W Γ W' Γ') (h : VOk F W σ Γ v x) (hm : stayM m x = true) : VOk F W' σ Γ' v x := by
  cases m with
  | false => exact VOk.stp a h
  | true =>
    cases x with
    | sh d => exact Dq.same a.stx.sh h
    | ar d => exact h
    | own i =>
      obtain ⟨s, h1, h2, h3⟩ := h
      obtain ⟨s', g1, g2, _⟩ := a.stx.kin i s h1
      exact ⟨s', g1, g2 h2, h3⟩
    | fld i p => cases hm
theorem Rel.objsM {K : Fg} {m : Bool} {F : Fx K} {W : Wd} {σ : L2.St} {Γ : G} {M : Chg} {H' : Hp} {T : Addr → Prop} (R : Rel F W σ Γ) (h : ChOk F W σ Γ M H' T) (hm : m = false → ∀ i n, M i = some n → n.1.isIns = false) (hi : m = false → ∀ a, chR W M a → notIns (W.H a)) : StM m F W Γ (chW W M H' T) (chG Γ M) := by
  obtain ⟨_, kq⟩ := R.objs h
  have kx : ∀ (i : Nat) (s : Sl), Γ[i]? = some s → ∃ s' : Sl, (chG Γ M)[i]? = some s' ∧ Kx s s' ∧ (M i = none → s' = s) := fun i s e => by
    cases q : M i with
    | none => exact ⟨s, by rw [chG_none q]; exact e, Kx.refl s, fun _ => rfl⟩
    | some n =>
      obtain ⟨s', o, p, g1, g2, _⟩ := h.sl i n q
      rw [e] at g1
      cases g1
      refine ⟨_, chG_some e q, ⟨fun _ => ?_, (fun z => by rw [g2] at z; cases z), (fun o' z => by subst z; exact ⟨_, rfl⟩)⟩, (fun z => by cases z)⟩
      cases s <;> first | rfl | cases g2
  cases m with
  | true => exact ⟨kq, fun i s e => by
      obtain ⟨s', a, b, _⟩ := kx i s e
      exact ⟨s', a, b⟩, chG_len Γ M⟩
  | false =>
    refine ⟨⟨kq, fun a C dx vs e => h.fr a _ (fun c => ?_) e⟩, fun i s e => ?_, chG_len Γ M⟩
    · have := hi rfl a c
      rw [e] at this
      exact this
    · obtain ⟨s', a, b, c⟩ := kx i s e
      refine ⟨s', a, b.1, b.2.1, b.2.2, fun o z => ?_⟩
      cases q : M i with
      | none => exact c q
      | some n =>
        exfalso
        obtain ⟨s2, o2, p, g1, g2, _, _, _, g6⟩ := h.sl i n q
        rw [e] at g1
        cases g1
        have e1 := hm rfl i n q
        have := ins_own z (by rw [g2]; exact fun w => nomatch w)
        rw [g2] at this
        cases this
        rw [g6] at e1
        cases s with
        | ow q => have := (insO_eq z).2; cases (insO_eq z).1; rw [this] at e1; cases e1
        | rf q => have := (insO_eq z).2; cases (insO_eq z).1; rw [this] at e1; cases e1
        | _ => cases g2
end Dk

namespace Dk
open PySem PySem.Spec PyProof.Rows L2
/-! ### contracts: arguments by what they are (data; a thing that is changed; a thing that is looked at), answers, refusals -/
inductive AD where
  | d (d : PyData) (z : Bool)
  | rf (o : OD)
  | ro (o : OD)
inductive RT where
  | d (d : PyData)
  | nw (o : OD)
abbrev Ct := List AD → (RT → List OD → Prop) → (Value → List OD → Prop) → Prop
/-- the things that may be changed, in their order -/
def osL (os : Nat → OD) : List AD → Nat → List OD
  | [], _ => []
  | .rf _ :: as, j => os j :: osL os as (j + 1)
  | _ :: as, j => osL os as (j + 1)
def Rfs (as : List AD) (ft : Nat → List Addr) (a : Addr) : Prop := ∃ j o, as[j]? = some (.rf o) ∧ a ∈ ft j
def ArgOk (K : Fg) (H : Hp) (X R : Addr → Prop) (f : List Addr) (v : V) : AD → Prop
  | .d d true => Dq K (less H X) v d
  | .d d false => Dq K (less H R) v d
  | .rf o => ∃ p, v = .ref p ∧ OwnO K (less H X) H o p f
  | .ro o => o.isIns = true ∧ ∃ p g, v = .ref p ∧ (∀ a ∈ g, ¬ R a ∧ X a) ∧ OwnO K (less H X) H o p g
structure GIn (K : Fg) (m : Bool) (vs : List V) (H : Hp) (as : List AD) (ft : Nat → List Addr) (X : Addr → Prop) : Prop where
  len : vs.length = as.length
  arg : ∀ j a, as[j]? = some a → ∃ v, vs[j]? = some v ∧ ArgOk K H X (Rfs as ft) (ft j) v a
  xm : ∀ a, X a → Mo (H a)
  rx : ∀ a, Rfs as ft a → X a
  dj : ∀ i j o o' a, i ≠ j → as[i]? = some (.rf o) → as[j]? = some (.rf o') → a ∈ ft i → a ∉ ft j
structure GOut (K : Fg) (vs : List V) (H : Hp) (as : List AD) (ft : Nat → List Addr) (X : Addr → Prop) (H' : Hp) (os : Nat → OD) (ft' : Nat → List Addr) (T : Addr → Prop) : Prop where
  fr : ∀ a u, ¬ Rfs as ft a → H a = some u → H' a = some u
  nw : ∀ a, Rfs as ft' a → Rfs as ft a ∨ H a = none
  ob : ∀ j o, as[j]? = some (.rf o) → ∃ p, vs[j]? = some (.ref p) ∧ OwnO K (less H' fun a => X a ∨ Rfs as ft' a ∨ T a) H' (os j) p (ft' j) ∧ (os j).isIns = o.isIns ∧ (o.isIns = false → ft' j = ft j)
  dj : ∀ i j o o' a, i ≠ j → as[i]? = some (.rf o) → as[j]? = some (.rf o') → a ∈ ft' i → a ∉ ft' j
  mo : ∀ a, Rfs as ft a → Mo (H' a)
  tn : ∀ a, T a → H a = none ∧ ¬ Rfs as ft' a ∧ Mo (H' a)
/-- the answer; T: where a new thing lies -/
def ResOk (K : Fg) (H' : Hp) (X : Addr → Prop) (T : Addr → Prop) (v : V) : RT → Prop
  | .d d => Dq K (less H' X) v d ∧ ∀ a, ¬ T a
  | .nw o => ∃ p f, v = .ref p ∧ OwnO K (less H' X) H' o p f ∧ ∀ a, T a ↔ a ∈ f
def GSp (K : Fg) (m : Bool) (C : Ct) : Sp := fun vs H Q E => ∃ (as : List AD) (ft : Nat → List Addr) (X : Addr → Prop) (Qd : RT → List OD → Prop) (Qx : Value → List OD → Prop), GIn K m vs H as ft X ∧ C as Qd Qx ∧
  (∀ v H' os ft' T r, GOut K vs H as ft X H' os ft' T → ResOk K H' (fun a => X a ∨ Rfs as ft' a ∨ T a) T v r → Qd r (osL os as 0) → Q v H') ∧
  (∀ c H' os ft', GOut K vs H as ft X H' os ft' (fun _ => False) → Qx c (osL os as 0) → E c none H')
/-! ### a def by its contract -/
/-- how an argument may be held -/
def adSl (s : Sl) : AD → Prop
  | .d d z => (s = .sh d ∧ (z = true ∨ tupO d = true)) ∨ s = .ar d
  | .rf o => s = .rf o
  | .ro o => s = .ro o
def odAt (Γ : G) (j : Nat) : OD := match Γ[j]? with
  | some (.rf o) => o
  | _ => .lst []
/-- the things that may be changed are there still -/
def rfB : List AD → G → Bool
  | [], _ => true
  | .rf o :: as, .rf o' :: Γ => (o'.isIns == o.isIns) && rfB as Γ
  | .rf _ :: _, _ => false
  | _ :: as, _ :: Γ => rfB as Γ
  | _ :: _, [] => false
theorem rfB_at : ∀ {as : List AD} {Γ : G}, rfB as Γ = true → ∀ {j : Nat} {o : OD}, as[j]? = some (.rf o) → ∃ o', Γ[j]? = some (.rf o') ∧ o'.isIns = o.isIns
  | [], _, _, j, o, e => by simp at e
  | .rf o0 :: as, .rf o1 :: Γ, h, 0, o, e => by
    simp at e
    subst e
    simp only [rfB, Bool.and_eq_true, beq_iff_eq] at h
    exact ⟨o1, rfl, h.1⟩
  | .rf o0 :: as, .rf o1 :: Γ, h, j + 1, o, e => by
    simp only [rfB, Bool.and_eq_true, beq_iff_eq] at h
    simpa using rfB_at h.2 (j := j) (by simpa using e)
  | .rf o0 :: as, [], h, _, _, _ => by simp [rfB] at h
  | .rf o0 :: as, .no :: Γ, h, _, _, _ => by simp [rfB] at h
  | .rf o0 :: as, .sh _ :: Γ, h, _, _, _ => by simp [rfB] at h
  | .rf o0 :: as, .ar _ :: Γ, h, _, _, _ => by simp [rfB] at h
  | .rf o0 :: as, .ow _ :: Γ, h, _, _, _ => by simp [rfB] at h
  | .rf o0 :: as, .ro _ :: Γ, h, _, _, _ => by simp [rfB] at h
  | .d _ _ :: as, _ :: Γ, h, 0, o, e => by simp at e
  | .ro _ :: as, _ :: Γ, h, 0, o, e => by simp at e
  | .d _ _ :: as, _ :: Γ, h, j + 1, o, e => by
    simp only [rfB] at h
    simpa using rfB_at h (j := j) (by simpa using e)
  | .ro _ :: as, _ :: Γ, h, j + 1, o, e => by
    simp only [rfB] at h
    simpa using rfB_at h (j := j) (by simpa using e)
  | .d _ _ :: as, [], h, _, _, _ => by simp [rfB] at h
  | .ro _ :: as, [], h, _, _, _ => by simp [rfB] at h
def retR (Γ : G) : RV → Option RT
  | .own i => match Γ[i]? with
    | some (.ow o) => some (.nw o)
    | some (.sh d) => some (.d d)
    | _ => none
  | .fld i path => match Γ[i]? with
    | some (.ow o) => if o.isIns = true then (o.at_ path).map .nw else none
    | _ => none
  | x => (shOf x).map .d
section
variable {K : Fg} {m : Bool} {vs : List V} {H : Hp} {as : List AD} {ft : Nat → List Addr} {X : Addr → Prop}
theorem GIn.rm (h : GIn K m vs H as ft X) : ∀ a, Rfs as ft a → Mo (H a) := fun a z => h.xm a (h.rx a z)
/-- the surroundings of such a def's run -/
def FG (h : GIn K m vs H as ft X) : Fx K := { H0 := H, rf := Rfs as ft, ex := X, xm := h.xm, rm := h.rm, rp := fun j => match as[j]?, vs[j]? with
  | some (.rf _), some (.ref p) => some (p, ft j)
  | _, _ => none }
def WG (H : Hp) (as : List AD) (ft : Nat → List Addr) : Wd := ⟨Rfs as ft, ft, H⟩
theorem rel_startA {N : List Str} {ss : List Sl} (h : GIn K m vs H as ft X) (hs : Paired adSl ss as) : Rel (FG h) (WG H as ft) (start N vs) (startG N ss) := by
  have sS : Same (less H X) ((WG H as ft).S (FG h)) := same_less fun a o nx e => ⟨fun z => z.elim nx fun z => nx (h.rx a z), e⟩
  have sl : ∀ (i : Nat) (s : Sl), (startG N ss)[i]? = some s → s = .no ∨ ∃ a, as[i]? = some a ∧ adSl s a := fun i s e => by
    rcases startG_get e with e | e
    · obtain ⟨a, e1, e2⟩ := paired_get hs e
      exact .inr ⟨a, e1, e2⟩
    · exact .inl e
  have own : ∀ (i : Nat) (s : Sl) (o : OD), (startG N ss)[i]? = some s → s.own? = some o → as[i]? = some (.rf o) := fun i s o e g => by
    rcases sl i s e with rfl | ⟨a, e1, e2⟩
    · cases g
    · cases a with
      | d d z => rcases e2 with ⟨rfl, _⟩ | rfl <;> cases g
      | rf o' => cases (show s = .rf o' from e2); cases g; exact e1
      | ro o' => cases (show s = .ro o' from e2); cases g
  refine ⟨fun a o e _ => e, fun a z => .inr z, fun a z => h.rm a z, fun a z => z, by simp [L2.start, startG, h.len, Paired.length hs], fun i s e => ?_, fun i j s t oi oj a ne e1 e2 g1 g2 => h.dj i j oi oj a ne (own i s oi e1 g1) (own j t oj e2 g2)⟩
  rcases sl i s e with rfl | ⟨a, e1, e2⟩
  · trivial
  · obtain ⟨v, q1, q2⟩ := h.arg i a e1
    cases a with
    | d d z =>
      rcases e2 with ⟨rfl, e2⟩ | rfl
      · refine ⟨v, start_get q1, ?_⟩
        cases z with
        | true => exact Dq.same sS q2
        | false =>
          have t : tupO d = true := e2.resolve_left fun z => nomatch z
          refine Dq.tupO_less (H' := H) (fun a z => ?_) _ _ t (Dq.same less_same q2)
          rcases z with z | z
          · exact h.xm a z
          · exact h.rm a z
      · refine ⟨v, start_get q1, ?_⟩
        cases z with
        | true => exact Dq.same (same_less fun a o nx e => ⟨fun z => nx (h.rx a z), e⟩) q2
        | false => exact q2
    | rf o =>
      cases (show s = .rf o from e2)
      obtain ⟨p, rfl, q3⟩ := q2
      refine ⟨p, ⟨ft i, ?_, fun _ => rfl⟩, start_get q1, fun a ha => ⟨i, o, e1, ha⟩, ownO_ok.mp (OwnO.keep sS (fun _ _ _ e => e) q3 fun _ _ => rfl)⟩
      show (match as[i]?, vs[i]? with | some (.rf _), some (.ref p) => some (p, ft i) | _, _ => none) = _
      rw [e1, q1]
    | ro o =>
      cases (show s = .ro o from e2)
      obtain ⟨q0, p, g, rfl, q3, q4⟩ := q2
      refine ⟨p, g, start_get q1, q3, q0, ownO_ok.mp (OwnO.keep (same_less fun a o nx e => ⟨fun z => z.elim nx fun z => nx (h.rx a z), e⟩) (fun _ _ _ e => e) q4 fun _ _ => rfl)⟩
theorem gOut_of {W : Wd} {σ : L2.St} {Γ : G} (h : GIn K m vs H as ft X) (R : Rel (FG h) W σ Γ) (hb : rfB as Γ = true) {T : Addr → Prop} (hT : ∀ a, T a → W.O a ∧ H a = none ∧ ¬ Rfs as W.ft a) : GOut K vs H as ft X W.H (odAt Γ) W.ft T := by
  have od : ∀ {j : Nat} {o : OD}, as[j]? = some (.rf o) → ∃ o', Γ[j]? = some (.rf o') ∧ o'.isIns = o.isIns ∧ odAt Γ j = o' := fun {j o} e => by
    obtain ⟨o', e1, e2⟩ := rfB_at hb e
    exact ⟨o', e1, e2, by rw [odAt, e1]⟩
  have inO : ∀ a, Rfs as W.ft a → W.O a := fun a ⟨j, o, e, ha⟩ => by
    obtain ⟨o', e1, _⟩ := od e
    exact slot_O (R.slot j _ e1) rfl a ha
  refine ⟨fun a u n e => R.base a u e n, fun a z => ?_, fun j o e => ?_, fun i j o o' a ne e1 e2 ha => ?_, fun a z => R.mu a (R.rfo a z), fun a z => ⟨(hT a z).2.1, (hT a z).2.2, R.mu a (hT a z).1⟩⟩
  · rcases R.new a (inO a z) with q | q
    · exact .inr q
    · exact .inl q
  · obtain ⟨o', e1, e2, e3⟩ := od e
    obtain ⟨p, ⟨f0, q0, q1⟩, _, _, q2⟩ := R.slot j _ e1
    obtain ⟨v, g1, p', rfl, g2⟩ := h.arg j _ e
    have q0' : (match as[j]?, vs[j]? with | some (.rf _), some (.ref p) => some (p, ft j) | _, _ => none) = some (p, f0) := q0
    rw [e, g1] at q0'
    cases q0'
    refine ⟨p, g1, ?_, by rw [e3]; exact e2, fun z => (q1 (by rw [e2]; exact z)).symm⟩
    rw [e3]
    exact OwnO.keep (same_less fun a o nx e => ⟨fun z => nx (z.imp id fun z => z.elim (inO a) fun z => (hT a z).1), e⟩) (fun _ _ _ e => e) (ownO_ok.mpr q2) fun _ _ => rfl
  · obtain ⟨o1, b1, _⟩ := od e1
    obtain ⟨o2, b2, _⟩ := od e2
    exact R.dis i j _ _ _ _ a ne b1 b2 rfl rfl ha
theorem rfs_O {W : Wd} {σ : L2.St} {Γ : G} (h : GIn K m vs H as ft X) (R : Rel (FG h) W σ Γ) (hb : rfB as Γ = true) {a : Addr} (z : Rfs as W.ft a) : W.O a := by
  obtain ⟨j, o, e, ha⟩ := z
  obtain ⟨o', e1, _⟩ := rfB_at hb e
  exact slot_O (R.slot j _ e1) rfl a ha
theorem retR_ok {W : Wd} {σ : L2.St} {Γ : G} {v : V} {x : RV} {r : RT} (h : GIn K m vs H as ft X) (R : Rel (FG h) W σ Γ) (hb : rfB as Γ = true) (o : VOk (FG h) W σ Γ v x) (e : retR Γ x = some r) : ∃ T : Addr → Prop, (∀ a, T a → W.O a ∧ H a = none ∧ ¬ Rfs as W.ft a) ∧ ResOk K W.H (fun a => X a ∨ Rfs as W.ft a ∨ T a) T v r := by
  have sS : Same (W.S (FG h)) (less W.H fun a => X a ∨ Rfs as W.ft a ∨ False) := same_less fun a u nx e => ⟨fun z => nx (z.imp id fun z => z.elim (rfs_O h R hb) False.elim), e⟩
  have fresh : ∀ {i : Nat} {o0 : OD} {a : Addr}, Γ[i]? = some (.ow o0) → a ∈ W.ft i → W.O a ∧ H a = none ∧ ¬ Rfs as W.ft a := fun {i o0 a} h1 ha => by
    obtain ⟨p, _, q1, _⟩ := R.slot i _ h1
    have n : H a = none := (R.new a (q1 a ha).1).resolve_right (q1 a ha).2
    refine ⟨(q1 a ha).1, n, fun z => ?_⟩
    obtain ⟨j, o, e, hj⟩ := z
    obtain ⟨o', e1, _⟩ := rfB_at hb e
    have ne : i ≠ j := fun w => by rw [w, e1] at h1; cases h1
    exact R.dis i j _ _ _ _ a ne h1 e1 rfl rfl ha hj
  have plain : ∀ {d : PyData}, Dq K (W.S (FG h)) v d → r = .d d → ∃ T : Addr → Prop, (∀ a, T a → W.O a ∧ H a = none ∧ ¬ Rfs as W.ft a) ∧ ResOk K W.H (fun a => X a ∨ Rfs as W.ft a ∨ T a) T v r := fun {d} hd er => by
    subst er
    exact ⟨fun _ => False, (fun a z => z.elim), hd.same sS, fun a z => z⟩
  have thing : ∀ {i : Nat} {o0 o1 : OD} {q : Addr} {f : List Addr}, Γ[i]? = some (.ow o0) → v = .ref q → OwnO K (W.S (FG h)) W.H o1 q f → (∀ a ∈ f, a ∈ W.ft i) → r = .nw o1 → ∃ T : Addr → Prop, (∀ a, T a → W.O a ∧ H a = none ∧ ¬ Rfs as W.ft a) ∧ ResOk K W.H (fun a => X a ∨ Rfs as W.ft a ∨ T a) T v r := fun {i o0 o1 q f} h1 hv hO hF er => by
    subst er
    refine ⟨fun a => a ∈ f, fun a ha => fresh h1 (hF a ha), q, f, hv, ?_, fun a => Iff.rfl⟩
    exact OwnO.keep (same_less fun a u nx e => ⟨fun z => nx (z.imp id fun z => z.elim (rfs_O h R hb) fun z => (fresh h1 (hF a z)).1), e⟩) (fun _ _ _ e => e) hO fun _ _ => rfl
  cases x with
  | sh d => cases e; exact plain o rfl
  | ar d =>
    simp only [retR] at e
    obtain ⟨d', e1, e2⟩ := Option.map_eq_some_iff.mp e
    exact plain (VOk.sh R o e1) e2.symm
  | own i =>
    obtain ⟨s, h1, h2, h3⟩ := o
    have key : ∀ {o0 : OD}, s = .ow o0 → r = .nw o0 → ∃ T : Addr → Prop, (∀ a, T a → W.O a ∧ H a = none ∧ ¬ Rfs as W.ft a) ∧ ResOk K W.H (fun a => X a ∨ Rfs as W.ft a ∨ T a) T v r := fun {o0} es er => by
      subst es
      obtain ⟨p, q0, q1, q2⟩ := R.slot i _ h1
      rw [h3] at q0
      cases q0
      exact thing h1 rfl (ownO_ok.mpr q2) (fun a ha => ha) er
    simp only [retR, h1] at e
    cases s with
    | no => cases e
    | ar d => cases e
    | rf o => cases e
    | ro o => cases e
    | sh d' =>
      obtain ⟨v', e1, e2⟩ := R.slot i _ h1
      rw [h3] at e1
      cases e1
      exact plain e2 (Option.some.inj e).symm
    | ow o0 =>
      cases o0 with
      | ab _ => exact key rfl (Option.some.inj e).symm
      | lst ds => exact key rfl (Option.some.inj e).symm
      | dK ds => exact key rfl (Option.some.inj e).symm
      | dT ds => exact key rfl (Option.some.inj e).symm
      | ins C fs => exact key rfl (Option.some.inj e).symm
      | box l fs => exact key rfl (Option.some.inj e).symm
  | fld i path =>
    obtain ⟨s, p, o, h1, h2, h3, h4⟩ := o
    simp only [retR, h1] at e
    cases s with
    | ow o0 =>
      simp only at e
      split at e
      · obtain ⟨o', e1, e2⟩ := Option.map_eq_some_iff.mp e
        cases (insO_eq h2).1
        obtain ⟨p', q0, q1, q2⟩ := R.slot i _ h1
        rw [h3] at q0
        cases q0
        obtain ⟨q, F', hv, hF, hO⟩ := OwnO.path Rel.S_same (ownO_ok.mpr q2) e1 h4
        exact thing h1 hv hO hF e2.symm
      · cases e
    | _ => cases e
end
section
variable {P : Program} {w : World} {K : Fg} {mg : Str → Option Value} {base : Heap}
abbrev GEnds (as : List AD) (Qd : RT → List OD → Prop) (Qx : Value → List OD → Prop) : DE := { nx := fun Γ => rfB as Γ = true ∧ Qd (.d .none) (osL (odAt Γ) as 0), rt := fun x Γ => rfB as Γ = true ∧ ∃ r, retR Γ x = some r ∧ Qd r (osL (odAt Γ) as 0), rn := fun o Γ => rfB as Γ = true ∧ Qd (.nw o) (osL (odAt Γ) as 0), xs := fun c Γ => rfB as Γ = true ∧ Qx c (osL (odAt Γ) as 0) }
theorem gen_link {m : Bool} {vs : List V} {H : Hp} {as : List AD} {ft : Nat → List Addr} {X : Addr → Prop} {Qd : RT → List OD → Prop} {Qx : Value → List OD → Prop} {Q : VK} {E : XK} (h : GIn K m vs H as ft X)
    (q : ∀ v H' os ft' T r, GOut K vs H as ft X H' os ft' T → ResOk K H' (fun a => X a ∨ Rfs as ft' a ∨ T a) T v r → Qd r (osL os as 0) → Q v H') (qx : ∀ c H' os ft', GOut K vs H as ft X H' os ft' (fun _ => False) → Qx c (osL os as 0) → E c none H') :
    Lk (FG h) (WG H as ft) (fun cls d _ H => E cls d H) { nx := fun _ H' => Q .non H', rt := Q } (GEnds as Qd Qx) := by
  refine ⟨fun W σ Γ _ R ⟨e0, e⟩ => ?_, fun W σ Γ y v _ R o ⟨e0, r, e, z⟩ => ?_, fun W σ Γ o p ho _ R hp oh ⟨e0, z⟩ => ?_, fun W σ Γ _ R e => e, fun W σ Γ _ R e => e, fun W σ Γ c _ R ⟨e0, e⟩ => ?_⟩
  · exact q .non W.H _ _ (fun _ => False) (.d .none) (gOut_of h R e0 fun a z => z.elim) ⟨.non, fun a z => z⟩ e
  · obtain ⟨T, hT, ok⟩ := retR_ok h R e0 o e
    exact q v W.H _ _ T r (gOut_of h R e0 hT) ok z
  · obtain ⟨R2, k2, t2, h0, nrf⟩ := R.temp (ho := ho) hp (mo_ownH oh)
    have hT : ∀ a, a = p → (a = p ∨ W.O a) ∧ H a = none ∧ ¬ Rfs as W.ft a := fun a ha => by
      subst ha
      refine ⟨.inl rfl, h0, fun ⟨j, o', e, hj⟩ => ?_⟩
      obtain ⟨o2, e1, _⟩ := rfB_at e0 e
      exact t2.2 j _ _ e1 rfl hj
    refine q (.ref p) _ _ _ (fun a => a = p) (.nw o) (gOut_of h R2 e0 hT) ⟨p, [p], rfl, ?_, fun a => by simp⟩ z
    refine OwnO.keep (S := (Wd.S (K := K) ⟨fun a => a = p ∨ W.O a, W.ft, upd W.H p ho⟩ (FG h))) (same_less fun a u nx e => ⟨fun y => nx ?_, e⟩) (fun _ _ _ e => e) (ownO_ok.mpr (ownH_ok (oh.same k2.sh) upd_same)) fun _ _ => rfl
    rcases y with y | y | y
    · exact .inl y
    · exact .inr (rfs_O h R2 e0 y)
    · exact .inr (.inl y)
  · exact qx c W.H _ _ (gOut_of h R e0 fun a z => z.elim) e
theorem gen_ok {x qual : Str} {st : Stmt} {f : Addr} {fd : FuncData} {N ps : List Str} {k : Nat} {m : Bool} {C : Ct} (Fn : L2.Fun K x qual st f fd) (S : FnScope N ps (defScope st)) (hl : ∀ as Qd Qx, C as Qd Qx → as.length = ps.length)
    (hbody : ∀ (cdv : Value) (A : Around) (outer : List Env) (s : Shared) (H : Hp) (E : XK), Room k (A.deeper (envOfC qual (defScope st) s.heap.objs.size f cdv)) →
      ∃ t, PSs (cxOf CX0 P w K mg base N qual (defScope st) f cdv A outer s H E).nox (defBody st) t ∧ ∃ d, SS K X0 t d ∧ ∀ as Qd Qx, C as Qd Qx → ∃ ss, Paired adSl ss as ∧ d (GEnds as Qd fun _ _ => False) (startG N ss)) : FnOk P w K mg base CX0 (k + 1) f fd ps (GSp K m C) := by
  refine Fn.ok S (fun vs H Q E h => ?_) (fun cdv A outer s H vs Q E hr h => ?_)
  · obtain ⟨as, ft, X, Qd, Qx, h1, h2, _⟩ := h
    rw [h1.len]
    exact hl as Qd Qx h2
  · obtain ⟨as, ft, X, Qd, Qx, h1, h2, q, qx⟩ := h
    obtain ⟨t, ht, d, hs, hd⟩ := hbody cdv A outer s H E hr
    obtain ⟨ss, hss, hd⟩ := hd as Qd Qx h2
    have L := gen_link (Qx := fun _ _ => False) (E := fun _ _ _ => False) h1 q fun _ _ _ _ _ z => z.elim
    exact ⟨t, ht, hs.run (FG h1) (WG H as ft) (start N vs) (startG N ss) _ _ (rel_startA h1 hss) hd ⟨L.nx, L.rt, L.rn, L.bk, L.ct, fun W σ Γ c s R e => e.2.elim⟩⟩
theorem genX_ok {x qual : Str} {st : Stmt} {f : Addr} {fd : FuncData} {N ps : List Str} {k : Nat} {m : Bool} {C : Ct} (Fn : L2.Fun K x qual st f fd) (S : FnScope N ps (defScope st)) (hl : ∀ as Qd Qx, C as Qd Qx → as.length = ps.length)
    (hbody : ∀ (cdv : Value) (A : Around) (outer : List Env) (s : Shared) (H : Hp) (E : XK), Room k (A.deeper (envOfC qual (defScope st) s.heap.objs.size f cdv)) →
      ∃ t, PSs (cxOf (L2.CX P w) P w K mg base N qual (defScope st) f cdv A outer s H E) (defBody st) t ∧ ∃ d, SS K (fun cls d _ H => E cls d H) t d ∧ ∀ as Qd Qx, C as Qd Qx → ∃ ss, Paired adSl ss as ∧ d (GEnds as Qd Qx) (startG N ss)) : FnOk P w K mg base (L2.CX P w) (k + 1) f fd ps (GSp K m C) := by
  refine Fn.okX S (fun vs H Q E h => ?_) (fun cdv A outer s H vs Q E hr h => ?_)
  · obtain ⟨as, ft, X, Qd, Qx, h1, h2, _⟩ := h
    rw [h1.len]
    exact hl as Qd Qx h2
  · obtain ⟨as, ft, X, Qd, Qx, h1, h2, q, qx⟩ := h
    obtain ⟨t, ht, d, hs, hd⟩ := hbody cdv A outer s H E hr
    obtain ⟨ss, hss, hd⟩ := hd as Qd Qx h2
    exact ⟨t, ht, hs.run (FG h1) (WG H as ft) (start N vs) (startG N ss) _ _ (rel_startA h1 hss) hd (gen_link h1 q qx)⟩
end
end Dk

namespace Dk
open PySem PySem.Spec PyProof.Rows L2
/-! ### calls by contract: the caller's side -/
/-- an object as an argument; m: it may be changed -/
def argD : OD → Option PyData
  | .lst ds => some (.list ds)
  | .box l fs => odB (.box l fs)
  | _ => none
theorem argD_odB {o : OD} {d : PyData} (h : argD o = some d) : odB o = some d := by
  cases o <;> first | exact h | cases h
def odAd (m : Bool) (o : OD) : AD := match argD o with
  | some d => .d d false
  | none => match o.isIns && !m with
    | true => .ro o
    | false => .rf o
/-- an instance that is only looked at -/
def roB : Sl → Bool
  | .ro _ => true
  | _ => false
def adOf (m : Bool) (Γ : G) : RV → Option AD
  | .sh d => some (.d d true)
  | .ar d => some (.d d (tupO d))
  | .own i => match Γ[i]? with
    | some (.ow o) => some (odAd m o)
    | some (.rf o) => some (odAd m o)
    | some (.ro o) => some (.ro o)
    | some (.sh d) => some (.d d true)
    | _ => none
  | .fld i path => match Γ[i]? with
    | some s => s.ins?.bind fun o => (o.at_ path).bind fun o' => match m && !roB s with
      | true => none
      | false => match argD o' with
        | some d => some (.d d false)
        | none => match o'.isIns with
          | true => some (.ro o')
          | false => none
    | _ => none
def adsOf (m : Bool) (Γ : G) : List RV → Option (List AD)
  | [] => some []
  | x :: xs => match adOf m Γ x, adsOf m Γ xs with
    | some a, some as => some (a :: as)
    | _, _ => none
def isRf : AD → Bool
  | .rf _ => true
  | _ => false
/-- the names whose objects may be changed, with the places of the arguments -/
def rfIx : List RV → List AD → Nat → List (Nat × Nat)
  | .own i :: xs, .rf _ :: as, j => (i, j) :: rfIx xs as (j + 1)
  | _ :: xs, _ :: as, j => rfIx xs as (j + 1)
  | _, _, _ => []
def putOs (os : Nat → OD) : List (Nat × Nat) → G → G
  | [], Γ => Γ
  | (i, j) :: r, Γ => putOs os r (Γ.set i (setOwn (Γ.getD i .no) (os j)))
def putOL : List OD → List (Nat × Nat) → G → G
  | o :: ol, (i, _) :: r, Γ => putOL ol r (Γ.set i (setOwn (Γ.getD i .no) o))
  | _, _, Γ => Γ
theorem putOL_os (os : Nat → OD) : ∀ (ix : List (Nat × Nat)) (Γ : G), putOL (ix.map fun q => os q.2) ix Γ = putOs os ix Γ
  | [], _ => rfl
  | (i, j) :: r, Γ => putOL_os os r _
def distB : List (Nat × Nat) → Bool
  | [] => true
  | (i, _) :: r => r.all (fun q => q.1 != i) && distB r
def isOw : Option Sl → Bool
  | some (.ow _) => true
  | _ => false
def isRfS : Option Sl → Bool
  | some (.rf _) => true
  | _ => false
def uniB (Γ : G) (ix : List (Nat × Nat)) : Bool := ix.all (fun q => isOw Γ[q.1]?) || ix.all (fun q => isRfS Γ[q.1]?)
def ixM (os : Nat → OD) (ft : Nat → List Addr) (ix : List (Nat × Nat)) : Chg := fun i => (ix.find? fun q => q.1 == i).map fun q => (os q.2, ft q.2)
theorem ixM_some {os : Nat → OD} {ft : Nat → List Addr} {ix : List (Nat × Nat)} {i : Nat} {n : OD × List Addr} (h : ixM os ft ix i = some n) : ∃ j, (i, j) ∈ ix ∧ n = (os j, ft j) := by
  obtain ⟨q, h1, h2⟩ := Option.map_eq_some_iff.mp h
  have h3 := List.find?_some h1
  have h4 := List.mem_of_find?_eq_some h1
  simp only [beq_iff_eq] at h3
  subst h3
  exact ⟨q.2, h4, h2.symm⟩
theorem ixM_mem {os : Nat → OD} {ft : Nat → List Addr} : ∀ {ix : List (Nat × Nat)} {i j : Nat}, distB ix = true → (i, j) ∈ ix → ixM os ft ix i = some (os j, ft j)
  | [], _, _, _, h => by cases h
  | (k, l) :: r, i, j, hd, h => by
    simp only [distB, Bool.and_eq_true] at hd
    by_cases e : k = i
    · subst e
      rcases List.mem_cons.mp h with h | h
      · cases h
        simp [ixM, List.find?_cons]
      · have := List.all_eq_true.mp hd.1 _ h
        simp at this
    · have h' : (i, j) ∈ r := (List.mem_cons.mp h).resolve_left fun z => e (by cases z; rfl)
      have := ixM_mem (os := os) (ft := ft) hd.2 h'
      simp only [ixM, List.find?_cons] at this ⊢
      rw [show ((k, l).1 == i) = false from beq_false_of_ne e]
      exact this
theorem putOs_len (os : Nat → OD) : ∀ (ix : List (Nat × Nat)) (Γ : G), (putOs os ix Γ).length = Γ.length
  | [], _ => rfl
  | (i, j) :: r, Γ => by simp [putOs, putOs_len os r]
theorem putOs_get (os : Nat → OD) (ft : Nat → List Addr) : ∀ {ix : List (Nat × Nat)} (Γ : G), distB ix = true → ∀ i : Nat, (putOs os ix Γ)[i]? = match ixM os ft ix i with
    | some n => Γ[i]?.map fun s => setOwn s n.1
    | none => Γ[i]?
  | [], Γ, _, i => rfl
  | (k, l) :: r, Γ, hd, i => by
    have hd' := hd
    simp only [distB, Bool.and_eq_true] at hd
    rw [putOs, putOs_get os ft _ hd.2 i]
    by_cases e : k = i
    · subst e
      have e1 : ixM os ft ((k, l) :: r) k = some (os l, ft l) := ixM_mem hd' (by simp)
      have e2 : ixM os ft r k = none := by
        cases q : ixM os ft r k with
        | none => rfl
        | some n =>
          obtain ⟨j, hj, _⟩ := ixM_some q
          have := List.all_eq_true.mp hd.1 _ hj
          simp at this
      rw [e1, e2]
      simp only
      cases q : Γ[k]? with
      | none =>
        rw [List.getElem?_eq_none (by rw [List.length_set]; exact List.getElem?_eq_none_iff.mp q)]
        rfl
      | some s =>
        rw [List.getElem?_set_self (lt_of_get q), getD_of q]
        rfl
    · have e1 : ixM os ft ((k, l) :: r) i = ixM os ft r i := by
        simp only [ixM, List.find?_cons]
        rw [show ((k, l).1 == i) = false from beq_false_of_ne e]
      rw [e1, List.getElem?_set_ne e]
theorem putOs_ch {os : Nat → OD} {ft : Nat → List Addr} {ix : List (Nat × Nat)} {Γ : G} (hd : distB ix = true) : chG Γ (ixM os ft ix) = putOs os ix Γ := by
  apply List.ext_getElem?
  intro i
  rw [putOs_get os ft Γ hd i, chG, List.getElem?_mapIdx]
  cases q : ixM os ft ix i with
  | none => simp [q]
  | some n => simp [q]
theorem rfIx_mem : ∀ {xs : List RV} {as : List AD} {j i k : Nat}, (i, k) ∈ rfIx xs as j → ∃ n o, k = j + n ∧ xs[n]? = some (.own i) ∧ as[n]? = some (.rf o)
  | [], _, _, _, _, h => by simp [rfIx] at h
  | _ :: _, [], _, _, _, h => by simp [rfIx] at h
  | .own i0 :: xs, .rf o0 :: as, j, i, k, h => by
    simp only [rfIx] at h
    rcases List.mem_cons.mp h with h | h
    · cases h
      exact ⟨0, o0, rfl, rfl, rfl⟩
    · obtain ⟨n, o, h1, h2, h3⟩ := rfIx_mem h
      exact ⟨n + 1, o, by omega, by simpa using h2, by simpa using h3⟩
  | .own i0 :: xs, .d _ _ :: as, j, i, k, h => by
    simp only [rfIx] at h
    obtain ⟨n, o, h1, h2, h3⟩ := rfIx_mem h
    exact ⟨n + 1, o, by omega, by simpa using h2, by simpa using h3⟩
  | .own i0 :: xs, .ro _ :: as, j, i, k, h => by
    simp only [rfIx] at h
    obtain ⟨n, o, h1, h2, h3⟩ := rfIx_mem h
    exact ⟨n + 1, o, by omega, by simpa using h2, by simpa using h3⟩
  | .sh _ :: xs, _ :: as, j, i, k, h => by
    simp only [rfIx] at h
    obtain ⟨n, o, h1, h2, h3⟩ := rfIx_mem h
    exact ⟨n + 1, o, by omega, by simpa using h2, by simpa using h3⟩
  | .ar _ :: xs, _ :: as, j, i, k, h => by
    simp only [rfIx] at h
    obtain ⟨n, o, h1, h2, h3⟩ := rfIx_mem h
    exact ⟨n + 1, o, by omega, by simpa using h2, by simpa using h3⟩
  | .fld _ _ :: xs, _ :: as, j, i, k, h => by
    simp only [rfIx] at h
    obtain ⟨n, o, h1, h2, h3⟩ := rfIx_mem h
    exact ⟨n + 1, o, by omega, by simpa using h2, by simpa using h3⟩
theorem rfIx_of : ∀ {xs : List RV} {as : List AD} {j n i : Nat} {o : OD}, xs[n]? = some (.own i) → as[n]? = some (.rf o) → (i, j + n) ∈ rfIx xs as j
  | [], _, _, _, _, _, h, _ => by simp at h
  | _ :: _, [], _, _, _, _, _, h => by simp at h
  | x :: xs, a :: as, j, 0, i, o, h1, h2 => by
    simp at h1 h2
    subst h1
    subst h2
    simp [rfIx]
  | x :: xs, a :: as, j, n + 1, i, o, h1, h2 => by
    have := rfIx_of (j := j + 1) (n := n) (i := i) (o := o) (by simpa using h1) (by simpa using h2)
    rw [show j + (n + 1) = j + 1 + n by omega]
    cases x with
    | own i0 => cases a <;> simp [rfIx, this]
    | _ => simp [rfIx, this]
theorem adsOf_get {m : Bool} {Γ : G} : ∀ {xs : List RV} {as : List AD}, adsOf m Γ xs = some as → xs.length = as.length ∧ ∀ (j : Nat) (a : AD), as[j]? = some a → ∃ x, xs[j]? = some x ∧ adOf m Γ x = some a
  | [], as, h => by
    simp only [adsOf] at h
    cases h
    exact ⟨rfl, fun j a e => by simp at e⟩
  | x :: xs, as, h => by
    simp only [adsOf] at h
    split at h
    · rename_i a as' h1 h2
      cases h
      obtain ⟨g1, g2⟩ := adsOf_get h2
      refine ⟨by simp [g1], fun j b e => ?_⟩
      cases j with
      | zero => simp at e; subst e; exact ⟨x, rfl, h1⟩
      | succ j => simpa using g2 j b (by simpa using e)
    · cases h
section
variable {K : Fg} {F : Fx K} {W : Wd} {σ : L2.St} {Γ : G}
/-- the object of an argument that may be changed -/
theorem adOf_rf {m : Bool} {x : RV} {o : OD} (h : adOf m Γ x = some (.rf o)) : ∃ i s, x = .own i ∧ Γ[i]? = some s ∧ s.own? = some o ∧ argD o = none ∧ (m = false → o.isIns = false) := by
  have key : ∀ {o' : OD}, odAd m o' = .rf o → o' = o ∧ argD o = none ∧ (m = false → o.isIns = false) := fun {o'} e => by
    unfold odAd at e
    split at e
    · cases e
    · rename_i hn
      split at e
      · cases e
      · rename_i hb
        cases e
        refine ⟨rfl, hn, fun w => ?_⟩
        subst w
        simpa using hb
  cases x with
  | sh d => cases h
  | ar d => cases h
  | own i =>
    simp only [adOf] at h
    split at h
    · rename_i o' e
      obtain ⟨rfl, b, c⟩ := key (Option.some.inj h)
      exact ⟨i, _, rfl, e, rfl, b, c⟩
    · rename_i o' e
      obtain ⟨rfl, b, c⟩ := key (Option.some.inj h)
      exact ⟨i, _, rfl, e, rfl, b, c⟩
    · cases h
    · cases h
    · cases h
  | fld i path =>
    simp only [adOf] at h
    split at h
    · obtain ⟨o2, _, e⟩ := Option.bind_eq_some_iff.mp h
      obtain ⟨o3, _, e⟩ := Option.bind_eq_some_iff.mp e
      split at e
      · cases e
      · split at e
        · cases e
        · split at e <;> cases e
    · cases h
theorem less_S : less W.H (Ex F W.O) = W.S F := rfl
/-- arguments, as a contract wants them -/
theorem gIn_of {m : Bool} {vs : List V} {xs : List RV} {as : List AD} (R : Rel F W σ Γ) (o : VOks F W σ Γ vs xs) (ha : adsOf m Γ xs = some as) (hd : distB (rfIx xs as 0) = true) :
    ∃ ft : Nat → List Addr, GIn K m vs W.H as ft (Ex F W.O) ∧ ∀ i j, (i, j) ∈ rfIx xs as 0 → ft j = W.ft i := by
  obtain ⟨hl, hg⟩ := adsOf_get ha
  let ft : Nat → List Addr := fun j => match xs[j]? with
    | some (.own i) => W.ft i
    | _ => []
  have ftE : ∀ {i j : Nat}, xs[j]? = some (.own i) → ft j = W.ft i := fun {i j} e => by show (match xs[j]? with | some (.own i) => W.ft i | _ => []) = _; rw [e]
  have rfO : ∀ a, Rfs as ft a → ∃ (i j : Nat) (s : Sl) (o : OD), xs[j]? = some (RV.own i) ∧ as[j]? = some (AD.rf o) ∧ Γ[i]? = some s ∧ s.own? = some o ∧ argD o = none ∧ (m = false → o.isIns = false) ∧ a ∈ W.ft i ∧ W.O a := fun a ⟨j, o1, e, hj⟩ => by
    obtain ⟨x, e1, e2⟩ := hg j _ e
    obtain ⟨i, s, rfl, b1, b2, b3, b4⟩ := adOf_rf e2
    rw [ftE e1] at hj
    exact ⟨i, j, s, o1, e1, e, b1, b2, b3, b4, hj, slot_O (R.slot i s b1) b2 a hj⟩
  refine ⟨ft, ⟨(Paired.length o).trans hl, fun j a e => ?_, fun a z => R.exmo z, fun a z => by obtain ⟨_, _, _, _, _, _, _, _, _, _, _, q⟩ := rfO a z; exact .inr q, fun i j o1 o2 a ne e1 e2 h1 h2 => ?_⟩, fun i j h => ?_⟩
  · obtain ⟨x, e1, e2⟩ := hg j a e
    obtain ⟨v, e3, ov⟩ := paired_get' o e1
    refine ⟨v, e3, ?_⟩
    have apO : ∀ {i : Nat} {s : Sl} {o0 : OD} {b : Addr}, Γ[i]? = some s → s.own? = some o0 → ((∃ d, argD o0 = some d) ∨ (m = false ∧ o0.isIns = true)) → b ∈ W.ft i → ¬ Rfs as ft b := fun {i s o0 b} h1 h2 hk hb z => by
      obtain ⟨i', j', s', o', _, _, c3, c4, c5, c6, c7, _⟩ := rfO b z
      by_cases q : i = i'
      · subst q
        rw [h1] at c3
        cases c3
        rw [h2] at c4
        cases c4
        rcases hk with ⟨ds, hk⟩ | ⟨hk, hk2⟩
        · rw [c5] at hk; cases hk
        · rw [c6 hk] at hk2; cases hk2
      · exact R.dis i i' s s' o0 o' b q h1 c3 h2 c4 hb c7
    have roS : ∀ {i : Nat} {s : Sl} {o0 : OD} {p : Addr}, m = false ∨ (∃ o1, s = .ro o1) → Γ[i]? = some s → s.ins? = some o0 → σ[i]? = some (some (.ref p)) → ∃ g, (∀ b ∈ g, ¬ Rfs as ft b ∧ Ex F W.O b) ∧ OwnO K (W.S F) W.H o0 p g := fun {i s o0 p} hm h1 h2 h3 => by
      obtain ⟨p', f, g1, g2, g3, g4⟩ := R.insOkX h1 h2
      rw [h3] at g1
      cases g1
      refine ⟨f, fun b hb => ⟨fun z => ?_, g4 b hb⟩, g2⟩
      obtain ⟨_, _, _, _, _, _, _, _, _, _, _, q⟩ := rfO b z
      obtain ⟨w1, w2⟩ := g3 b hb q
      rcases hm with hm | ⟨o1, hm⟩
      · refine apO h1 w2 (.inr ⟨hm, ?_⟩) w1 z
        cases s with
        | ow q => cases (insO_eq h2).1; exact (insO_eq h2).2
        | rf q => cases (insO_eq h2).1; exact (insO_eq h2).2
        | _ => cases w2
      · rw [hm] at w2
        cases w2
    cases x with
    | sh d => cases e2; exact ov
    | ar d =>
      simp only [adOf, Option.some.injEq] at e2
      subst e2
      cases t : tupO d with
      | true => exact VOk.sh R ov (by simp [shOf, t])
      | false =>
        refine Dq.same (same_less fun b u nx e => ⟨fun z => ?_, R.base b u e nx⟩) (show Dq K (less F.H0 F.rf) v d from ov)
        obtain ⟨_, _, _, _, _, _, _, _, _, _, _, q⟩ := rfO b z
        rcases R.new b q with w | w
        · rw [w] at e; cases e
        · exact nx w
    | own i =>
      obtain ⟨s, h1, h2, h3⟩ := ov
      have lst : ∀ {o0 : OD}, s.own? = some o0 → a = odAd m o0 → ArgOk K W.H (Ex F W.O) (Rfs as ft) (ft j) v a := fun {o0} hs ea => by
        obtain ⟨p, hp⟩ := own_ref R h1 hs
        rw [h3] at hp
        cases hp
        have ok := own_at R h1 hs h3
        have rfc : a = .rf o0 → ArgOk K W.H (Ex F W.O) (Rfs as ft) (ft j) (.ref p) a := fun ea => by
          subst ea
          refine ⟨p, rfl, ?_⟩
          rw [ftE e1]
          exact ownO_ok.mpr ok
        have sS : Same (W.S F) (less W.H (Rfs as ft)) := same_less fun b u nx e => ⟨fun z => by
          obtain ⟨_, _, _, _, _, _, _, _, _, _, _, q⟩ := rfO b z
          exact nx (.inr q), e⟩
        unfold odAd at ea
        split at ea
        · rename_i d hA
          subst ea
          exact odB_ok sS (ownO_ok.mpr ok) (fun b hb u z => less_some.mpr ⟨apO h1 hs (.inl ⟨d, hA⟩) hb, z⟩) (argD_odB hA)
        · split at ea
          · rename_i hb
            subst ea
            simp only [Bool.and_eq_true, Bool.not_eq_true'] at hb
            have hi : s.ins? = some o0 := by
              cases s with
              | ow q => cases hs; simp [Sl.ins?, insO, hb.1]
              | rf q => cases hs; simp [Sl.ins?, insO, hb.1]
              | _ => cases hs
            obtain ⟨g, g1, g2⟩ := roS (.inl hb.2) h1 hi h3
            exact ⟨hb.1, p, g, rfl, g1, g2⟩
          · exact rfc ea
      simp only [adOf, h1] at e2
      cases s with
      | no => cases e2
      | ar _ => cases e2
      | sh d =>
        cases e2
        obtain ⟨v', q1, q2⟩ := R.slot i _ h1
        rw [h3] at q1
        cases q1
        exact q2
      | ow o0 => exact lst rfl (Option.some.inj e2).symm
      | rf o0 => exact lst rfl (Option.some.inj e2).symm
      | ro o0 =>
        cases e2
        obtain ⟨p, f, q1, q2, q3, _⟩ := R.slot i _ h1
        rw [h3] at q1
        cases q1
        obtain ⟨g, g1, g2⟩ := roS (o0 := o0) (.inr ⟨o0, rfl⟩) h1 (by simp [Sl.ins?, insO, q3]) h3
        exact ⟨q3, p, g, rfl, g1, g2⟩
    | fld i path =>
      obtain ⟨s, p, o2, h1, h2, h3, h4⟩ := ov
      simp only [adOf, h1, h2, Option.bind_some] at e2
      obtain ⟨p', f, g1, g2, g3, g4⟩ := R.insOkX h1 h2
      rw [h3] at g1
      cases g1
      have away : (m && !roB s) = false → ∀ b ∈ f, ¬ Rfs as ft b := fun hm b hb z => by
        obtain ⟨i', j', s', o', c1, c2, c3, c4, c5, c6, c7, c8⟩ := rfO b z
        obtain ⟨w1, w2⟩ := g3 b hb c8
        cases s with
        | ow q => exact apO h1 w2 (.inr ⟨by simpa [roB] using hm, by cases (insO_eq h2).1; exact (insO_eq h2).2⟩) w1 z
        | rf q => exact apO h1 w2 (.inr ⟨by simpa [roB] using hm, by cases (insO_eq h2).1; exact (insO_eq h2).2⟩) w1 z
        | _ => cases w2
      have sS : Same (W.S F) (less W.H (Rfs as ft)) := same_less fun b u nx e => ⟨fun z => by
        obtain ⟨_, _, _, _, _, _, _, _, _, _, _, q⟩ := rfO b z
        exact nx (.inr q), e⟩
      obtain ⟨o', e4, e2⟩ := Option.bind_eq_some_iff.mp e2
      obtain ⟨q, F', rfl, hF, hO⟩ := g2.path Rel.S_same e4 h4
      split at e2
      · cases e2
      · rename_i nm
        split at e2
        · rename_i d hA
          cases e2
          exact odB_ok sS hO (fun b hb u z => less_some.mpr ⟨away nm b (hF b hb), z⟩) (argD_odB hA)
        · split at e2
          · rename_i hi
            cases e2
            exact ⟨hi, q, F', rfl, fun b hb => ⟨away nm b (hF b hb), g4 b (hF b hb)⟩, hO⟩
          · cases e2
  · obtain ⟨x1, c1, c2⟩ := hg i _ e1
    obtain ⟨x2, d1, d2⟩ := hg j _ e2
    obtain ⟨i1, s1, rfl, b1, b2, _⟩ := adOf_rf c2
    obtain ⟨i2, s2, rfl, b3, b4, _⟩ := adOf_rf d2
    rw [ftE c1] at h1
    rw [ftE d1] at h2
    have ne2 : i1 ≠ i2 := fun z => by
      subst z
      have m1 := rfIx_of (j := 0) c1 e1
      have m2 := rfIx_of (j := 0) d1 e2
      have a1 := ixM_mem (os := fun j => .lst [.int j]) (ft := fun _ => []) hd m1
      have a2 := ixM_mem (os := fun j => .lst [.int j]) (ft := fun _ => []) hd m2
      rw [a1] at a2
      simp at a2
      omega
    exact R.dis i1 i2 s1 s2 _ _ a ne2 b1 b3 b2 b4 h1 h2
  · obtain ⟨n, o1, rfl, h1, h2⟩ := rfIx_mem h
    rw [Nat.zero_add]
    exact ftE h1
/-- an answer, where it stands; what is new was nobody's ahead of it -/
def RtOk {K : Fg} (F : Fx K) (W0 : Wd) (Γ0 : G) (W : Wd) (Γ : G) (v : V) : RT → Prop
  | .d d => Dq K (W.S F) v d
  | .nw o => ∃ p f, v = .ref p ∧ OwnO K (W.S F) W.H o p f ∧ ∀ a ∈ f, (Tm W Γ a ∧ F.H0 a = none ∧ ¬ F.rf a) ∧ ¬ Tm W0 Γ0 a
theorem ixM_rf {m : Bool} {vs : List V} {xs : List RV} {as : List AD} {os : Nat → OD} {ft : Nat → List Addr} {i : Nat} {n : OD × List Addr} (h : ixM os ft (rfIx xs as 0) i = some n) : ∃ j o, n = (os j, ft j) ∧ (i, j) ∈ rfIx xs as 0 ∧ xs[j]? = some (.own i) ∧ as[j]? = some (AD.rf o) := by
  obtain ⟨j, h1, h2⟩ := ixM_some h
  obtain ⟨k, o, rfl, h3, h4⟩ := rfIx_mem h1
  rw [Nat.zero_add] at h1 h2
  exact ⟨k, o, h2, h1, h3, h4⟩
theorem osL_ix (os : Nat → OD) : ∀ {xs : List RV} {as : List AD} {j : Nat}, xs.length = as.length → (∀ (n : Nat) (o : OD), as[n]? = some (.rf o) → ∃ i, xs[n]? = some (.own i)) → osL os as j = (rfIx xs as j).map fun q => os q.2
  | [], [], _, _, _ => rfl
  | [], _ :: _, _, h, _ => by simp at h
  | _ :: _, [], _, h, _ => by simp at h
  | x :: xs, a :: as, j, h, hr => by
    have ih := osL_ix os (xs := xs) (as := as) (j := j + 1) (by simpa using h) fun n o e => by simpa using hr (n + 1) o (by simpa using e)
    cases a with
    | rf o =>
      obtain ⟨i, e⟩ := hr 0 o rfl
      simp at e
      subst e
      simp only [osL, rfIx, List.map_cons, ih]
    | d d z => cases x <;> simp only [osL, rfIx, ih]
    | ro o => cases x <;> simp only [osL, rfIx, ih]
theorem callG {m : Bool} {C : Ct} {vs : List V} {xs : List RV} {as : List AD} {Q : VK} {E : XK} {Qd : RT → List OD → Prop} {Qx : Value → List OD → Prop} (R : Rel F W σ Γ) (o : VOks F W σ Γ vs xs) (ha : adsOf m Γ xs = some as) (hd : distB (rfIx xs as 0) = true) (hu : uniB Γ (rfIx xs as 0) = true) (hc : C as Qd Qx)
    (kd : ∀ (r : RT) (ol : List OD) (W' : Wd) (v : V), StM m F W Γ W' (putOL ol (rfIx xs as 0) Γ) → Rel F W' σ (putOL ol (rfIx xs as 0) Γ) → RtOk F W Γ W' (putOL ol (rfIx xs as 0) Γ) v r → Qd r ol → Q v W'.H)
    (kx : ∀ (c : Value) (ol : List OD) (W' : Wd), StM m F W Γ W' (putOL ol (rfIx xs as 0) Γ) → Rel F W' σ (putOL ol (rfIx xs as 0) Γ) → Qx c ol → E c none W'.H) : GSp K m C vs W.H Q E := by
  obtain ⟨ft, hin, hft⟩ := gIn_of R o ha hd
  obtain ⟨hl, hg⟩ := adsOf_get ha
  have eL : ∀ os : Nat → OD, putOL (osL os as 0) (rfIx xs as 0) Γ = putOs os (rfIx xs as 0) Γ := fun os => by
    rw [osL_ix os hl fun n o e => by
      obtain ⟨x, e1, e2⟩ := hg n _ e
      obtain ⟨i, s, rfl, _⟩ := adOf_rf e2
      exact ⟨i, e1⟩, putOL_os]
  have fin : ∀ {H' : Hp} {os : Nat → OD} {ft' : Nat → List Addr} {T : Addr → Prop}, GOut K vs W.H as ft (Ex F W.O) H' os ft' T →
      ChOk F W σ Γ (ixM os ft' (rfIx xs as 0)) H' T ∧ ∀ a, (Ex F W.O a ∨ Rfs as ft' a ∨ T a) ↔ Ex F (chW W (ixM os ft' (rfIx xs as 0)) H' T).O a := fun {H' os ft' T} g => by
    have rN : ∀ a, Rfs as ft' a ↔ chN (ixM os ft' (rfIx xs as 0)) a := fun a => by
      constructor
      · rintro ⟨j, o1, e, hj⟩
        obtain ⟨x, e1, e2⟩ := hg j _ e
        obtain ⟨i, s, rfl, _⟩ := adOf_rf e2
        have := rfIx_of (j := 0) e1 e
        rw [Nat.zero_add] at this
        exact ⟨i, _, _, ixM_mem hd this, hj⟩
      · rintro ⟨i, o1, f1, e, hj⟩
        obtain ⟨j, o2, e1, e2, e3, e4⟩ := ixM_rf (m := m) (vs := vs) e
        cases e1
        exact ⟨j, o2, e4, hj⟩
    have rR : ∀ a, Rfs as ft a ↔ chR W (ixM os ft' (rfIx xs as 0)) a := fun a => by
      constructor
      · rintro ⟨j, o1, e, hj⟩
        obtain ⟨x, e1, e2⟩ := hg j _ e
        obtain ⟨i, s, rfl, _⟩ := adOf_rf e2
        have := rfIx_of (j := 0) e1 e
        rw [Nat.zero_add] at this
        exact ⟨i, _, ixM_mem hd this, by rw [← hft i j this]; exact hj⟩
      · rintro ⟨i, n, e, hj⟩
        obtain ⟨j, o2, e1, e2, e3, e4⟩ := ixM_rf (m := m) (vs := vs) e
        exact ⟨j, o2, e4, by rw [hft i j e2]; exact hj⟩
    have eX : ∀ a, (Ex F W.O a ∨ Rfs as ft' a ∨ T a) ↔ Ex F (chW W (ixM os ft' (rfIx xs as 0)) H' T).O a := fun a => by
      show ((F.ex a ∨ W.O a) ∨ Rfs as ft' a ∨ T a) ↔ (F.ex a ∨ (W.O a ∨ chN (ixM os ft' (rfIx xs as 0)) a ∨ T a))
      rw [rN a]
      constructor
      · rintro ((z | z) | z | z)
        · exact .inl z
        · exact .inr (.inl z)
        · exact .inr (.inr (.inl z))
        · exact .inr (.inr (.inr z))
      · rintro (z | z | z | z)
        · exact .inl (.inl z)
        · exact .inl (.inr z)
        · exact .inr (.inl z)
        · exact .inr (.inr z)
    have kind : ∀ (f : Option Sl → Bool), (rfIx xs as 0).all (fun q => f Γ[q.1]?) = true → ∀ i n s, ixM os ft' (rfIx xs as 0) i = some n → Γ[i]? = some s → f (some s) = true := fun f ha i n s e h1 => by
      obtain ⟨j, o2, e1, e2, e3, e4⟩ := ixM_rf (m := m) (vs := vs) e
      have := List.all_eq_true.mp ha _ e2
      rw [show Γ[(i, j).1]? = some s from h1] at this
      exact this
    refine ⟨⟨fun a u n e => g.fr a u (fun z => n ((rR a).mp z)) e, fun a z => ?_, fun a z => ?_, fun i n e => ?_, fun i k n n2 a ne e1 e2 h1 h2 => ?_, fun a z => ⟨(g.tn a z).1, fun y => (g.tn a z).2.1 ((rN a).mpr y), (g.tn a z).2.2⟩, ?_⟩, eX⟩
    · exact (g.nw a ((rN a).mpr z)).imp (rR a).mp id
    · rcases z with z | z
      · exact g.mo a ((rR a).mpr z)
      · obtain ⟨j, o1, e, hj⟩ := (rN a).mpr z
        obtain ⟨p, _, q, _⟩ := g.ob j o1 e
        exact q.mo a hj
    · obtain ⟨j, o2, rfl, e2, e3, e4⟩ := ixM_rf (m := m) (vs := vs) e
      obtain ⟨x, c1, c2⟩ := hg j _ e4
      rw [e3] at c1
      cases c1
      obtain ⟨i', s, z, b1, b2, b3, b4⟩ := adOf_rf c2
      cases z
      obtain ⟨p, q1, q2, q3, q4⟩ := g.ob j o2 e4
      obtain ⟨v, w1, w2⟩ := paired_get' o e3
      rw [q1] at w1
      cases w1
      obtain ⟨_, _, _, w3⟩ := w2
      refine ⟨s, o2, p, b1, b2, w3, ?_, fun z => ?_, q3⟩
      · exact OwnO.keep (same_less fun a u nx e => ⟨fun z => nx ((eX a).mpr z), e⟩) (fun _ _ _ e => e) q2 fun _ _ => rfl
      · rw [← hft i j e2]
        exact q4 (by rw [← q3]; exact z)
    · obtain ⟨j, o2, rfl, b2, b3, b4⟩ := ixM_rf (m := m) (vs := vs) e1
      obtain ⟨l, o3, rfl, d2, d3, d4⟩ := ixM_rf (m := m) (vs := vs) e2
      have njl : j ≠ l := fun z => by
        subst z
        rw [b3] at d3
        cases d3
        exact ne rfl
      exact g.dj j l o2 o3 a njl b4 d4 h1 h2
    · simp only [uniB, Bool.or_eq_true] at hu
      rcases hu with hu | hu
      · left
        intro i n s e h1
        have := kind isOw hu i n s e h1
        cases s <;> first | exact ⟨_, rfl⟩ | cases this
      · right
        intro i n s e h1
        have := kind isRfS hu i n s e h1
        cases s <;> first | exact ⟨_, rfl⟩ | cases this
  have stm : ∀ {H' : Hp} {os : Nat → OD} {ft' : Nat → List Addr} {T : Addr → Prop}, GOut K vs W.H as ft (Ex F W.O) H' os ft' T → ChOk F W σ Γ (ixM os ft' (rfIx xs as 0)) H' T → StM m F W Γ (chW W (ixM os ft' (rfIx xs as 0)) H' T) (putOs os (rfIx xs as 0) Γ) := fun {H' os ft' T} g c => by
    rw [← putOs_ch (ft := ft') hd]
    refine R.objsM c (fun hm i n e => ?_) fun hm a ⟨i, n, e, hj⟩ => ?_
    · obtain ⟨j, o2, rfl, e2, e3, e4⟩ := ixM_rf (m := m) (vs := vs) e
      obtain ⟨x, c1, c2⟩ := hg j _ e4
      obtain ⟨_, _, _, _, _, _, b4⟩ := adOf_rf c2
      obtain ⟨p, q1, q2, q3, q4⟩ := g.ob j o2 e4
      rw [show (os j, ft' j).1 = os j from rfl, q3]
      exact b4 hm
    · obtain ⟨j, o2, rfl, e2, e3, e4⟩ := ixM_rf (m := m) (vs := vs) e
      obtain ⟨x, c1, c2⟩ := hg j _ e4
      rw [e3] at c1
      cases c1
      obtain ⟨i', s, z, b1, b2, b3, b4⟩ := adOf_rf c2
      cases z
      obtain ⟨p, hp⟩ := own_ref R b1 b2
      exact OwnO.notIns (ownO_ok.mpr (own_at R b1 b2 hp)) (b4 hm) a hj
  refine ⟨as, ft, Ex F W.O, Qd, Qx, hin, hc, fun v H' os ft' T r g ok q => ?_, fun c H' os ft' g q => ?_⟩
  · obtain ⟨c, eX⟩ := fin g
    have R2 := (R.objs c).1
    rw [putOs_ch hd] at R2
    refine kd r (osL os as 0) _ v (by rw [eL]; exact stm g c) (by rw [eL]; exact R2) ?_ q
    rw [eL]
    have sS : Same (less H' fun a => Ex F W.O a ∨ Rfs as ft' a ∨ T a) ((chW W (ixM os ft' (rfIx xs as 0)) H' T).S F) := same_less fun a u nx e => ⟨fun z => nx ((eX a).mpr z), e⟩
    cases r with
    | d d => exact ok.1.same sS
    | nw o1 =>
      obtain ⟨p, f, rfl, q1, q2⟩ := ok
      refine ⟨p, f, rfl, OwnO.keep sS (fun _ _ _ e => e) q1 fun _ _ => rfl, fun a ha => ?_⟩
      have := c.tm R ((q2 a).mpr ha)
      rw [putOs_ch hd] at this
      refine ⟨this, fun z => ?_⟩
      have m := R.mu a z.1
      rw [(c.tn a ((q2 a).mpr ha)).1] at m
      exact m
  · obtain ⟨ch, eX⟩ := fin g
    have R2 := (R.objs ch).1
    rw [putOs_ch hd] at R2
    exact kx c (osL os as 0) _ (by rw [eL]; exact stm g ch) (by rw [eL]; exact R2) q
end
end Dk

namespace Dk
open PySem PySem.Spec PyProof.Rows L2
/-! ### expressions that may raise, and change instances -/
abbrev TEXd := G → (RV → G → Prop) → (Value → G → Prop) → Prop
abbrev TAXd := G → (List RV → G → Prop) → (Value → G → Prop) → Prop
abbrev TGCd := G → (RT → G → Prop) → (Value → G → Prop) → Prop
class SEX (K : Fg) (Xw : WX) (m : outParam Bool) (t : TE) (d : outParam TEXd) : Prop where
  run : ∀ (F : Fx K) (W : Wd) (σ : L2.St) (Γ : G) (Q : VK) (Qd : RV → G → Prop) (Qx : Value → G → Prop), Rel F W σ Γ → d Γ Qd Qx →
    (∀ (rv : RV) (W' : Wd) (Γ' : G) (v : V), StM m F W Γ W' Γ' → Rel F W' σ Γ' → VOk F W' σ Γ' v rv → Qd rv Γ' → Q v W'.H) →
    (∀ (c : Value) (W' : Wd) (Γ' : G), Same (W.S F) (W'.S F) → Rel F W' σ Γ' → Qx c Γ' → Xw c none σ W'.H) → t σ W.H Q
class SAX (K : Fg) (Xw : WX) (m : outParam Bool) (t : TA) (d : outParam TAXd) : Prop where
  run : ∀ (F : Fx K) (W : Wd) (σ : L2.St) (Γ : G) (Q : List V → Hp → Prop) (Qd : List RV → G → Prop) (Qx : Value → G → Prop), Rel F W σ Γ → d Γ Qd Qx →
    (∀ (xs : List RV) (W' : Wd) (Γ' : G) (vs : List V), StM m F W Γ W' Γ' → Rel F W' σ Γ' → VOks F W' σ Γ' vs xs → Qd xs Γ' → Q vs W'.H) →
    (∀ (c : Value) (W' : Wd) (Γ' : G), Same (W.S F) (W'.S F) → Rel F W' σ Γ' → Qx c Γ' → Xw c none σ W'.H) → t σ W.H Q
class SEG (K : Fg) (Xw : WX) (m : outParam Bool) (t : TE) (d : outParam TGCd) : Prop where
  run : ∀ (F : Fx K) (W : Wd) (σ : L2.St) (Γ : G) (Q : VK) (Qd : RT → G → Prop) (Qx : Value → G → Prop), Rel F W σ Γ → d Γ Qd Qx →
    (∀ (r : RT) (W' : Wd) (Γ' : G) (v : V), StM m F W Γ W' Γ' → Rel F W' σ Γ' → RtOk F W Γ W' Γ' v r → Qd r Γ' → Q v W'.H) →
    (∀ (c : Value) (W' : Wd) (Γ' : G), Same (W.S F) (W'.S F) → Rel F W' σ Γ' → Qx c Γ' → Xw c none σ W'.H) → t σ W.H Q
def dLiftE (d : TEd) : TEXd := fun Γ Q _ => d Γ Q
def dLiftA (d : TAd) : TAXd := fun Γ Q _ => d Γ Q
section
variable {K : Fg} {Xw : WX} {m m1 m2 : Bool} {t : TE} {ta : TE} {ts : TA}
instance sex_se {d : TEd} [A : SE K t d] : SEX K Xw false t (dLiftE d) := ⟨fun F W σ Γ Q Qd Qx R q k _ => A.run F W σ Γ _ _ R q fun x W' Γ' v s R' o q => k x W' Γ' v s R' o q⟩
instance (priority := high) sax_sa {d : TAd} [A : SA K ts d] : SAX K Xw false ts (dLiftA d) := ⟨fun F W σ Γ Q Qd Qx R q k _ => A.run F W σ Γ _ _ R q fun x W' Γ' v s R' o q => k x W' Γ' v s R' o q⟩
def dConsX (m2 : Bool) (da : TEXd) (d : TAXd) : TAXd := fun Γ Q X => da Γ (fun x Γ1 => stayM m2 x = true ∧ d Γ1 (fun xs Γ2 => Q (x :: xs) Γ2) X) X
instance sax_cons {da : TEXd} {d : TAXd} [A : SEX K Xw m1 ta da] [B : SAX K Xw m2 ts d] : SAX K Xw (m1 || m2) (tCons ta ts) (dConsX m2 da d) := ⟨fun F W σ Γ Q Qd Qx R q k kx => A.run F W σ Γ _ _ _ R q (fun x W1 Γ1 v s1 R1 o1 ⟨hs, q⟩ => B.run F W1 σ Γ1 _ _ _ R1 q (fun xs W2 Γ2 vs s2 R2 o2 q => k (x :: xs) W2 Γ2 (v :: vs) (s1.trans s2) R2 (.cons (o1.stm s2 hs) o2) q) fun c W2 Γ2 s2 R2 q => kx c W2 Γ2 (s1.stx.sh.trans s2) R2 q) fun c W' Γ' s R' q => kx c W' Γ' s R' q⟩
/-! new things without a name: let be, or named -/
theorem Rel.letgo {F : Fx K} {W : Wd} {σ : L2.St} {Γ : G} (R : Rel F W σ Γ) {f : List Addr} (hf : ∀ a ∈ f, Tm W Γ a ∧ F.H0 a = none ∧ ¬ F.rf a) : Rel F ⟨fun a => W.O a ∧ a ∉ f, W.ft, W.H⟩ σ Γ ∧ Same (W.S F) (Wd.S (K := K) ⟨fun a => W.O a ∧ a ∉ f, W.ft, W.H⟩ F) := by
  have hs : Same (W.S F) (Wd.S (K := K) ⟨fun a => W.O a ∧ a ∉ f, W.ft, W.H⟩ F) := same_less fun a u nx e => ⟨fun z => nx (z.imp id And.left), e⟩
  refine ⟨⟨R.base, fun a ha => R.new a ha.1, fun a ha => R.mu a ha.1, fun a ha => ⟨R.rfo a ha, fun z => (hf a z).2.2 ha⟩, R.len, fun j s e => ?_, R.dis⟩, hs⟩
  have z := R.slot j s e
  have keep : ∀ a ∈ W.ft j, ∀ o, s.own? = some o → a ∉ f := fun a ha o so hm => (hf a hm).1.2 j s o e so ha
  cases s with
  | no => trivial
  | sh d => obtain ⟨v, q1, q2⟩ := z; exact ⟨v, q1, q2.same hs⟩
  | ar d => exact z
  | ro o => exact z
  | ow o =>
    obtain ⟨p, a1, a2, a3⟩ := z
    exact ⟨p, a1, fun a ha => ⟨⟨(a2 a ha).1, keep a ha o rfl⟩, (a2 a ha).2⟩, a3.keep hs (fun _ _ => rfl) fun _ _ _ z => z⟩
  | rf o =>
    obtain ⟨p, a0, a1, a2, a3⟩ := z
    exact ⟨p, a0, a1, fun a ha => ⟨a2 a ha, keep a ha o rfl⟩, a3.keep hs (fun _ _ => rfl) fun _ _ _ z => z⟩
theorem Rel.setTm {F : Fx K} {W : Wd} {σ : L2.St} {Γ : G} (R : Rel F W σ Γ) {i : Nat} {p : Addr} {f : List Addr} {o : OD} (hf : ∀ a ∈ f, Tm W Γ a ∧ F.H0 a = none ∧ ¬ F.rf a) (hO : OwnO K (W.S F) W.H o p f) : Rel F ⟨W.O, fun j => if j = i then f else W.ft j, W.H⟩ (σ.set i (some (.ref p))) (Γ.set i (.ow o)) := by
  have ft1 : ∀ j, j ≠ i → (if j = i then f else W.ft j) = W.ft j := fun j n => if_neg n
  refine ⟨R.base, R.new, R.mu, R.rfo, by simp [R.len], fun j s e => ?_, fun j k s t oj ok a ne e1 e2 g1 g2 => ?_⟩
  · rcases get_set _ _ _ _ _ e with ⟨rfl, rfl, hl⟩ | ⟨ne, e⟩
    · refine ⟨p, get_set_same (by rw [R.len]; exact hl), ?_, ?_⟩
      · show ∀ a ∈ (if j = j then f else W.ft j), _
        rw [if_pos rfl]
        exact fun a ha => ⟨(hf a ha).1.1, (hf a ha).2.2⟩
      · show OwnOk K _ _ p (if j = j then f else W.ft j) o
        rw [if_pos rfl]
        exact ownO_ok.mp hO
    · rw [List.getElem?_set_ne (Ne.symm ne)]
      exact (R.slot j s e).keep (W' := ⟨W.O, fun j => if j = i then f else W.ft j, W.H⟩) (ft1 j ne) (Same.refl _) (fun _ _ z => z) (fun _ _ _ => rfl) fun _ _ _ z => z
  · intro ha hb
    rcases get_set _ _ _ _ _ e1 with ⟨q1, _, _⟩ | ⟨n1, h1⟩
    · rcases get_set _ _ _ _ _ e2 with ⟨q2, _, _⟩ | ⟨n2, h2⟩
      · exact ne (q1.trans q2.symm)
      · have ha' : a ∈ f := by subst q1; simpa using ha
        have hb' : a ∈ W.ft k := by have := hb; simp only [if_neg n2] at this; exact this
        exact (hf a ha').1.2 k t ok h2 g2 hb'
    · have ha' : a ∈ W.ft j := by have := ha; simp only [if_neg n1] at this; exact this
      rcases get_set _ _ _ _ _ e2 with ⟨q2, _, _⟩ | ⟨n2, h2⟩
      · have hb' : a ∈ f := by subst q2; simpa using hb
        exact (hf a hb').1.2 j s oj h1 g1 ha'
      · have hb' : a ∈ W.ft k := by have := hb; simp only [if_neg n2] at this; exact this
        exact R.dis j k s t oj ok a ne h1 h2 g1 g2 ha' hb'
/-- an answer as data -/
def rtD : RT → Option PyData
  | .d d => some d
  | .nw o => odB o
theorem StM.letgo {m : Bool} {F : Fx K} {W : Wd} {Γ : G} {W0 : Wd} {Γ0 : G} (s : StM m F W0 Γ0 W Γ) {f : List Addr} (hf : ∀ a ∈ f, ¬ Tm W0 Γ0 a) : StM m F W0 Γ0 ⟨fun a => W.O a ∧ a ∉ f, W.ft, W.H⟩ Γ := by
  have hs : Same (W.S F) (Wd.S (K := K) ⟨fun a => W.O a ∧ a ∉ f, W.ft, W.H⟩ F) := same_less fun a u nx e => ⟨fun z => nx (z.imp id And.left), e⟩
  have kq : Kq F W0 Γ0 ⟨fun a => W.O a ∧ a ∉ f, W.ft, W.H⟩ Γ := ⟨s.stx.sh.trans hs, fun p t => by
    obtain ⟨a1, a2⟩ := s.stx.tmp p t
    exact ⟨⟨⟨a1.1, fun z => hf p z t⟩, a1.2⟩, a2⟩⟩
  cases m with
  | true => exact ⟨kq, s.stx.kin, s.stx.len⟩
  | false => exact ⟨⟨kq, (show Stp F W0 Γ0 W Γ from s).obj⟩, (show Stp F W0 Γ0 W Γ from s).kin, s.stx.len⟩
theorem RtOk.of {m : Bool} {F : Fx K} {W0 W W' : Wd} {Γ0 Γ Γ' : G} {v : V} {r : RT} (s : StM m F W0 Γ0 W Γ) (h : RtOk F W Γ W' Γ' v r) : RtOk F W0 Γ0 W' Γ' v r := by
  cases r with
  | d d => exact h
  | nw o =>
    obtain ⟨p, f, h1, h2, h3⟩ := h
    exact ⟨p, f, h1, h2, fun a ha => ⟨(h3 a ha).1, fun z => (h3 a ha).2 (s.stx.tmp a z).1⟩⟩
/-- an answer, read as data -/
theorem RtOk.data {m : Bool} {F : Fx K} {W0 W : Wd} {σ : L2.St} {Γ0 Γ : G} {v : V} {r : RT} {d : PyData} (s : StM m F W0 Γ0 W Γ) (R : Rel F W σ Γ) (h : RtOk F W0 Γ0 W Γ v r) (e : rtD r = some d) : ∃ W' : Wd, W'.H = W.H ∧ StM m F W0 Γ0 W' Γ ∧ Rel F W' σ Γ ∧ Dq K (W'.S F) v d := by
  cases r with
  | d d' => cases e; exact ⟨W, rfl, s, R, h⟩
  | nw o =>
    obtain ⟨p, f, rfl, h2, h3⟩ := h
    obtain ⟨R', hs⟩ := R.letgo fun a ha => (h3 a ha).1
    refine ⟨⟨fun a => W.O a ∧ a ∉ f, W.ft, W.H⟩, rfl, s.letgo fun a ha => (h3 a ha).2, R', ?_⟩
    have nx : ∀ a ∈ f, ¬ Ex F (fun a => W.O a ∧ a ∉ f) a := fun a ha z => by
      rcases z with z | z
      · have := F.xm a z
        rw [(h3 a ha).1.2.1] at this
        exact this
      · exact z.2 ha
    exact odB_ok hs h2 (fun b hb u z => less_some.mpr ⟨nx b hb, z⟩) e
end
/-! ### calls -/
def dVal (d : TGCd) : TEXd := fun Γ Q X => d Γ (fun r Γ1 => ∃ x, rtD r = some x ∧ Q (.sh x) Γ1) X
/-- what is asked of the arguments of a call, and what follows -/
def dArgs (m : Bool) (C : Ct) (xs : List RV) (Γ : G) (Q : RT → G → Prop) (X : Value → G → Prop) : Prop := ∃ as, adsOf m Γ xs = some as ∧ distB (rfIx xs as 0) = true ∧ uniB Γ (rfIx xs as 0) = true ∧ C as (fun r ol => Q r (putOL ol (rfIx xs as 0) Γ)) fun c ol => X c (putOL ol (rfIx xs as 0) Γ)
def dCallG (m : Bool) (C : Ct) (d : TAXd) : TGCd := fun Γ Q X => d Γ (fun xs Γ1 => dArgs m C xs Γ1 Q X) X
def dCallGN (m : Bool) (C : Ct) (d : TAXd) : TGCd := fun Γ Q X => d Γ (fun xs Γ1 => dArgs m C xs Γ1 Q fun _ _ => False) X
/-- an instance, by a name or an attribute -/
def insAt (Γ : G) : RV → Option OD
  | .own i => match Γ[i]? with
    | some s => s.ins?
    | none => none
  | .fld i path => match Γ[i]? with
    | some s => s.ins?.bind fun o => (o.at_ path).bind insO
    | none => none
  | _ => none
def dMethG (cl : Addr) (nm : Str) (m m2 : Bool) (C : Ct) (dr : TEd) (d : TAXd) : TGCd := fun Γ Q X => dr Γ fun x Γ1 => ∃ fs, insAt Γ1 x = some (.ins cl fs) ∧ fs.has nm = false ∧ d Γ1 (fun xs Γ2 => stayM m2 x = true ∧ dArgs m C (x :: xs) Γ2 Q X) X
def dMethGN (cl : Addr) (nm : Str) (m m2 : Bool) (C : Ct) (dr : TEd) (d : TAXd) : TGCd := fun Γ Q X => dr Γ fun x Γ1 => ∃ fs, insAt Γ1 x = some (.ins cl fs) ∧ fs.has nm = false ∧ d Γ1 (fun xs Γ2 => stayM m2 x = true ∧ dArgs m C (x :: xs) Γ2 Q fun _ _ => False) X
theorem FsOk.none {K : Fg} {S H : Hp} {f : Str} : ∀ {fs : Fs} {vs : List (Str × V)} {qs : List Addr}, FsOk K S H fs vs qs → fs.has f = false → vs.lookup f = none
  | .nil, _, _, h, _ => by simp only [FsOk] at h; rw [h.1]; rfl
  | .sh g d r, _, _, h, e => by
    simp only [FsOk] at h
    obtain ⟨v, vs', rfl, _, h2⟩ := h
    simp only [Fs.has, Bool.or_eq_false_iff, decide_eq_false_iff_not] at e
    rw [List.lookup_cons, beq_false_of_ne e.1]
    exact FsOk.none h2 e.2
  | .ow g o r, _, _, h, e => by
    simp only [FsOk] at h
    obtain ⟨p, vs', q1, q2, rfl, _, _, h2⟩ := h
    simp only [Fs.has, Bool.or_eq_false_iff, decide_eq_false_iff_not] at e
    rw [List.lookup_cons, beq_false_of_ne e.1]
    exact FsOk.none h2 e.2
  | .no g r, _, _, h, e => by
    simp only [FsOk] at h
    obtain ⟨v, vs', rfl, h2⟩ := h
    simp only [Fs.has, Bool.or_eq_false_iff, decide_eq_false_iff_not] at e
    rw [List.lookup_cons, beq_false_of_ne e.1]
    exact FsOk.none h2 e.2
section
variable {K : Fg} {Xw : WX} {m m1 m2 : Bool} {t : TE} {ta : TE} {ts : TA} {C : Ct} {E : XK} {cl : Addr} {nm : Str}
theorem insAt_ok {F : Fx K} {W : Wd} {σ : L2.St} {Γ : G} {v : V} {x : RV} {fs : Fs} (R : Rel F W σ Γ) (o : VOk F W σ Γ v x) (h : insAt Γ x = some (.ins cl fs)) : ∃ a dx vs qs f, v = .ref a ∧ W.H a = some (.ins cl dx vs) ∧ FsOk K (W.S F) W.H fs vs qs ∧ ClsI K cl fs ∧ OwnO K (W.S F) W.H (.ins cl fs) a f := by
  have fin : ∀ {a : Addr} {f : List Addr}, v = .ref a → OwnO K (W.S F) W.H (.ins cl fs) a f → ∃ a dx vs qs f, v = .ref a ∧ W.H a = some (.ins cl dx vs) ∧ FsOk K (W.S F) W.H fs vs qs ∧ ClsI K cl fs ∧ OwnO K (W.S F) W.H (.ins cl fs) a f := fun {a f} hv hO => by
    have hO' := hO
    simp only [OwnO] at hO'
    obtain ⟨dx, vs, qs, _, _, h1, _, h3, h4⟩ := hO'
    exact ⟨a, dx, vs, qs, f, hv, h1, h3, h4, hO⟩
  cases x with
  | sh d => cases h
  | ar d => cases h
  | own i =>
    obtain ⟨s, h1, h2, h3⟩ := o
    simp only [insAt, h1] at h
    obtain ⟨p, f, g1, g2, _⟩ := R.insOk h1 h
    rw [h3] at g1
    cases g1
    exact fin rfl g2
  | fld i path =>
    obtain ⟨s, p, o2, h1, h2, h3, h4⟩ := o
    simp only [insAt, h1, h2, Option.bind_some] at h
    obtain ⟨o', e1, e2⟩ := Option.bind_eq_some_iff.mp h
    cases (insO_eq e2).1
    obtain ⟨p', f, g1, g2, _⟩ := R.insOk h1 h2
    rw [h3] at g1
    cases g1
    obtain ⟨q, F', hv, _, hO⟩ := g2.path Rel.S_same e1 h4
    exact fin hv hO
instance (priority := low) sex_seg {d : TGCd} [A : SEG K Xw m t d] : SEX K Xw m t (dVal d) := ⟨fun F W σ Γ Q Qd Qx R q k kx => A.run F W σ Γ _ _ _ R q (fun r W' Γ' v s R' o ⟨x, e, q⟩ => by
  obtain ⟨W2, eH, s2, R2, hd⟩ := o.data s R' e
  rw [← eH]
  exact k (.sh x) W2 Γ' v s2 R2 hd q) kx⟩
theorem callG_run {F : Fx K} {W W1 : Wd} {σ : L2.St} {Γ Γ1 : G} {vs : List V} {xs : List RV} {Q : VK} {Qd : RT → G → Prop} {Qe : Value → G → Prop} {E : XK} (s1 : StM m1 F W Γ W1 Γ1) (R1 : Rel F W1 σ Γ1) (o : VOks F W1 σ Γ1 vs xs) (q : dArgs m C xs Γ1 Qd Qe)
    (k : ∀ (r : RT) (W' : Wd) (Γ' : G) (v : V), StM (m1 || m) F W Γ W' Γ' → Rel F W' σ Γ' → RtOk F W Γ W' Γ' v r → Qd r Γ' → Q v W'.H) (kx : ∀ (c : Value) (W' : Wd) (Γ' : G), Same (W.S F) (W'.S F) → Rel F W' σ Γ' → Qe c Γ' → E c none W'.H) : GSp K m C vs W1.H Q E := by
  obtain ⟨as, ha, hd, hu, hc⟩ := q
  exact callG R1 o ha hd hu hc (fun r os W' v s R' ok q => k r W' _ v (s1.trans s) R' (ok.of s1) q) fun c os W' s R' q => kx c W' _ (s1.stx.sh.trans s.stx.sh) R' q
instance seg_callS {d : TAXd} [A : SAX K Xw m1 ts d] : SEG K Xw (m1 || m) (tCallS (GSp K m C) (WE Xw) ts) (dCallG m C d) := ⟨fun F W σ Γ Q Qd Qx R q k kx => A.run F W σ Γ _ _ _ R q (fun xs W1 Γ1 vs s1 R1 o1 q => callG_run s1 R1 o1 q k kx) kx⟩
instance seg_call {d : TAXd} [A : SAX K Xw m1 ts d] : SEG K Xw (m1 || m) (tCall (GSp K m C) [] E ts) (dCallGN m C d) := ⟨fun F W σ Γ Q Qd Qx R q k kx => A.run F W σ Γ _ _ _ R q (fun xs W1 Γ1 vs s1 R1 o1 q => by
  rw [List.append_nil]
  exact callG_run s1 R1 o1 q k fun c W' Γ' s R' z => z.elim) kx⟩
theorem meth_run {F : Fx K} {W : Wd} {σ : L2.St} {Γ : G} {Q : VK} {Qd : RT → G → Prop} {Qx Qe : Value → G → Prop} {dr : TEd} {d : TAXd} [B : SE K ta dr] [A : SAX K Xw m1 ts d] (R : Rel F W σ Γ) (q : dr Γ fun x Γ1 => ∃ fs, insAt Γ1 x = some (.ins cl fs) ∧ fs.has nm = false ∧ d Γ1 (fun xs Γ2 => stayM m1 x = true ∧ dArgs m C (x :: xs) Γ2 Qd Qe) Qx)
    (k : ∀ (r : RT) (W' : Wd) (Γ' : G) (v : V), StM (m1 || m) F W Γ W' Γ' → Rel F W' σ Γ' → RtOk F W Γ W' Γ' v r → Qd r Γ' → Q v W'.H) (kx : ∀ (c : Value) (W' : Wd) (Γ' : G), Same (W.S F) (W'.S F) → Rel F W' σ Γ' → Qx c Γ' → Xw c none σ W'.H) (ke : ∀ (c : Value) (W' : Wd) (Γ' : G), Same (W.S F) (W'.S F) → Rel F W' σ Γ' → Qe c Γ' → E c none W'.H) :
    ta σ W.H fun x H1 => ∃ a dx fs, x = .ref a ∧ H1 a = some (.ins cl dx fs) ∧ fs.lookup nm = none ∧ ts σ H1 fun vs H2 => GSp K m C (x :: vs) H2 Q E := by
  refine B.run F W σ Γ _ _ R q fun x W1 Γ1 v s1 R1 o1 ⟨fs, h1, h2, q⟩ => ?_
  obtain ⟨a, dx, vs, qs, f, rfl, g1, g2, _⟩ := insAt_ok R1 o1 h1
  refine ⟨a, dx, vs, rfl, g1, g2.none h2, A.run F W1 σ Γ1 _ _ _ R1 q (fun xs W2 Γ2 us s2 R2 o2 ⟨hs, q⟩ => ?_) fun c W' Γ' s R' q => kx c W' Γ' (s1.sh.trans s) R' q⟩
  have s12 : StM (false || m1) F W Γ W2 Γ2 := StM.trans (m := false) s1 s2
  rw [Bool.false_or] at s12
  exact callG_run s12 R2 (.cons (o1.stm s2 hs) o2) q k ke
instance seg_methE {dr : TEd} {d : TAXd} [B : SE K ta dr] [A : SAX K Xw m1 ts d] : SEG K Xw (m1 || m) (tMethE cl nm (GSp K m C) (WE Xw) ta ts) (dMethG cl nm m m1 C dr d) := ⟨fun F W σ Γ Q Qd Qx R q k kx => meth_run (Xw := Xw) R q k kx kx⟩
instance seg_meth {dr : TEd} {d : TAXd} [B : SE K ta dr] [A : SAX K Xw m1 ts d] : SEG K Xw (m1 || m) (tMeth cl nm (GSp K m C) [] E ta ts) (dMethGN cl nm m m1 C dr d) := ⟨fun F W σ Γ Q Qd Qx R q k kx => by
  have := meth_run (Xw := Xw) (cl := cl) (nm := nm) (ta := ta) (ts := ts) (E := E) R q k kx fun c W' Γ' s R' z => z.elim
  simp only [tMeth, List.append_nil]
  exact this⟩
/-! pure ones, that raise nothing -/
def dCallE (C : Ct) (d : TAd) : TEd := fun Γ Q => d Γ fun xs Γ1 => dArgs false C xs Γ1 (fun r Γ2 => ∃ x, rtD r = some x ∧ Q (.sh x) Γ2) fun _ _ => False
def dMethEE (cl : Addr) (nm : Str) (C : Ct) (dr : TEd) (d : TAd) : TEd := fun Γ Q => dr Γ fun x Γ1 => ∃ fs, insAt Γ1 x = some (.ins cl fs) ∧ fs.has nm = false ∧ d Γ1 fun xs Γ2 => dArgs false C (x :: xs) Γ2 (fun r Γ3 => ∃ x, rtD r = some x ∧ Q (.sh x) Γ3) fun _ _ => False
instance se_callG {d : TAd} [A : SA K ts d] : SE K (tCall (GSp K false C) [] E ts) (dCallE C d) := ⟨fun F W σ Γ Q Qd R q k => A.run F W σ Γ _ _ R q fun xs W1 Γ1 vs s1 R1 o1 q => by
  rw [List.append_nil]
  refine callG_run (m1 := false) (m := false) s1 R1 o1 q (fun r W' Γ' v s R' o ⟨x, e, q⟩ => ?_) fun c W' Γ' s R' z => z.elim
  obtain ⟨W2, eH, s2, R2, hd⟩ := o.data s R' e
  rw [← eH]
  exact k (.sh x) W2 Γ' v s2 R2 hd q⟩
instance se_methG {dr : TEd} {d : TAd} [B : SE K ta dr] [A : SA K ts d] : SE K (tMeth cl nm (GSp K false C) [] E ta ts) (dMethEE cl nm C dr d) := ⟨fun F W σ Γ Q Qd R q k => by
  simp only [tMeth, List.append_nil]
  refine B.run F W σ Γ _ _ R q fun x W1 Γ1 v s1 R1 o1 ⟨fs, h1, h2, q⟩ => ?_
  obtain ⟨a, dx, vs, qs, f, rfl, g1, g2, _⟩ := insAt_ok R1 o1 h1
  refine ⟨a, dx, vs, rfl, g1, g2.none h2, A.run F W1 σ Γ1 _ _ R1 q fun xs W2 Γ2 us s2 R2 o2 q => ?_⟩
  have s12 := s1.trans s2
  refine callG_run (m1 := false) (m := false) s12 R2 (.cons (o1.stp s2) o2) q (fun r W' Γ' v s R' o ⟨x, e, q⟩ => ?_) fun c W' Γ' s R' z => z.elim
  obtain ⟨W3, eH, s3, R3, hd⟩ := o.data s R' e
  rw [← eH]
  exact k (.sh x) W3 Γ' v s3 R3 hd q⟩
/-! the older contracts, with arguments that may raise -/
def dPureX (Cp : List PyData → (PyData → Prop) → (Value → Prop) → Prop) (d : TAXd) : TGCd := fun Γ Q X => d Γ (fun xs Γ1 => ∃ ds, dats Γ1 xs = some ds ∧ Cp ds (fun r => Q (.d r) Γ1) fun c => X c Γ1) X
instance seg_pureX {Cp : List PyData → (PyData → Prop) → (Value → Prop) → Prop} {d : TAXd} [A : SAX K Xw m1 ts d] : SEG K Xw m1 (tCallS (PureXSp K Cp) (WE Xw) ts) (dPureX Cp d) := ⟨fun F W σ Γ Q Qd Qx R q k kx => A.run F W σ Γ _ _ _ R q (fun xs W1 Γ1 vs s1 R1 o1 ⟨ds, e1, q⟩ => by
  refine ⟨ds, _, _, o1.full R1 e1, q, fun v H' r hS hv hq => ?_, fun c H' hS hq => ?_⟩
  · have st : StM (m1 || false) F W Γ { W1 with H := H' } Γ1 := StM.trans s1 (n := false) (Stp.grow R1 hS)
    rw [Bool.or_false] at st
    exact k (.d r) { W1 with H := H' } Γ1 v st (R1.grow hS).1 (hv.same (same_less fun a o nx e => ⟨fun z => nx (R1.exmo z), e⟩)) hq
  · exact kx c { W1 with H := H' } Γ1 (s1.stx.sh.trans (R1.grow hS).2) (R1.grow hS).1 hq) kx⟩
def dPureV (Cp : List PyData → (PyData → Prop) → Prop) (d : TAXd) : TGCd := fun Γ Q X => d Γ (fun xs Γ1 => ∃ ds, dats Γ1 xs = some ds ∧ Cp ds fun r => Q (.d r) Γ1) X
instance seg_pure {Cp : List PyData → (PyData → Prop) → Prop} {d : TAXd} [A : SAX K Xw m1 ts d] : SEG K Xw m1 (tCall (PureSp K Cp) [] E ts) (dPureV Cp d) := ⟨fun F W σ Γ Q Qd Qx R q k kx => A.run F W σ Γ _ _ _ R q (fun xs W1 Γ1 vs s1 R1 o1 ⟨ds, e1, q⟩ => by
  rw [List.append_nil]
  refine ⟨ds, _, o1.full R1 e1, q, fun v H' r hS hv hq => ?_⟩
  have st : StM (m1 || false) F W Γ { W1 with H := H' } Γ1 := StM.trans s1 (n := false) (Stp.grow R1 hS)
  rw [Bool.or_false] at st
  exact k (.d r) { W1 with H := H' } Γ1 v st (R1.grow hS).1 (hv.same (same_less fun a o nx e => ⟨fun z => nx (R1.exmo z), e⟩)) hq) kx⟩
end
/-! ### statements -/
def rtSl : RT → Sl
  | .d d => .sh d
  | .nw o => .ow o
section
variable {K : Fg} {Xw : WX} {m : Bool} {t : TE} {d : TGCd} {i : Nat}
def dDropG (d : TGCd) : TSd := fun E Γ => d Γ (fun _ Γ1 => E.nx Γ1) E.xs
instance (priority := low) ss_dropG [A : SEG K Xw m t d] : SS K Xw (tDrop t) (dDropG d) := ⟨fun F W σ Γ D E R q L => A.run F W σ Γ _ _ _ R q (fun r W' Γ' v s R' o q => L.nx W' σ Γ' s.stx.sh R' q) fun c W' Γ' s R' q => L.xs W' σ Γ' c s R' q⟩
def dAsgG (i : Nat) (d : TGCd) : TSd := fun E Γ => d Γ (fun r Γ1 => E.nx (Γ1.set i (rtSl r))) E.xs
instance ss_asgG [A : SEG K Xw m t d] : SS K Xw (tAsg t (gName i)) (dAsgG i d) := ⟨fun F W σ Γ D E R q L => A.run F W σ Γ _ _ _ R q (fun r W' Γ' v s R' o q => by
  cases r with
  | d x => exact L.nx W' _ _ s.stx.sh (R'.setSh o) q
  | nw o1 =>
    obtain ⟨p, f, rfl, h2, h3⟩ := o
    exact L.nx ⟨W'.O, fun j => if j = i then f else W'.ft j, W'.H⟩ _ _ s.stx.sh (R'.setTm (fun a ha => (h3 a ha).1) h2) q) fun c W' Γ' s R' q => L.xs W' σ Γ' c s R' q⟩
/-- .. in parts -/
def dAsgV (d : TEXd) (g : TGd) : TSd := fun E Γ => d Γ (fun x Γ1 => g x Γ1 E.nx) E.xs
instance (priority := low) ss_asgV {de : TEXd} {g : TG} {dg : TGd} {ix : List Nat} [A : SEX K Xw m t de] [B : SG K g dg ix] : SS K Xw (tAsg t g) (dAsgV de dg) := ⟨fun F W σ Γ D E R q L => A.run F W σ Γ _ _ _ R q (fun x W' Γ' v s R' o q => B.run F W' σ Γ' v x _ _ R' o q fun W2 σ2 Γ2 s2 _ R2 q => L.nx W2 σ2 Γ2 (s.stx.sh.trans s2.sh) R2 q) fun c W' Γ' s R' q => L.xs W' σ Γ' c s R' q⟩
def dRetG (d : TGCd) : TSd := fun E Γ => d Γ (fun r Γ1 => match r with
  | .d x => E.rt (.sh x) Γ1
  | .nw o => plainOD o = true ∧ E.rn o Γ1) E.xs
instance ss_retG [A : SEG K Xw m t d] : SS K Xw (tRet t) (dRetG d) := ⟨fun F W σ Γ D E R q L => A.run F W σ Γ _ _ _ R q (fun r W' Γ' v s R' o q => by
  cases r with
  | d x => exact L.rt W' σ Γ' _ v s.stx.sh R' (.ofSh o) q
  | nw o1 =>
    obtain ⟨p, f, rfl, h2, h3⟩ := o
    obtain ⟨hp, q⟩ := q
    have key : ∀ {ho : HO}, f = [p] → W'.H p = some ho → (∀ S', Same (W'.S F) S' → OwnH K S' ho o1) → D.rt (.ref p) W'.H := fun {ho} hf e hh => by
      have t := h3 p (by rw [hf]; simp)
      obtain ⟨R2, s2⟩ := R'.dropTemp t.1.1 t.1.2.1 t.1.2.2
      have := L.rn (dropW W' p) σ Γ' o1 p ho (s.stx.sh.trans s2) R2 dropW_at (hh _ s2) q
      rw [dropW_upd e] at this
      exact this
    cases o1 with
    | lst ds =>
      simp only [OwnO] at h2
      obtain ⟨hf, vs, q1, q2⟩ := h2
      exact key hf q1 fun S' s => ⟨vs, rfl, q2.same s⟩
    | dK ds =>
      simp only [OwnO] at h2
      obtain ⟨hf, vs, q1, q2⟩ := h2
      exact key hf q1 fun S' s => ⟨vs, rfl, Paired.mapP q2 fun _ _ z => ⟨z.1, z.2.same s⟩⟩
    | dT ds =>
      simp only [OwnO] at h2
      obtain ⟨hf, vs, q1, q2⟩ := h2
      exact key hf q1 fun S' s => ⟨vs, rfl, Paired.mapP q2 fun _ _ z => ⟨z.1, z.2.same s⟩⟩
    | ab _ => cases hp
    | ins _ _ => cases hp
    | box _ _ => cases hp) fun c W' Γ' s R' q => L.xs W' σ Γ' c s R' q⟩
end
end Dk

namespace Dk
open PySem PySem.Spec PyProof.Rows L2
/-! ### attributes read -/
def fldRV (x : RV) (fs : Fs) (f : Str) : Option RV := match fs.getD f with
  | some d => some (.sh d)
  | none => match fs.getO f with
    | some _ => match x with
      | .own i => some (.fld i [f])
      | .fld i p => some (.fld i (p ++ [f]))
      | _ => none
    | none => none
theorem getD_has {f : Str} {d : PyData} : ∀ {fs : Fs}, fs.getD f = some d → fs.has f = true
  | .nil, e => by simp [Fs.getD] at e
  | .sh g _ r, e => by
    by_cases z : f = g
    · simp [Fs.has, z]
    · simp only [Fs.getD, if_neg z] at e
      simp [Fs.has, getD_has e]
  | .ow g _ r, e => by
    by_cases z : f = g
    · simp [Fs.getD, z] at e
    · simp only [Fs.getD, if_neg z] at e
      simp [Fs.has, getD_has e]
  | .no g r, e => by
    by_cases z : f = g
    · simp [Fs.getD, z] at e
    · simp only [Fs.getD, if_neg z] at e
      simp [Fs.has, getD_has e]
theorem getO_has {f : Str} {o : OD} : ∀ {fs : Fs}, fs.getO f = some o → fs.has f = true
  | .nil, e => by simp [Fs.getO] at e
  | .ow g _ r, e => by
    by_cases z : f = g
    · simp [Fs.has, z]
    · simp only [Fs.getO, if_neg z] at e
      simp [Fs.has, getO_has e]
  | .sh g _ r, e => by
    by_cases z : f = g
    · simp [Fs.getO, z] at e
    · simp only [Fs.getO, if_neg z] at e
      simp [Fs.has, getO_has e]
  | .no g r, e => by
    by_cases z : f = g
    · simp [Fs.getO, z] at e
    · simp only [Fs.getO, if_neg z] at e
      simp [Fs.has, getO_has e]
theorem PathV.snocS {S H : Hp} {q : Addr} {f : Str} {u : V} (h1 : StepV S H q f u) : ∀ {path : List Str} {p : Addr}, PathV S H p path (.ref q) → PathV S H p (path ++ [f]) u
  | [], p, h => by
    cases (show V.ref q = V.ref p from h)
    exact ⟨u, h1, .inl ⟨rfl, rfl⟩⟩
  | g :: r, p, ⟨u', a1, a3⟩ => by
    refine ⟨u', a1, .inr ⟨by simp, ?_⟩⟩
    rcases a3 with ⟨rfl, rfl⟩ | ⟨_, q', rfl, a4⟩
    · exact ⟨q, rfl, PathV.snocS h1 (path := []) rfl⟩
    · exact ⟨q', rfl, PathV.snocS h1 a4⟩
theorem PathV.snoc {S H : Hp} {C dx q : Addr} {vs : List (Str × V)} {f : Str} {u : V} (h1 : H q = some (.ins C dx vs)) (h2 : vs.lookup f = some u) {path : List Str} {p : Addr} (h : PathV S H p path (.ref q)) : PathV S H p (path ++ [f]) u :=
  PathV.snocS (.inl ⟨C, dx, vs, h1, h2⟩) h
theorem kfld (K : Fg) {X : Cx} {e : Expr} {f : Str} {ta : TE} {pos : Pos} (he : PE X e ta) (hb : attributeBase e f X.env (eval e X.env) = eval e X.env) (h : X.K = K := by rfl) : PE X (.Attribute e f pos) (tFld K ta f) := h ▸ pe_fld he hb
def dFld (f : Str) (da : TEd) : TEd := fun Γ Q => da Γ fun x Γ1 => ∃ C fs rv, insAt Γ1 x = some (.ins C fs) ∧ fldRV x fs f = some rv ∧ Q rv Γ1
section
variable {K : Fg} {ta : TE} {da : TEd}
instance se_fld {f : Str} [A : SE K ta da] : SE K (tFld K ta f) (dFld f da) := ⟨fun F W σ Γ Q Qd R q k => A.run F W σ Γ _ _ R q fun x W' Γ' v s R' o ⟨C, fs, rv, h1, h2, q⟩ => by
  obtain ⟨a, dx, vs, qs, fp, rfl, g1, g2, g3, g4⟩ := insAt_ok R' o h1
  unfold fldRV at h2
  split at h2
  · rename_i d e
    cases h2
    obtain ⟨u, l1, l2⟩ := g2.getD e
    exact ⟨a, C, dx, vs, u, rfl, g1, g3.cl, g3.na f (getD_has e), l1, k (.sh d) W' Γ' u s R' l2 q⟩
  · split at h2
    · rename_i o1 e
      obtain ⟨p, l1⟩ := g2.lookO e
      refine ⟨a, C, dx, vs, .ref p, rfl, g1, g3.cl, g3.na f (getO_has e), l1, ?_⟩
      cases x with
      | sh d => cases h2
      | ar d => cases h2
      | own i =>
        cases h2
        obtain ⟨t, b1, b2, b3⟩ := o
        simp only [insAt, b1] at h1
        exact k (.fld i [f]) W' Γ' _ s R' ⟨t, a, .ins C fs, b1, h1, b3, .ref p, .inl ⟨C, dx, vs, g1, l1⟩, .inl ⟨rfl, rfl⟩⟩ q
      | fld i path =>
        cases h2
        obtain ⟨t, p0, o2, b1, b2, b3, b4⟩ := o
        exact k (.fld i (path ++ [f])) W' Γ' _ s R' ⟨t, p0, o2, b1, b2, b3, b4.snoc g1 l1⟩ q
    · cases h2⟩
end
/-! ### attributes set -/
def Fs.setSh : Fs → Str → PyData → Fs
  | .nil, f, d => .sh f d .nil
  | .sh g e r, f, d => if g = f then .sh g d r else .sh g e (r.setSh f d)
  | .ow g o r, f, d => if g = f then .sh g d r else .ow g o (r.setSh f d)
  | .no g r, f, d => if g = f then .sh g d r else .no g (r.setSh f d)
def Fs.setOw : Fs → Str → OD → Fs
  | .nil, f, o => .ow f o .nil
  | .sh g e r, f, o => if g = f then .ow g o r else .sh g e (r.setOw f o)
  | .ow g o' r, f, o => if g = f then .ow g o r else .ow g o' (r.setOw f o)
  | .no g r, f, o => if g = f then .ow g o r else .no g (r.setOw f o)
def Fs.len : Fs → Nat
  | .nil => 0
  | .sh _ _ r => r.len + 1
  | .ow _ _ r => r.len + 1
  | .no _ r => r.len + 1
section
variable {K : Fg} {S H : Hp}
theorem FsOk.len : ∀ {fs : Fs} {vs : List (Str × V)} {qs : List Addr}, FsOk K S H fs vs qs → vs.length = fs.len
  | .nil, _, _, h => by simp only [FsOk] at h; rw [h.1]; rfl
  | .sh g d r, _, _, h => by
    simp only [FsOk] at h
    obtain ⟨v, vs', rfl, _, h2⟩ := h
    simp [Fs.len, h2.len]
  | .ow g o r, _, _, h => by
    simp only [FsOk] at h
    obtain ⟨p, vs', q1, q2, rfl, _, _, h2⟩ := h
    simp [Fs.len, h2.len]
  | .no g r, _, _, h => by
    simp only [FsOk] at h
    obtain ⟨v, vs', rfl, h2⟩ := h
    simp [Fs.len, h2.len]
theorem FsOk.setSh {f : Str} {y : V} {d : PyData} (hy : Dq K S y d) : ∀ {fs : Fs} {vs : List (Str × V)} {qs : List Addr}, FsOk K S H fs vs qs → ∃ qs', FsOk K S H (fs.setSh f d) (putF f y vs) qs' ∧ qs'.Sublist qs
  | .nil, _, _, h => by
    simp only [FsOk] at h
    obtain ⟨rfl, rfl⟩ := h
    exact ⟨[], by simp only [Fs.setSh, putF, FsOk]; exact ⟨y, [], rfl, hy, by simp⟩, List.Sublist.refl _⟩
  | .sh g e r, _, qs, h => by
    simp only [FsOk] at h
    obtain ⟨v, vs', rfl, h1, h2⟩ := h
    by_cases z : g = f
    · exact ⟨qs, by simp only [Fs.setSh, putF, if_pos z, FsOk]; exact ⟨y, vs', rfl, hy, h2⟩, List.Sublist.refl _⟩
    · obtain ⟨qs', k1, k2⟩ := FsOk.setSh (f := f) hy h2
      exact ⟨qs', by simp only [Fs.setSh, putF, if_neg z, FsOk]; exact ⟨v, _, rfl, h1, k1⟩, k2⟩
  | .ow g o r, _, _, h => by
    simp only [FsOk] at h
    obtain ⟨p, vs', q1, q2, rfl, rfl, h1, h2⟩ := h
    by_cases z : g = f
    · exact ⟨q2, by simp only [Fs.setSh, putF, if_pos z, FsOk]; exact ⟨y, vs', rfl, hy, h2⟩, List.sublist_append_right q1 q2⟩
    · obtain ⟨qs', k1, k2⟩ := FsOk.setSh (f := f) hy h2
      exact ⟨q1 ++ qs', by simp only [Fs.setSh, putF, if_neg z, FsOk]; exact ⟨p, _, q1, qs', rfl, rfl, h1, k1⟩, k2.append_left q1⟩
  | .no g r, _, qs, h => by
    simp only [FsOk] at h
    obtain ⟨v, vs', rfl, h2⟩ := h
    by_cases z : g = f
    · exact ⟨qs, by simp only [Fs.setSh, putF, if_pos z, FsOk]; exact ⟨y, vs', rfl, hy, h2⟩, List.Sublist.refl _⟩
    · obtain ⟨qs', k1, k2⟩ := FsOk.setSh (f := f) hy h2
      exact ⟨qs', by simp only [Fs.setSh, putF, if_neg z, FsOk]; exact ⟨v, _, rfl, k1⟩, k2⟩
theorem FsOk.setOw {f : Str} {p1 : Addr} {q : List Addr} {o1 : OD} (hy : OwnO K S H o1 p1 q) : ∀ {fs : Fs} {vs : List (Str × V)} {qs : List Addr}, FsOk K S H fs vs qs → ∃ qa qb, FsOk K S H (fs.setOw f o1) (putF f (.ref p1) vs) (qa ++ q ++ qb) ∧ (qa ++ qb).Sublist qs
  | .nil, _, _, h => by
    simp only [FsOk] at h
    obtain ⟨rfl, rfl⟩ := h
    exact ⟨[], [], by simp only [Fs.setOw, putF, FsOk]; exact ⟨p1, [], q, [], rfl, by simp, hy, by simp⟩, List.Sublist.refl _⟩
  | .sh g e r, _, qs, h => by
    simp only [FsOk] at h
    obtain ⟨v, vs', rfl, h1, h2⟩ := h
    by_cases z : g = f
    · exact ⟨[], qs, by simp only [Fs.setOw, putF, if_pos z, FsOk]; exact ⟨p1, vs', q, qs, rfl, by simp, hy, h2⟩, List.Sublist.refl _⟩
    · obtain ⟨qa, qb, k1, k2⟩ := FsOk.setOw (f := f) hy h2
      exact ⟨qa, qb, by simp only [Fs.setOw, putF, if_neg z, FsOk]; exact ⟨v, _, rfl, h1, k1⟩, k2⟩
  | .ow g o r, _, _, h => by
    simp only [FsOk] at h
    obtain ⟨p, vs', q1, q2, rfl, rfl, h1, h2⟩ := h
    by_cases z : g = f
    · exact ⟨[], q2, by simp only [Fs.setOw, putF, if_pos z, FsOk]; exact ⟨p1, vs', q, q2, rfl, by simp, hy, h2⟩, List.sublist_append_right q1 q2⟩
    · obtain ⟨qa, qb, k1, k2⟩ := FsOk.setOw (f := f) hy h2
      refine ⟨q1 ++ qa, qb, by simp only [Fs.setOw, putF, if_neg z, FsOk]; exact ⟨p, _, q1, qa ++ q ++ qb, rfl, by simp, h1, k1⟩, ?_⟩
      rw [List.append_assoc]
      exact k2.append_left q1
  | .no g r, _, qs, h => by
    simp only [FsOk] at h
    obtain ⟨v, vs', rfl, h2⟩ := h
    by_cases z : g = f
    · exact ⟨[], qs, by simp only [Fs.setOw, putF, if_pos z, FsOk]; exact ⟨p1, vs', q, qs, rfl, by simp, hy, h2⟩, List.Sublist.refl _⟩
    · obtain ⟨qa, qb, k1, k2⟩ := FsOk.setOw (f := f) hy h2
      exact ⟨qa, qb, by simp only [Fs.setOw, putF, if_neg z, FsOk]; exact ⟨v, _, rfl, k1⟩, k2⟩
/-- a list of an attribute, changed in its place -/
theorem FsOk.updL {f : Str} {ds ds' : List PyData} {q : Addr} {us' : List V} (hd : DqAll K S us' ds') : ∀ {fs : Fs} {vs : List (Str × V)} {qs : List Addr}, FsOk K S H fs vs qs → qs.Nodup → fs.getO f = some (.lst ds) → vs.lookup f = some (.ref q) → (∃ us, H q = some (.lst us) ∧ DqAll K S us ds) ∧ q ∈ qs ∧ FsOk K S (upd H q (.lst us')) (fs.setOw f (.lst ds')) vs qs
  | .nil, _, _, _, _, e, _ => by simp [Fs.getO] at e
  | .sh g e0 r, _, _, h, nd, e, l => by
    simp only [FsOk] at h
    obtain ⟨v, vs', rfl, h1, h2⟩ := h
    by_cases z : f = g
    · simp [Fs.getO, z] at e
    · simp only [Fs.getO, if_neg z] at e
      rw [List.lookup_cons, beq_false_of_ne z] at l
      obtain ⟨k1, k2, k3⟩ := FsOk.updL hd h2 nd e l
      exact ⟨k1, k2, by simp only [Fs.setOw, if_neg (Ne.symm z), FsOk]; exact ⟨v, vs', rfl, h1, k3⟩⟩
  | .ow g o r, _, _, h, nd, e, l => by
    simp only [FsOk] at h
    obtain ⟨p, vs', q1, q2, rfl, rfl, h1, h2⟩ := h
    by_cases z : f = g
    · subst z
      simp only [Fs.getO, if_true] at e
      rw [List.lookup_cons, beq_self_eq_true] at l
      cases e
      cases l
      have h1' := h1
      simp only [OwnO] at h1'
      obtain ⟨rfl, us, a1, a2⟩ := h1'
      refine ⟨⟨us, a1, a2⟩, by simp, ?_⟩
      simp only [Fs.setOw, if_true, FsOk]
      refine ⟨q, vs', [q], q2, rfl, rfl, ownO_ok.mpr ⟨rfl, us', upd_same, hd⟩, ?_⟩
      refine h2.keep (Same.refl _) (fun a u nm e => ?_) fun a ha => upd_ne fun z => ?_
      · rw [upd_ne]
        · exact e
        · intro z
          rw [z, a1] at e
          cases e
          exact nm trivial
      · subst z
        exact (List.nodup_cons.mp nd).1 ha
    · simp only [Fs.getO, if_neg z] at e
      rw [List.lookup_cons, beq_false_of_ne z] at l
      obtain ⟨k1, k2, k3⟩ := FsOk.updL hd h2 (List.nodup_append.mp nd).2.1 e l
      refine ⟨k1, by simp [k2], ?_⟩
      simp only [Fs.setOw, if_neg (Ne.symm z), FsOk]
      obtain ⟨us, a1, a2⟩ := k1
      refine ⟨p, vs', q1, q2, rfl, rfl, OwnO.keep (Same.refl _) (fun a u nm e => ?_) h1 (fun a ha => upd_ne fun z => ?_), k3⟩
      · rw [upd_ne]
        · exact e
        · intro z
          rw [z, a1] at e
          cases e
          exact nm trivial
      · subst z
        exact (List.nodup_append.mp nd).2.2 a ha a k2 rfl
  | .no g r, _, _, h, nd, e, l => by
    simp only [FsOk] at h
    obtain ⟨v, vs', rfl, h2⟩ := h
    by_cases z : f = g
    · simp [Fs.getO, z] at e
    · simp only [Fs.getO, if_neg z] at e
      rw [List.lookup_cons, beq_false_of_ne z] at l
      obtain ⟨k1, k2, k3⟩ := FsOk.updL hd h2 nd e l
      exact ⟨k1, k2, by simp only [Fs.setOw, if_neg (Ne.symm z), FsOk]; exact ⟨v, vs', rfl, k3⟩⟩
end
theorem setSh_has {f g : Str} {d : PyData} : ∀ {fs : Fs}, (fs.setSh f d).has g = true → fs.has g = true ∨ g = f
  | .nil, h => by simp [Fs.setSh, Fs.has] at h; exact .inr h
  | .sh g' _ r, h => by
    by_cases z : g' = f
    · simp only [Fs.setSh, if_pos z, Fs.has] at h ⊢; exact .inl h
    · simp only [Fs.setSh, if_neg z, Fs.has, Bool.or_eq_true] at h ⊢
      rcases h with h | h
      · exact .inl (.inl h)
      · exact (setSh_has h).imp .inr id
  | .ow g' _ r, h => by
    by_cases z : g' = f
    · simp only [Fs.setSh, if_pos z, Fs.has] at h ⊢; exact .inl h
    · simp only [Fs.setSh, if_neg z, Fs.has, Bool.or_eq_true] at h ⊢
      rcases h with h | h
      · exact .inl (.inl h)
      · exact (setSh_has h).imp .inr id
  | .no g' r, h => by
    by_cases z : g' = f
    · simp only [Fs.setSh, if_pos z, Fs.has] at h ⊢; exact .inl h
    · simp only [Fs.setSh, if_neg z, Fs.has, Bool.or_eq_true] at h ⊢
      rcases h with h | h
      · exact .inl (.inl h)
      · exact (setSh_has h).imp .inr id
theorem setOw_has {f g : Str} {d : OD} : ∀ {fs : Fs}, (fs.setOw f d).has g = true → fs.has g = true ∨ g = f
  | .nil, h => by simp [Fs.setOw, Fs.has] at h; exact .inr h
  | .sh g' _ r, h => by
    by_cases z : g' = f
    · simp only [Fs.setOw, if_pos z, Fs.has] at h ⊢; exact .inl h
    · simp only [Fs.setOw, if_neg z, Fs.has, Bool.or_eq_true] at h ⊢
      rcases h with h | h
      · exact .inl (.inl h)
      · exact (setOw_has h).imp .inr id
  | .ow g' _ r, h => by
    by_cases z : g' = f
    · simp only [Fs.setOw, if_pos z, Fs.has] at h ⊢; exact .inl h
    · simp only [Fs.setOw, if_neg z, Fs.has, Bool.or_eq_true] at h ⊢
      rcases h with h | h
      · exact .inl (.inl h)
      · exact (setOw_has h).imp .inr id
  | .no g' r, h => by
    by_cases z : g' = f
    · simp only [Fs.setOw, if_pos z, Fs.has] at h ⊢; exact .inl h
    · simp only [Fs.setOw, if_neg z, Fs.has, Bool.or_eq_true] at h ⊢
      rcases h with h | h
      · exact .inl (.inl h)
      · exact (setOw_has h).imp .inr id
/-- a name's instance that may be changed -/
def insI (Γ : G) (i : Nat) : Option (Addr × Fs) := match Γ[i]? with
  | some (.ow (.ins C fs)) => some (C, fs)
  | some (.rf (.ins C fs)) => some (C, fs)
  | _ => none
def putI (Γ : G) (i : Nat) (C : Addr) (fs : Fs) : G := Γ.set i (setOwn (Γ.getD i .no) (.ins C fs))
section
variable {K : Fg} {F : Fx K} {W : Wd} {σ : L2.St} {Γ : G}
theorem insI_ok (R : Rel F W σ Γ) {i : Nat} {C : Addr} {fs : Fs} (h : insI Γ i = some (C, fs)) : ∃ s p dx vs qs, Γ[i]? = some s ∧ s.own? = some (.ins C fs) ∧ σ[i]? = some (some (.ref p)) ∧ W.ft i = p :: dx :: qs ∧ (p :: dx :: qs).Nodup ∧ W.H p = some (.ins C dx vs) ∧ W.H dx = some (.own p) ∧ FsOk K (W.S F) W.H fs vs qs ∧ ClsI K C fs ∧ ∀ o, putI Γ i C o = Γ.set i (setOwn s (.ins C o)) := by
  have key : ∀ {s : Sl}, Γ[i]? = some s → s.own? = some (.ins C fs) → ∃ s p dx vs qs, Γ[i]? = some s ∧ s.own? = some (.ins C fs) ∧ σ[i]? = some (some (.ref p)) ∧ W.ft i = p :: dx :: qs ∧ (p :: dx :: qs).Nodup ∧ W.H p = some (.ins C dx vs) ∧ W.H dx = some (.own p) ∧ FsOk K (W.S F) W.H fs vs qs ∧ ClsI K C fs ∧ ∀ o, putI Γ i C o = Γ.set i (setOwn s (.ins C o)) := fun {s} h1 h2 => by
    obtain ⟨p, h3⟩ := own_ref R h1 h2
    obtain ⟨dx, vs, qs, a1, a2, a3, a4, a5, a6⟩ := own_at R h1 h2 h3
    exact ⟨s, p, dx, vs, qs, h1, h2, h3, a1, a1 ▸ a2, a3, a4, a5, a6, fun o => by rw [putI, getD_of h1]⟩
  unfold insI at h
  split at h
  · rename_i C' fs' e
    cases h
    exact key e rfl
  · rename_i C' fs' e
    cases h
    exact key e rfl
  · cases h
theorem Rel.setIns (R : Rel F W σ Γ) {i : Nat} {s : Sl} {C : Addr} {fs fs' : Fs} {p : Addr} {H' : Hp} {f' : List Addr} (h1 : Γ[i]? = some s) (h2 : s.own? = some (.ins C fs)) (h3 : σ[i]? = some (some (.ref p))) (fr : ∀ a u, a ∉ W.ft i → W.H a = some u → H' a = some u) (nw : ∀ a ∈ f', a ∈ W.ft i ∨ W.H a = none) (mo : ∀ a ∈ W.ft i, Mo (H' a))
    (own : OwnO K (W.S F) H' (.ins C fs') p f') : ∃ W' : Wd, W'.H = H' ∧ Rel F W' σ (Γ.set i (setOwn s (.ins C fs'))) ∧ Stx F W Γ W' (Γ.set i (setOwn s (.ins C fs'))) := by
  let M : Chg := fun j => if j = i then some (.ins C fs', f') else none
  have Mi : M i = some (.ins C fs', f') := if_pos rfl
  have Mx : ∀ {j m}, M j = some m → j = i ∧ m = (.ins C fs', f') := fun {j m} e => by
    by_cases z : j = i
    · subst z; rw [Mi] at e; exact ⟨rfl, (Option.some.inj e).symm⟩
    · rw [show M j = none from if_neg z] at e; cases e
  have cR : ∀ a, chR W M a ↔ a ∈ W.ft i := fun a => ⟨fun ⟨j, m, e, ha⟩ => by obtain ⟨rfl, _⟩ := Mx e; exact ha, fun ha => ⟨i, _, Mi, ha⟩⟩
  have cN : ∀ a, chN M a ↔ a ∈ f' := fun a => ⟨fun ⟨j, o, f, e, ha⟩ => by obtain ⟨rfl, e2⟩ := Mx e; cases e2; exact ha, fun ha => ⟨i, _, _, Mi, ha⟩⟩
  have hO : ∀ a ∈ W.ft i, W.O a := slot_O (R.slot i s h1) h2
  have eG : chG Γ M = Γ.set i (setOwn s (.ins C fs')) := by
    apply List.ext_getElem?
    intro j
    by_cases z : j = i
    · subst z
      rw [chG_some h1 Mi, List.getElem?_set_self (lt_of_get h1)]
    · rw [chG_none (show M j = none from if_neg z), List.getElem?_set_ne (Ne.symm z)]
  have sS : Same (W.S F) ((chW W M H' fun _ => False).S F) := same_less fun a u nx e => by
    refine ⟨fun z => ?_, fr a u (fun c => nx (.inr (hO a c))) e⟩
    rcases z with z | z | z | z
    · exact nx (.inl z)
    · exact nx (.inr z)
    · rcases nw a ((cN a).mp z) with c | c
      · exact nx (.inr (hO a c))
      · rw [e] at c; cases c
    · exact z
  have ch : ChOk F W σ Γ M H' fun _ => False := by
    refine ⟨fun a u n e => fr a u (fun z => n ((cR a).mpr z)) e, fun a z => (nw a ((cN a).mp z)).imp (cR a).mpr id, fun a z => ?_, fun j m e => ?_, fun j k m n a ne e1 e2 => ?_, fun a z => z.elim, ?_⟩
    · rcases z with z | z
      · exact mo a ((cR a).mp z)
      · exact own.mo a ((cN a).mp z)
    · obtain ⟨rfl, rfl⟩ := Mx e
      exact ⟨s, _, p, h1, h2, h3, own.keep sS (fun _ _ _ e => e) fun _ _ => rfl, (fun z => nomatch z), rfl⟩
    · obtain ⟨rfl, _⟩ := Mx e1
      obtain ⟨rfl, _⟩ := Mx e2
      exact absurd rfl ne
    · cases s with
      | ow o => exact .inl fun j m t e h => by obtain ⟨rfl, _⟩ := Mx e; rw [h1] at h; cases h; exact ⟨o, rfl⟩
      | rf o => exact .inr fun j m t e h => by obtain ⟨rfl, _⟩ := Mx e; rw [h1] at h; cases h; exact ⟨o, rfl⟩
      | _ => cases h2
  obtain ⟨R', kq⟩ := R.objs ch
  have st := R.objsM (m := true) ch (fun z => nomatch z) (fun z => nomatch z)
  rw [eG] at R' st
  exact ⟨_, rfl, R', st⟩
end
/-! self.f = .. -/
section
variable {K : Fg} {Xw : WX} {m : Bool} {t : TE} {i : Nat} {f : Str}
def dSetF (K : Fg) (i : Nat) (f : Str) (d : TEXd) : TSd := fun E Γ => d Γ (fun x Γ1 => ∃ C fs y, insI Γ1 i = some (C, fs) ∧ shOf x = some y ∧ fs.len < 1000 ∧ (fs.has f = true ∨ NoAttr K C f) ∧ E.nx (putI Γ1 i C (fs.setSh f y))) E.xs
instance (priority := low) ss_setF {d : TEXd} [A : SEX K Xw m t d] : SS K Xw (sFld K (tVar i) t f) (dSetF K i f d) := ⟨fun F W σ Γ D E R q L => A.run F W σ Γ _ _ _ R q (fun x W' Γ' v s R' o ⟨C, fs, y, h1, h2, h3, h4, q⟩ => by
  obtain ⟨sl, p, dx, vs, qs, a1, a2, a3, a4, a5, a6, a7, a8, a9, a10⟩ := insI_ok R' h1
  have na : NoAttr K C f := h4.elim (fun z => a9.na f z) id
  refine ⟨.ref p, a3, p, C, dx, vs, rfl, a6, a9.cl, na, by rw [a8.len]; exact h3, ?_⟩
  have hv := o.sh R' h2
  have npx : ∀ a ∈ dx :: qs, a ≠ p := fun a ha z => (List.nodup_cons.mp a5).1 (z ▸ ha)
  have txp : Tx W'.H (upd W'.H p (.ins C dx (putF f v vs))) := fun a u nm e => by
    rw [upd_ne]
    · exact e
    · intro z
      rw [z, a6] at e
      cases e
      exact nm trivial
  obtain ⟨qs', b1, b2⟩ := a8.setSh (f := f) hv
  rw [a10] at q
  obtain ⟨W2, eH, R2, s2⟩ := R'.setIns (H' := upd W'.H p (.ins C dx (putF f v vs))) (fs' := fs.setSh f y) (f' := p :: dx :: qs') a1 a2 a3 (fun a u n e => by
    rw [upd_ne fun z => n (by rw [a4, z]; simp)]
    exact e) (fun a ha => .inl (by
    rw [a4]
    rcases List.mem_cons.mp ha with rfl | ha
    · simp
    · rcases List.mem_cons.mp ha with rfl | ha
      · simp
      · simp [b2.subset ha])) (fun a ha => by
    by_cases z : a = p
    · rw [z, upd_same]; trivial
    · rw [upd_ne z]
      exact R'.mu a (slot_O (R'.slot i sl a1) a2 a ha)) (by
    simp only [OwnO]
    refine ⟨dx, putF f v vs, qs', rfl, ?_, upd_same, by rw [upd_ne (npx dx (by simp))]; exact a7, ?_, a9.cl, fun g hg => (setSh_has hg).elim (a9.na g) fun z => z ▸ na⟩
    · exact List.Nodup.sublist ((b2.cons₂ dx).cons₂ p) a5
    · exact b1.keep (Same.refl _) txp fun a ha => upd_ne (npx a (by simp [b2.subset ha])))
  rw [← eH]
  exact L.nx W2 σ _ (s.stx.sh.trans s2.sh) R2 q) fun c W' Γ' s R' q => L.xs W' σ Γ' c s R' q⟩
/-- .. with a new list or dict -/
def dSetFN (K : Fg) (i : Nat) (f : Str) (d : TFd) : TSd := fun E Γ => d Γ fun o Γ1 => ∃ C fs, insI Γ1 i = some (C, fs) ∧ fs.len < 1000 ∧ (fs.has f = true ∨ NoAttr K C f) ∧ E.nx (putI Γ1 i C (fs.setOw f o))
instance ss_setFN {d : TFd} [A : SEF K t d] : SS K Xw (sFld K (tVar i) t f) (dSetFN K i f d) := ⟨fun F W σ Γ D E R q L => A.run F W σ Γ _ _ R q fun o W' Γ' l ho s R' hl oh ⟨C, fs, h1, h3, h4, q⟩ => by
  obtain ⟨sl, p, dx, vs, qs, a1, a2, a3, a4, a5, a6, a7, a8, a9, a10⟩ := insI_ok R' h1
  have na : NoAttr K C f := h4.elim (fun z => a9.na f z) id
  have nlp : l ≠ p := fun z => by rw [z, a6] at hl; cases hl
  have hO := slot_O (R'.slot i sl a1) a2
  have nl : l ∉ W'.ft i := fun z => by
    have := R'.mu l (hO l z)
    rw [hl] at this
    exact this
  refine ⟨.ref p, a3, p, C, dx, vs, rfl, by rw [upd_ne (Ne.symm nlp)]; exact a6, a9.cl, na, by rw [a8.len]; exact h3, ?_⟩
  have npx : ∀ a ∈ dx :: qs, a ≠ p := fun a ha z => (List.nodup_cons.mp a5).1 (z ▸ ha)
  rw [a10] at q
  have e1 : ∀ a, a ≠ l → a ≠ p → upd (upd W'.H l ho) p (.ins C dx (putF f (.ref l) vs)) a = W'.H a := fun a n1 n2 => by rw [upd_ne n2, upd_ne n1]
  have el : upd (upd W'.H l ho) p (.ins C dx (putF f (.ref l) vs)) l = some ho := by rw [upd_ne nlp, upd_same]
  have tx : Tx W'.H (upd (upd W'.H l ho) p (.ins C dx (putF f (.ref l) vs))) := fun a u nm e => by
    rw [e1]
    · exact e
    · intro z; rw [z, hl] at e; cases e
    · intro z; rw [z, a6] at e; cases e; exact nm trivial
  have mem : ∀ a ∈ W'.ft i, a ≠ l := fun a ha z => nl (z ▸ ha)
  have hF : FsOk K (W'.S F) (upd (upd W'.H l ho) p (.ins C dx (putF f (.ref l) vs))) fs vs qs := a8.keep (Same.refl _) tx fun a ha => e1 a (mem a (by rw [a4]; simp [ha])) (npx a (by simp [ha]))
  have hL : OwnO K (W'.S F) (upd (upd W'.H l ho) p (.ins C dx (putF f (.ref l) vs))) o l [l] := ownO_ok.mpr (ownH_ok oh el)
  obtain ⟨qa, qb, b1, b2⟩ := hF.setOw (f := f) hL
  have sub : ∀ a, a ∈ qa ++ [l] ++ qb → a ∈ qs ∨ a = l := fun a ha => by
    simp only [List.mem_append, List.mem_singleton] at ha
    rcases ha with (ha | ha) | ha
    · exact .inl (b2.subset (by simp [ha]))
    · exact .inr ha
    · exact .inl (b2.subset (by simp [ha]))
  have nlq : l ∉ qs := fun z => nl (by rw [a4]; simp [z])
  have nd : (p :: dx :: (qa ++ [l] ++ qb)).Nodup := by
    have h1 : (p :: dx :: (qa ++ qb)).Nodup := List.Nodup.sublist ((b2.cons₂ dx).cons₂ p) a5
    have h2 : l ∉ p :: dx :: (qa ++ qb) := fun z => by
      rcases List.mem_cons.mp z with z | z
      · exact nlp z
      · rcases List.mem_cons.mp z with z | z
        · exact nl (by rw [a4, z]; simp)
        · exact nlq (b2.subset z)
    have pm : (l :: p :: dx :: (qa ++ qb)).Perm (p :: dx :: (qa ++ [l] ++ qb)) := by
      refine (List.Perm.swap p l _).trans (.cons p ((List.Perm.swap dx l _).trans (.cons dx ?_)))
      rw [List.append_assoc]
      exact List.perm_middle.symm
    exact pm.nodup (List.nodup_cons.mpr ⟨h2, h1⟩)
  obtain ⟨W2, eH, R2, s2⟩ := R'.setIns (H' := upd (upd W'.H l ho) p (.ins C dx (putF f (.ref l) vs))) (fs' := fs.setOw f o) (f' := p :: dx :: (qa ++ [l] ++ qb)) a1 a2 a3 (fun a u n e => by
    rw [e1 a (fun z => by rw [z, hl] at e; cases e) fun z => n (by rw [a4, z]; simp)]
    exact e) (fun a ha => by
    rw [a4]
    rcases List.mem_cons.mp ha with rfl | ha
    · simp
    · rcases List.mem_cons.mp ha with rfl | ha
      · simp
      · rcases sub a ha with ha | ha
        · simp [ha]
        · right; rw [ha]; exact hl) (fun a ha => by
    by_cases z : a = p
    · rw [z, upd_same]; trivial
    · rw [e1 a (mem a ha) z]
      exact R'.mu a (hO a ha)) (by
    simp only [OwnO]
    exact ⟨dx, putF f (.ref l) vs, qa ++ [l] ++ qb, rfl, nd, upd_same, by rw [e1 dx (mem dx (by rw [a4]; simp)) (npx dx (by simp))]; exact a7, b1, a9.cl, fun g hg => (setOw_has hg).elim (a9.na g) fun z => z ▸ na⟩)
  rw [← eH]
  exact L.nx W2 σ _ (s.sh.trans s2.sh) R2 q⟩
/-! a list of an attribute -/
def fldL (Γ : G) (i : Nat) (f : Str) : Option (Addr × Fs × List PyData) := match insI Γ i with
  | some (C, fs) => match fs.getO f with
    | some (.lst ds) => some (C, fs, ds)
    | _ => none
  | none => none
theorem fldL_of {Γ : G} {i : Nat} {f : Str} {C : Addr} {fs : Fs} {ds : List PyData} (h : fldL Γ i f = some (C, fs, ds)) : insI Γ i = some (C, fs) ∧ fs.getO f = some (.lst ds) := by
  unfold fldL at h
  split at h
  · rename_i C' fs' e
    split at h
    · rename_i ds' e2
      cases h
      exact ⟨e, e2⟩
    · cases h
  · cases h
theorem Rel.putFL {F : Fx K} {W : Wd} {σ : L2.St} {Γ : G} (R : Rel F W σ Γ) {C : Addr} {fs : Fs} {ds ds' : List PyData} {us' : List V} (h : fldL Γ i f = some (C, fs, ds)) (hd : DqAll K (W.S F) us' ds') : ∃ p dx vs q us, σ[i]? = some (some (.ref p)) ∧ W.H p = some (.ins C dx vs) ∧ vs.lookup f = some (.ref q) ∧ Cls K C ∧ NoAttr K C f ∧ W.H q = some (.lst us) ∧ DqAll K (W.S F) us ds ∧
    ∃ W' : Wd, W'.H = upd W.H q (.lst us') ∧ Rel F W' σ (putI Γ i C (fs.setOw f (.lst ds'))) ∧ Stx F W Γ W' (putI Γ i C (fs.setOw f (.lst ds'))) := by
  obtain ⟨h1, h2⟩ := fldL_of h
  obtain ⟨sl, p, dx, vs, qs, a1, a2, a3, a4, a5, a6, a7, a8, a9, a10⟩ := insI_ok R h1
  obtain ⟨q, l1⟩ := a8.lookO h2
  have nd := (List.nodup_cons.mp (List.nodup_cons.mp a5).2).2
  obtain ⟨⟨us, b1, b2⟩, b3, b4⟩ := a8.updL hd nd h2 l1
  have npq : q ≠ p := fun z => (List.nodup_cons.mp a5).1 (by rw [← z]; simp [b3])
  have ndq : q ≠ dx := fun z => (List.nodup_cons.mp (List.nodup_cons.mp a5).2).1 (by rw [← z]; exact b3)
  refine ⟨p, dx, vs, q, us, a3, a6, l1, a9.cl, a9.na f (getO_has h2), b1, b2, ?_⟩
  rw [a10]
  exact R.setIns (H' := upd W.H q (.lst us')) (fs' := fs.setOw f (.lst ds')) (f' := p :: dx :: qs) a1 a2 a3 (fun a u n e => by
    rw [upd_ne fun z => n (by rw [a4, z]; simp [b3])]
    exact e) (fun a ha => .inl (by rw [a4]; exact ha)) (fun a ha => by
    by_cases z : a = q
    · rw [z, upd_same]; trivial
    · rw [upd_ne z]
      exact R.mu a (slot_O (R.slot i sl a1) a2 a ha)) (by
    simp only [OwnO]
    exact ⟨dx, vs, qs, rfl, a5, by rw [upd_ne (Ne.symm npq)]; exact a6, by rw [upd_ne (Ne.symm ndq)]; exact a7, b4, a9.cl, fun g hg => (setOw_has hg).elim (a9.na g) fun z => z ▸ a9.na f (getO_has h2)⟩)
def dFldApp (i : Nat) (f : Str) (d : TEXd) : TSd := fun E Γ => (fldL Γ i f).isSome = true ∧ d Γ (fun x Γ1 => ∃ C fs ds y, fldL Γ1 i f = some (C, fs, ds) ∧ shOf x = some y ∧ ds.length < sizeLine ∧ E.nx (putI Γ1 i C (fs.setOw f (.lst (ds ++ [y]))))) E.xs
theorem insI_ins {Γ : G} {C : Addr} {fs : Fs} (h : insI Γ i = some (C, fs)) : ∃ s, Γ[i]? = some s ∧ s.ins? = some (.ins C fs) := by
  unfold insI at h
  split at h
  · rename_i C' fs' e; cases h; exact ⟨_, e, rfl⟩
  · rename_i C' fs' e; cases h; exact ⟨_, e, rfl⟩
  · cases h
class IsF (m : Bool) : Prop where
  e : m = false
instance isF_no : IsF false := ⟨rfl⟩
instance isF_or {a b : Bool} [A : IsF a] [B : IsF b] : IsF (a || b) := ⟨by rw [A.e, B.e]; rfl⟩
instance (priority := high) ss_fldApp {te : TE} {d : TEXd} [A : SEX K Xw m te d] [M : IsF m] : SS K Xw (tDrop (tBM K "list" rAppend (tFld K (tVar i) f) (tCons te tNil))) (dFldApp i f d) := ⟨fun F W σ Γ D E R ⟨h0, q⟩ L => by
  obtain ⟨⟨C0, fs0, ds0⟩, h0⟩ := Option.isSome_iff_exists.mp h0
  obtain ⟨p0, dx0, vs0, q0, us0, c1, c2, c3, c4, c5, c6, c7, _⟩ := R.putFL (us' := []) (ds' := []) h0 .nil
  obtain ⟨sl, z1, z2⟩ := insI_ins (fldL_of h0).1
  refine ⟨.ref p0, c1, p0, C0, dx0, vs0, .ref q0, rfl, c2, c4, c5, c3, .inl ⟨rfl, _, SqL.of c6⟩, ?_⟩
  refine A.run F W σ Γ _ _ _ R q (fun x W' Γ' v s R' o ⟨C, fs, ds, y, h1, h2, h3, q⟩ => ?_) fun c W' Γ' s R' q => L.xs W' σ Γ' c s R' q
  have hs : Stp F W Γ W' Γ' := by
    rw [M.e] at s
    exact s
  obtain ⟨p, dx, vs, q', us, e1, e2, e3, _, _, e6, e7, _⟩ := R'.putFL (us' := []) (ds' := []) h1 .nil
  have eq : q' = q0 := by
    rw [c1] at e1
    cases e1
    have := hs.obj _ _ _ _ c2
    rw [e2] at this
    cases this
    rw [e3] at c3
    cases c3
    rfl
  subst eq
  obtain ⟨p2, dx2, vs2, q2, us2, f1, f2, f3, _, _, f6, f7, W2, eH, R2, s2⟩ := R'.putFL (us' := us ++ [v]) (ds' := ds ++ [y]) h1 (e7.app (.cons (o.sh R' h2) .nil))
  have eq2 : q2 = q' := by
    rw [f1] at e1
    cases e1
    rw [f2] at e2
    cases e2
    rw [f3] at e3
    cases e3
    rfl
  subst eq2
  refine ⟨q2, us, v, rfl, rfl, e6, by rw [e7.length]; exact h3, ?_⟩
  show D.nx σ _
  rw [← eH]
  exact L.nx W2 σ _ (hs.sh.trans s2.sh) R2 q⟩
def dFldPop (i : Nat) (f : Str) : TEXd := fun Γ Q _ => ∃ C fs ds y, fldL Γ i f = some (C, fs, ds) ∧ ds[ds.length - 1]? = some y ∧ Q (.sh y) (putI Γ i C (fs.setOw f (.lst ds.dropLast)))
instance sex_fldPop : SEX K Xw true (tBM0 K "list" rPop (tFld K (tVar i) f)) (dFldPop i f) := ⟨fun F W σ Γ Q Qd Qx R ⟨C, fs, ds, y, h1, h2, q⟩ k _ => by
  obtain ⟨p, dx, vs, q', us, e1, e2, e3, e4, e5, e6, e7, _⟩ := R.putFL (us' := []) (ds' := []) h1 .nil
  obtain ⟨v, g1, g2⟩ := e7.get h2
  obtain ⟨p2, dx2, vs2, q2, us2, f1, f2, f3, _, _, f6, f7, W2, eH, R2, s2⟩ := R.putFL (us' := us.dropLast) (ds' := ds.dropLast) h1 e7.dropLast
  have eq2 : q2 = q' := by
    rw [f1] at e1
    cases e1
    rw [f2] at e2
    cases e2
    rw [f3] at e3
    cases e3
    rfl
  subst eq2
  refine ⟨.ref p, e1, p, C, dx, vs, .ref q2, rfl, e2, e4, e5, e3, .inl ⟨rfl, _, SqL.of e6⟩, q2, us, v, rfl, rfl, e6, by rw [e7.length]; exact g1, ?_⟩
  rw [← eH]
  exact k (.sh y) W2 _ v s2 R2 (g2.same s2.sh) q⟩
/-! C(..) -/
def noRf (as : List AD) : Bool := as.all fun a => !isRf a
def dMake (K : Fg) (cl : Addr) (C : Ct) (d : TAXd) : TGCd := fun Γ Q X => d Γ (fun xs Γ1 => ∃ as, adsOf false Γ1 xs = some as ∧ noRf as = true ∧ Cls K cl ∧ C (.rf (.ins cl .nil) :: as) (fun r ol => r = .d .none ∧ ∃ o, ol = [o] ∧ Q (.nw o) Γ1) fun _ _ => False) X
theorem noRf_at {as : List AD} (h : noRf as = true) {j : Nat} {o : OD} (e : as[j]? = some (.rf o)) : False := by
  have := List.all_eq_true.mp h _ (List.mem_of_getElem? e)
  simp [isRf] at this
theorem noRf_ix {as : List AD} (h : noRf as = true) (xs : List RV) : rfIx xs as 0 = [] := by
  cases e : rfIx xs as 0 with
  | nil => rfl
  | cons q r =>
    obtain ⟨n, o, _, _, h3⟩ := rfIx_mem (i := q.1) (k := q.2) (xs := xs) (as := as) (j := 0) (by rw [e]; simp)
    exact (noRf_at h h3).elim
theorem chG_id (Γ : G) : chG Γ (fun _ => none) = Γ := by
  apply List.ext_getElem?
  intro i
  exact chG_none rfl
theorem make_run {F : Fx K} {W W1 : Wd} {σ : L2.St} {Γ Γ1 : G} {m1 : Bool} {cl : Addr} {C : Ct} {vs : List V} {xs : List RV} {as : List AD} {Q : VK} {Qd : RT → G → Prop} {Qe : Value → Prop} {E : XK} (s1 : StM m1 F W Γ W1 Γ1) (R1 : Rel F W1 σ Γ1) (o1 : VOks F W1 σ Γ1 vs xs) (ha : adsOf false Γ1 xs = some as) (hn : noRf as = true) (hcl : Cls K cl) (hc : C (.rf (.ins cl .nil) :: as) (fun r ol => r = .d .none ∧ ∃ o, ol = [o] ∧ Qd (.nw o) Γ1) fun c _ => Qe c)
    (k : ∀ (r : RT) (W' : Wd) (Γ' : G) (v : V), StM m1 F W Γ W' Γ' → Rel F W' σ Γ' → RtOk F W Γ W' Γ' v r → Qd r Γ' → Q v W'.H) (kx : ∀ (c : Value) (W' : Wd), Same (W.S F) (W'.S F) → Rel F W' σ Γ1 → Qe c → E c none W'.H) {x dx : Addr} (hx : W1.H x = none) (hdx : W1.H dx = none) (ne : dx ≠ x) :
    GSp K true C (.ref x :: vs) (upd (upd W1.H dx (.own x)) x (.ins cl dx [])) (fun v H2 => v = .non ∧ Q (.ref x) H2) E := by
  obtain ⟨ft0, hin, _⟩ := gIn_of R1 o1 ha (by rw [noRf_ix hn]; rfl)
  have nr0 : ∀ ft a, ¬ Rfs as ft a := fun ft a ⟨j, o, e, _⟩ => noRf_at hn e
  have old : ∀ a u, W1.H a = some u → upd (upd W1.H dx (.own x)) x (.ins cl dx []) a = some u := fun a u e => by
    rw [upd_ne (fun z => by rw [z, hx] at e; cases e), upd_ne (fun z => by rw [z, hdx] at e; cases e)]
    exact e
  have ex : upd (upd W1.H dx (.own x)) x (.ins cl dx []) x = some (.ins cl dx []) := upd_same
  have edx : upd (upd W1.H dx (.own x)) x (.ins cl dx []) dx = some (.own x) := by rw [upd_ne ne, upd_same]
  generalize hH : upd (upd W1.H dx (.own x)) x (.ins cl dx []) = H2 at old ex edx
  have tx : Tx W1.H H2 := fun a u _ e => old a u e
  let ft : Nat → List Addr := fun j => if j = 0 then [x, dx] else []
  have rf1 : ∀ a, Rfs (.rf (.ins cl .nil) :: as) ft a → a = x ∨ a = dx := fun a ⟨j, o, e, hj⟩ => by
    cases j with
    | zero => simpa [ft] using hj
    | succ j => exact (noRf_at hn (by simpa using e)).elim
  have nxd : ∀ a u, W1.H a = some u → ¬ (a = x ∨ a = dx) := fun a u e z => by
    rcases z with rfl | rfl
    · rw [hx] at e; cases e
    · rw [hdx] at e; cases e
  have inn : GIn K true (.ref x :: vs) H2 (.rf (.ins cl .nil) :: as) ft (fun a => Ex F W1.O a ∨ a = x ∨ a = dx) := by
    refine ⟨by simp [hin.len], fun j a e => ?_, fun a z => ?_, fun a z => .inr (rf1 a z), fun i j o o' a ni e1 e2 h1 h2 => ?_⟩
    · cases j with
      | zero =>
        simp at e
        subst e
        refine ⟨_, rfl, x, rfl, ?_⟩
        simp only [OwnO]
        exact ⟨dx, [], [], rfl, by simp [ft, Ne.symm ne], ex, edx, by simp only [FsOk]; exact ⟨trivial, trivial⟩, hcl, fun f hf => by simp [Fs.has] at hf⟩
      | succ j =>
        obtain ⟨v, g1, g2⟩ := hin.arg j a (by simpa using e)
        refine ⟨v, by simpa using g1, ?_⟩
        have sX : Same (less W1.H (Ex F W1.O)) (less H2 fun a => Ex F W1.O a ∨ a = x ∨ a = dx) := same_less fun b u nx e => ⟨fun z => z.elim nx (nxd b u e), old b u e⟩
        cases a with
        | d d z =>
          cases z with
          | true => exact Dq.same sX g2
          | false => exact Dq.same (same_less fun b u _ e => ⟨fun z => nxd b u e (rf1 b z), old b u e⟩) g2
        | rf o => exact (noRf_at hn (by simpa using e)).elim
        | ro o =>
          obtain ⟨q0, p, g, q1, q2, q3⟩ := g2
          have some_of : ∀ b ∈ g, ∃ u, W1.H b = some u := fun b hb => by
            cases w : W1.H b with
            | none => have m := R1.exmo (q2 b hb).2; rw [w] at m; exact m.elim
            | some u => exact ⟨u, rfl⟩
          refine ⟨q0, p, g, q1, fun b hb => ?_, q3.keep sX tx fun b hb => ?_⟩
          · obtain ⟨u, hu⟩ := some_of b hb
            exact ⟨fun z => nxd b u hu (rf1 b z), .inl (q2 b hb).2⟩
          · obtain ⟨u, hu⟩ := some_of b hb
            rw [old b u hu, hu]
    · rcases z with z | rfl | rfl
      · have m := R1.exmo z
        obtain ⟨u, hu⟩ := mo_some m
        rw [old a u hu, ← hu]
        exact m
      · rw [ex]; trivial
      · rw [edx]; trivial
    · cases i with
      | zero =>
        cases j with
        | zero => exact ni rfl
        | succ j => exact noRf_at hn (by simpa using e2)
      | succ i => exact noRf_at hn (by simpa using e1)
  have fin : ∀ {H' : Hp} {os : Nat → OD} {ft' : Nat → List Addr} {T : Addr → Prop}, GOut K (.ref x :: vs) H2 (.rf (.ins cl .nil) :: as) ft (fun a => Ex F W1.O a ∨ a = x ∨ a = dx) H' os ft' T → ∀ T' : Addr → Prop, (∀ a, T' a → a ∈ ft' 0) → ChOk F W1 σ Γ1 (fun _ => none) H' T' := fun {H' os ft' T} g T' hT => by
    refine ⟨fun a u _ e => g.fr a u (fun z => nxd a u e (rf1 a z)) (old a u e), (fun a ⟨_, _, _, e, _⟩ => nomatch e), fun a z => ?_, (fun i m e => nomatch e), (fun i k m n a _ e => nomatch e), fun a z => ?_, .inl fun i m s e => nomatch e⟩
    · rcases z with ⟨_, _, e, _⟩ | ⟨_, _, _, e, _⟩ <;> cases e
    · obtain ⟨p, _, q2, _⟩ := g.ob 0 _ rfl
      refine ⟨?_, (fun ⟨_, _, _, e, _⟩ => nomatch e), q2.mo a (hT a z)⟩
      cases w : W1.H a with
      | none => rfl
      | some u =>
        rcases g.nw a ⟨0, _, rfl, hT a z⟩ with y | y
        · exact (nxd a u w (rf1 a y)).elim
        · rw [old a u w] at y; cases y
  refine ⟨_, ft, _, _, _, inn, hc, fun v H' os ft' T r g ok ⟨er, o0, eo, q⟩ => ?_, fun c H' os ft' g q => ?_⟩
  · subst er
    cases (show some (os 0) = some o0 from congrArg List.head? eo)
    have ev : v = .non := by cases ok.1; rfl
    refine ⟨ev, ?_⟩
    have ch := fin g (fun a => a ∈ ft' 0) fun a z => z
    obtain ⟨R2, _⟩ := R1.objs ch
    have st := R1.objsM (m := false) ch (fun _ i n e => nomatch e) (fun _ a ⟨_, _, e, _⟩ => nomatch e)
    rw [chG_id] at R2 st
    have st2 := s1.trans st
    rw [Bool.or_false] at st2
    refine k (.nw (os 0)) _ Γ1 (.ref x) st2 R2 ?_ q
    obtain ⟨p, q1, q2, _⟩ := g.ob 0 _ rfl
    cases (show some (V.ref x) = some (V.ref p) from q1)
    refine ⟨x, ft' 0, rfl, q2.keep (same_less fun a u nx e => ⟨fun z => nx ?_, e⟩) (fun _ _ _ e => e) fun _ _ => rfl, fun a ha => ⟨?_, fun z => ?_⟩⟩
    · rcases z with z | z | z | z
      · exact .inl (.inl (.inl z))
      · exact .inl (.inl (.inr z))
      · obtain ⟨_, _, _, e, _⟩ := z; cases e
      · exact .inr (.inl ⟨0, _, rfl, z⟩)
    · have := ch.tm R1 ha
      rw [chG_id] at this
      exact this
    · have m := R1.mu a (s1.stx.tmp a z).1.1
      rw [(ch.tn a ha).1] at m
      exact m
  · have ch := fin g (fun _ => False) fun a z => z.elim
    obtain ⟨R2, kq⟩ := R1.objs ch
    rw [chG_id] at R2
    exact kx c _ (s1.stx.sh.trans kq.sh) R2 q
instance seg_make {cl : Addr} {C : Ct} {E : XK} {m1 : Bool} {ts : TA} {d : TAXd} [A : SAX K Xw m1 ts d] : SEG K Xw m1 (tMake cl (GSp K true C) [] E ts) (dMake K cl C d) := ⟨fun F W σ Γ Q Qd Qx R q k kx => A.run F W σ Γ _ _ _ R q (fun xs W1 Γ1 vs s1 R1 o1 ⟨as, ha, hn, hcl, hc⟩ => by
  intro x dx hx hdx ne
  rw [List.append_nil]
  exact make_run (Qe := fun _ => False) s1 R1 o1 ha hn hcl hc k (fun c W' _ _ z => z.elim) hx hdx ne) kx⟩
end
end Dk

namespace Dk
open PySem PySem.Spec PyProof.Rows L2
/-! ### dicts that are data -/
def dicRV : RV → Option (List (PyData × PyData))
  | .sh (.dict kvs) => some kvs
  | .ar (.dict kvs) => some kvs
  | _ => none
section
variable {K : Fg} {td ty : TE} {dd dy : TEd}
theorem dicRV_ok {F : Fx K} {W : Wd} {σ : L2.St} {Γ : G} {v : V} {x : RV} {kvs : List (PyData × PyData)} (R : Rel F W σ Γ) (o : VOk F W σ Γ v x) (e : dicRV x = some kvs) : ∃ a us, v = .ref a ∧ L2.Rd W.H a (.dK us) ∧ DqKv K W.H us kvs ∧ (∀ k d, valP kvs k = some d → ∃ u, valV us k = some u ∧ VOk F W σ Γ u (itK x d)) ∧ ∀ k, valP kvs k = none → valV us k = none := by
  cases x with
  | sh d =>
    cases d with
    | dict kvs' =>
      cases e
      cases (show Dq K (W.S F) v (.dict kvs) from o) with
      | dct a b => exact ⟨_, _, rfl, L2.Same.rd less_same a, b.same less_same, fun k d z => (b.val (k := k)).2 d z, fun k z => (b.val (k := k)).1 z⟩
    | _ => cases e
  | ar d =>
    cases d with
    | dict kvs' =>
      cases e
      cases (show Dq K (less F.H0 F.rf) v (.dict kvs) from o) with
      | dct a b => exact ⟨_, _, rfl, L2.Same.rd R.ar_same a, b.same R.ar_same, fun k d z => (b.val (k := k)).2 d z, fun k z => (b.val (k := k)).1 z⟩
    | _ => cases e
  | own i => cases e
  | fld i p => cases e
def dDGetV (dd dy : TEd) : TEd := fun Γ Q => dd Γ fun x Γ1 => dy Γ1 fun y Γ2 => ∃ key k kvs d, dat Γ2 y = some key ∧ keyD key = some k ∧ dicRV x = some kvs ∧ valP kvs k = some d ∧ Q (itK x d) Γ2
instance (priority := low) se_dgetV [A : SE K td dd] [B : SE K ty dy] : SE K (tDGet td ty) (dDGetV dd dy) := ⟨fun F W σ Γ Q Qd R q kk => A.run F W σ Γ _ _ R q fun x W1 Γ1 u s1 R1 o1 q => B.run F W1 σ Γ1 _ _ R1 q fun y W2 Γ2 v s2 R2 o2 ⟨key, k, kvs, d, e1, e2, e3, e4, q⟩ => by
  obtain ⟨a, us, rfl, h1, h2, h3, _⟩ := dicRV_ok R2 (o1.stp s2) e3
  obtain ⟨w, w1, w2⟩ := h3 k d e4
  refine ⟨a, w, rfl, ?_, kk _ W2 Γ2 w (s1.trans s2) R2 w2 q⟩
  rw [keyD_ok (o2.full R2 e1) e2, ← w1]
  exact DGet.kr h1⟩
def dDInV (f : Bool → Bool) (dd dy : TEd) : TEd := fun Γ Q => dy Γ fun y Γ1 => dd Γ1 fun x Γ2 => ∃ key k kvs, dat Γ2 y = some key ∧ keyD key = some k ∧ dicRV x = some kvs ∧ Q (.sh (.bool (f (valP kvs k).isSome))) Γ2
theorem din_run {f : Bool → Bool} [A : SE K td dd] [B : SE K ty dy] {F : Fx K} {W : Wd} {σ : L2.St} {Γ : G} {Q : VK} {Qd : RV → G → Prop} (R : Rel F W σ Γ) (q : dDInV f dd dy Γ Qd) (kk : ∀ (rv : RV) (W' : Wd) (Γ' : G) (v : V), Stp F W Γ W' Γ' → Rel F W' σ Γ' → VOk F W' σ Γ' v rv → Qd rv Γ' → Q v W'.H) :
    ty σ W.H fun y H1 => td σ H1 fun x H2 => ∃ a o, x = .ref a ∧ DGet H2 a y o ∧ Q (.bl (f o.isSome)) H2 := B.run F W σ Γ _ _ R q fun y W1 Γ1 v s1 R1 o1 q => A.run F W1 σ Γ1 _ _ R1 q fun x W2 Γ2 u s2 R2 o2 ⟨key, k, kvs, e1, e2, e3, q⟩ => by
  obtain ⟨a, us, rfl, h1, h2, h3, h4⟩ := dicRV_ok R2 o2 e3
  refine ⟨a, valV us k, rfl, ?_, ?_⟩
  · rw [keyD_ok ((o1.stp s2).full R2 e1) e2]
    exact DGet.kr h1
  · have e : (valV us k).isSome = (valP kvs k).isSome := by
      cases c : valP kvs k with
      | none => rw [h4 k c]; rfl
      | some d => obtain ⟨w, w1, _⟩ := h3 k d c; rw [w1]; rfl
    rw [e]
    exact kk _ W2 Γ2 _ (s1.trans s2) R2 (.bl _) q
instance (priority := low) se_dinV [A : SE K td dd] [B : SE K ty dy] : SE K (tDIn ty td) (dDInV id dd dy) := ⟨fun F W σ Γ Q Qd R q kk => din_run R q kk⟩
instance (priority := low) se_dnotinV [A : SE K td dd] [B : SE K ty dy] : SE K (tDNotIn ty td) (dDInV not dd dy) := ⟨fun F W σ Γ Q Qd R q kk => din_run (f := not) R q kk⟩
/-! dict(d) -/
def rDictOf : List V → Hp → VK → Prop := fun xs H Q => ∃ (a : Addr) (kvs : List (Key × V)), xs = [.ref a] ∧ L2.Rd H a (.dK kvs) ∧ ∀ p, H p = none → Q (.ref p) (upd H p (.dK kvs))
theorem b_dict {X : Cx} : CallR X (.type "dict") rDictOf := call_dictD
/-- the entries, with keys as they are -/
def kvsOf : List (PyData × PyData) → Option (List (Key × PyData))
  | [] => some []
  | (e, d) :: r => match keyD e, kvsOf r with
    | some k, some ks => some ((k, d) :: ks)
    | _, _ => none
theorem DqKv.kv {H : Hp} : ∀ {us : List (Key × V)} {kvs : List (PyData × PyData)} {ks : List (Key × PyData)}, DqKv K H us kvs → kvsOf kvs = some ks → KvOk K H us ks
  | _, _, _, .nil, e => by cases e; exact .nil
  | (k0, v0) :: us, (e, d) :: kvs, ks, .cons he hv hr, e2 => by
    subst he
    simp only [kvsOf, keyD_kD] at e2
    split at e2
    · rename_i k ks' e3 e4
      cases e3
      cases e2
      exact .cons ⟨rfl, hv⟩ (DqKv.kv hr e4)
    · cases e2
theorem kvsOf_map (kvs : List (Key × PyData)) : kvsOf (kvs.map fun p => (kD p.1, p.2)) = some kvs := by
  induction kvs with
  | nil => rfl
  | cons p r ih => simp only [List.map_cons, kvsOf, keyD_kD, ih]
/-- a copy of a dict that is data: its values may be kept -/
def dDictOf (dd : TEd) : TFd := fun Γ Q => dd Γ fun x Γ1 => ∃ kvs ks, dicRV x = some kvs ∧ kvsOf kvs = some ks ∧ keepable x (ks.map (·.2)) ∧ Q (.dK ks) Γ1
theorem kvOk_vals {S : Hp} : ∀ {us : List (Key × V)} {ks : List (Key × PyData)}, KvOk K S us ks → DqAll K S (us.map (·.2)) (ks.map (·.2))
  | _, _, .nil => .nil
  | _, _, .cons h t => .cons h.2 (kvOk_vals t)
theorem kvOk_of {S S' : Hp} : ∀ {us : List (Key × V)} {ks : List (Key × PyData)}, KvOk K S us ks → DqAll K S' (us.map (·.2)) (ks.map (·.2)) → KvOk K S' us ks
  | _, _, .nil, _ => .nil
  | _, _, .cons h t, z => by
    cases z with
    | cons a b => exact .cons ⟨h.1, a⟩ (kvOk_of t b)
instance sf_dictOf [A : SE K td dd] : SEF K (tCB rDictOf (tCons td tNil)) (dDictOf dd) := ⟨fun F W σ Γ Q Qd R q k => one (ta := td) (da := dd) R q fun x W' Γ' v s' R' o ⟨kvs, ks, e1, e2, hk, q⟩ => by
  have fin : ∀ {a : Addr} {us : List (Key × V)}, v = .ref a → L2.Rd W'.H a (.dK us) → KvOk K (W'.S F) us ks → rDictOf [v] W'.H Q := fun {a us} hv h1 h2 => by
    subst hv
    exact ⟨a, us, rfl, h1, fun p hp => k (.dK ks) W' Γ' p _ s' R' hp ⟨us, rfl, h2⟩ q⟩
  cases x with
  | sh d =>
    cases d with
    | dict kvs' =>
      cases e1
      cases (show Dq K (W'.S F) v (.dict kvs) from o) with
      | dct a b => exact fin rfl (L2.Same.rd less_same a) (b.kv e2)
    | _ => cases e1
  | ar d =>
    cases d with
    | dict kvs' =>
      cases e1
      cases (show Dq K (less F.H0 F.rf) v (.dict kvs) from o) with
      | dct a b =>
        have h := b.kv e2
        exact fin rfl (L2.Same.rd R'.ar_same a) (kvOk_of h (DqAll.tupO_less (H' := W'.H) (fun a z => R'.exmo z) _ _ hk ((kvOk_vals h).same R'.ar_same)))
    | _ => cases e1
  | own i => cases e1
  | fld i p => cases e1⟩
/-! d.pop(k), a dict of a name -/
def dropD (kvs : List (Key × PyData)) (k : Key) : List (Key × PyData) := kvs.filter fun kv => decide (kv.1 ≠ k)
end
end Dk

namespace Dk
open PySem PySem.Spec PyProof.Rows L2
section
variable {K : Fg} {S : Hp} {td ty te ti : TE} {dd dy de di : TEd}
/-! d.pop(k), a dict of a name -/
theorem KvOk.drop {us : List (Key × V)} {kvs : List (Key × PyData)} (h : KvOk K S us kvs) (k : Key) : KvOk K S (dropK us k) (dropD kvs k) := by
  unfold KvOk at h ⊢
  induction h with
  | nil => exact .nil
  | @cons p q ps qs h t ih =>
    obtain ⟨h1, h2⟩ := h
    by_cases e : q.1 = k
    · have e' : p.1 = k := h1.trans e
      simpa [dropK, dropD, List.filter_cons, e, e'] using ih
    · have e' : ¬ p.1 = k := fun z => e (h1.symm.trans z)
      have g : dropK (p :: ps) k = p :: dropK ps k := by simp [dropK, List.filter_cons, e']
      have g' : dropD (q :: qs) k = q :: dropD qs k := by simp [dropD, List.filter_cons, e]
      rw [g, g']
      exact .cons ⟨h1, h2⟩ ih
def dictK (Γ : G) (i : Nat) : Option (Sl × List (Key × PyData)) := match Γ[i]? with
  | some (.ow (.dK kvs)) => some (.ow (.dK kvs), kvs)
  | some (.rf (.dK kvs)) => some (.rf (.dK kvs), kvs)
  | _ => none
theorem dictK_ok {Γ : G} {i : Nat} {s : Sl} {kvs : List (Key × PyData)} (e : dictK Γ i = some (s, kvs)) : Γ[i]? = some s ∧ s.own? = some (.dK kvs) := by
  unfold dictK at e
  split at e
  · rename_i h; cases e; exact ⟨h, rfl⟩
  · rename_i h; cases e; exact ⟨h, rfl⟩
  · cases e
def dDPop (i : Nat) (dy : TEd) : TEd := fun Γ Q => isDict Γ i = true ∧ dy Γ fun y Γ1 => ∃ key k s kvs d, dat Γ1 y = some key ∧ keyD key = some k ∧ dictK Γ1 i = some (s, kvs) ∧ valD kvs k = some d ∧ Q (.sh d) (Γ1.set i (setOwn s (.dK (dropD kvs k))))
instance se_dpop {i : Nat} [A : SE K ty dy] : SE K (tDPop1 (tVar i) ty) (dDPop i dy) := ⟨fun F W σ Γ Q Qd R ⟨h0, q⟩ kk => by
  obtain ⟨p, e0, hd⟩ := isDict_ref R h0
  refine ⟨.ref p, e0, p, rfl, hd, A.run F W σ Γ _ _ R q fun y W' Γ' u s' R' o ⟨key, k, s, kvs, d, e1, e2, e3, e4, q⟩ => ?_⟩
  obtain ⟨h1, h2⟩ := dictK_ok e3
  obtain ⟨p', us, g1, g2, g3⟩ := own_dK R' h1 h2
  rw [e0] at g1
  cases g1
  obtain ⟨v, w1, w2⟩ := (g3.val k).2 d e4
  have hh : OwnH K (W'.S F) (.dK (dropK us k)) (.dK (dropD kvs k)) := ⟨_, rfl, g3.drop k⟩
  refine ⟨us, k, v, g2, keyD_ok (o.full R' e1) e2, w1, ?_⟩
  refine kk _ { W' with H := upd W'.H p (.dK (dropK us k)) } _ _ (s'.trans (Stp.put R' h1 h2 rfl e0 hh)) (R'.put h1 h2 rfl e0 hh).1 (.ofSh ?_) q
  rw [(R'.put h1 h2 rfl e0 hh).2]
  exact w2⟩
/-! sorted(d), keys that are texts, fewer than 64 -/
def rSortDS : List V → Hp → VK → Prop := fun xs H Q => ∃ (a : Addr) (kvs : List (Key × V)) (ks : List Str), xs = [.ref a] ∧ L2.Rd H a (.dK kvs) ∧ kvs.map (·.1) = ks.map Sum.inr ∧ ks.length < 64 ∧
    ∀ ys p, ys.Perm ks → sortedS ys = true → H p = none → Q (.ref p) (upd H p (.lst (ys.map V.str)))
theorem b_sortDS {X : Cx} (calm : X.calm = true) : CallR X (.builtin "sorted") rSortDS := call_sortedD calm
theorem DqAll.ofStrs' : ∀ (xs : List Str), DqAll K S (xs.map V.str) (xs.map .str)
  | [] => .nil
  | x :: xs => .cons (.str x) (DqAll.ofStrs' xs)
def dSortDS (dd : TEd) : TFd := fun Γ Q => dd Γ fun x Γ1 => ∃ kvs l, ∃ ks : List Str, dicRV x = some kvs ∧ kvsOf kvs = some l ∧ l.map (·.1) = ks.map Sum.inr ∧ ks.length < 64 ∧ ∀ ys : List Str, ys.Perm ks → sortedS ys = true → Q (.lst (ys.map .str)) Γ1
instance sf_sortDS [A : SE K td dd] : SEF K (tCB rSortDS (tCons td tNil)) (dSortDS dd) := ⟨fun F W σ Γ Q Qd R q k => one (ta := td) (da := dd) R q fun x W' Γ' v s' R' o ⟨kvs, l, ks, e1, e2, e3, hl, q⟩ => by
  obtain ⟨a, us, rfl, h1, h2, _, _⟩ := dicRV_ok R' o e1
  have h := h2.kv e2
  exact ⟨a, us, ks, rfl, h1, by rw [KvOk.keys h, e3], hl, fun ys p hp hs hn => k (.lst (ys.map .str)) W' Γ' p _ s' R' hn ⟨_, rfl, DqAll.ofStrs' ys⟩ (q ys hp hs)⟩⟩
/-! xs.insert(i, y), xs.clear() -/
def rInsert : V → List V → Hp → VK → Prop := fun x vs H Q => ∃ (l : Addr) (xs : List V) (i : Int) (y : V), x = .ref l ∧ vs = [.int i, y] ∧ H l = some (.lst xs) ∧ xs.length < sizeLine ∧ 0 ≤ i ∧ i < 2 ^ 63 ∧
    Q .non (upd H l (.lst (xs.take i.toNat ++ [y] ++ xs.drop i.toNat)))
theorem b_insert {X : Cx} : MtR X "list.insert" rInsert := mt_insert
def dInsert (i : Nat) (di de : TEd) : TEd := fun Γ Q => (ownL Γ i).isSome = true ∧ di Γ fun z Γ0 => de Γ0 fun x Γ1 => ∃ ds d n, ownL Γ1 i = some ds ∧ dat Γ1 z = some (.int n) ∧ shOf x = some d ∧ ds.length < sizeLine ∧ 0 ≤ n ∧ n < 2 ^ 63 ∧ Q (.sh .none) (putL Γ1 i (ds.take n.toNat ++ [d] ++ ds.drop n.toNat))
instance se_insert {i : Nat} [A : SE K ti di] [B : SE K te de] : SE K (tBM K "list" rInsert (tVar i) (tCons ti (tCons te tNil))) (dInsert i di de) := ⟨fun F W σ Γ Q Qd R ⟨h0, q⟩ k => by
  obtain ⟨ds0, h0⟩ := Option.isSome_iff_exists.mp h0
  obtain ⟨s0, a1, a2, _⟩ := ownL_of h0
  obtain ⟨p, e0⟩ := own_ref R a1 a2
  obtain ⟨vs0, b1, b2⟩ := own_lst R a1 a2 e0
  refine ⟨.ref p, e0, .inl ⟨rfl, _, SqL.of b1⟩, ?_⟩
  refine A.run F W σ Γ _ _ R q fun z W1 Γ1 u s1 R1 o1 q => ?_
  refine B.run F W1 σ Γ1 _ _ R1 q fun x W' Γ' v s' R' o ⟨ds, d, n, h1, e1, e2, hl, n0, n1, q⟩ => ?_
  obtain ⟨s, c1, c2, c3⟩ := ownL_of h1
  obtain ⟨vs, b1, b2⟩ := own_lst R' c1 c2 e0
  have hh : OwnH K (W'.S F) (.lst (vs.take n.toNat ++ [v] ++ vs.drop n.toNat)) (.lst (ds.take n.toNat ++ [d] ++ ds.drop n.toNat)) := ⟨_, rfl, ((b2.take _).app (.cons (o.sh R' e2) .nil)).app (b2.drop _)⟩
  refine ⟨p, vs, n, v, rfl, by rw [int_of ((o1.stp s').full R' e1)], b1, by rw [b2.length]; exact hl, n0, n1, ?_⟩
  rw [c3] at q
  exact k _ { W' with H := upd W'.H p (.lst (vs.take n.toNat ++ [v] ++ vs.drop n.toNat)) } _ _ ((s1.trans s').trans (Stp.put R' c1 c2 rfl e0 hh)) (R'.put c1 c2 rfl e0 hh).1 .non q⟩
theorem b_clear {X : Cx} : MtR X "list.clear" rClear := mt_clear
def dClear (i : Nat) : TEd := fun Γ Q => (ownL Γ i).isSome = true ∧ Q (.sh .none) (putL Γ i [])
instance se_clear {i : Nat} : SE K (tBM0 K "list" rClear (tVar i)) (dClear i) := ⟨fun F W σ Γ Q Qd R ⟨h0, q⟩ k => by
  obtain ⟨ds, h0⟩ := Option.isSome_iff_exists.mp h0
  obtain ⟨s, c1, c2, c3⟩ := ownL_of h0
  obtain ⟨p, e0⟩ := own_ref R c1 c2
  obtain ⟨vs, b1, b2⟩ := own_lst R c1 c2 e0
  have hh : OwnH K (W.S F) (.lst []) (.lst []) := ⟨_, rfl, .nil⟩
  refine ⟨.ref p, e0, .inl ⟨rfl, _, SqL.of b1⟩, p, vs, rfl, rfl, b1, ?_⟩
  rw [c3] at q
  exact k _ { W with H := upd W.H p (.lst []) } _ _ (Stp.put R c1 c2 rfl e0 hh) (R.put c1 c2 rfl e0 hh).1 .non q⟩
end
end Dk

namespace Dk
open PySem PySem.Spec PyProof.Rows L2
/-! ### a name's list or dict that is handed on, and changed no more by it -/
def tVarZ (i : Nat) : TE := tVar i
theorem pz {X : Cx} (i : Nat) {x : Str} {pos : Pos} (hN : X.N[i]? = some x := by rfl) (hv : Vis X.env.scope x := by first | exact Or.inl rfl | exact Or.inr (Or.inl rfl) | exact Or.inr (Or.inr rfl)) (hd : (x == ("__debug__" : Str)) = false := by decide) (hcd : (x == ("__classdict__" : Str)) = false := by decide) : PE X (.Name x pos) (tVarZ i) := pv i hN hv hd hcd
def dVarZ (i : Nat) : TEd := fun Γ Q => ∃ o d, Γ[i]? = some (.ow o) ∧ odD o = some d ∧ Q (.sh d) (Γ.set i (.sh d))
instance se_varZ {K : Fg} (i : Nat) : SE K (tVarZ i) (dVarZ i) := ⟨fun F W σ Γ Q Qd R ⟨o, d, h, e, q⟩ k => by
  obtain ⟨W', eW, sW, R'⟩ := R.freezeO h e
  have hl : i < Γ.length := (List.getElem?_eq_some_iff.mp h).1
  obtain ⟨v, e1, e2⟩ := R'.slot i (.sh d) (by rw [List.getElem?_set_self hl])
  refine ⟨v, e1, ?_⟩
  rw [← eW]
  exact k (.sh d) W' _ v sW R' (.ofSh e2) q⟩
/-! for x in xs, where xs is a name's own list that stays its own -/
theorem Rel.recast {K : Fg} {F : Fx K} {W : Wd} {σ : L2.St} {Γ : G} (R : Rel F W σ Γ) {i : Nat} {o o' : OD} (h : Γ[i]? = some (.ow o)) (ok : ∀ p, σ[i]? = some (some (.ref p)) → OwnOk K (W.S F) W.H p (W.ft i) o → OwnOk K (W.S F) W.H p (W.ft i) o') : Rel F W σ (Γ.set i (.ow o')) := by
  refine ⟨R.base, R.new, R.mu, R.rfo, by rw [List.length_set]; exact R.len, fun j s e => ?_, fun j k s t oj ok' a ne e1 e2 g1 g2 => ?_⟩
  · rcases get_set _ _ _ _ _ e with ⟨rfl, rfl, hl⟩ | ⟨ne, e⟩
    · obtain ⟨p, a1, a2, a3⟩ := R.slot _ _ h
      exact ⟨p, a1, a2, ok p a1 a3⟩
    · exact R.slot j s e
  · have at_ : ∀ {j : Nat} {s : Sl} {oj : OD}, (Γ.set i (.ow o'))[j]? = some s → s.own? = some oj → ∃ s0 o0, Γ[j]? = some s0 ∧ s0.own? = some o0 := fun {j s oj} e g => by
      rcases get_set _ _ _ _ _ e with ⟨rfl, rfl, hl⟩ | ⟨ne, e⟩
      · exact ⟨_, _, h, rfl⟩
      · exact ⟨_, _, e, g⟩
    obtain ⟨s0, o0, b1, b2⟩ := at_ e1 g1
    obtain ⟨t0, o1, b3, b4⟩ := at_ e2 g2
    exact R.dis j k s0 t0 o0 o1 a ne b1 b3 b2 b4
def iListO (K : Fg) (i : Nat) : TI := iList K (tVar i)
theorem kpilO (K : Fg) {X : Cx} {tg l : Expr} {i : Nat} (hl : PE X l (tVar i)) (h : X.K = K := by rfl) : PI X tg l (iListO K i) := h ▸ pi_list hl
/-- a list that stands at one place, unchanged -/
def IsL (p0 : Addr) (vs : List V) : Hp → Addr → List Addr → Prop := fun H p f => p = p0 ∧ f = [p0] ∧ H p0 = some (.lst vs)
def DE.lpO (E : DE) (M : G → Prop) : DE := { E with nx := M, ct := M, bk := fun _ => False }
def dForO (i : Nat) (dg : TGd) (db : TSd) : TSd := fun E Γ => ∃ ds, Γ[i]? = some (.ow (.lst ds)) ∧ ∀ A : Hp → Addr → List Addr → Prop, ∃ I : Nat → G → Prop, I 0 (Γ.set i (.ow (.ab A))) ∧ (∀ k Γ', I k Γ' → Γ'[i]? = some (.ow (.ab A))) ∧
  (∀ k d Γ', ds[k]? = some d → I k Γ' → dg (.sh d) Γ' fun Γ3 => db (E.lpO (I (k + 1))) Γ3) ∧ ∀ Γ', I ds.length Γ' → E.nx (Γ'.set i (.ow (.lst ds)))
instance ss_forO {K : Fg} {Xw : WX} {i : Nat} {g : TG} {dg : TGd} {ix : List Nat} {tb : TS} {db : TSd} [B : SG K g dg ix] [C : SS K Xw tb db] : SS K Xw (tFor (iListO K i) g tb) (dForO i dg db) := ⟨fun F W σ Γ D E R ⟨ds, h, q⟩ L => by
  obtain ⟨p, a1, a2, hf, vs, hp, hd⟩ := R.slot i _ h
  obtain ⟨I, i0, own, step, done⟩ := q (IsL p vs)
  refine ⟨_, a1, p, rfl, ⟨vs, SqL.of hp⟩, ?_⟩
  have R0 : Rel F W σ (Γ.set i (.ow (.ab (IsL p vs)))) := R.recast h fun p' e1 hw => by
    rw [a1] at e1
    cases e1
    refine ⟨by rw [hf]; simp, ⟨rfl, hf, hp⟩, fun H' hk ht => ⟨rfl, hf, by rw [hk p (by rw [hf]; simp)]; exact hp⟩, fun a ha => ?_⟩
    have e : a = p := by rw [hf] at ha; simpa using ha
    subst e
    rw [hp]
    exact ⟨trivial, trivial⟩
  have stand : ∀ {W' : Wd} {σ' : L2.St} {Γ' : G} {k : Nat}, Rel F W' σ' Γ' → I k Γ' → W'.H p = some (.lst vs) ∧ σ'[i]? = some (some (.ref p)) ∧ W'.ft i = [p] := fun {W' σ' Γ' k} R' i' => by
    obtain ⟨p', b1, b2, b3, ⟨b4, b5, b6⟩, _⟩ := R'.slot i _ (own k Γ' i')
    subst b4
    exact ⟨b6, b1, b5⟩
  have hl : vs.length = ds.length := hd.length
  refine for_list (K := K) (a := p) (xs := vs) (fun k σ' H' => ∃ W' Γ', W'.H = H' ∧ Same (W.S F) (W'.S F) ∧ Rel F W' σ' Γ' ∧ I k Γ') ⟨W, _, rfl, Same.refl _, R0, i0⟩ ?_ ?_ ?_
  · rintro k σ' H' hk ⟨W', Γ', rfl, s', R', i'⟩
    exact SqL.of (stand R' i').1
  · rintro k y σ' H' hy ⟨W', Γ', rfl, s', R', i'⟩
    have hk : k < ds.length := by rw [← hl]; exact (List.getElem?_eq_some_iff.mp hy).1
    obtain ⟨y', hy', od⟩ := hd.get (List.getElem?_eq_getElem hk)
    rw [hy] at hy'
    cases hy'
    refine B.run F W' σ' Γ' y (.sh ds[k]) _ _ R' (od.same s') (step k ds[k] Γ' (List.getElem?_eq_getElem hk) i') fun W3 σ3 Γ3 k3 f3 R3 q3 => ?_
    refine C.run F W3 σ3 Γ3 _ _ R3 q3 ⟨fun W4 σ4 Γ4 s4 R4 q4 => ⟨W4, Γ4, rfl, (s'.trans k3.sh).trans s4, R4, q4⟩, fun W4 σ4 Γ4 x4 v4 s4 => L.rt W4 σ4 Γ4 x4 v4 ((s'.trans k3.sh).trans s4), fun W4 σ4 Γ4 o4 p4 h4 s4 => L.rn W4 σ4 Γ4 o4 p4 h4 ((s'.trans k3.sh).trans s4), fun W4 σ4 Γ4 s4 R4 q4 => q4.elim, fun W4 σ4 Γ4 s4 R4 q4 => ⟨W4, Γ4, rfl, (s'.trans k3.sh).trans s4, R4, q4⟩, fun W4 σ4 Γ4 c4 s4 => L.xs W4 σ4 Γ4 c4 ((s'.trans k3.sh).trans s4)⟩
  · rintro σ' H' ⟨W', Γ', rfl, s', R', i'⟩
    rw [hl] at i'
    obtain ⟨b1, b2, b3⟩ := stand R' i'
    refine L.nx W' σ' _ s' (R'.recast (own _ Γ' i') fun p' e1 hw => ?_) (done Γ' i')
    rw [b2] at e1
    cases e1
    exact ⟨b3, vs, b1, hd.same s'⟩⟩
/-! tuples put together -/
theorem kcatA (K : Fg) {X : Cx} (h : X.K = K := by rfl) : OpR X (binaryOp .Add) (rCatA K) := h ▸ op_catA
def dCatA (da db : TEd) : TEd := fun Γ Q => da Γ fun x Γ1 => db Γ1 fun y Γ2 => ∃ ds es, shOf x = some (.tuple ds) ∧ shOf y = some (.tuple es) ∧ ds.length + es.length ≤ sizeLine ∧ Q (.sh (.tuple (ds ++ es))) Γ2
theorem dq_tup {K : Fg} {S : Hp} {v : V} {ds : List PyData} (h : Dq K S v (.tuple ds)) : ∃ a xs, v = .ref a ∧ Tq K S a xs ∧ DqAll K S xs ds := by
  cases h with
  | tup a b => exact ⟨_, _, rfl, a, b⟩
instance se_catA {K : Fg} {ta tb : TE} {da db : TEd} [SE K ta da] [SE K tb db] : SE K (tOp (rCatA K) ta tb) (dCatA da db) := ⟨fun F W σ Γ Q Qd R q k => two R q fun x y W' Γ' u v s' R' o1 o2 ⟨ds, es, e1, e2, hl, q⟩ => by
  have h1 := o1.sh R' e1
  have h2 := o2.sh R' e2
  obtain ⟨a, xs, rfl, ha, hx⟩ := dq_tup h1
  obtain ⟨b, ys, rfl, hb, hy⟩ := dq_tup h2
  refine ⟨a, b, xs, ys, rfl, rfl, (ha.same less_same).sq, (hb.same less_same).sq, by rw [hx.length, hy.length]; exact hl, fun z => ?_, fun z1 z2 => ?_, fun z1 z2 p hp => ?_⟩
  · subst z
    have e : ds = [] := List.length_eq_zero_iff.mp hx.length.symm
    subst e
    exact k _ W' Γ' _ s' R' (.ofSh h2) q
  · subst z2
    have e : es = [] := List.length_eq_zero_iff.mp hy.length.symm
    subst e
    rw [List.append_nil] at q
    exact k _ W' Γ' _ s' R' (.ofSh h1) q
  · have hS := same_new (o := .tup (xs ++ ys)) hp
    refine k (.sh (.tuple (ds ++ es))) { W' with H := upd W'.H p (.tup (xs ++ ys)) } Γ' (.ref p) (s'.trans (Stp.grow R' hS)) (R'.grow hS).1 ?_ q
    exact .tup (.inl (S_of (W := { W' with H := upd W'.H p (.tup (xs ++ ys)) }) (R'.free hp) upd_same)) ((hx.app hy).same (R'.grow hS).2)⟩
/-! list(x), where x may raise -/
def dListX (da : TEXd) : TGCd := fun Γ Q X => da Γ (fun x Γ1 => ∃ ds, seqOf Γ1 x = some ds ∧ keepable x ds ∧ Q (.nw (.lst ds)) Γ1) X
instance seg_listX {K : Fg} {Xw : WX} {m : Bool} {ta : TE} {da : TEXd} [A : SEX K Xw m ta da] : SEG K Xw m (tCB (rListOf K) (tCons ta tNil)) (dListX da) := ⟨fun F W σ Γ Q Qd Qx R q k kx => A.run F W σ Γ _ _ _ R q (fun x W' Γ' v s' R' o ⟨ds, e, hk, q⟩ => by
  obtain ⟨a, xs, rfl, h1, h2, h3⟩ := seqOf_ok R' o e
  refine ⟨a, xs, rfl, sq_or h1, fun l hl => ?_⟩
  obtain ⟨R2, k2, t2, h0, nrf⟩ := R'.temp (ho := .lst xs) hl trivial
  have hd := keep_ok R' h2 hk
  have sp : Stp F W' Γ' ⟨fun a => a = l ∨ W'.O a, W'.ft, upd W'.H l (.lst xs)⟩ Γ' := ⟨k2, fun i s e => ⟨s, e, Kn.refl s⟩, rfl⟩
  have sm : StM m F W' Γ' ⟨fun a => a = l ∨ W'.O a, W'.ft, upd W'.H l (.lst xs)⟩ Γ' := by
    cases m with
    | true => exact Stp.stx sp
    | false => exact sp
  refine k (.nw (.lst ds)) _ Γ' _ (by have := s'.trans sm; rwa [Bool.or_self] at this) R2 ⟨l, [l], rfl, ?_, fun b hb => ?_⟩ q
  · exact ownO_ok.mpr ⟨rfl, xs, upd_same, hd.same k2.sh⟩
  · have eb : b = l := by simpa using hb
    subst eb
    refine ⟨⟨t2, h0, nrf⟩, fun t => ?_⟩
    obtain ⟨t3, e3⟩ := s'.stx.tmp b t
    have := R'.mu b t3.1
    rw [hl] at this
    exact this) kx⟩
end Dk

/-! dicts with nested keys: what stands, and the rules -/
namespace Dk
open PySem PySem.Spec PyProof.Rows L2
mutual
/-- the value v is the key -/
inductive NIs (H : Hp) : NestedKey → V → Prop
  | none : NIs H .none .non
  | int (i : Int) : NIs H (.num i) (.int i)
  | text (x : Str) : NIs H (.text x) (.str x)
  | tup {a : Addr} {ks : List NestedKey} {vs : List V} : H a = some (.tup vs) → NAll H ks vs → NIs H (.tup ks) (.ref a)
inductive NAll (H : Hp) : List NestedKey → List V → Prop
  | nil : NAll H [] []
  | cons {k : NestedKey} {v : V} {ks : List NestedKey} {vs : List V} : NIs H k v → NAll H ks vs → NAll H (k :: ks) (v :: vs)
end
mutual
theorem NIs.tx {H H' : Hp} (t : ∀ a vs, H a = some (.tup vs) → H' a = some (.tup vs)) : ∀ {k : NestedKey} {v : V}, NIs H k v → NIs H' k v
  | _, _, .none => .none
  | _, _, .int i => .int i
  | _, _, .text x => .text x
  | _, _, .tup h g => .tup (t _ _ h) (NAll.tx t g)
theorem NAll.tx {H H' : Hp} (t : ∀ a vs, H a = some (.tup vs) → H' a = some (.tup vs)) : ∀ {ks : List NestedKey} {vs : List V}, NAll H ks vs → NAll H' ks vs
  | _, _, .nil => .nil
  | _, _, .cons h g => .cons (NIs.tx t h) (NAll.tx t g)
end
mutual
theorem NIs.heap {P : Program} {w : World} {H : Hp} {h : Heap} (ok : HOk P w H h) : ∀ {k : NestedKey} {v : V} {u : Value}, NIs H k v → RelV v u → NestedIs h k u
  | _, _, u, .none, r => by cases (show u = Value.none from r); exact .none
  | _, _, u, .int i, r => by obtain ⟨t, rfl⟩ := (show ∃ t, u = Value.int i t from r); exact .int i t
  | _, _, u, .text x, r => by obtain ⟨t, rfl⟩ := (show ∃ t, u = Value.str x t from r); exact .text x t
  | _, _, u, .tup (a := a) (vs := vs) e g, r => by
    cases (show u = Value.ref a from r)
    obtain ⟨_, its, rv, o, h1, h2, n, h3⟩ := (show ObjOk P w H h a (.tup vs) from ok a _ e)
    exact .tup h1 h2 h3 (NAll.heap ok g rv)
theorem NAll.heap {P : Program} {w : World} {H : Hp} {h : Heap} (ok : HOk P w H h) : ∀ {ks : List NestedKey} {vs : List V} {us : List Value}, NAll H ks vs → Vals vs us → NestedAll h ks us
  | _, _, _, .nil, .nil => .nil
  | _, _, _, .cons h g, .cons r t => .cons (NIs.heap ok h r) (NAll.heap ok g t)
end
abbrev NEs := List (NestedKey × Addr × V)
def atN (us : NEs) (k : NestedKey) : Option V := (us.find? fun x => decide (x.1 = k)).map (·.2.2)
def putN (us : NEs) (k : NestedKey) (b : Addr) (v : V) : NEs := if (atN us k).isSome then us.map (fun x => if x.1 = k then (x.1, x.2.1, v) else x) else us ++ [(k, b, v)]
def UX : NEs → List (NestedKey × Addr × Value) → Prop := Paired fun u x => u.1 = x.1 ∧ u.2.1 = x.2.1 ∧ RelV u.2.2 x.2.2
theorem UX.at_ {us : NEs} {xs : List (NestedKey × Addr × Value)} (h : UX us xs) (k : NestedKey) : RelO (atN us k) ((atKey xs k).map (·.2)) := by
  unfold UX at h
  induction h with
  | nil => exact True.intro
  | @cons u x us xs r t ih =>
    unfold atN atKey
    rw [List.find?_cons, List.find?_cons, ← r.1]
    by_cases e : u.1 = k
    · rw [decide_eq_true e]
      exact r.2.2
    · rw [decide_eq_false e]
      exact ih
theorem UX.some {us : NEs} {xs : List (NestedKey × Addr × Value)} (h : UX us xs) (k : NestedKey) : (atN us k).isSome = (atKey xs k).isSome := by
  have := h.at_ k
  cases h1 : atN us k <;> cases h2 : atKey xs k <;> rw [h1, h2] at this <;> first | rfl | cases this
theorem paired_app {α β : Type} {F : α → β → Prop} : ∀ {a : List α} {b : List β} {c : List α} {d : List β}, Paired F a b → Paired F c d → Paired F (a ++ c) (b ++ d)
  | _, _, _, _, .nil, g => g
  | _, _, _, _, .cons h t, g => .cons h (paired_app t g)
theorem UX.put {us : NEs} {xs : List (NestedKey × Addr × Value)} (h : UX us xs) (k : NestedKey) (b : Addr) {v : V} {u : Value} (r : RelV v u) : UX (putN us k b v) (storedH xs k b u) := by
  unfold putN storedH
  rw [h.some k]
  split
  · rename_i hs
    clear hs
    unfold UX at h ⊢
    induction h with
    | nil => exact .nil
    | @cons p q us xs r1 t ih =>
      refine .cons ?_ ih
      unfold putAt
      show (if p.1 = k then (p.1, p.2.1, v) else p).1 = _ ∧ (if p.1 = k then (p.1, p.2.1, v) else p).2.1 = _ ∧ L2.RelV (if p.1 = k then (p.1, p.2.1, v) else p).2.2 _
      rw [← r1.1]
      by_cases e : p.1 = k
      · rw [if_pos e, if_pos e]
        exact ⟨rfl, r1.2.1, r⟩
      · rw [if_neg e, if_neg e]
        exact r1
  · exact paired_app h (.cons ⟨rfl, rfl, r⟩ .nil)
theorem putN_len (us : NEs) (k : NestedKey) (b : Addr) (v : V) : (putN us k b v).length ≤ us.length + 1 := by
  unfold putN
  split <;> simp
/-- what the dict's object is -/
def RawN (P : Program) (w : World) (p : Addr) (o : Obj) (us : NEs) : Prop := us.length ≤ sizeLine ∧ (p == sysModules) = false ∧ o.ExactDict ∧ ∃ es ep xs, o.data = .dict es ep ∧ UX us xs ∧ es.toList = xs.map (entryOfKey (nestedKind P w)) ∧ (xs.map (·.1)).Nodup
def pinO (p : Addr) (o : Obj) : HO := .ext fun h => h.get? p = some o
def NKs (H : Hp) (us : NEs) : Prop := ∀ u ∈ us, NIs H u.1 (.ref u.2.1) ∧ u.1.depth ≤ 8
theorem NKs.tx {H H' : Hp} {us : NEs} (h : NKs H us) (t : ∀ a vs, H a = some (.tup vs) → H' a = some (.tup vs)) : NKs H' us := fun u hu => ⟨(h u hu).1.tx t, (h u hu).2⟩
theorem NKs.put {H : Hp} {us : NEs} (h : NKs H us) {k : NestedKey} {b : Addr} {v : V} (hk : NIs H k (.ref b)) (hd : k.depth ≤ 8) : NKs H (putN us k b v) := by
  unfold putN
  split
  · intro u hu
    obtain ⟨x, hx, rfl⟩ := List.mem_map.mp hu
    split
    · exact h x hx
    · exact h x hx
  · intro u hu
    rcases List.mem_append.mp hu with z | z
    · exact h u z
    · rw [List.mem_singleton.mp z]
      exact ⟨hk, hd⟩
theorem pinO_ok {P : Program} {w : World} {H : Hp} {h : Heap} {p : Addr} {o : Obj} (e : h.get? p = some o) : ObjOk P w H h p (pinO p o) := ⟨e, ⟨_, e⟩, fun h1 h2 q k => k _ q⟩
section
variable {X : Cx} {pins : List (Addr × Obj)} {σ : L2.St} {H : Hp} {s : Shared} {p b : Addr} {o : Obj} {us : NEs} {k : NestedKey}
theorem pin_at (I : Inv X pins σ H s) (e : H p = some (pinO p o)) : s.heap.get? p = some o := (I.hok p _ e).1
theorem raw_dict (I : Inv X pins σ H s) (e : H p = some (pinO p o)) (r : RawN X.prog X.w p o us) (ks : NKs H us) : ∃ xs, UX us xs ∧ s.heap.DictOfH (nestedKind X.prog X.w) p xs := by
  obtain ⟨hl, hd, hx, es, ep, xs, h1, h2, h3, h4⟩ := r
  refine ⟨xs, h2, o, es, ep, pin_at I e, hx, h1, h3, fun x hx => ?_, h4⟩
  obtain ⟨u, hu, e1, e2, _⟩ : ∃ u ∈ us, u.1 = x.1 ∧ u.2.1 = x.2.1 ∧ True := by
    clear h3 h4 hl ks
    unfold UX at h2
    induction h2 with
    | nil => cases hx
    | @cons a y us xs r t ih =>
      rcases List.mem_cons.mp hx with rfl | z
      · exact ⟨a, List.mem_cons_self .., r.1, r.2.1, trivial⟩
      · obtain ⟨u, hu, q⟩ := ih z
        exact ⟨u, List.mem_cons_of_mem _ hu, q⟩
  obtain ⟨g1, g2⟩ := ks u hu
  rw [← e1, ← e2]
  exact ⟨g1.heap I.hok rfl, g2⟩
theorem key_is (I : Inv X pins σ H s) (h : NIs H k (.ref b)) (hd : k.depth ≤ 8) : (nestedKind X.prog X.w).is s.heap k b := ⟨h.heap I.hok rfl, hd⟩
end
/-! ### readings -/
def tDGetN (P : Program) (w : World) (td ty : TE) : TE := fun σ H Q => td σ H fun x H1 => ty σ H1 fun y H2 => ∃ a b o us k v, x = .ref a ∧ y = .ref b ∧ H2 a = some (pinO a o) ∧ RawN P w a o us ∧ NKs H2 us ∧ NIs H2 k (.ref b) ∧ k.depth ≤ 8 ∧ atN us k = some v ∧ Q v H2
def tDInN (P : Program) (w : World) (f : Bool → Bool) (ty td : TE) : TE := fun σ H Q => ty σ H fun y H1 => td σ H1 fun x H2 => ∃ a b o us k, x = .ref a ∧ y = .ref b ∧ H2 a = some (pinO a o) ∧ RawN P w a o us ∧ NKs H2 us ∧ NIs H2 k (.ref b) ∧ k.depth ≤ 8 ∧ Q (.bl (f (atN us k).isSome)) H2
def sDPutN (P : Program) (w : World) (td ty tv : TE) : TS := fun D σ H => tv σ H fun v H1 => td σ H1 fun x H2 => ty σ H2 fun y H3 => ∃ a b o us k, x = .ref a ∧ y = .ref b ∧ H3 a = some (pinO a o) ∧ RawN P w a o us ∧ NKs H3 us ∧ NIs H3 k (.ref b) ∧ k.depth ≤ 8 ∧ us.length < sizeLine ∧ ∀ o', RawN P w a o' (putN us k b v) → D.nx σ (upd H3 a (pinO a o'))
def tDNewN (P : Program) (w : World) : TE := fun _ H Q => ∀ p o, H p = none → RawN P w p o [] → Q (.ref p) (upd H p (pinO p o))
/-- {k: v}; the new dict stands empty while the pair is made -/
def tDisp1N (P : Program) (w : World) (tk tv : TE) : TE := fun σ H Q => ∀ p o0, H p = none → RawN P w p o0 [] → tk σ (upd H p (pinO p o0)) fun y H1 => tv σ H1 fun v H2 => H2 p = some (pinO p o0) ∧ ∃ b k, y = .ref b ∧ NIs H2 k (.ref b) ∧ k.depth ≤ 8 ∧ ∀ o, RawN P w p o [(k, b, v)] → Q (.ref p) (upd H2 p (pinO p o))
def rLenN (P : Program) (w : World) : List V → Hp → VK → Prop := fun xs H Q => ∃ a o us, xs = [.ref a] ∧ H a = some (pinO a o) ∧ RawN P w a o us ∧ NKs H us ∧ Q (.int us.length) H
def ItN (d : Addr) (o : Obj) (us : NEs) : It :=
  ⟨fun i H => H d = some (pinO d o) ∧ i < us.length, fun i H x H' => H' = H ∧ ∃ u, us[i]? = some u ∧ x = .ref u.2.1, fun i H => H d = some (pinO d o) ∧ us.length ≤ i⟩
def iKeysN (P : Program) (w : World) (td : TE) : TI := fun σ H R => td σ H fun x H1 => ∃ d o us, x = .ref d ∧ H1 d = some (pinO d o) ∧ RawN P w d o us ∧ R (ItN d o us) H1
section
variable {X : Cx} {o i e value : Expr} {pos pos' tpos apos cpos : Pos} {td ty tv : TE}
theorem pe_dgetN (hu : X.A.units + 9 < cLine) (ho : PE X o td) (hi : PE X i ty) (hs : NoSl i) : PE X (.Subscript o i pos) (tDGetN X.prog X.w td ty) := by
  refine ⟨fun pins s σ H Q I h => ?_⟩
  refine subD_of PySem.F.slot_dict_getitem.lookup hs (thn (ho.run pins s σ H _ I h) fun u s1 ⟨x, H1, I1, rx, q1⟩ => thn (hi.run pins s1 σ H1 _ I1 q1) fun iv s2 ⟨y, H2, I2, ry, a, b, ob, us, k, v, ex, ey, e, r, ks, hk, hd, hv, q2⟩ => ?_)
  subst ex ey
  obtain rfl : u = Value.ref a := rx
  obtain rfl : iv = Value.ref b := ry
  obtain ⟨xs, ux, dd⟩ := raw_dict I2 e r ks
  refine ⟨dd.typeIs, ?_⟩
  have hr := ux.at_ k
  rw [hv] at hr
  cases hx : atKey xs k with
  | none => rw [hx] at hr; cases hr
  | some pr =>
    rw [hx] at hr
    exact wpAny_getItem_heap (by show X.A.in1.units + 8 < cLine; unfold Around.in1; show X.A.units + 1 + 8 < cLine; omega) (key_is I2 hk hd) dd hx ⟨v, H2, I2.tok _, hr, q2⟩
theorem pc_dinN (hu : X.A.units + 9 < cLine) (hi : PE X i ty) (ho : PE X o td) : PC X .In i o (tDInN X.prog X.w id ty td) := by
  refine ⟨fun pins s σ H Q I h => ?_⟩
  refine thn (hi.run pins s σ H _ I h) fun iv s1 ⟨y, H1, I1, ry, q1⟩ => thn (ho.run pins s1 σ H1 _ I1 q1) fun u s2 ⟨x, H2, I2, rx, a, b, ob, us, k, ex, ey, e, r, ks, hk, hd, q2⟩ => ?_
  subst ex ey
  obtain rfl : u = Value.ref a := rx
  obtain rfl : iv = Value.ref b := ry
  obtain ⟨xs, ux, dd⟩ := raw_dict I2 e r ks
  refine in_keyed (by show X.A.in1.units + 8 < cLine; unfold Around.in1; show X.A.units + 1 + 8 < cLine; omega) (key_is I2 hk hd) r.2.1 ⟨xs, dd, rfl⟩ ?_
  rw [valueAt_pairsH, Option.isSome_map, ← ux.some k]
  exact ⟨.bl (id (atN us k).isSome), H2, I2.tok _, rfl, q2⟩
theorem pc_dnotinN (hu : X.A.units + 9 < cLine) (hi : PE X i ty) (ho : PE X o td) : PC X .NotIn i o (tDInN X.prog X.w not ty td) := by
  refine ⟨fun pins s σ H Q I h => ?_⟩
  refine thn (hi.run pins s σ H _ I h) fun iv s1 ⟨y, H1, I1, ry, q1⟩ => thn (ho.run pins s1 σ H1 _ I1 q1) fun u s2 ⟨x, H2, I2, rx, a, b, ob, us, k, ex, ey, e, r, ks, hk, hd, q2⟩ => ?_
  subst ex ey
  obtain rfl : u = Value.ref a := rx
  obtain rfl : iv = Value.ref b := ry
  obtain ⟨xs, ux, dd⟩ := raw_dict I2 e r ks
  refine notIn_keyed (by show X.A.in1.units + 8 < cLine; unfold Around.in1; show X.A.units + 1 + 8 < cLine; omega) (key_is I2 hk hd) r.2.1 ⟨xs, dd, rfl⟩ ?_
  rw [valueAt_pairsH, Option.isSome_map, ← ux.some k]
  exact ⟨.bl (!(atN us k).isSome), H2, I2.tok _, rfl, q2⟩
theorem set_raw {A : Around} {pins : List (Addr × Obj)} {σ : L2.St} {H : Hp} {s : Shared} {a b : Addr} {ob : Obj} {us : NEs} {k : NestedKey} {v : V} {r : Value} {E : Value → Shared → Prop} {Q : Unit → Shared → Prop} (hu : A.units + 9 < cLine) (I : Inv X pins σ H s) (e : H a = some (pinO a ob)) (rw_ : RawN X.prog X.w a ob us) (ks : NKs H us) (hk : NIs H k (.ref b)) (hd : k.depth ≤ 8) (hl : us.length < sizeLine) (rv : RelV v r)
    (h : ∀ o' s', RawN X.prog X.w a o' (putN us k b v) → Inv X pins σ (upd H a (pinO a o')) s' → Q () s') : wpAny (model X.prog X.w) A (setItem (.ref a) (.ref b) r) Q E s := by
  obtain ⟨xs, ux, dd⟩ := raw_dict I e rw_ ks
  have hz : xs.length ≤ sizeLine := by rw [← Paired.length ux]; exact Nat.le_of_lt hl
  refine wpAny_setItem_heap (hsz := hz) (by show A.in1.units + 8 < cLine; unfold Around.in1; show A.units + 1 + 8 < cLine; omega) (key_is I hk hd) dd fun h' dd' hs => ?_
  obtain ⟨q, es, ep, hq, h2, h3, h4, _, h5⟩ := dd'
  refine h q _ ⟨?_, rw_.2.1, h2, es, ep, _, h3, ux.put k b rv, h4, h5⟩ (d_write I (by rw [e]; exact True.intro) hs ⟨q, hq⟩ (pinO_ok hq))
  have := putN_len us k b v
  omega
theorem ps_dputN (hu : X.A.units + 9 < cLine) (ho : PE X o td) (hi : PE X i ty) (hv : PE X value tv) (hs : swapsWith value (some (.Subscript o i pos')) pos.line X.env = pure false) :
    PS X (.Assign [.Subscript o i pos'] value pos) (sDPutN X.prog X.w td ty tv) := by
  refine ⟨fun pins s σ H D I h => ?_⟩
  refine wpAny_Assign_Subscript (thn (hv.run pins s σ H _ I h) fun r s1 ⟨v, H1, I1, rv, q1⟩ => thn (ho.run pins s1 σ H1 _ I1 q1) fun u s2 ⟨x, H2, I2, rx, q2⟩ => thn (hi.run pins s2 σ H2 _ I2 q2) fun iv s3 ⟨y, H3, I3, ry, a, b, ob, us, k, ex, ey, e, rw_, ks, hk, hd, hl, q3⟩ => ?_) hs
  subst ex ey
  obtain rfl : u = Value.ref a := rx
  obtain rfl : iv = Value.ref b := ry
  exact set_raw hu I3 e rw_ ks hk hd hl rv fun o' s4 r4 I4 => ⟨σ, _, I4, q3 o' r4⟩
theorem raw_new {P : Program} {w : World} {p : Addr} (hb : sysModules < p) : RawN P w p { cls := .type "dict", data := .dict #[] } [] :=
  ⟨Nat.zero_le _, beq_eq_false_iff_ne.mpr (Ne.symm (Nat.ne_of_lt hb)), ⟨rfl, rfl, rfl⟩, #[], 0, [], rfl, .nil, rfl, List.nodup_nil⟩
theorem pe_dnewN : PE X (.Dict [] [] pos) (tDNewN X.prog X.w) := ⟨fun pins s σ H Q I h =>
  wpAny_Dict_empty ⟨.ref s.heap.objs.size, _, I.laid (a := s.heap.objs.size) (o := pinO s.heap.objs.size { cls := .type "dict", data := .dict #[] }) (t' := s.toks) (fun _ _ q => Heap.get?_push_of_some _ q) (Nat.le_refl _) (pinO_ok (Heap.get?_push_size _ rfl)), rfl, h _ _ (I.hok.fresh (Nat.le_refl _)) (raw_new I.big)⟩⟩
theorem pe_disp1N {k v : Expr} {tk tv : TE} (hu : X.A.units + 9 < cLine) (hk : PE X k tk) (hv : PE X v tv) : PE X (.Dict [some k] [v] pos) (tDisp1N X.prog X.w tk tv) := by
  refine ⟨fun pins s σ H Q I q => ?_⟩
  have hn := I.hok.fresh (Nat.le_refl s.heap.objs.size)
  have I1 := I.laid (a := s.heap.objs.size) (o := pinO s.heap.objs.size { cls := .type "dict", data := .dict #[] }) (h' := s.heap.push { cls := .type "dict", data := .dict #[] }) (t' := s.toks) (fun _ _ q => Heap.get?_push_of_some _ q) (Nat.le_refl _) (pinO_ok (Heap.get?_push_size _ rfl))
  have r0 : RawN X.prog X.w s.heap.objs.size { cls := .type "dict", data := .dict #[] } [] := raw_new I.big
  have q := q _ _ hn r0
  have hp : pairTrees [some k] [v] X.env pos ≠ [] := by unfold pairTrees; simp
  have hz := zip_pairTrees [some k] [v] X.env pos rfl rfl
  have hlen : (pairTrees [some k] [v] X.env pos).length = 1 := pairTrees_length [some k] [v] X.env pos rfl rfl
  rw [arm_eval_Dict, hz, dictDisplay_pairs _ hp (by omega)]
  refine wpAny_bind (wpAny_standAt (wpAny_bind (wpAny_subDictH (knd := nestedKind X.prog X.w) (Q := fun d s' => wpAny (model X.prog X.w) X.A (pure (Value.ref d)) (fun v' s2 => ∃ y H', Inv X pins σ H' s2 ∧ L2.RelV y v' ∧ Q y H') X.xe s') (by show X.A.units + 8 < cLine; omega) (by omega) ?_)))
  refine pairTrees_cons_walk (thn (hk.run pins _ σ _ _ I1 q) fun u s1 ⟨x, H1, I1, rx, q1⟩ => thn (hv.run pins s1 σ H1 _ I1 q1) fun w2 s2 ⟨y, H2, I2, ry, e, b, key, ex, hkey, hd, q2⟩ => pairTrees_nil_walk ?_)
  subst ex
  obtain rfl : u = Value.ref b := rx
  obtain ⟨xs, ux, dd⟩ := raw_dict I2 e r0 (fun _ h => nomatch h)
  cases ux
  refine ⟨[(key, b, w2)], ⟨rfl, rfl, key_is I2 hkey hd, trivial⟩, dd, fun h' tk dd' hs => wpAny_pure ?_⟩
  obtain ⟨ob, es, ep, hq, h2, h3, h4, _, h5⟩ := dd'
  have ux1 : UX [(key, b, y)] (storedAllH [] [(key, b, w2)]) := .cons ⟨rfl, rfl, ry⟩ .nil
  exact ⟨.ref s.heap.objs.size, _, d_write I2 (by rw [e]; exact True.intro) hs ⟨ob, hq⟩ (pinO_ok hq), rfl, q2 ob ⟨by rw [sizeLine_eq]; simp, r0.2.1, h2, es, ep, _, h3, ux1, h4, h5⟩⟩
theorem b_lenN : CallR X (.builtin "len") (rLenN X.prog X.w) := fun pn st σ H as vals Q J rv ⟨a, ob, us, ea, e, r, ks, go⟩ => by
  cases ea
  obtain ⟨u, rfl, ru⟩ := vals1 rv
  cases ru
  obtain ⟨xs, ux, dd⟩ := raw_dict J e r ks
  refine Calls.call_function_entry kind_len plain_len entry_len (args_len1 _) ?_
  unfold Builtin.«len»
  refine wpAny_bind (m := oneArg "len" _) (wpAny_pure ?_)
  refine wpAny_bind (m := callSpecial? (.ref a) (Str.ofString "__len__")) (wpAny_callSpecial?_slot (name := Str.ofString "__len__") dd.typeIs PySem.F.slot_dict_len
    (len_keyed r.2.1 ⟨xs, dd, rfl⟩ ?_))
  have hl : (pairsH xs).length = us.length := by rw [pairsH_length]; exact (Paired.length ux).symm
  rw [hl]
  refine wpAny_bind (wpAny_holding (wpAny_pure ?_))
  refine wpAny_bind (wpAny_letGo ?_)
  show wpAny _ _ (if ((us.length : Nat) : Int) < 0 then _ else _) _ _ _
  rw [if_neg (by omega)]
  have fit := r.1
  rw [sizeLine_eq] at fit
  show wpAny _ _ (if ((us.length : Nat) : Int) ≥ 2 ^ 63 then _ else _) _ _ _
  rw [if_neg (by omega)]
  exact wpAny_bind (wpAny_mkInt (wpAny_pure ⟨_, rfl, .int us.length, H, (J.tok _).tok _, ⟨_, rfl⟩, go⟩))
theorem turn_keysN {P : Program} {w : World} {K : PySem.W.Frag} {tg : Expr} {d : Addr} {o : Obj} {us : NEs} {es : Array DictEntry} {ep : Nat} (it : Addr) (hod : o.data = .dict es ep) (rw_ : RawN P w d o us) : Turn P w K tg (ItN d o us) [it] it (fun i h => h.IsKeyIter it d i us.length ep) where
  mem := by simp
  obj := fun i h st b hb => by
    have e : b = it := by simpa using hb
    subst e
    obtain ⟨oi, e, c, dd⟩ := st
    exact ⟨oi, e, fun v z => by rw [dd] at z; cases z⟩
  keep := fun i h h' st k => st.at fun oi e => k it (by simp) oi e
  item := by
    intro X hP hw hK hc i pins s σ H E I hf st hg
    subst hP hw hK
    obtain ⟨hd, hi⟩ := hg
    obtain ⟨f0, f1, f2, f3, f4, f5⟩ := hf it (by simp)
    obtain ⟨z, hs, hx, es', ep', xs, hdt, ux, he, hn⟩ := rw_
    obtain ⟨rfl, rfl⟩ := dict_ep hod hdt
    have hgd := pin_at I hd
    have l1 : es'.size = xs.length := size_of_entries he
    have l2 : us.length = xs.length := Paired.length ux
    obtain ⟨u, hu⟩ : ∃ u, us[i]? = some u := ⟨us[i], List.getElem?_eq_getElem hi⟩
    obtain ⟨x, hx2, e1, e2, _⟩ := paired_get ux hu
    have q := entry_at he i
    rw [hx2] at q
    refine next_key_item st hgd hdt (l1.trans l2.symm) q fun h' st' sb => ?_
    have I1 : Inv X pins σ H { s with heap := h' } := I.turned (t' := s.toks) (fun b ob hb e => (sb.2 b hb).trans e) f0 f1 f3 f4 f5
    obtain ⟨oi, e, c, dd⟩ := id st'
    exact ⟨_, rfl, go_of (s := { s with heap := h' }) e c dd (by decide) ⟨.ref x.2.1, H, I1, rfl, ⟨rfl, u, hu, by rw [e2]⟩, st', fun b hb => (hf b hb).1⟩⟩
  done := by
    intro X hP hw hK hc i pins s σ H E I hf st hg
    subst hP hw hK
    obtain ⟨hd, hi⟩ := hg
    obtain ⟨f0, f1, f2, f3, f4, f5⟩ := hf it (by simp)
    obtain ⟨z, hs, hx, es', ep', xs, hdt, ux, he, hn⟩ := rw_
    obtain ⟨rfl, rfl⟩ := dict_ep hod hdt
    have hgd := pin_at I hd
    have l1 : es'.size = xs.length := size_of_entries he
    have l2 : us.length = xs.length := Paired.length ux
    exact next_key_end (I.ok.hd hc) st hgd hdt (l1.trans l2.symm) hi fun h' eb => ⟨rfl, I.turned (t' := s.toks) (fun b ob hb e => eb b ob hb e) f0 f1 f3 f4 f5⟩
  self := fun A i s Q E st h => by
    refine wpAny_pyIter_slot st.typeIs F.slot_dict_keyiterator_iter (wpAny_call_entry F.slot_dict_keyiterator_iter st.typeIs F.entry_dict_keyiterator_iter ?_ (F.args_dict_keyiterator_iter_1 _))
    show wpAny _ _ (ret (.ref it)) _ _ s
    exact wpAny_pure ⟨_, rfl, "dict_keyiterator", _, st.typeIs, F.slot_dict_keyiterator_next.lookup, h⟩
theorem pi_keysN {tg : Expr} (he : PE X e td) : PI X tg e (iKeysN X.prog X.w td) := by
  refine ⟨fun pins s σ H R I h => ?_⟩
  refine thn (he.run pins s σ H _ I h) fun u s1 ⟨x, H1, I1, rx, d, ob, us, ex, hd, r, q⟩ => ?_
  subst ex
  obtain rfl : u = Value.ref d := rx
  obtain ⟨z, hs, hx, es, ep, xs, hdt, ux, hen, hn⟩ := id r
  have l1 : es.size = xs.length := size_of_entries hen
  have l2 : us.length = xs.length := Paired.length ux
  refine iter_keys hs (pin_at I1 hd) hx hdt (pi_one (tk := s1.toks) I1 _ (turn_keysN _ hdt r) ⟨_, Heap.get?_push_size _ rfl, rfl, ?_⟩ q)
  rw [l1, l2] <;> rfl
end
end Dk

/-! dicts with nested keys, as what a name holds -/
namespace Dk
open PySem PySem.Spec PyProof.Rows L2
mutual
def nkD : PyData → Option NestedKey
  | .none => some .none
  | .int i => some (.num i)
  | .str x => some (.text x)
  | .tuple ds => (nkDs ds).map .tup
  | _ => none
def nkDs : List PyData → Option (List NestedKey)
  | [] => some []
  | d :: ds => match nkD d, nkDs ds with
    | some k, some ks => some (k :: ks)
    | _, _ => none
end
mutual
theorem nkD_ok {K : Fg} (kt : KT = false) {S : Hp} : ∀ {d : PyData} {v : V} {k : NestedKey}, Dq K S v d → nkD d = some k → NIs S k v
  | .none, _, _, h, e => by cases h; cases e; exact .none
  | .int i, _, _, h, e => by cases h; cases e; exact .int i
  | .str i, _, _, h, e => by cases h; cases e; exact .text i
  | .tuple ds, _, _, h, e => by
    obtain ⟨b, vs, rfl, h1, h2⟩ := tup_ref (by rw [kt]; decide) h
    unfold nkD at e
    obtain ⟨ks, e1, rfl⟩ := Option.map_eq_some_iff.mp e
    exact .tup h1 (nkDs_ok kt h2 e1)
  | .bool _, _, _, _, e => by cases e
  | .list _, _, _, _, e => by cases e
  | .dict _, _, _, _, e => by cases e
theorem nkDs_ok {K : Fg} (kt : KT = false) {S : Hp} : ∀ {ds : List PyData} {vs : List V} {ks : List NestedKey}, DqAll K S vs ds → nkDs ds = some ks → NAll S ks vs
  | [], _, _, h, e => by cases h; cases e; exact .nil
  | d :: ds, _, _, h, e => by
    cases h with
    | cons h1 h2 =>
      unfold nkDs at e
      split at e
      · rename_i k ks e1 e2
        cases e
        exact .cons (nkD_ok kt h1 e1) (nkDs_ok kt h2 e2)
      · cases e
end
mutual
theorem NIs.dq {K : Fg} {H S : Hp} (t : ∀ a vs, H a = some (.tup vs) → S a = some (.tup vs)) : ∀ {k : NestedKey} {v : V}, NIs H k v → Dq K S v k.data
  | _, _, .none => .non
  | _, _, .int i => .int i
  | _, _, .text x => .str x
  | _, _, .tup h g => .tup (.inl (t _ _ h)) (NAll.dq t g)
theorem NAll.dq {K : Fg} {H S : Hp} (t : ∀ a vs, H a = some (.tup vs) → S a = some (.tup vs)) : ∀ {ks : List NestedKey} {vs : List V}, NAll H ks vs → DqAll K S vs (NestedKey.datas ks)
  | _, _, .nil => .nil
  | _, _, .cons h g => .cons (NIs.dq t h) (NAll.dq t g)
end
/-- simple values -/
def svD : PyData → Option V
  | .int i => some (.int i)
  | .bool b => some (.bl b)
  | _ => none
theorem svD_ok {K : Fg} {S : Hp} {v v' : V} {d : PyData} (h : Dq K S v d) (e : svD d = some v') : v = v' := by
  cases d with
  | int i => cases h; cases e; rfl
  | bool b => cases h; cases e; rfl
  | _ => cases e
theorem svD_dq {K : Fg} {S : Hp} {v : V} {d : PyData} (e : svD d = some v) : Dq K S v d := by
  cases d with
  | int i => cases e; exact .int i
  | bool b => cases e; exact .bl b
  | _ => cases e
abbrev ND := List (NestedKey × PyData)
def atK (kvs : ND) (k : NestedKey) : Option PyData := (kvs.find? fun x => decide (x.1 = k)).map (·.2)
def putKD (kvs : ND) (k : NestedKey) (d : PyData) : ND := if (atK kvs k).isSome then kvs.map (fun x => if x.1 = k then (x.1, d) else x) else kvs ++ [(k, d)]
def NRel : NEs → ND → Prop := Paired fun u kv => u.1 = kv.1 ∧ svD kv.2 = some u.2.2
theorem NRel.at_ {us : NEs} {kvs : ND} (h : NRel us kvs) (k : NestedKey) : match atN us k, atK kvs k with
    | some v, some d => svD d = some v
    | none, none => True
    | _, _ => False := by
  unfold NRel at h
  induction h with
  | nil => exact True.intro
  | @cons u x us xs r t ih =>
    unfold atN atK
    rw [List.find?_cons, List.find?_cons, ← r.1]
    by_cases e : u.1 = k
    · rw [decide_eq_true e]
      exact r.2
    · rw [decide_eq_false e]
      exact ih
theorem NRel.sm {us : NEs} {kvs : ND} (h : NRel us kvs) (k : NestedKey) : (atN us k).isSome = (atK kvs k).isSome := by
  have := h.at_ k
  cases h1 : atN us k <;> cases h2 : atK kvs k <;> rw [h1, h2] at this <;> first | rfl | cases this
theorem NRel.put {us : NEs} {kvs : ND} (h : NRel us kvs) (k : NestedKey) (b : Addr) {v : V} {d : PyData} (r : svD d = some v) : NRel (putN us k b v) (putKD kvs k d) := by
  unfold putN putKD
  rw [h.sm k]
  split
  · rename_i hs
    clear hs
    unfold NRel at h ⊢
    induction h with
    | nil => exact .nil
    | @cons p q us xs r1 t ih =>
      refine .cons ?_ ih
      show (if p.1 = k then (p.1, p.2.1, v) else p).1 = (if q.1 = k then (q.1, d) else q).1 ∧ svD (if q.1 = k then (q.1, d) else q).2 = some (if p.1 = k then (p.1, p.2.1, v) else p).2.2
      rw [← r1.1]
      by_cases e : p.1 = k
      · rw [if_pos e, if_pos e]
        exact ⟨rfl, r⟩
      · rw [if_neg e, if_neg e]
        exact r1
  · exact paired_app h (.cons ⟨rfl, r⟩ .nil)
def NDict (P : Program) (w : World) (o : Obj) (kvs : ND) : Hp → Addr → List Addr → Prop := fun H p f => f = [p] ∧ H p = some (pinO p o) ∧ ∃ us, RawN P w p o us ∧ NKs H us ∧ NRel us kvs
theorem NDict.own {P : Program} {w : World} {K : Fg} {S H : Hp} {o : Obj} {kvs : ND} {p : Addr} {us : NEs} (h : H p = some (pinO p o)) (r : RawN P w p o us) (ks : NKs H us) (rl : NRel us kvs) : OwnOk K S H p [p] (.ab (NDict P w o kvs)) := by
  refine ⟨by simp, ⟨rfl, h, us, r, ks, rl⟩, fun H' hk ht => ⟨rfl, by rw [hk p (by simp)]; exact h, us, r, ks.tx fun a vs e => ht a _ (fun z => z) e, rl⟩, fun a ha => ?_⟩
  have e : a = p := by simpa using ha
  subst e
  rw [h]
  exact ⟨trivial, trivial⟩
theorem atK_mem {kvs : ND} {k : NestedKey} : (atK kvs k).isSome = true ↔ k ∈ kvs.map (·.1) := by
  unfold atK
  rw [Option.isSome_map, List.find?_isSome]
  constructor
  · rintro ⟨x, hx, e⟩
    exact List.mem_map.mpr ⟨x, hx, of_decide_eq_true e⟩
  · intro h
    obtain ⟨x, hx, e⟩ := List.mem_map.mp h
    exact ⟨x, hx, decide_eq_true e⟩
theorem putKD_keys (kvs : ND) (k : NestedKey) (d : PyData) : (putKD kvs k d).map (·.1) = if k ∈ kvs.map (·.1) then kvs.map (·.1) else kvs.map (·.1) ++ [k] := by
  unfold putKD
  by_cases h : k ∈ kvs.map (·.1)
  · rw [if_pos (atK_mem.mpr h), if_pos h, List.map_map]
    apply List.map_congr_left
    intro x hx
    show (if x.1 = k then (x.1, d) else x).1 = x.1
    split <;> rfl
  · rw [if_neg (fun z => h (atK_mem.mp z)), if_neg h, List.map_append]
    rfl
section
variable {K : Fg} {P : Program} {w : World} {F : Fx K} {W : Wd} {σ : L2.St} {Γ : G} {i : Nat}
theorem ndict_at {o : Obj} {kvs : ND} (R : Rel F W σ Γ) (h : Γ[i]? = some (.ow (.ab (NDict P w o kvs)))) : ∃ p us, σ[i]? = some (some (.ref p)) ∧ W.ft i = [p] ∧ W.H p = some (pinO p o) ∧ RawN P w p o us ∧ NKs W.H us ∧ NRel us kvs := by
  obtain ⟨p, a1, a2, a3, ⟨a4, a5, us, a6, a7, a8⟩, _⟩ := R.slot i _ h
  exact ⟨p, us, a1, a4, a5, a6, a7, a8⟩
theorem s_tup (R : Rel F W σ Γ) {a : Addr} {vs : List V} (h : W.H a = some (.tup vs)) : W.S F a = some (.tup vs) := less_some.mpr ⟨fun z => by
  have m := R.exmo z
  rw [h] at m
  exact m, h⟩
theorem nis_of (R : Rel F W σ Γ) (kt : KT = false) {d : PyData} {v : V} {k : NestedKey} (h : Dq K W.H v d) (e : nkD d = some k) : NIs W.H k v := nkD_ok kt h e
variable {Xw : WX} {td ty tv : TE} {dy dv : TEd}
def dDInN (P : Program) (w : World) (f : Bool → Bool) (i : Nat) (dy : TEd) : TEd := fun Γ Q => dy Γ fun y Γ2 => ∃ key k o kvs, dat Γ2 y = some key ∧ nkD key = some k ∧ KT = false ∧ k.depth ≤ 8 ∧ (∃ ks, k = .tup ks) ∧ Γ2[i]? = some (.ow (.ab (NDict P w o kvs))) ∧ Q (.sh (.bool (f (atK kvs k).isSome))) Γ2
instance se_dinN {f : Bool → Bool} [A : SE K ty dy] : SE K (tDInN P w f ty (tVar i)) (dDInN P w f i dy) := ⟨fun F W σ Γ Q Qd R q k => A.run F W σ Γ _ _ R q fun y W' Γ' u s' R' o1 ⟨key, kk, o, kvs, e1, e2, kt, hd, ⟨ks, ek⟩, h, q⟩ => by
  obtain ⟨p, us, a1, a2, a3, a4, a5, a6⟩ := ndict_at R' h
  have hn := nkD_ok kt (o1.full R' e1) e2
  subst ek
  cases hn with
  | @tup b _ vs g1 g2 =>
    refine ⟨.ref p, a1, p, b, o, us, .tup ks, rfl, rfl, a3, a4, a5, .tup g1 g2, hd, ?_⟩
    rw [a6.sm]
    exact k _ W' Γ' _ s' R' (.bl _) q⟩
def dDGetN (P : Program) (w : World) (i : Nat) (dy : TEd) : TEd := fun Γ Q => (∃ o kvs, Γ[i]? = some (.ow (.ab (NDict P w o kvs)))) ∧ dy Γ fun y Γ2 => ∃ key k o kvs d, dat Γ2 y = some key ∧ nkD key = some k ∧ KT = false ∧ k.depth ≤ 8 ∧ (∃ ks, k = .tup ks) ∧ Γ2[i]? = some (.ow (.ab (NDict P w o kvs))) ∧ atK kvs k = some d ∧ Q (.sh d) Γ2
instance se_dgetN [A : SE K ty dy] : SE K (tDGetN P w (tVar i) ty) (dDGetN P w i dy) := ⟨fun F W σ Γ Q Qd R ⟨⟨o0, kvs0, h0⟩, q⟩ k => by
  obtain ⟨p0, us0, b1, _⟩ := ndict_at R h0
  refine ⟨_, b1, A.run F W σ Γ _ _ R q fun y W' Γ' u s' R' o1 ⟨key, kk, o, kvs, d, e1, e2, kt, hd, ⟨ks, ek⟩, h, hv, q⟩ => ?_⟩
  obtain ⟨p, us, a1, a2, a3, a4, a5, a6⟩ := ndict_at R' h
  rw [b1] at a1
  cases a1
  have hn := nkD_ok kt (o1.full R' e1) e2
  subst ek
  have hr := a6.at_ (.tup ks)
  rw [hv] at hr
  cases hx : atN us (.tup ks) with
  | none => rw [hx] at hr; cases hr
  | some v =>
    rw [hx] at hr
    cases hn with
    | @tup b _ vs g1 g2 => exact ⟨p0, b, o, us, .tup ks, v, rfl, rfl, a3, a4, a5, .tup g1 g2, hd, hx, k _ W' Γ' _ s' R' (.ofSh (svD_dq hr)) q⟩⟩
theorem chG_one {i : Nat} {o' : OD} {f' : List Addr} {s : Sl} (h : Γ[i]? = some s) : chG Γ (fun j => if j = i then some (o', f') else none) = Γ.set i (setOwn s o') := by
  apply List.ext_getElem?
  intro j
  by_cases e : j = i
  · subst e
    have hl := lt_of_get h
    rw [chG_some h (if_pos rfl), List.getElem?_set_self hl]
  · rw [chG_none (if_neg e), List.getElem?_set_ne (Ne.symm e)]
/-- another dict stands at its place -/
theorem Rel.setN {o o' : Obj} {kvs kvs' : ND} {p : Addr} {us' : NEs} (R : Rel F W σ Γ) (h : Γ[i]? = some (.ow (.ab (NDict P w o kvs)))) (hs : σ[i]? = some (some (.ref p))) (hf : W.ft i = [p]) (r : RawN P w p o' us') (ks : NKs W.H us') (rl : NRel us' kvs') :
    ∃ W' : Wd, W'.H = upd W.H p (pinO p o') ∧ Same (W.S F) (W'.S F) ∧ Rel F W' σ (Γ.set i (.ow (.ab (NDict P w o' kvs')))) := by
  obtain ⟨p', us, a1, a2, a3, a4, a5, a6⟩ := ndict_at R h
  rw [hs] at a1
  cases a1
  have tx : ∀ a vs, W.H a = some (.tup vs) → upd W.H p (pinO p o') a = some (.tup vs) := fun a vs e => by
    rw [upd_ne]
    · exact e
    · intro z
      subst z
      rw [a3] at e
      cases e
  have ok : ChOk F W σ Γ (fun j => if j = i then some (.ab (NDict P w o' kvs'), [p]) else none) (upd W.H p (pinO p o')) (fun _ => False) := by
    have hM : ∀ {j : Nat} {m : OD × List Addr}, (if j = i then some ((OD.ab (NDict P w o' kvs')), [p]) else none) = some m → j = i ∧ m = (.ab (NDict P w o' kvs'), [p]) := fun {j m} e => by
      split at e
      · cases e; exact ⟨‹_›, rfl⟩
      · cases e
    have cR : ∀ a, chR W (fun j => if j = i then some ((OD.ab (NDict P w o' kvs')), [p]) else none) a → a = p := fun a ⟨j, m, e, ha⟩ => by
      obtain ⟨rfl, rfl⟩ := hM e
      rw [hf] at ha
      simpa using ha
    have cN : ∀ a, chN (fun j => if j = i then some ((OD.ab (NDict P w o' kvs')), [p]) else none) a → a = p := fun a ⟨j, o2, f2, e, ha⟩ => by
      obtain ⟨rfl, e2⟩ := hM e
      cases e2
      simpa using ha
    refine ⟨fun a u n e => ?_, fun a ha => .inl ?_, fun a ha => ?_, fun j m e => ?_, fun j k m n a ne e1 e2 => ?_, fun a z => z.elim, .inl fun j m s e hs' => ?_⟩
    · rw [upd_ne]
      · exact e
      · intro z
        exact n ⟨i, _, if_pos rfl, by rw [hf, z]; simp⟩
    · rw [cN a ha]
      exact ⟨i, _, if_pos rfl, by rw [hf]; simp⟩
    · have : a = p := ha.elim (cR a) (cN a)
      rw [this, upd_same]
      trivial
    · obtain ⟨rfl, rfl⟩ := hM e
      exact ⟨_, _, p, h, rfl, hs, ownO_ok.mpr (NDict.own upd_same r (ks.tx tx) rl), fun _ => hf.symm, rfl⟩
    · obtain ⟨rfl, _⟩ := hM e1
      obtain ⟨rfl, _⟩ := hM e2
      exact absurd rfl ne
    · obtain ⟨rfl, rfl⟩ := hM e
      rw [h] at hs'
      cases hs'
      exact ⟨_, rfl⟩
  have R2 := R.objs ok
  refine ⟨_, rfl, R2.2.sh, ?_⟩
  have := R2.1
  rw [chG_one h] at this
  exact this
def dDPutN (P : Program) (w : World) (i : Nat) (dy dv : TEd) : TSd := fun E Γ => dv Γ fun z Γ1 => (∃ o kvs, Γ1[i]? = some (.ow (.ab (NDict P w o kvs)))) ∧ dy Γ1 fun y Γ2 => ∃ key k d o kvs, dat Γ2 y = some key ∧ nkD key = some k ∧ KT = false ∧ k.depth ≤ 8 ∧ (∃ ks, k = .tup ks) ∧ shOf z = some d ∧ (svD d).isSome = true ∧ Γ2[i]? = some (.ow (.ab (NDict P w o kvs))) ∧ kvs.length < sizeLine ∧ ∀ o', E.nx (Γ2.set i (.ow (.ab (NDict P w o' (putKD kvs k d)))))
instance ss_dputN [A : SE K ty dy] [B : SE K tv dv] : SS K Xw (sDPutN P w (tVar i) ty tv) (dDPutN P w i dy dv) := ⟨fun F W σ Γ D E R q L => B.run F W σ Γ _ _ R q fun z W1 Γ1 wv s1 R1 o1 ⟨⟨o0, kvs0, h0⟩, q⟩ => by
  obtain ⟨p0, us0, b1, _⟩ := ndict_at R1 h0
  refine ⟨_, b1, A.run F W1 σ Γ1 _ _ R1 q fun y W' Γ' u s' R' o2 ⟨key, kk, d, o, kvs, e1, e2, kt, hd, ⟨ks, ek⟩, ez, ev, h, hl, q⟩ => ?_⟩
  obtain ⟨p, us, a1, a2, a3, a4, a5, a6⟩ := ndict_at R' h
  rw [b1] at a1
  cases a1
  have hn := nkD_ok kt (o2.full R' e1) e2
  obtain ⟨v, hv⟩ := Option.isSome_iff_exists.mp ev
  obtain rfl := svD_ok ((o1.stp s').sh R' ez) hv
  subst ek
  cases hn with
  | @tup b _ vs g1 g2 =>
    refine ⟨p0, b, o, us, .tup ks, rfl, rfl, a3, a4, a5, .tup g1 g2, hd, by rw [Paired.length a6]; exact hl, fun o' r' => ?_⟩
    obtain ⟨W2, eH, s2, R2⟩ := R'.setN h b1 a2 r' (a5.put (.tup g1 g2) hd) (a6.put (.tup ks) b hv)
    rw [← eH]
    exact L.nx W2 σ _ (s1.sh.trans (s'.sh.trans s2)) R2 (q o')⟩
/-- a new one -/
theorem new_run {o : Obj} {kvs : ND} {p : Addr} {us : NEs} (R : Rel F W σ Γ) (hp : W.H p = none) (r : RawN P w p o us) (ks : NKs W.H us) (rl : NRel us kvs) : ∃ W' : Wd, W'.H = upd W.H p (pinO p o) ∧ StM false F W Γ W' Γ ∧ Rel F W' σ Γ ∧ RtOk F W Γ W' Γ (.ref p) (.nw (.ab (NDict P w o kvs))) := by
  obtain ⟨R2, k2, t2, h0, nrf⟩ := R.temp (ho := pinO p o) hp trivial
  have sp : Stp F W Γ ⟨fun a => a = p ∨ W.O a, W.ft, upd W.H p (pinO p o)⟩ Γ := ⟨k2, fun i s e => ⟨s, e, Kn.refl s⟩, rfl⟩
  refine ⟨_, rfl, sp, R2, p, [p], rfl, ownO_ok.mpr (NDict.own upd_same r (ks.tx fun a vs e => by show upd W.H p (pinO p o) a = _; rw [upd_ne (ne_of_none e hp)]; exact e) rl), fun b hb => ?_⟩
  have eb : b = p := by simpa using hb
  subst eb
  refine ⟨⟨t2, h0, nrf⟩, fun t => ?_⟩
  have := R.mu b t.1
  rw [hp] at this
  exact this
def dDNewN (P : Program) (w : World) : TGCd := fun Γ Q _ => ∀ o, Q (.nw (.ab (NDict P w o []))) Γ
instance seg_dnewN : SEG K Xw false (tDNewN P w) (dDNewN P w) := ⟨fun F W σ Γ Q Qd Qx R q k kx => fun p o hp r => by
  obtain ⟨W', eH, s, R', ok⟩ := new_run (kvs := []) R hp r (fun _ h => nomatch h) .nil
  rw [← eH]
  exact k _ W' Γ _ s R' ok (q o)⟩
def dDisp1N (P : Program) (w : World) (dk dv : TEd) : TGCd := fun Γ Q _ => dk Γ fun y Γ1 => dv Γ1 fun z Γ2 => ∃ key k d, dat Γ2 y = some key ∧ nkD key = some k ∧ KT = false ∧ k.depth ≤ 8 ∧ (∃ ks, k = .tup ks) ∧ shOf z = some d ∧ (svD d).isSome = true ∧ ∀ o, Q (.nw (.ab (NDict P w o [(k, d)]))) Γ2
instance seg_disp1N {tk : TE} {dk : TEd} [A : SE K tk dk] [B : SE K tv dv] : SEG K Xw false (tDisp1N P w tk tv) (dDisp1N P w dk dv) := ⟨fun F W σ Γ Q Qd Qx R q k kx => fun p o0 hp r0 => by
  obtain ⟨R2, k2, t2, h0, nrf⟩ := R.temp (ho := pinO p o0) hp trivial
  have sp : Stp F W Γ ⟨fun a => a = p ∨ W.O a, W.ft, upd W.H p (pinO p o0)⟩ Γ := ⟨k2, fun i s e => ⟨s, e, Kn.refl s⟩, rfl⟩
  refine A.run F _ σ Γ _ _ R2 q fun y W1 Γ1 u s1 R1 o1 q => B.run F W1 σ Γ1 _ _ R1 q fun z W3 Γ3 wv s3 R3 o3 ⟨key, kk, d, e1, e2, kt, hd, ⟨ks, ek⟩, ez, ev, q⟩ => ?_
  have s13 := s1.trans s3
  obtain ⟨t4, e4⟩ := s13.tmp p t2
  have e4 : W3.H p = some (pinO p o0) := by rw [e4]; exact upd_same
  have hn := nkD_ok kt ((o1.stp s3).full R3 e1) e2
  obtain ⟨v, hv⟩ := Option.isSome_iff_exists.mp ev
  obtain rfl := svD_ok (o3.sh R3 ez) hv
  subst ek
  cases hn with
  | @tup b _ vs g1 g2 =>
    refine ⟨e4, b, .tup ks, rfl, .tup g1 g2, hd, fun o r => ?_⟩
    obtain ⟨R5, eS⟩ := R3.putTemp (ho := pinO p o) t4 trivial nrf
    have tx : ∀ a vs, W3.H a = some (.tup vs) → upd W3.H p (pinO p o) a = some (.tup vs) := fun a vs e => by
      rw [upd_ne]
      · exact e
      · intro z
        subst z
        rw [e4] at e
        cases e
    have own : OwnOk K (({ W3 with H := upd W3.H p (pinO p o) } : Wd).S F) (upd W3.H p (pinO p o)) p [p] (.ab (NDict P w o [(.tup ks, d)])) := NDict.own upd_same r (fun u hu => by rw [List.mem_singleton.mp hu]; exact ⟨.tup (tx _ _ g1) (NAll.tx tx g2), hd⟩) (.cons ⟨rfl, hv⟩ .nil)
    have st : Stp F W Γ { W3 with H := upd W3.H p (pinO p o) } Γ3 := by
      have s := sp.trans s13
      refine ⟨⟨⟨?_, fun q t => ?_⟩, fun a C dx vs e => ?_⟩, s.kin, s.len⟩
      · rw [eS]; exact s.sh
      · obtain ⟨t5, e5⟩ := s.tmp q t
        refine ⟨t5, ?_⟩
        show upd W3.H p (pinO p o) q = _
        rw [upd_ne]
        · exact e5
        · intro z
          subst z
          have := R.mu q t.1
          rw [hp] at this
          exact this
      · have := s.obj a C dx vs e
        show upd W3.H p (pinO p o) a = _
        rw [upd_ne]
        · exact this
        · intro z
          subst z
          rw [e4] at this
          cases this
    refine k (.nw (.ab (NDict P w o [(.tup ks, d)]))) { W3 with H := upd W3.H p (pinO p o) } Γ3 (.ref p) st R5 ⟨p, [p], rfl, ownO_ok.mpr own, fun a ha => ?_⟩ (q o)
    have ea : a = p := by simpa using ha
    subst ea
    refine ⟨⟨t4, h0, nrf⟩, fun t => ?_⟩
    have := R.mu a t.1
    rw [hp] at this
    exact this⟩
def dLenN (P : Program) (w : World) (i : Nat) : TEd := fun Γ Q => ∃ o kvs, Γ[i]? = some (.ow (.ab (NDict P w o kvs))) ∧ Q (.sh (.int kvs.length)) Γ
/-- len(d) -/
instance se_lenN : SE K (tCB (rLenN P w) (tCons (tVar i) tNil)) (dLenN P w i) := ⟨fun F W σ Γ Q Qd R ⟨o, kvs, h, q⟩ k => by
  obtain ⟨p, us, a1, a2, a3, a4, a5, a6⟩ := ndict_at R h
  refine ⟨_, a1, ?_⟩
  refine ⟨p, o, us, rfl, a3, a4, a5, ?_⟩
  rw [Paired.length a6]
  exact k _ W Γ _ (Stp.refl ..) R (.int _) q⟩
/-! for k in d; the dict is let be -/
def iKeysNO (P : Program) (w : World) (i : Nat) : TI := iKeysN P w (tVar i)
def dForN (P : Program) (w : World) (i : Nat) (dg : TGd) (db : TSd) : TSd := fun E Γ => ∃ o kvs, Γ[i]? = some (.ow (.ab (NDict P w o kvs))) ∧ ∀ A : Hp → Addr → List Addr → Prop, ∃ I : Nat → G → Prop, I 0 (Γ.set i (.ow (.ab A))) ∧ (∀ k Γ', I k Γ' → Γ'[i]? = some (.ow (.ab A))) ∧
  (∀ k kv Γ', kvs[k]? = some kv → I k Γ' → dg (.sh kv.1.data) Γ' fun Γ3 => db (E.lpO (I (k + 1))) Γ3) ∧ ∀ Γ', I kvs.length Γ' → E.nx (Γ'.set i (.ow (.ab (NDict P w o kvs))))
def IsN (p0 : Addr) (o : Obj) : Hp → Addr → List Addr → Prop := fun H p f => p = p0 ∧ f = [p0] ∧ H p0 = some (pinO p0 o)
instance ss_forN {g : TG} {dg : TGd} {ix : List Nat} {tb : TS} {db : TSd} [B : SG K g dg ix] [C : SS K Xw tb db] : SS K Xw (tFor (iKeysNO P w i) g tb) (dForN P w i dg db) := ⟨fun F W σ Γ D E R ⟨o, kvs, h, q⟩ L => by
  obtain ⟨p, us, a1, hf, hp, r, ks, rl⟩ := ndict_at R h
  obtain ⟨I, i0, own, step, done⟩ := q (IsN p o)
  have R0 : Rel F W σ (Γ.set i (.ow (.ab (IsN p o)))) := R.recast h fun p' e1 hw => by
    rw [a1] at e1
    cases e1
    refine ⟨by rw [hf]; simp, ⟨rfl, hf, hp⟩, fun H' hk ht => ⟨rfl, hf, by rw [hk p (by rw [hf]; simp)]; exact hp⟩, fun a ha => ?_⟩
    have e : a = p := by rw [hf] at ha; simpa using ha
    subst e
    rw [hp]
    exact ⟨trivial, trivial⟩
  have stand : ∀ {W' : Wd} {σ' : L2.St} {Γ' : G} {k : Nat}, Rel F W' σ' Γ' → I k Γ' → W'.H p = some (pinO p o) ∧ σ'[i]? = some (some (.ref p)) ∧ W'.ft i = [p] := fun {W' σ' Γ' k} R' i' => by
    obtain ⟨p', b1, b2, b3, ⟨b4, b5, b6⟩, _⟩ := R'.slot i _ (own k Γ' i')
    subst b4
    exact ⟨b6, b1, b5⟩
  have hl : us.length = kvs.length := Paired.length rl
  have dq : ∀ u ∈ us, Dq K (W.S F) (.ref u.2.1) u.1.data := fun u hu => (ks u hu).1.dq fun a vs e => s_tup R e
  refine ⟨_, a1, p, o, us, rfl, hp, r, ?_⟩
  refine ⟨fun k m σ' H' => k + m = us.length ∧ ∃ W' Γ', W'.H = H' ∧ Same (W.S F) (W'.S F) ∧ Rel F W' σ' Γ' ∧ I k Γ', ⟨us.length, by omega, W, _, rfl, Same.refl _, R0, i0⟩, ?_⟩
  rintro k m σ' H' ⟨hk, W', Γ', rfl, s', R', i'⟩
  obtain ⟨b1, b2, b3⟩ := stand R' i'
  by_cases hm : m = 0
  · left
    have ek : k = kvs.length := by omega
    subst ek
    refine ⟨⟨b1, by omega⟩, L.nx W' σ' _ s' (R'.recast (own _ Γ' i') fun p' e1 hw => ?_) (done Γ' i')⟩
    rw [b2] at e1
    cases e1
    have tx : ∀ a vs, W.H a = some (.tup vs) → W'.H a = some (.tup vs) := fun a vs e => (less_some.mp (s' a _ (s_tup R e))).2
    rw [b3]
    exact NDict.own b1 r (ks.tx tx) rl
  · right
    have hk2 : k < us.length := by omega
    refine ⟨⟨b1, hk2⟩, fun σ4 H4 => ∃ m', m' < m ∧ (k + 1 + m' = us.length ∧ ∃ W4 Γ4, W4.H = H4 ∧ Same (W.S F) (W4.S F) ∧ Rel F W4 σ4 Γ4 ∧ I (k + 1) Γ4), fun _ _ z => z, ?_⟩
    rintro x H2 ⟨rfl, u, hu, rfl⟩
    have hk3 : k < kvs.length := by omega
    obtain ⟨kv, hkv, e1, _⟩ := paired_get rl hu
    have od := (dq u (List.mem_of_getElem? hu)).same s'
    rw [e1] at od
    refine B.run F W' σ' Γ' (.ref u.2.1) (.sh kv.1.data) _ _ R' (.ofSh od) (step k kv Γ' hkv i') fun W3 σ3 Γ3 k3 f3 R3 q3 => ?_
    have nx : ∀ (W4 : Wd) (σ4 : L2.St) (Γ4 : G), Same (W3.S F) (W4.S F) → Rel F W4 σ4 Γ4 → I (k + 1) Γ4 → ∃ m', m' < m ∧ (k + 1 + m' = us.length ∧ ∃ W5 Γ5, W5.H = W4.H ∧ Same (W.S F) (W5.S F) ∧ Rel F W5 σ4 Γ5 ∧ I (k + 1) Γ5) := fun W4 σ4 Γ4 s4 R4 q4 => ⟨m - 1, by omega, by omega, W4, Γ4, rfl, (s'.trans k3.sh).trans s4, R4, q4⟩
    exact C.run F W3 σ3 Γ3 _ _ R3 q3 ⟨nx, fun W4 σ4 Γ4 x4 v4 s4 => L.rt W4 σ4 Γ4 x4 v4 ((s'.trans k3.sh).trans s4), fun W4 σ4 Γ4 o4 p4 h4 s4 => L.rn W4 σ4 Γ4 o4 p4 h4 ((s'.trans k3.sh).trans s4), fun W4 σ4 Γ4 s4 R4 q4 => q4.elim, nx, fun W4 σ4 Γ4 c4 s4 => L.xs W4 σ4 Γ4 c4 ((s'.trans k3.sh).trans s4)⟩⟩
theorem kforN {X : Cx} {tg l : Expr} {i : Nat} (hl : PE X l (tVar i)) : PI X tg l (iKeysNO X.prog X.w i) := pi_keysN hl
/-! a name takes over what another one holds -/
def tMv (j : Nat) : TE := tVar j
theorem kmv {X : Cx} {e : Expr} {j : Nat} (h : PE X e (tVar j)) : PE X e (tMv j) := h
def dMv (i j : Nat) : TSd := fun E Γ => i ≠ j ∧ ∃ o, Γ[j]? = some (.ow o) ∧ E.nx ((Γ.set j .no).set i (.ow o))
instance (priority := 3000) ss_mv {j : Nat} : SS K Xw (tAsg (tMv j) (gName i)) (dMv i j) := ⟨fun F W σ Γ D E R ⟨ne, o, h, q⟩ L => by
  obtain ⟨p, a1, a2, a3⟩ := R.slot j _ h
  refine ⟨_, a1, ?_⟩
  have lj := lt_of_get h
  have R1 : Rel F W σ (Γ.set j .no) := by
    have := R.setNo (i := j) (x := some (.ref p))
    rwa [show σ.set j (some (.ref p)) = σ from by
      apply List.ext_getElem?
      intro n
      by_cases e : n = j
      · subst e
        rw [List.getElem?_set_self (by rw [R.len]; exact lj), a1]
      · rw [List.getElem?_set_ne (Ne.symm e)]] at this
  have tm : ∀ a ∈ W.ft j, Tm W (Γ.set j .no) a ∧ F.H0 a = none ∧ ¬ F.rf a := fun a ha => by
    obtain ⟨b1, b2⟩ := a2 a ha
    refine ⟨⟨b1, fun n s o2 e1 e2 e3 => ?_⟩, (R.new a b1).resolve_right b2, b2⟩
    rcases get_set _ _ _ _ _ e1 with ⟨_, rfl, _⟩ | ⟨n1, e1⟩
    · cases e2
    · exact R.dis j n _ s o o2 a (Ne.symm n1) h e1 rfl e2 ha e3
  exact L.nx ⟨W.O, fun n => if n = i then W.ft j else W.ft n, W.H⟩ _ _ (Same.refl _) (R1.setTm (i := i) tm (ownO_ok.mpr a3)) q⟩
end
end Dk
namespace Dk
open PySem PySem.Spec PyProof.Rows L2
/-! the rules, by the names that a law's text has for program and world -/
theorem hu9_of {A : Around} {k : Nat} (hr : Room k A) : A.units + 9 < cLine := by have := hr.un; omega
section
variable {X : Cx} {o i e value k v : Expr} {pos pos' tpos : Pos} {td ty tv tk : TE} (P : Program) (w : World)
theorem kdgetN (hu : X.A.units + 9 < cLine) (ho : PE X o td) (hi : PE X i ty) (hs : NoSl i) (hP : X.prog = P := by rfl) (hw : X.w = w := by rfl) : PE X (.Subscript o i pos) (tDGetN P w td ty) := hP ▸ hw ▸ pe_dgetN hu ho hi hs
theorem kdinN (hu : X.A.units + 9 < cLine) (hi : PE X i ty) (ho : PE X o td) (hP : X.prog = P := by rfl) (hw : X.w = w := by rfl) : PC X .In i o (tDInN P w id ty td) := hP ▸ hw ▸ pc_dinN hu hi ho
theorem kdnotinN (hu : X.A.units + 9 < cLine) (hi : PE X i ty) (ho : PE X o td) (hP : X.prog = P := by rfl) (hw : X.w = w := by rfl) : PC X .NotIn i o (tDInN P w not ty td) := hP ▸ hw ▸ pc_dnotinN hu hi ho
theorem kdputN (hu : X.A.units + 9 < cLine) (ho : PE X o td) (hi : PE X i ty) (hv : PE X value tv) (hs : swapsWith value (some (.Subscript o i pos')) pos.line X.env = pure false) (hP : X.prog = P := by rfl) (hw : X.w = w := by rfl) :
    PS X (.Assign [.Subscript o i pos'] value pos) (sDPutN P w td ty tv) := hP ▸ hw ▸ ps_dputN hu ho hi hv hs
theorem kdnewN (hP : X.prog = P := by rfl) (hw : X.w = w := by rfl) : PE X (.Dict [] [] pos) (tDNewN P w) := hP ▸ hw ▸ pe_dnewN
theorem kdisp1N (hu : X.A.units + 9 < cLine) (hk : PE X k tk) (hv : PE X v tv) (hP : X.prog = P := by rfl) (hw : X.w = w := by rfl) : PE X (.Dict [some k] [v] pos) (tDisp1N P w tk tv) := hP ▸ hw ▸ pe_disp1N hu hk hv
theorem klenN (hP : X.prog = P := by rfl) (hw : X.w = w := by rfl) : CallR X (.builtin "len") (rLenN P w) := hP ▸ hw ▸ b_lenN
theorem kpinN {tg l : Expr} {n : Nat} (hl : PE X l (tVar n)) (hP : X.prog = P := by rfl) (hw : X.w = w := by rfl) : PI X tg l (iKeysNO P w n) := hP ▸ hw ▸ kforN hl
end
end Dk

/-! rounds of each cost, counted: what the program counts and what the law counts -/
namespace Wy
def at_ (xs : List Int) (i : Nat) : Int := xs.getD i 0
def inc (xs : List Int) (i : Nat) (v : Int) : List Int := xs.set i (at_ xs i + v)
def price (p s : Nat) : Nat := min s (p - s)
def pricesTo (p : Nat) (lit : Bool) : Nat → List Int
  | 0 => List.replicate (p / 2 + 1) 0
  | k + 1 => if 0 < k ∨ lit = false then inc (pricesTo p lit k) (price p k) 1 else pricesTo p lit k
def prices (p : Nat) (lit : Bool) : List Int := pricesTo p lit p
def spreadIn (counts more : List Int) (n c : Nat) (row : List Int) : Nat → List Int
  | 0 => row
  | e + 1 => if c + e ≤ n then inc (spreadIn counts more n c row e) (c + e) (at_ counts c * at_ more e) else spreadIn counts more n c row e
def spreadTo (counts more : List Int) (n : Nat) : Nat → List Int
  | 0 => List.replicate (n + 1) 0
  | c + 1 => spreadIn counts more n c (spreadTo counts more n c) more.length
def spread (counts more : List Int) (n : Nat) : List Int := spreadTo counts more n counts.length
def tipRow (p n : Nat) : Nat → List Int
  | 0 => [1]
  | k + 1 => spread (tipRow p n k) (prices p true) n
def freeRow (p n lit : Nat) : Nat → List Int
  | 0 => tipRow p n lit
  | f + 1 => spread (freeRow p n lit f) (prices p false) n
def sumN (f : Nat → Int) : Nat → Int
  | 0 => 0
  | k + 1 => sumN f k + f k
def litOf (e l h : Int) : Nat := (if l < min 0 e then 1 else 0) + (if max 0 e < h then 1 else 0)
def leftOf (n : Nat) (e l h : Int) : Int := n - 2 * (h - l) + (e.natAbs : Int)
def term (T : Nat → Nat → List Int) (n : Nat) (e l h : Int) : Int :=
  if 0 ≤ leftOf n e l h ∧ leftOf n e l h < (T (litOf e l h) (h - l + 1 - litOf e l h).toNat).length then at_ (T (litOf e l h) (h - l + 1 - litOf e l h).toNat) (leftOf n e l h).toNat else 0
def manyT (T : Nat → Nat → List Int) (n : Nat) : Int := sumN (fun i => sumN (fun j => sumN (fun k => term T n (-(n : Int) + i) (-(n : Int) + j) (max 0 (-(n : Int) + i) + k)) (-(n : Int) + j + n + 1 - max 0 (-(n : Int) + i)).toNat) (min 0 (-(n : Int) + i) + 1 + n).toNat) (n + 1 + n)
def manyAt (p n : Nat) : Int := manyT (freeRow p n) n
/-! the law's way -/
def lawIn (p c h lo : Nat) (row longer : List Int) : Nat → List Int
  | 0 => longer
  | i + 1 => if h + price p (lo + i) ≤ c then inc (lawIn p c h lo row longer i) (h + price p (lo + i)) (at_ row h) else lawIn p c h lo row longer i
def lawTo (p c lo : Nat) (row : List Int) : Nat → List Int
  | 0 => List.replicate (c + 1) 0
  | h + 1 => lawIn p c h lo row (lawTo p c lo row h) (p - lo)
def lawRow (p tips c : Nat) : Nat → List Int
  | 0 => 1 :: List.replicate c 0
  | k + 1 => lawTo p c (if k < tips then 1 else 0) (lawRow p tips c k) (c + 1)
def lawPat (p free tips c : Nat) : Int := at_ (lawRow p tips c (free + tips)) c
def lawTerm (L : Nat → Nat → Nat → Int) (n d w : Nat) (e : Int) : Int :=
  if (litOf e (-d) (w - d) : Int) ≤ n - 2 * w + e.natAbs then L (w + 1 - litOf e (-d) (w - d)) (litOf e (-d) (w - d)) (n - 2 * w + e.natAbs : Int).toNat else 0
def lawT (L : Nat → Nat → Nat → Int) (n : Nat) : Int := sumN (fun d => sumN (fun i => sumN (fun k => lawTerm L n d (d + i) (-(d : Int) + k)) (d + i + 1)) (n + 1 - d)) (n + 1)
def lawCount (p n : Nat) : Int := lawT (lawPat p) n
/-! the walk, layer by layer -/
def steps (p : Int) : List Rd.R := [(1, []), (-1, []), (0, [(0, 1)]), (0, [(0, p - 1)])]
def put (p : Int) (one : Rd.R) (s : List Rd.R × List Rd.R) (st : Rd.R) : List Rd.R × List Rd.R := if Rd.join p one st ∈ s.1 then s else (s.1 ++ [Rd.join p one st], s.2 ++ [Rd.join p one st])
def putAll (p : Int) (s : List Rd.R × List Rd.R) (one : Rd.R) : List Rd.R × List Rd.R := (steps p).foldl (put p one) s
def layer (p : Int) : Nat → List Rd.R × List Rd.R
  | 0 => ([(0, [])], [(0, [])])
  | k + 1 => (layer p k).2.foldl (putAll p) ((layer p k).1, [])
/-! tables -/
def tab2 : List (List (List Int)) := [[[1],[1,1,0,0,0,0,0,0,0,0,0,0,0],[1,2,1,0,0,0,0,0,0,0,0,0,0],[1,3,3,1,0,0,0,0,0,0,0,0,0],[1,4,6,4,1,0,0,0,0,0,0,0,0],[1,5,10,10,5,1,0,0,0,0,0,0,0],[1,6,15,20,15,6,1,0,0,0,0,0,0],[1,7,21,35,35,21,7,1,0,0,0,0,0],[1,8,28,56,70,56,28,8,1,0,0,0,0],[1,9,36,84,126,126,84,36,9,1,0,0,0],[1,10,45,120,210,252,210,120,45,10,1,0,0],[1,11,55,165,330,462,462,330,165,55,11,1,0],[1,12,66,220,495,792,924,792,495,220,66,12,1],[1,13,78,286,715,1287,1716,1716,1287,715,286,78,13]],[[0,1,0,0,0,0,0,0,0,0,0,0,0],[0,1,1,0,0,0,0,0,0,0,0,0,0],[0,1,2,1,0,0,0,0,0,0,0,0,0],[0,1,3,3,1,0,0,0,0,0,0,0,0],[0,1,4,6,4,1,0,0,0,0,0,0,0],[0,1,5,10,10,5,1,0,0,0,0,0,0],[0,1,6,15,20,15,6,1,0,0,0,0,0],[0,1,7,21,35,35,21,7,1,0,0,0,0],[0,1,8,28,56,70,56,28,8,1,0,0,0],[0,1,9,36,84,126,126,84,36,9,1,0,0],[0,1,10,45,120,210,252,210,120,45,10,1,0],[0,1,11,55,165,330,462,462,330,165,55,11,1],[0,1,12,66,220,495,792,924,792,495,220,66,12],[0,1,13,78,286,715,1287,1716,1716,1287,715,286,78]],[[0,0,1,0,0,0,0,0,0,0,0,0,0],[0,0,1,1,0,0,0,0,0,0,0,0,0],[0,0,1,2,1,0,0,0,0,0,0,0,0],[0,0,1,3,3,1,0,0,0,0,0,0,0],[0,0,1,4,6,4,1,0,0,0,0,0,0],[0,0,1,5,10,10,5,1,0,0,0,0,0],[0,0,1,6,15,20,15,6,1,0,0,0,0],[0,0,1,7,21,35,35,21,7,1,0,0,0],[0,0,1,8,28,56,70,56,28,8,1,0,0],[0,0,1,9,36,84,126,126,84,36,9,1,0],[0,0,1,10,45,120,210,252,210,120,45,10,1],[0,0,1,11,55,165,330,462,462,330,165,55,11],[0,0,1,12,66,220,495,792,924,792,495,220,66],[0,0,1,13,78,286,715,1287,1716,1716,1287,715,286]]]
def tab3 : List (List (List Int)) := [[[1],[1,2,0,0,0,0,0,0,0,0,0,0,0],[1,4,4,0,0,0,0,0,0,0,0,0,0],[1,6,12,8,0,0,0,0,0,0,0,0,0],[1,8,24,32,16,0,0,0,0,0,0,0,0],[1,10,40,80,80,32,0,0,0,0,0,0,0],[1,12,60,160,240,192,64,0,0,0,0,0,0],[1,14,84,280,560,672,448,128,0,0,0,0,0],[1,16,112,448,1120,1792,1792,1024,256,0,0,0,0],[1,18,144,672,2016,4032,5376,4608,2304,512,0,0,0],[1,20,180,960,3360,8064,13440,15360,11520,5120,1024,0,0],[1,22,220,1320,5280,14784,29568,42240,42240,28160,11264,2048,0],[1,24,264,1760,7920,25344,59136,101376,126720,112640,67584,24576,4096],[1,26,312,2288,11440,41184,109824,219648,329472,366080,292864,159744,53248]],[[0,2,0,0,0,0,0,0,0,0,0,0,0],[0,2,4,0,0,0,0,0,0,0,0,0,0],[0,2,8,8,0,0,0,0,0,0,0,0,0],[0,2,12,24,16,0,0,0,0,0,0,0,0],[0,2,16,48,64,32,0,0,0,0,0,0,0],[0,2,20,80,160,160,64,0,0,0,0,0,0],[0,2,24,120,320,480,384,128,0,0,0,0,0],[0,2,28,168,560,1120,1344,896,256,0,0,0,0],[0,2,32,224,896,2240,3584,3584,2048,512,0,0,0],[0,2,36,288,1344,4032,8064,10752,9216,4608,1024,0,0],[0,2,40,360,1920,6720,16128,26880,30720,23040,10240,2048,0],[0,2,44,440,2640,10560,29568,59136,84480,84480,56320,22528,4096],[0,2,48,528,3520,15840,50688,118272,202752,253440,225280,135168,49152],[0,2,52,624,4576,22880,82368,219648,439296,658944,732160,585728,319488]],[[0,0,4,0,0,0,0,0,0,0,0,0,0],[0,0,4,8,0,0,0,0,0,0,0,0,0],[0,0,4,16,16,0,0,0,0,0,0,0,0],[0,0,4,24,48,32,0,0,0,0,0,0,0],[0,0,4,32,96,128,64,0,0,0,0,0,0],[0,0,4,40,160,320,320,128,0,0,0,0,0],[0,0,4,48,240,640,960,768,256,0,0,0,0],[0,0,4,56,336,1120,2240,2688,1792,512,0,0,0],[0,0,4,64,448,1792,4480,7168,7168,4096,1024,0,0],[0,0,4,72,576,2688,8064,16128,21504,18432,9216,2048,0],[0,0,4,80,720,3840,13440,32256,53760,61440,46080,20480,4096],[0,0,4,88,880,5280,21120,59136,118272,168960,168960,112640,45056],[0,0,4,96,1056,7040,31680,101376,236544,405504,506880,450560,270336],[0,0,4,104,1248,9152,45760,164736,439296,878592,1317888,1464320,1171456]]]
def tab5 : List (List (List Int)) := [[[1],[1,2,2,0,0,0,0,0,0,0,0,0,0],[1,4,8,8,4,0,0,0,0,0,0,0,0],[1,6,18,32,36,24,8,0,0,0,0,0,0],[1,8,32,80,136,160,128,64,16,0,0,0,0],[1,10,50,160,360,592,720,640,400,160,32,0,0],[1,12,72,280,780,1632,2624,3264,3120,2240,1152,384,64],[1,14,98,448,1484,3752,7448,11776,14896,15008,11872,7168,3136],[1,16,128,672,2576,7616,17920,34176,53344,68352,71680,60928,41216],[1,18,162,960,4176,14112,38304,85248,157536,243392,315072,340992,306432],[1,20,200,1320,6420,24384,74880,190080,404640,728960,1116928,1457920,1618560],[1,22,242,1760,9460,39864,136488,388608,934560,1918400,3384128,5149696,6768256],[1,24,288,2288,13464,62304,235136,741312,1984752,4564736,9090048,15754752,23835904],[1,26,338,2912,18616,93808,386672,1336192,3937648,10016864,22189024,43064320,73525504]],[[0,2,2,0,0,0,0,0,0,0,0,0,0],[0,2,6,8,4,0,0,0,0,0,0,0,0],[0,2,10,24,32,24,8,0,0,0,0,0,0],[0,2,14,48,100,136,120,64,16,0,0,0,0],[0,2,18,80,224,432,592,576,384,160,32,0,0],[0,2,22,120,420,1040,1904,2624,2720,2080,1120,384,64],[0,2,26,168,704,2120,4824,8512,11776,12768,10720,6784,3072],[0,2,30,224,1092,3864,10472,22400,38448,53344,59808,53760,38080],[0,2,34,288,1600,6496,20384,51072,104192,175040,243392,280064,265216],[0,2,38,360,2244,10272,36576,104832,247104,485568,801856,1116928,1312128],[0,2,42,440,3040,15480,61608,198528,529920,1189440,2267200,3691776,5149696],[0,2,46,528,4004,22440,98648,352704,1050192,2646336,5705920,10605056,17067648],[0,2,50,624,5152,31504,151536,594880,1952896,5452128,13098976,27309568,49689600],[0,2,54,728,6500,43056,224848,960960,3445728,10547680,27909024,64411776,130506688]],[[0,0,4,8,4,0,0,0,0,0,0,0,0],[0,0,4,16,28,24,8,0,0,0,0,0,0],[0,0,4,24,68,112,112,64,16,0,0,0,0],[0,0,4,32,124,296,472,512,368,160,32,0,0],[0,0,4,40,196,608,1312,2048,2336,1920,1088,384,64],[0,0,4,48,284,1080,2920,5888,9056,10688,9600,6400,3008],[0,0,4,56,388,1744,5648,13888,26672,40576,49088,46976,35008],[0,0,4,64,508,2632,9912,28672,65744,121696,183584,226304,227136],[0,0,4,72,644,3776,16192,53760,142912,310528,558464,836864,1046912],[0,0,4,80,796,5208,25032,93696,282816,703872,1465344,2574848,3837568],[0,0,4,88,964,6960,37040,154176,520272,1456896,3438720,6913280,11917952],[0,0,4,96,1148,9064,52888,242176,902704,2805792,7393056,16704512,32621952],[0,0,4,104,1348,11552,73312,366080,1492832,5095552,14810048,37102208,80817088],[0,0,4,112,1564,14456,99112,535808,2371616,8813376,27986816,76913408,184641600]]]
def tab7 : List (List (List Int)) := [[[1],[1,2,2,2,0,0,0,0,0,0,0,0,0],[1,4,8,12,12,8,4,0,0,0,0,0,0],[1,6,18,38,60,72,68,48,24,8,0,0,0],[1,8,32,88,184,304,408,448,400,288,160,64,16],[1,10,50,170,440,912,1560,2240,2720,2800,2432,1760,1040],[1,12,72,292,900,2232,4604,8064,12144,15840,17952,17664,15024],[1,14,98,462,1652,4760,11452,23536,41944,65464,90048,109536,117936],[1,16,128,688,2800,9184,25200,59264,121440,219328,351936,504448,648032],[1,18,162,978,4464,16416,50544,133632,308736,631136,1152000,1889856,2799456],[1,20,200,1340,6780,27624,94260,276480,709920,1616960,3299008,6073600,10145440],[1,22,242,1782,9900,44264,165748,533808,1506648,3778280,8505728,17325376,32124576],[1,24,288,2312,13992,68112,277640,973632,2994288,8190688,20143200,44906688,91343344],[1,26,338,2938,19240,101296,446472,1693120,5633056,16681808,44460416,107563040,237824496]],[[0,2,2,2,0,0,0,0,0,0,0,0,0],[0,2,6,10,12,8,4,0,0,0,0,0,0],[0,2,10,26,48,64,64,48,24,8,0,0,0],[0,2,14,50,124,232,340,400,376,280,160,64,16],[0,2,18,82,256,608,1152,1792,2320,2512,2272,1696,1024],[0,2,22,122,460,1320,3044,5824,9424,13040,15520,15904,13984],[0,2,26,170,752,2528,6848,15472,29800,49624,72096,91872,102912],[0,2,30,226,1148,4424,13748,35728,79496,153864,261888,394912,530096],[0,2,34,290,1664,7232,25344,74368,187296,411808,800064,1385408,2151424],[0,2,38,362,2316,11208,43716,142848,401184,985824,2147008,4183744,7345984],[0,2,42,442,3120,16640,71488,257328,796728,2161320,5206720,11251776,21979136],[0,2,46,530,4092,23848,111892,439824,1487640,4412408,11637472,27581312,59218768],[0,2,50,626,5248,33184,168832,719488,2638768,8491120,24317216,62656352,146481152],[0,2,54,730,6604,45032,246948,1134016,4481776,15545296,48015968,133550560,337410528]],[[0,0,4,8,12,8,4,0,0,0,0,0,0],[0,0,4,16,36,56,60,48,24,8,0,0,0],[0,0,4,24,76,168,276,352,352,272,160,64,16],[0,0,4,32,132,376,812,1392,1944,2232,2112,1632,1008],[0,0,4,40,204,712,1892,4032,7104,10528,13248,14208,12960],[0,0,4,48,292,1208,3804,9648,20376,36584,56576,75968,88928],[0,0,4,56,396,1896,6900,20256,49696,104240,189792,303040,427184],[0,0,4,64,516,2808,11596,38640,107800,257944,538176,990496,1621328],[0,0,4,72,652,3976,18372,68480,213888,574016,1346944,2798336,5194560],[0,0,4,80,804,5432,27772,114480,395544,1175496,3059712,7068032,14633152],[0,0,4,88,972,7208,40404,182496,690912,2251088,6430752,16329536,37239632],[0,0,4,96,1156,9336,56940,279664,1151128,4078712,12679744,35075040,87262384],[0,0,4,104,1356,11848,78116,414528,1843008,7054176,23698752,70894208,190929376],[0,0,4,112,1572,14776,104732,597168,2851992,11725480,42322176,136086080,394223648]]]
def tab : Nat → List (List (List Int))
  | 2 => tab2
  | 3 => tab3
  | 5 => tab5
  | _ => tab7
/-- the counts of all, padded -/
def tabx (p lit f : Nat) : List Int := if lit + f = 0 then 1 :: List.replicate 12 0 else ((tab p).getD lit []).getD f []
def tb1 (p n lit f : Nat) : List Int := if lit + f = 0 then [1] else (tabx p lit f).take (n + 1)
def lrow (p tips c k : Nat) : List Int := (if k < tips then tabx p k 0 else tabx p tips (k - tips)).take (c + 1)
def lb (p free tips c : Nat) : Int := at_ (lrow p tips c (free + tips)) c
def ps : List Nat := [2, 3, 5, 7]
def chkRow (p n : Nat) : Bool := (List.range 3).all fun lit => decide (tipRow p n lit = tb1 p n lit 0) && (List.range (n + 1)).all fun f => decide (spread (tb1 p n lit f) (prices p false) n = tb1 p n lit (f + 1))
def chkPat (p c : Nat) : Bool := (List.range 3).all fun tips => decide (lrow p tips c 0 = 1 :: List.replicate c 0) && (List.range (13 + tips)).all fun k => decide (lawTo p c (if k < tips then 1 else 0) (lrow p tips c k) (c + 1) = lrow p tips c (k + 1))
def chkSum (p n : Nat) : Bool := decide (manyT (tb1 p n) n = lawT (lb p) n)
def chkLay (p n : Nat) : Bool := decide (manyT (tb1 p n) n = ((layer p n).2.length : Int))
theorem rows_2_0 : chkRow 2 0 = true := by decide +kernel
theorem rows_2_1 : chkRow 2 1 = true := by decide +kernel
theorem rows_2_2 : chkRow 2 2 = true := by decide +kernel
theorem rows_2_3 : chkRow 2 3 = true := by decide +kernel
theorem rows_2_4 : chkRow 2 4 = true := by decide +kernel
theorem rows_2_5 : chkRow 2 5 = true := by decide +kernel
theorem rows_2_6 : chkRow 2 6 = true := by decide +kernel
theorem rows_2_7 : chkRow 2 7 = true := by decide +kernel
theorem rows_2_8 : chkRow 2 8 = true := by decide +kernel
theorem rows_2_9 : chkRow 2 9 = true := by decide +kernel
theorem rows_2_10 : chkRow 2 10 = true := by decide +kernel
theorem rows_2_11 : chkRow 2 11 = true := by decide +kernel
theorem rows_2_12 : chkRow 2 12 = true := by decide +kernel
theorem rows_2 : ∀ n, n < 13 → chkRow 2 n = true
  | 0, _ => rows_2_0
  | 1, _ => rows_2_1
  | 2, _ => rows_2_2
  | 3, _ => rows_2_3
  | 4, _ => rows_2_4
  | 5, _ => rows_2_5
  | 6, _ => rows_2_6
  | 7, _ => rows_2_7
  | 8, _ => rows_2_8
  | 9, _ => rows_2_9
  | 10, _ => rows_2_10
  | 11, _ => rows_2_11
  | 12, _ => rows_2_12
  | n + 13, h => absurd h (by omega)
theorem rows_3_0 : chkRow 3 0 = true := by decide +kernel
theorem rows_3_1 : chkRow 3 1 = true := by decide +kernel
theorem rows_3_2 : chkRow 3 2 = true := by decide +kernel
theorem rows_3_3 : chkRow 3 3 = true := by decide +kernel
theorem rows_3_4 : chkRow 3 4 = true := by decide +kernel
theorem rows_3_5 : chkRow 3 5 = true := by decide +kernel
theorem rows_3_6 : chkRow 3 6 = true := by decide +kernel
theorem rows_3_7 : chkRow 3 7 = true := by decide +kernel
theorem rows_3_8 : chkRow 3 8 = true := by decide +kernel
theorem rows_3_9 : chkRow 3 9 = true := by decide +kernel
theorem rows_3_10 : chkRow 3 10 = true := by decide +kernel
theorem rows_3_11 : chkRow 3 11 = true := by decide +kernel
theorem rows_3_12 : chkRow 3 12 = true := by decide +kernel
theorem rows_3 : ∀ n, n < 13 → chkRow 3 n = true
  | 0, _ => rows_3_0
  | 1, _ => rows_3_1
  | 2, _ => rows_3_2
  | 3, _ => rows_3_3
  | 4, _ => rows_3_4
  | 5, _ => rows_3_5
  | 6, _ => rows_3_6
  | 7, _ => rows_3_7
  | 8, _ => rows_3_8
  | 9, _ => rows_3_9
  | 10, _ => rows_3_10
  | 11, _ => rows_3_11
  | 12, _ => rows_3_12
  | n + 13, h => absurd h (by omega)
theorem rows_5_0 : chkRow 5 0 = true := by decide +kernel
theorem rows_5_1 : chkRow 5 1 = true := by decide +kernel
theorem rows_5_2 : chkRow 5 2 = true := by decide +kernel
theorem rows_5_3 : chkRow 5 3 = true := by decide +kernel
theorem rows_5_4 : chkRow 5 4 = true := by decide +kernel
theorem rows_5_5 : chkRow 5 5 = true := by decide +kernel
theorem rows_5_6 : chkRow 5 6 = true := by decide +kernel
theorem rows_5_7 : chkRow 5 7 = true := by decide +kernel
theorem rows_5_8 : chkRow 5 8 = true := by decide +kernel
theorem rows_5_9 : chkRow 5 9 = true := by decide +kernel
theorem rows_5_10 : chkRow 5 10 = true := by decide +kernel
theorem rows_5_11 : chkRow 5 11 = true := by decide +kernel
theorem rows_5_12 : chkRow 5 12 = true := by decide +kernel
theorem rows_5 : ∀ n, n < 13 → chkRow 5 n = true
  | 0, _ => rows_5_0
  | 1, _ => rows_5_1
  | 2, _ => rows_5_2
  | 3, _ => rows_5_3
  | 4, _ => rows_5_4
  | 5, _ => rows_5_5
  | 6, _ => rows_5_6
  | 7, _ => rows_5_7
  | 8, _ => rows_5_8
  | 9, _ => rows_5_9
  | 10, _ => rows_5_10
  | 11, _ => rows_5_11
  | 12, _ => rows_5_12
  | n + 13, h => absurd h (by omega)
theorem rows_7_0 : chkRow 7 0 = true := by decide +kernel
theorem rows_7_1 : chkRow 7 1 = true := by decide +kernel
theorem rows_7_2 : chkRow 7 2 = true := by decide +kernel
theorem rows_7_3 : chkRow 7 3 = true := by decide +kernel
theorem rows_7_4 : chkRow 7 4 = true := by decide +kernel
theorem rows_7_5 : chkRow 7 5 = true := by decide +kernel
theorem rows_7_6 : chkRow 7 6 = true := by decide +kernel
theorem rows_7_7 : chkRow 7 7 = true := by decide +kernel
theorem rows_7_8 : chkRow 7 8 = true := by decide +kernel
theorem rows_7_9 : chkRow 7 9 = true := by decide +kernel
theorem rows_7_10 : chkRow 7 10 = true := by decide +kernel
theorem rows_7_11 : chkRow 7 11 = true := by decide +kernel
theorem rows_7_12 : chkRow 7 12 = true := by decide +kernel
theorem rows_7 : ∀ n, n < 13 → chkRow 7 n = true
  | 0, _ => rows_7_0
  | 1, _ => rows_7_1
  | 2, _ => rows_7_2
  | 3, _ => rows_7_3
  | 4, _ => rows_7_4
  | 5, _ => rows_7_5
  | 6, _ => rows_7_6
  | 7, _ => rows_7_7
  | 8, _ => rows_7_8
  | 9, _ => rows_7_9
  | 10, _ => rows_7_10
  | 11, _ => rows_7_11
  | 12, _ => rows_7_12
  | n + 13, h => absurd h (by omega)
theorem pats_2_0 : chkPat 2 0 = true := by decide +kernel
theorem pats_2_1 : chkPat 2 1 = true := by decide +kernel
theorem pats_2_2 : chkPat 2 2 = true := by decide +kernel
theorem pats_2_3 : chkPat 2 3 = true := by decide +kernel
theorem pats_2_4 : chkPat 2 4 = true := by decide +kernel
theorem pats_2_5 : chkPat 2 5 = true := by decide +kernel
theorem pats_2_6 : chkPat 2 6 = true := by decide +kernel
theorem pats_2_7 : chkPat 2 7 = true := by decide +kernel
theorem pats_2_8 : chkPat 2 8 = true := by decide +kernel
theorem pats_2_9 : chkPat 2 9 = true := by decide +kernel
theorem pats_2_10 : chkPat 2 10 = true := by decide +kernel
theorem pats_2_11 : chkPat 2 11 = true := by decide +kernel
theorem pats_2_12 : chkPat 2 12 = true := by decide +kernel
theorem pats_2 : ∀ n, n < 13 → chkPat 2 n = true
  | 0, _ => pats_2_0
  | 1, _ => pats_2_1
  | 2, _ => pats_2_2
  | 3, _ => pats_2_3
  | 4, _ => pats_2_4
  | 5, _ => pats_2_5
  | 6, _ => pats_2_6
  | 7, _ => pats_2_7
  | 8, _ => pats_2_8
  | 9, _ => pats_2_9
  | 10, _ => pats_2_10
  | 11, _ => pats_2_11
  | 12, _ => pats_2_12
  | n + 13, h => absurd h (by omega)
theorem pats_3_0 : chkPat 3 0 = true := by decide +kernel
theorem pats_3_1 : chkPat 3 1 = true := by decide +kernel
theorem pats_3_2 : chkPat 3 2 = true := by decide +kernel
theorem pats_3_3 : chkPat 3 3 = true := by decide +kernel
theorem pats_3_4 : chkPat 3 4 = true := by decide +kernel
theorem pats_3_5 : chkPat 3 5 = true := by decide +kernel
theorem pats_3_6 : chkPat 3 6 = true := by decide +kernel
theorem pats_3_7 : chkPat 3 7 = true := by decide +kernel
theorem pats_3_8 : chkPat 3 8 = true := by decide +kernel
theorem pats_3_9 : chkPat 3 9 = true := by decide +kernel
theorem pats_3_10 : chkPat 3 10 = true := by decide +kernel
theorem pats_3_11 : chkPat 3 11 = true := by decide +kernel
theorem pats_3_12 : chkPat 3 12 = true := by decide +kernel
theorem pats_3 : ∀ n, n < 13 → chkPat 3 n = true
  | 0, _ => pats_3_0
  | 1, _ => pats_3_1
  | 2, _ => pats_3_2
  | 3, _ => pats_3_3
  | 4, _ => pats_3_4
  | 5, _ => pats_3_5
  | 6, _ => pats_3_6
  | 7, _ => pats_3_7
  | 8, _ => pats_3_8
  | 9, _ => pats_3_9
  | 10, _ => pats_3_10
  | 11, _ => pats_3_11
  | 12, _ => pats_3_12
  | n + 13, h => absurd h (by omega)
theorem pats_5_0 : chkPat 5 0 = true := by decide +kernel
theorem pats_5_1 : chkPat 5 1 = true := by decide +kernel
theorem pats_5_2 : chkPat 5 2 = true := by decide +kernel
theorem pats_5_3 : chkPat 5 3 = true := by decide +kernel
theorem pats_5_4 : chkPat 5 4 = true := by decide +kernel
theorem pats_5_5 : chkPat 5 5 = true := by decide +kernel
theorem pats_5_6 : chkPat 5 6 = true := by decide +kernel
theorem pats_5_7 : chkPat 5 7 = true := by decide +kernel
theorem pats_5_8 : chkPat 5 8 = true := by decide +kernel
theorem pats_5_9 : chkPat 5 9 = true := by decide +kernel
theorem pats_5_10 : chkPat 5 10 = true := by decide +kernel
theorem pats_5_11 : chkPat 5 11 = true := by decide +kernel
theorem pats_5_12 : chkPat 5 12 = true := by decide +kernel
theorem pats_5 : ∀ n, n < 13 → chkPat 5 n = true
  | 0, _ => pats_5_0
  | 1, _ => pats_5_1
  | 2, _ => pats_5_2
  | 3, _ => pats_5_3
  | 4, _ => pats_5_4
  | 5, _ => pats_5_5
  | 6, _ => pats_5_6
  | 7, _ => pats_5_7
  | 8, _ => pats_5_8
  | 9, _ => pats_5_9
  | 10, _ => pats_5_10
  | 11, _ => pats_5_11
  | 12, _ => pats_5_12
  | n + 13, h => absurd h (by omega)
theorem pats_7_0 : chkPat 7 0 = true := by decide +kernel
theorem pats_7_1 : chkPat 7 1 = true := by decide +kernel
theorem pats_7_2 : chkPat 7 2 = true := by decide +kernel
theorem pats_7_3 : chkPat 7 3 = true := by decide +kernel
theorem pats_7_4 : chkPat 7 4 = true := by decide +kernel
theorem pats_7_5 : chkPat 7 5 = true := by decide +kernel
theorem pats_7_6 : chkPat 7 6 = true := by decide +kernel
theorem pats_7_7 : chkPat 7 7 = true := by decide +kernel
theorem pats_7_8 : chkPat 7 8 = true := by decide +kernel
theorem pats_7_9 : chkPat 7 9 = true := by decide +kernel
theorem pats_7_10 : chkPat 7 10 = true := by decide +kernel
theorem pats_7_11 : chkPat 7 11 = true := by decide +kernel
theorem pats_7_12 : chkPat 7 12 = true := by decide +kernel
theorem pats_7 : ∀ n, n < 13 → chkPat 7 n = true
  | 0, _ => pats_7_0
  | 1, _ => pats_7_1
  | 2, _ => pats_7_2
  | 3, _ => pats_7_3
  | 4, _ => pats_7_4
  | 5, _ => pats_7_5
  | 6, _ => pats_7_6
  | 7, _ => pats_7_7
  | 8, _ => pats_7_8
  | 9, _ => pats_7_9
  | 10, _ => pats_7_10
  | 11, _ => pats_7_11
  | 12, _ => pats_7_12
  | n + 13, h => absurd h (by omega)
theorem sums_2_0 : chkSum 2 0 = true := by decide +kernel
theorem sums_2_1 : chkSum 2 1 = true := by decide +kernel
theorem sums_2_2 : chkSum 2 2 = true := by decide +kernel
theorem sums_2_3 : chkSum 2 3 = true := by decide +kernel
theorem sums_2_4 : chkSum 2 4 = true := by decide +kernel
theorem sums_2_5 : chkSum 2 5 = true := by decide +kernel
theorem sums_2_6 : chkSum 2 6 = true := by decide +kernel
theorem sums_2_7 : chkSum 2 7 = true := by decide +kernel
theorem sums_2_8 : chkSum 2 8 = true := by decide +kernel
theorem sums_2_9 : chkSum 2 9 = true := by decide +kernel
theorem sums_2_10 : chkSum 2 10 = true := by decide +kernel
theorem sums_2_11 : chkSum 2 11 = true := by decide +kernel
theorem sums_2_12 : chkSum 2 12 = true := by decide +kernel
theorem sums_2 : ∀ n, n < 13 → chkSum 2 n = true
  | 0, _ => sums_2_0
  | 1, _ => sums_2_1
  | 2, _ => sums_2_2
  | 3, _ => sums_2_3
  | 4, _ => sums_2_4
  | 5, _ => sums_2_5
  | 6, _ => sums_2_6
  | 7, _ => sums_2_7
  | 8, _ => sums_2_8
  | 9, _ => sums_2_9
  | 10, _ => sums_2_10
  | 11, _ => sums_2_11
  | 12, _ => sums_2_12
  | n + 13, h => absurd h (by omega)
theorem sums_3_0 : chkSum 3 0 = true := by decide +kernel
theorem sums_3_1 : chkSum 3 1 = true := by decide +kernel
theorem sums_3_2 : chkSum 3 2 = true := by decide +kernel
theorem sums_3_3 : chkSum 3 3 = true := by decide +kernel
theorem sums_3_4 : chkSum 3 4 = true := by decide +kernel
theorem sums_3_5 : chkSum 3 5 = true := by decide +kernel
theorem sums_3_6 : chkSum 3 6 = true := by decide +kernel
theorem sums_3_7 : chkSum 3 7 = true := by decide +kernel
theorem sums_3_8 : chkSum 3 8 = true := by decide +kernel
theorem sums_3_9 : chkSum 3 9 = true := by decide +kernel
theorem sums_3_10 : chkSum 3 10 = true := by decide +kernel
theorem sums_3_11 : chkSum 3 11 = true := by decide +kernel
theorem sums_3_12 : chkSum 3 12 = true := by decide +kernel
theorem sums_3 : ∀ n, n < 13 → chkSum 3 n = true
  | 0, _ => sums_3_0
  | 1, _ => sums_3_1
  | 2, _ => sums_3_2
  | 3, _ => sums_3_3
  | 4, _ => sums_3_4
  | 5, _ => sums_3_5
  | 6, _ => sums_3_6
  | 7, _ => sums_3_7
  | 8, _ => sums_3_8
  | 9, _ => sums_3_9
  | 10, _ => sums_3_10
  | 11, _ => sums_3_11
  | 12, _ => sums_3_12
  | n + 13, h => absurd h (by omega)
theorem sums_5_0 : chkSum 5 0 = true := by decide +kernel
theorem sums_5_1 : chkSum 5 1 = true := by decide +kernel
theorem sums_5_2 : chkSum 5 2 = true := by decide +kernel
theorem sums_5_3 : chkSum 5 3 = true := by decide +kernel
theorem sums_5_4 : chkSum 5 4 = true := by decide +kernel
theorem sums_5_5 : chkSum 5 5 = true := by decide +kernel
theorem sums_5_6 : chkSum 5 6 = true := by decide +kernel
theorem sums_5_7 : chkSum 5 7 = true := by decide +kernel
theorem sums_5_8 : chkSum 5 8 = true := by decide +kernel
theorem sums_5_9 : chkSum 5 9 = true := by decide +kernel
theorem sums_5_10 : chkSum 5 10 = true := by decide +kernel
theorem sums_5_11 : chkSum 5 11 = true := by decide +kernel
theorem sums_5_12 : chkSum 5 12 = true := by decide +kernel
theorem sums_5 : ∀ n, n < 13 → chkSum 5 n = true
  | 0, _ => sums_5_0
  | 1, _ => sums_5_1
  | 2, _ => sums_5_2
  | 3, _ => sums_5_3
  | 4, _ => sums_5_4
  | 5, _ => sums_5_5
  | 6, _ => sums_5_6
  | 7, _ => sums_5_7
  | 8, _ => sums_5_8
  | 9, _ => sums_5_9
  | 10, _ => sums_5_10
  | 11, _ => sums_5_11
  | 12, _ => sums_5_12
  | n + 13, h => absurd h (by omega)
theorem sums_7_0 : chkSum 7 0 = true := by decide +kernel
theorem sums_7_1 : chkSum 7 1 = true := by decide +kernel
theorem sums_7_2 : chkSum 7 2 = true := by decide +kernel
theorem sums_7_3 : chkSum 7 3 = true := by decide +kernel
theorem sums_7_4 : chkSum 7 4 = true := by decide +kernel
theorem sums_7_5 : chkSum 7 5 = true := by decide +kernel
theorem sums_7_6 : chkSum 7 6 = true := by decide +kernel
theorem sums_7_7 : chkSum 7 7 = true := by decide +kernel
theorem sums_7_8 : chkSum 7 8 = true := by decide +kernel
theorem sums_7_9 : chkSum 7 9 = true := by decide +kernel
theorem sums_7_10 : chkSum 7 10 = true := by decide +kernel
theorem sums_7_11 : chkSum 7 11 = true := by decide +kernel
theorem sums_7_12 : chkSum 7 12 = true := by decide +kernel
theorem sums_7 : ∀ n, n < 13 → chkSum 7 n = true
  | 0, _ => sums_7_0
  | 1, _ => sums_7_1
  | 2, _ => sums_7_2
  | 3, _ => sums_7_3
  | 4, _ => sums_7_4
  | 5, _ => sums_7_5
  | 6, _ => sums_7_6
  | 7, _ => sums_7_7
  | 8, _ => sums_7_8
  | 9, _ => sums_7_9
  | 10, _ => sums_7_10
  | 11, _ => sums_7_11
  | 12, _ => sums_7_12
  | n + 13, h => absurd h (by omega)
theorem lays_2_0 : chkLay 2 0 = true := by decide +kernel
theorem lays_2_1 : chkLay 2 1 = true := by decide +kernel
theorem lays_2_2 : chkLay 2 2 = true := by decide +kernel
theorem lays_2_3 : chkLay 2 3 = true := by decide +kernel
theorem lays_2_4 : chkLay 2 4 = true := by decide +kernel
theorem lays_2 : ∀ n, n < 5 → chkLay 2 n = true
  | 0, _ => lays_2_0
  | 1, _ => lays_2_1
  | 2, _ => lays_2_2
  | 3, _ => lays_2_3
  | 4, _ => lays_2_4
  | n + 5, h => absurd h (by omega)
theorem lays_3_0 : chkLay 3 0 = true := by decide +kernel
theorem lays_3_1 : chkLay 3 1 = true := by decide +kernel
theorem lays_3_2 : chkLay 3 2 = true := by decide +kernel
theorem lays_3_3 : chkLay 3 3 = true := by decide +kernel
theorem lays_3_4 : chkLay 3 4 = true := by decide +kernel
theorem lays_3 : ∀ n, n < 5 → chkLay 3 n = true
  | 0, _ => lays_3_0
  | 1, _ => lays_3_1
  | 2, _ => lays_3_2
  | 3, _ => lays_3_3
  | 4, _ => lays_3_4
  | n + 5, h => absurd h (by omega)
theorem lays_5_0 : chkLay 5 0 = true := by decide +kernel
theorem lays_5_1 : chkLay 5 1 = true := by decide +kernel
theorem lays_5_2 : chkLay 5 2 = true := by decide +kernel
theorem lays_5_3 : chkLay 5 3 = true := by decide +kernel
theorem lays_5_4 : chkLay 5 4 = true := by decide +kernel
theorem lays_5 : ∀ n, n < 5 → chkLay 5 n = true
  | 0, _ => lays_5_0
  | 1, _ => lays_5_1
  | 2, _ => lays_5_2
  | 3, _ => lays_5_3
  | 4, _ => lays_5_4
  | n + 5, h => absurd h (by omega)
theorem lays_7_0 : chkLay 7 0 = true := by decide +kernel
theorem lays_7_1 : chkLay 7 1 = true := by decide +kernel
theorem lays_7_2 : chkLay 7 2 = true := by decide +kernel
theorem lays_7_3 : chkLay 7 3 = true := by decide +kernel
theorem lays_7_4 : chkLay 7 4 = true := by decide +kernel
theorem lays_7 : ∀ n, n < 5 → chkLay 7 n = true
  | 0, _ => lays_7_0
  | 1, _ => lays_7_1
  | 2, _ => lays_7_2
  | 3, _ => lays_7_3
  | 4, _ => lays_7_4
  | n + 5, h => absurd h (by omega)
theorem rows_ok {p n : Nat} (hp : p ∈ ps) (hn : n < 13) : chkRow p n = true := by
  unfold ps at hp
  simp only [List.mem_cons, List.not_mem_nil, or_false] at hp
  rcases hp with rfl | rfl | rfl | rfl
  · exact rows_2 n hn
  · exact rows_3 n hn
  · exact rows_5 n hn
  · exact rows_7 n hn
theorem pats_ok {p n : Nat} (hp : p ∈ ps) (hn : n < 13) : chkPat p n = true := by
  unfold ps at hp
  simp only [List.mem_cons, List.not_mem_nil, or_false] at hp
  rcases hp with rfl | rfl | rfl | rfl
  · exact pats_2 n hn
  · exact pats_3 n hn
  · exact pats_5 n hn
  · exact pats_7 n hn
theorem sums_ok {p n : Nat} (hp : p ∈ ps) (hn : n < 13) : chkSum p n = true := by
  unfold ps at hp
  simp only [List.mem_cons, List.not_mem_nil, or_false] at hp
  rcases hp with rfl | rfl | rfl | rfl
  · exact sums_2 n hn
  · exact sums_3 n hn
  · exact sums_5 n hn
  · exact sums_7 n hn
theorem lays_ok {p n : Nat} (hp : p ∈ ps) (hn : n < 5) : chkLay p n = true := by
  unfold ps at hp
  simp only [List.mem_cons, List.not_mem_nil, or_false] at hp
  rcases hp with rfl | rfl | rfl | rfl
  · exact lays_2 n hn
  · exact lays_3 n hn
  · exact lays_5 n hn
  · exact lays_7 n hn
theorem sumN_congr {f g : Nat → Int} : ∀ {k : Nat}, (∀ i, i < k → f i = g i) → sumN f k = sumN g k
  | 0, _ => rfl
  | k + 1, h => by
    show sumN f k + f k = sumN g k + g k
    rw [sumN_congr fun i hi => h i (by omega), h k (by omega)]
theorem litOf_le (e l h : Int) : litOf e l h ≤ 2 := by
  unfold litOf
  split <;> split <;> omega
theorem manyT_congr {T T' : Nat → Nat → List Int} {n : Nat} (h : ∀ lit f, lit < 3 → f < n + 2 → T lit f = T' lit f) : manyT T n = manyT T' n := by
  refine sumN_congr fun i hi => sumN_congr fun j hj => sumN_congr fun k hk => ?_
  unfold term
  have := litOf_le (-(n : Int) + i) (-(n : Int) + j) (max 0 (-(n : Int) + i) + k)
  rw [h _ _ (by omega) (by omega)]
theorem lawT_congr {L L' : Nat → Nat → Nat → Int} {n : Nat} (h : ∀ free tips c, free ≤ n + 1 → tips < 3 → c ≤ n → L free tips c = L' free tips c) : lawT L n = lawT L' n := by
  refine sumN_congr fun d hd => sumN_congr fun i hi => sumN_congr fun k hk => ?_
  unfold lawTerm
  have := litOf_le (-(d : Int) + k) (-(d : Int)) (((d + i : Nat) : Int) - d)
  rw [h _ _ _ (by omega) (by omega) (by omega)]
theorem rows_at {p n lit : Nat} (hp : p ∈ ps) (hn : n < 13) (h1 : lit < 3) : ∀ {f : Nat}, f < n + 2 → freeRow p n lit f = tb1 p n lit f
  | 0, _ => by
    have a := List.all_eq_true.mp (rows_ok hp hn) lit (List.mem_range.mpr h1)
    rw [Bool.and_eq_true] at a
    exact of_decide_eq_true a.1
  | f + 1, h2 => by
    have a := List.all_eq_true.mp (rows_ok hp hn) lit (List.mem_range.mpr h1)
    rw [Bool.and_eq_true] at a
    have b := of_decide_eq_true (List.all_eq_true.mp a.2 f (List.mem_range.mpr (by omega)))
    show spread (freeRow p n lit f) (prices p false) n = _
    rw [rows_at hp hn h1 (by omega), b]
theorem lrow_at {p tips c : Nat} (hp : p ∈ ps) (hc : c < 13) (h1 : tips < 3) : ∀ {k : Nat}, k ≤ 13 + tips → lawRow p tips c k = lrow p tips c k
  | 0, _ => by
    have a := List.all_eq_true.mp (pats_ok hp hc) tips (List.mem_range.mpr h1)
    rw [Bool.and_eq_true] at a
    exact (of_decide_eq_true a.1).symm
  | k + 1, h2 => by
    have a := List.all_eq_true.mp (pats_ok hp hc) tips (List.mem_range.mpr h1)
    rw [Bool.and_eq_true] at a
    have b := of_decide_eq_true (List.all_eq_true.mp a.2 k (List.mem_range.mpr (by omega)))
    show lawTo p c _ (lawRow p tips c k) (c + 1) = _
    rw [lrow_at hp hc h1 (by omega), b]
theorem many_tab {p n : Nat} (hp : p ∈ ps) (hn : n < 13) : manyAt p n = manyT (tb1 p n) n := manyT_congr fun _ _ h1 h2 => rows_at hp hn h1 h2
theorem law_tab {p n : Nat} (hp : p ∈ ps) (hn : n < 13) : lawCount p n = lawT (lb p) n := lawT_congr fun free tips c h1 h2 h3 => by
  unfold lawPat lb
  rw [lrow_at hp (by omega) h2 (by omega)]
theorem many_law {p n : Nat} (hp : p ∈ ps) (hn : n < 13) : manyAt p n = lawCount p n := by
  rw [many_tab hp hn, law_tab hp hn]
  exact of_decide_eq_true (sums_ok hp hn)
theorem many_layer {p n : Nat} (hp : p ∈ ps) (hn : n < 5) : manyAt p n = ((layer p n).2.length : Int) := by
  rw [many_tab hp (by omega)]
  exact of_decide_eq_true (lays_ok hp hn)
end Wy

/-! rounds of each cost: contracts, and rounds as keys -/
namespace Dk
open PySem PySem.Spec PyProof.Rows L2
def nkPair (y : Int × Int) : NestedKey := .tup [.num y.1, .num y.2]
def nkPat (x : Pt.Pat) : NestedKey := .tup (x.map nkPair)
def nkR (r : Rd.R) : NestedKey := .tup [.num r.1, nkPat r.2]
theorem nkDs_map {α : Type} {f : α → PyData} {g : α → NestedKey} (h : ∀ a, nkD (f a) = some (g a)) : ∀ xs : List α, nkDs (xs.map f) = some (xs.map g)
  | [] => rfl
  | a :: r => by
    show nkDs (f a :: r.map f) = _
    unfold nkDs
    rw [h a, nkDs_map h r]
    rfl
theorem nkD_pat (x : Pt.Pat) : nkD (ePat x) = some (nkPat x) := by
  show (nkDs (x.map ePair)).map NestedKey.tup = _
  rw [nkDs_map (g := nkPair) fun a => rfl]
  rfl
theorem nkD_round (r : Rd.R) : nkD (eRound r) = some (nkR r) := by
  show (nkDs [.int r.1, ePat r.2]).map NestedKey.tup = _
  unfold nkDs nkDs
  rw [nkD_pat]
  rfl
theorem nkPair_inj {a b : Int × Int} (h : nkPair a = nkPair b) : a = b := by
  unfold nkPair at h
  simp only [NestedKey.tup.injEq, List.cons.injEq, NestedKey.num.injEq, and_true] at h
  exact Prod.ext h.1 h.2
theorem nkPat_inj {x y : Pt.Pat} (h : nkPat x = nkPat y) : x = y := by
  unfold nkPat at h
  simp only [NestedKey.tup.injEq] at h
  have : ∀ {a b : List (Int × Int)}, a.map nkPair = b.map nkPair → a = b := fun {a} => by
    induction a with
    | nil => intro b e; cases b with
      | nil => rfl
      | cons _ _ => cases e
    | cons u r ih => intro b e; cases b with
      | nil => cases e
      | cons v s =>
        simp only [List.map_cons, List.cons.injEq] at e
        rw [nkPair_inj e.1, ih e.2]
  exact this h
theorem nkR_inj {a b : Rd.R} (h : nkR a = nkR b) : a = b := by
  unfold nkR at h
  simp only [NestedKey.tup.injEq, List.cons.injEq, NestedKey.num.injEq, and_true] at h
  exact Prod.ext h.1 (nkPat_inj h.2)
theorem depthAll_le {α : Type} {g : α → NestedKey} {n : Nat} (h : ∀ a, (g a).depth ≤ n) : ∀ xs : List α, NestedKey.depthAll (xs.map g) ≤ n
  | [] => Nat.zero_le _
  | a :: r => by
    show NestedKey.depthAll (g a :: r.map g) ≤ n
    unfold NestedKey.depthAll
    have := h a
    have := depthAll_le h r
    omega
theorem nkR_depth (r : Rd.R) : (nkR r).depth ≤ 8 := by
  have := depthAll_le (g := nkPair) (n := 1) (fun a => by show NestedKey.depthAll [.num a.1, .num a.2] + 1 ≤ 1; simp [NestedKey.depthAll, NestedKey.depth]) r.2
  show NestedKey.depthAll [.num r.1, nkPat r.2] + 1 ≤ 8
  unfold NestedKey.depthAll NestedKey.depthAll NestedKey.depthAll
  show max 0 (max (NestedKey.depthAll (r.2.map nkPair) + 1) 0) + 1 ≤ 8
  omega
/-- the dict's keys are those rounds -/
def KeysR (kvs : ND) (ks : List Rd.R) : Prop := kvs.map (·.1) = ks.map nkR
theorem KeysR.len {kvs : ND} {ks : List Rd.R} (h : KeysR kvs ks) : kvs.length = ks.length := by simpa using congrArg List.length h
theorem KeysR.at_ {kvs : ND} {ks : List Rd.R} (h : KeysR kvs ks) (x : Rd.R) : (atK kvs (nkR x)).isSome = decide (x ∈ ks) := by
  have : (atK kvs (nkR x)).isSome = true ↔ x ∈ ks := by
    rw [atK_mem, h, List.mem_map]
    exact ⟨fun ⟨y, hy, e⟩ => nkR_inj e ▸ hy, fun hx => ⟨x, hx, rfl⟩⟩
  by_cases c : x ∈ ks
  · rw [decide_eq_true c, this.mpr c]
  · rw [decide_eq_false c]
    cases e : (atK kvs (nkR x)).isSome with
    | false => rfl
    | true => exact absurd (this.mp e) c
theorem KeysR.put {kvs : ND} {ks : List Rd.R} (h : KeysR kvs ks) {x : Rd.R} (c : x ∉ ks) (d : PyData) : KeysR (putKD kvs (nkR x) d) (ks ++ [x]) := by
  unfold KeysR
  rw [putKD_keys, h, if_neg, List.map_append]
  · rfl
  · rw [List.mem_map]
    exact fun ⟨y, hy, e⟩ => c (nkR_inj e ▸ hy)
def InP (P : Nat) : Prop := P ∈ Wy.ps
theorem InP.le {P : Nat} (h : InP P) : 2 ≤ P ∧ P ≤ 7 := by
  unfold InP Wy.ps at h
  simp at h
  omega
theorem inP_of {p : Int} (h : GoodP p) : ∃ P : Nat, p = (P : Int) ∧ InP P := by
  rcases h with rfl | rfl | rfl | rfl
  · exact ⟨2, rfl, by show 2 ∈ Wy.ps; decide⟩
  · exact ⟨3, rfl, by show 3 ∈ Wy.ps; decide⟩
  · exact ⟨5, rfl, by show 5 ∈ Wy.ps; decide⟩
  · exact ⟨7, rfl, by show 7 ∈ Wy.ps; decide⟩
def eIs (xs : List Int) : List PyData := xs.map .int
def cPrices : List PyData → (OD → Prop) → Prop := fun ds Qd => ∃ (P : Nat) (lit : Bool), ds = [.int P, .bool lit] ∧ InP P ∧ Qd (.lst (eIs (Wy.prices P lit)))
def cSpread : List PyData → (OD → Prop) → Prop := fun ds Qd => ∃ (xs more : List Int) (n : Nat), ds = [.list (eIs xs), .list (eIs more), .int n] ∧ n ≤ 12 ∧ xs.length ≤ 13 ∧ more.length ≤ 4 ∧ (∀ y ∈ more, 0 ≤ y ∧ y ≤ 7) ∧ Qd (.lst (eIs (Wy.spread xs more n)))
def cSpreads : List PyData → (OD → Prop) → Prop := fun ds Qd => ∃ (P n : Nat), ds = [.int P, .int n] ∧ InP P ∧ n ≤ 12 ∧ ∀ kvs : List (List Key × PyData), (∀ lit f : Nat, lit < 3 → f < n + 2 → valD kvs [.inl (lit : Int), .inl (f : Int)] = some (.list (eIs (Wy.freeRow P n lit f)))) → Qd (.dT kvs)
def cMany : List PyData → (PyData → Prop) → Prop := fun ds Qd => ∃ (P n : Nat), ds = [.int P, .int n] ∧ InP P ∧ n ≤ 12 ∧ Qd (.int (Wy.manyAt P n))
def cLPats : List PyData → (PyData → Prop) → Prop := fun ds Qd => ∃ (P free tips c : Nat), ds = [.int P, .int free, .int tips, .int c] ∧ InP P ∧ free ≤ 13 ∧ tips ≤ 2 ∧ c ≤ 12 ∧ Qd (.int (Wy.lawPat P free tips c))
def cLCount : List PyData → (PyData → Prop) → Prop := fun ds Qd => ∃ (P n : Nat), ds = [.int P, .int n] ∧ InP P ∧ n ≤ 12 ∧ Qd (.int (Wy.lawCount P n))
def cLLayer : List PyData → (PyData → Prop) → Prop := fun ds Qd => ∃ (P n : Nat), ds = [.int P, .int n] ∧ InP P ∧ n ≤ 4 ∧ Qd (.int ((Wy.layer P n).2.length : Int))
/-! lengths -/
theorem inc_len (xs : List Int) (i : Nat) (v : Int) : (Wy.inc xs i v).length = xs.length := List.length_set ..
theorem pricesTo_len (P : Nat) (lit : Bool) : ∀ k, (Wy.pricesTo P lit k).length = P / 2 + 1
  | 0 => by unfold Wy.pricesTo; rw [List.length_replicate]
  | k + 1 => by
    unfold Wy.pricesTo
    split
    · rw [inc_len, pricesTo_len P lit k]
    · exact pricesTo_len P lit k
theorem spreadIn_len (xs more : List Int) (n c : Nat) (row : List Int) : ∀ e, (Wy.spreadIn xs more n c row e).length = row.length
  | 0 => rfl
  | e + 1 => by
    unfold Wy.spreadIn
    split
    · rw [inc_len, spreadIn_len xs more n c row e]
    · exact spreadIn_len xs more n c row e
theorem spreadTo_len (xs more : List Int) (n : Nat) : ∀ c, (Wy.spreadTo xs more n c).length = n + 1
  | 0 => by unfold Wy.spreadTo; rw [List.length_replicate]
  | c + 1 => by
    unfold Wy.spreadTo
    rw [spreadIn_len, spreadTo_len xs more n c]
theorem tipRow_len (P n : Nat) : ∀ k, (Wy.tipRow P n k).length ≤ n + 1
  | 0 => by show 1 ≤ n + 1; omega
  | k + 1 => by unfold Wy.tipRow Wy.spread; rw [spreadTo_len]; exact Nat.le_refl _
theorem freeRow_len (P n lit : Nat) : ∀ f, (Wy.freeRow P n lit f).length ≤ n + 1
  | 0 => tipRow_len P n lit
  | f + 1 => by unfold Wy.freeRow Wy.spread; rw [spreadTo_len]; exact Nat.le_refl _
theorem prices_small {P : Nat} (h : InP P) (lit : Bool) : (Wy.prices P lit).length ≤ 4 ∧ ∀ y ∈ Wy.prices P lit, 0 ≤ y ∧ y ≤ 7 := by
  have : (Wy.ps.all fun P => [true, false].all fun lit => decide ((Wy.prices P lit).length ≤ 4) && (Wy.prices P lit).all fun y => decide (0 ≤ y ∧ y ≤ 7)) = true := by decide +kernel
  have a := List.all_eq_true.mp (List.all_eq_true.mp this P h) lit (by cases lit <;> simp)
  rw [Bool.and_eq_true] at a
  exact ⟨of_decide_eq_true a.1, fun y hy => of_decide_eq_true (List.all_eq_true.mp a.2 y hy)⟩
theorem lawIn_len (P c h lo : Nat) (row longer : List Int) : ∀ i, (Wy.lawIn P c h lo row longer i).length = longer.length
  | 0 => rfl
  | i + 1 => by
    unfold Wy.lawIn
    split
    · rw [inc_len, lawIn_len P c h lo row longer i]
    · exact lawIn_len P c h lo row longer i
theorem lawTo_len (P c lo : Nat) (row : List Int) : ∀ h, (Wy.lawTo P c lo row h).length = c + 1
  | 0 => by unfold Wy.lawTo; rw [List.length_replicate]
  | h + 1 => by
    unfold Wy.lawTo
    rw [lawIn_len, lawTo_len P c lo row h]
theorem lawRow_len (P tips c : Nat) : ∀ k, (Wy.lawRow P tips c k).length = c + 1
  | 0 => by unfold Wy.lawRow; rw [List.length_cons, List.length_replicate]
  | k + 1 => by unfold Wy.lawRow; rw [lawTo_len]
theorem is_at {xs : List Int} {i : Nat} (h : i < xs.length) : atI (eIs xs) (i : Int) = some (.int (Wy.at_ xs i)) := atI_nat (by
  unfold eIs Wy.at_
  rw [List.getElem?_map, List.getElem?_eq_getElem h, List.getD_eq_getElem?_getD, List.getElem?_eq_getElem h]
  rfl)
theorem is_set (xs : List Int) (i : Nat) (v : Int) : (eIs xs).set i (.int (Wy.at_ xs i + v)) = eIs (Wy.inc xs i v) := by
  unfold eIs Wy.inc
  rw [List.map_set]
theorem rep_is (n : Nat) : repD [.int 0] n = eIs (List.replicate n 0) := by
  unfold repD eIs
  rw [List.map_replicate]
  induction n with
  | zero => rfl
  | succ n ih => rw [List.replicate_succ, List.replicate_succ, List.flatten_cons, ih]; rfl
theorem is_len (xs : List Int) : (eIs xs).length = xs.length := List.length_map _
theorem price_nat {P s : Nat} (h : s < P) : Rd.price (P : Int) (s : Int) = ((Wy.price P s : Nat) : Int) := by
  unfold Rd.price Wy.price
  split <;> omega
theorem price_min {P s : Nat} (h : s < P) : (if (P : Int) - s < s then (P : Int) - s else s) = ((Wy.price P s : Nat) : Int) := price_nat h
theorem minI_price {P s : Nat} (h : s < P) : minI (s : Int) ((P : Int) - s) = ((Wy.price P s : Nat) : Int) := by
  unfold minI Wy.price
  split <;> omega
theorem is_ix {xs : List Int} {i : Nat} (h : i < xs.length) : ixN (eIs xs).length (i : Int) = some i := by
  unfold ixN
  rw [if_pos (by omega), if_pos (by rw [is_len]; omega), Int.toNat_natCast]
theorem price_le (P s : Nat) : Wy.price P s ≤ P / 2 := by unfold Wy.price; omega
/-! sizes of the layers -/
def Sz (a b l : Nat) (S : List Rd.R × List Rd.R) : Prop := S.1.length ≤ a ∧ S.2.length ≤ b ∧ ∀ x ∈ S.2, x.2.length ≤ l
theorem Sz.put {a b l : Nat} {S : List Rd.R × List Rd.R} (h : Sz a b l S) (p : Int) {one st : Rd.R} (hl : one.2.length + st.2.length ≤ l) : Sz (a + 1) (b + 1) l (Wy.put p one S st) := by
  obtain ⟨h1, h2, h3⟩ := h
  unfold Wy.put
  split
  · exact ⟨by omega, by omega, h3⟩
  · refine ⟨by show (_ ++ [_]).length ≤ _; rw [List.length_append, List.length_singleton]; omega, by show (_ ++ [_]).length ≤ _; rw [List.length_append, List.length_singleton]; omega, fun x hx => ?_⟩
    rcases List.mem_append.mp hx with z | z
    · exact h3 x z
    · rw [List.mem_singleton.mp z]
      exact Nat.le_trans (Rd.join_len p one st) hl
theorem Sz.all {a b l : Nat} {S : List Rd.R × List Rd.R} (h : Sz a b l S) (p : Int) {one : Rd.R} (hl : one.2.length + 1 ≤ l) : Sz (a + 4) (b + 4) l (Wy.putAll p S one) :=
  (((h.put p (st := (1, [])) (by show _ + 0 ≤ _; omega)).put p (st := (-1, [])) (by show _ + 0 ≤ _; omega)).put p (st := (0, [(0, 1)])) (by show _ + 1 ≤ _; omega)).put p (st := (0, [(0, p - 1)])) (by show _ + 1 ≤ _; omega)
theorem Sz.fold {l : Nat} (p : Int) : ∀ {ones : List Rd.R} {a b : Nat} {S : List Rd.R × List Rd.R}, Sz a b l S → (∀ one ∈ ones, one.2.length + 1 ≤ l) → Sz (a + 4 * ones.length) (b + 4 * ones.length) l (ones.foldl (Wy.putAll p) S)
  | [], _, _, _, h, _ => h
  | x :: r, a, b, S, h, hl => by
    have := Sz.fold p (h.all p (hl x List.mem_cons_self)) fun o ho => hl o (List.mem_cons_of_mem _ ho)
    rw [List.length_cons, show a + 4 * (r.length + 1) = a + 4 + 4 * r.length by omega, show b + 4 * (r.length + 1) = b + 4 + 4 * r.length by omega]
    exact this
theorem Sz.mono {a b l a' b' : Nat} {S : List Rd.R × List Rd.R} (h : Sz a b l S) (h1 : a ≤ a') (h2 : b ≤ b') : Sz a' b' l S := ⟨Nat.le_trans h.1 h1, Nat.le_trans h.2.1 h2, h.2.2⟩
theorem layer_sz (p : Int) : ∀ k, Sz (2 * 4 ^ k) (4 ^ k) k (Wy.layer p k)
  | 0 => ⟨by show 1 ≤ 2; decide, by show 1 ≤ 1; decide, fun x hx => by
    have : x ∈ [((0, []) : Rd.R)] := hx
    rw [List.mem_singleton.mp this]
    exact Nat.le_refl _⟩
  | k + 1 => by
    obtain ⟨h1, h2, h3⟩ := layer_sz p k
    have := Sz.fold (l := k + 1) p (ones := (Wy.layer p k).2) (S := ((Wy.layer p k).1, [])) (a := 2 * 4 ^ k) (b := 0) ⟨h1, Nat.zero_le _, fun x hx => nomatch hx⟩ fun o ho => by have := h3 o ho; omega
    rw [Nat.pow_succ]
    exact this.mono (by omega) (by omega)
/-! terms -/
theorem absI_is (e : Int) : absI e = (e.natAbs : Int) := by
  unfold absI
  first | rfl | (split <;> omega) | omega
theorem lit_int (e l h : Int) : (if decide (l < minI 0 e) = true then (1 : Int) else 0) + (if decide (maxI 0 e < h) = true then 1 else 0) = (Wy.litOf e l h : Int) := by
  have e1 : minI 0 e = min 0 e := by unfold minI; split <;> omega
  have e2 : maxI 0 e = max 0 e := by unfold maxI; split <;> omega
  simp only [decide_eq_true_eq]
  rw [e1, e2]
  unfold Wy.litOf
  by_cases a : l < min 0 e
  · by_cases b : max 0 e < h
    · rw [if_pos a, if_pos b, if_pos a, if_pos b]; rfl
    · rw [if_pos a, if_neg b, if_pos a, if_neg b]; rfl
  · by_cases b : max 0 e < h
    · rw [if_neg a, if_pos b, if_neg a, if_pos b]; rfl
    · rw [if_neg a, if_neg b, if_neg a, if_neg b]; rfl
theorem lit_le {e l h : Int} (h1 : l ≤ min 0 e) (h2 : max 0 e ≤ h) : (Wy.litOf e l h : Int) ≤ h - l := by
  unfold Wy.litOf
  split <;> split <;> omega
theorem lawTerm_yes {L : Nat → Nat → Nat → Int} {n d w c t : Nat} {e : Int} (ht : Wy.litOf e (-d) (w - d) = t) (hc : (n : Int) - 2 * w + e.natAbs = c) (h : t ≤ c) : Wy.lawTerm L n d w e = L (w + 1 - t) t c := by
  unfold Wy.lawTerm
  rw [ht, hc, if_pos (by omega), Int.toNat_natCast]
theorem lawTerm_no {L : Nat → Nat → Nat → Int} {n d w t : Nat} {e : Int} (ht : Wy.litOf e (-d) (w - d) = t) (h : ¬ (t : Int) ≤ (n : Int) - 2 * w + e.natAbs) : Wy.lawTerm L n d w e = 0 := by
  unfold Wy.lawTerm
  rw [ht, if_neg h]
theorem term_yes {T : Nat → Nat → List Int} {n t f c : Nat} {e l h : Int} (ht : Wy.litOf e l h = t) (hf : h - l + 1 - t = f) (hc : (n : Int) - 2 * (h - l) + e.natAbs = c) (hl : c < (T t f).length) : Wy.term T n e l h = Wy.at_ (T t f) c := by
  unfold Wy.term Wy.leftOf
  rw [ht, hf, hc, Int.toNat_natCast, Int.toNat_natCast, if_pos ⟨by omega, by omega⟩]
theorem term_no {T : Nat → Nat → List Int} {n t f : Nat} {e l h : Int} (ht : Wy.litOf e l h = t) (hf : h - l + 1 - t = f) (hl : ¬ (0 ≤ (n : Int) - 2 * (h - l) + e.natAbs ∧ (n : Int) - 2 * (h - l) + e.natAbs < (T t f).length)) : Wy.term T n e l h = 0 := by
  unfold Wy.term Wy.leftOf
  rw [ht, hf, Int.toNat_natCast, if_neg hl]
def cH (p n d i k : Nat) : Int := Wy.lawTerm (Wy.lawPat p) n d (d + i) (-(d : Int) + k)
def cG (p n d i : Nat) : Int := Wy.sumN (cH p n d i) (d + i + 1)
def cF (p n d : Nat) : Int := Wy.sumN (cG p n d) (n + 1 - d)
theorem count_is (p n : Nat) : Wy.lawCount p n = Wy.sumN (cF p n) (n + 1) := rfl
def mH (p n i j k : Nat) : Int := Wy.term (Wy.freeRow p n) n (-(n : Int) + i) (-(n : Int) + j) (max 0 (-(n : Int) + i) + k)
def mG (p n i j : Nat) : Int := Wy.sumN (mH p n i j) (-(n : Int) + j + n + 1 - max 0 (-(n : Int) + i)).toNat
def mF (p n i : Nat) : Int := Wy.sumN (mG p n i) (min 0 (-(n : Int) + i) + 1 + n).toNat
theorem many_is (p n : Nat) : Wy.manyAt p n = Wy.sumN (mF p n) (n + 1 + n) := rfl
/-! dicts: put, then asked -/
theorem valD_put {κ : Type} [DecidableEq κ] (kvs : List (κ × PyData)) (k k' : κ) (v : PyData) : valD (putD kvs k v) k' = if k' = k then some v else valD kvs k' := by
  unfold valD putD
  by_cases ha : (kvs.any fun kv => decide (kv.1 = k)) = true
  · rw [if_pos ha, List.find?_map]
    have e : ((fun kv : κ × PyData => decide (kv.1 = k')) ∘ fun kv => if kv.1 = k then (kv.1, v) else kv) = fun kv => decide (kv.1 = k') := by
      funext kv
      show decide ((if kv.1 = k then (kv.1, v) else kv).1 = k') = _
      split <;> rfl
    rw [e]
    by_cases hk : k' = k
    · rw [if_pos hk]
      subst hk
      cases hf : kvs.find? fun kv => decide (kv.1 = k') with
      | none =>
        exfalso
        obtain ⟨x, hx, h2⟩ := List.any_eq_true.mp ha
        exact List.find?_eq_none.mp hf x hx h2
      | some kv =>
        have : kv.1 = k' := of_decide_eq_true (p := kv.1 = k') (List.find?_some (p := fun kv : κ × PyData => decide (kv.1 = k')) hf)
        show some (if kv.1 = k' then (kv.1, v) else kv).2 = some v
        rw [if_pos this]
    · rw [if_neg hk]
      cases hf : kvs.find? fun kv => decide (kv.1 = k') with
      | none => rfl
      | some kv =>
        have : kv.1 = k' := of_decide_eq_true (p := kv.1 = k') (List.find?_some (p := fun kv : κ × PyData => decide (kv.1 = k')) hf)
        show some (if kv.1 = k then (kv.1, v) else kv).2 = some kv.2
        rw [if_neg (by rw [this]; exact hk)]
  · rw [if_neg ha, List.find?_append]
    by_cases hk : k' = k
    · rw [if_pos hk]
      subst hk
      have : kvs.find? (fun kv => decide (kv.1 = k')) = none := List.find?_eq_none.mpr fun x hx h2 => ha (List.any_eq_true.mpr ⟨x, hx, h2⟩)
      rw [this, Option.none_or, List.find?_cons, decide_eq_true rfl]
      rfl
    · rw [if_neg hk]
      have : List.find? (fun kv : κ × PyData => decide (kv.1 = k')) [(k, v)] = none := by
        rw [List.find?_cons, decide_eq_false fun z => hk z.symm]
        rfl
      rw [this, Option.or_none]
theorem putD_len {κ : Type} [DecidableEq κ] (kvs : List (κ × PyData)) (k : κ) (v : PyData) : (putD kvs k v).length ≤ kvs.length + 1 := by
  unfold putD
  split
  · rw [List.length_map]; omega
  · rw [List.length_append]; exact Nat.le_refl _
/-- the counts that stand in the dict: all of the ways ahead of `lit`, and of `lit` those ahead of `f` -/
def WayD (P n lit f : Nat) (kvs : List (List Key × PyData)) : Prop := kvs.length ≤ lit * (n + 2) + f ∧ ∀ l g : Nat, (l < lit ∧ g < n + 2) ∨ (l = lit ∧ g < f) → valD kvs [.inl (l : Int), .inl (g : Int)] = some (.list (eIs (Wy.freeRow P n l g)))
theorem WayD.nil (P n : Nat) : WayD P n 0 0 [] := ⟨Nat.zero_le _, fun l g h => by omega⟩
theorem WayD.put {P n lit f : Nat} {kvs : List (List Key × PyData)} (h : WayD P n lit f kvs) : WayD P n lit (f + 1) (putD kvs [.inl (lit : Int), .inl (f : Int)] (.list (eIs (Wy.freeRow P n lit f)))) := by
  refine ⟨Nat.le_trans (putD_len _ _ _) (by have := h.1; omega), fun l g hg => ?_⟩
  rw [valD_put]
  by_cases e : l = lit ∧ g = f
  · obtain ⟨rfl, rfl⟩ := e
    rw [if_pos rfl]
  · rw [if_neg]
    · exact h.2 l g (by omega)
    · intro z
      simp only [List.cons.injEq, Sum.inl.injEq, and_true] at z
      omega
theorem WayD.next {P n lit : Nat} {kvs : List (List Key × PyData)} (h : WayD P n lit (n + 2) kvs) : WayD P n (lit + 1) 0 kvs := ⟨by rw [Nat.add_mul, Nat.one_mul]; exact h.1, fun l g hg => h.2 l g (by omega)⟩
end Dk

local macro_rules | `(tactic| walk_at "ss") => `(tactic| ((try dsimp only [L2.cxOf, List.map]); refine ⟨_, inferInstance, ?_⟩))
local macro_rules | `(tactic| walk_at "s1") => `(tactic| first
  | refine ⟨_, rfl, ?_⟩
  | refine ⟨rfl, ?_⟩
  | refine ⟨_, _, rfl, rfl, ?_⟩
  | refine ⟨_, _, _, rfl, rfl, rfl, ?_⟩
  | refine ⟨_, fun _ h => h, ?_⟩
  | refine L2.iteT ?_
  | refine L2.iteF ?_
  | refine ⟨_, rfl, Nat.le_of_ble_eq_true rfl, ?_⟩
  | refine ⟨_, _, _, rfl, rfl, by assumption, ?_⟩
  | refine ⟨.inr rfl, ?_⟩
  | refine ⟨.inl rfl, ?_⟩)
local macro_rules | `(tactic| walk_at "w") => `(tactic| repeat walk_at "s1")

local macro_rules | `(tactic| walk_at "ln") => `(tactic| ((try simp only [List.length_append, List.length_map, List.length_cons, List.length_nil, List.length_range, List.length_replicate, Dk.fm_map, Pt.moved_len]); first | exact Dk.small100000 (by omega) | exact Nat.le_of_lt (Dk.small100000 (by omega)) | omega))
local macro_rules | `(tactic| walk_at "sd") => `(tactic| first | assumption | omega | (walk_at "ln") | rfl | trivial | decide | exact Nat.le_of_ble_eq_true rfl | exact (Dk.ePat_shp _).ok | exact (Dk.eRound_shp _).ok | exact (Dk.ePairs_shp _).ok | exact (Dk.ePair_shp _).ok | exact (Dk.eNums_shp _).ok | exact (Dk.eList_shp _).ok | walk_at "ln" | (exact Or.inl ⟨by first | decide | omega, by first | decide | omega⟩) | (exact Or.inr ⟨by first | decide | omega, by first | decide | omega⟩) | (intro kvs hne; (cases hne; done)) | exact Or.inl rfl | exact Or.inr (by assumption))
local macro_rules | `(tactic| walk_at "g1") => `(tactic| first
  | refine ⟨_, rfl, ?_⟩
  | refine ⟨rfl, ?_⟩
  | refine ⟨.inl rfl, ?_⟩
  | refine ⟨.inr rfl, ?_⟩
  | refine ⟨_, .inl rfl, rfl, ?_⟩
  | refine ⟨_, .inr rfl, rfl, ?_⟩
  | refine ⟨_, _, rfl, rfl, ?_⟩
  | refine ⟨_, _, rfl, ?_⟩
  | refine ⟨_, _, _, rfl, rfl, rfl, ?_⟩
  | refine ⟨_, _, _, rfl, rfl, ?_⟩
  | refine ⟨_, _, _, rfl, ?_⟩
  | refine ⟨_, _, _, _, rfl, rfl, rfl, ?_⟩
  | refine ⟨_, _, _, _, rfl, rfl, ?_⟩
  | refine ⟨_, _, _, _, rfl, ?_⟩
  | refine ⟨_, _, _, _, _, rfl, ?_⟩
  | refine ⟨_, _, _, _, _, _, rfl, ?_⟩
  | refine ⟨_, fun _ h => h, ?_⟩
  | refine L2.iteT ?_
  | refine L2.iteF ?_
  | refine ⟨_, _, .inl rfl, ?_⟩
  | refine ⟨_, _, .inr rfl, ?_⟩
  | (refine And.intro ?_ ?_; (focus (walk_at "sd"))))
local macro_rules | `(tactic| walk_at "g") => `(tactic| repeat walk_at "g1")
local macro_rules | `(tactic| walk_at "h1") => `(tactic| first
  | refine ⟨_, rfl, ?_⟩
  | refine ⟨rfl, ?_⟩
  | refine ⟨.inl rfl, ?_⟩
  | refine ⟨.inr rfl, ?_⟩
  | refine ⟨_, .inl rfl, rfl, ?_⟩
  | refine ⟨_, .inr rfl, rfl, ?_⟩
  | refine ⟨_, _, rfl, rfl, ?_⟩
  | refine ⟨_, _, rfl, ?_⟩
  | refine ⟨_, _, _, rfl, rfl, rfl, ?_⟩
  | refine ⟨_, _, _, rfl, rfl, ?_⟩
  | refine ⟨_, _, _, rfl, ?_⟩
  | refine ⟨_, _, _, _, rfl, rfl, rfl, ?_⟩
  | refine ⟨_, _, _, _, rfl, rfl, ?_⟩
  | refine ⟨_, _, _, _, rfl, ?_⟩
  | refine ⟨_, _, _, _, _, rfl, ?_⟩
  | refine ⟨_, _, _, _, _, _, rfl, ?_⟩
  | refine L2.iteT ?_
  | refine L2.iteF ?_
  | refine ⟨_, _, .inl rfl, ?_⟩
  | refine ⟨_, _, .inr rfl, ?_⟩
  | (refine And.intro ?_ ?_; (focus (walk_at "sd"))))
local macro_rules | `(tactic| walk_at "h") => `(tactic| repeat walk_at "h1")
local macro_rules | `(tactic| walk_at "rf") => `(tactic| first
  | refine Dk.iteFb (by rw [(Dk.ePat_shp _).refl]; rfl) ?_
  | refine Dk.iteFb (by rw [(Dk.eRound_shp _).refl]; rfl) ?_
  | refine Dk.iteFb (by rw [(Dk.ePairs_shp _).refl]; rfl) ?_
  | refine Dk.iteFb (by rw [(Dk.eNums_shp _).refl]; rfl) ?_
  | refine Dk.iteFb (by rw [(Dk.eList_shp _).refl]; rfl) ?_
  | refine Dk.iteTb (by rw [(Dk.eNums_shp _).refl]; rfl) ?_
  | refine Dk.iteTb (by rw [(Dk.eList_shp _).refl]; rfl) ?_
  | refine Dk.iteTb (by rw [(Dk.ePat_shp _).refl]; rfl) ?_
  | refine Dk.iteTb (by rw [(Dk.eRound_shp _).refl]; rfl) ?_
  | refine Dk.iteTb (by rw [(Dk.ePairs_shp _).refl]; rfl) ?_)
namespace Law
open PySem PySem.Spec PyProof.Rows L2 Dk
def topS (i : Nat) : Stmt := PySem.Challenge.pw_duskround_k14_rounds_of_each_cost.main.body.getD i (.Pass ⟨0, 0, 0, 0⟩)
structure FnIn (K : Fg) (mg : Str → Option Value) (x : Str) (st : Stmt) (ps : List Str) where
  f : Addr
  fd : FuncData
  F : L2.Fun K x x st f fd
  b : Binds K fd ps []
  m : mg x = some (.ref f)
abbrev sPrice : Stmt := topS 1
abbrev nPrice : List Str := ["p", "setting"]
theorem scPrice : FnScope nPrice ["p", "setting"] (defScope sPrice) := ⟨rfl, rfl, rfl, by decide +kernel, rfl, by decide +kernel, by decide +kernel⟩
abbrev sPrices : Stmt := topS 2
abbrev nPrices : List Str := ["p", "lit", "counts", "setting"]
theorem scPrices : FnScope nPrices ["p", "lit"] (defScope sPrices) := ⟨rfl, rfl, rfl, by decide +kernel, rfl, by decide +kernel, by decide +kernel⟩
abbrev sSpread : Stmt := topS 3
abbrev nSpread : List Str := ["counts", "more", "n", "row", "cost", "extra"]
theorem scSpread : FnScope nSpread ["counts", "more", "n"] (defScope sSpread) := ⟨rfl, rfl, rfl, by decide +kernel, rfl, by decide +kernel, by decide +kernel⟩
abbrev sSpreads : Stmt := topS 4
abbrev nSpreads : List Str := ["p", "n", "ways", "lit", "row", "k", "free"]
theorem scSpreads : FnScope nSpreads ["p", "n"] (defScope sSpreads) := ⟨rfl, rfl, rfl, by decide +kernel, rfl, by decide +kernel, by decide +kernel⟩
abbrev sMany_at : Stmt := topS 5
abbrev nMany_at : List Str := ["p", "n", "ways", "total", "end", "low", "high", "left", "lit", "counts"]
theorem scMany_at : FnScope nMany_at ["p", "n"] (defScope sMany_at) := ⟨rfl, rfl, rfl, by decide +kernel, rfl, by decide +kernel, by decide +kernel⟩
abbrev sL_begin : Stmt := topS 7
abbrev nL_begin : List Str := ["_law_script"]
theorem scL_begin : FnScope nL_begin ["_law_script"] (defScope sL_begin) := ⟨rfl, rfl, rfl, by decide +kernel, rfl, by decide +kernel, by decide +kernel⟩
abbrev sL_take : Stmt := topS 8
abbrev nL_take : List Str := ["_law_draw", "_law_many", "_law_number", "_law_got"]
theorem scL_take : FnScope nL_take ["_law_draw", "_law_many"] (defScope sL_take) := ⟨rfl, rfl, rfl, by decide +kernel, rfl, by decide +kernel, by decide +kernel⟩
abbrev sL_p : Stmt := topS 9
abbrev nL_p : List Str := ["_law_draw"]
theorem scL_p : FnScope nL_p ["_law_draw"] (defScope sL_p) := ⟨rfl, rfl, rfl, by decide +kernel, rfl, by decide +kernel, by decide +kernel⟩
abbrev sL_tidy : Stmt := topS 10
abbrev nL_tidy : List Str := ["_law_p_here", "_law_pairs", "_law_sums", "_law_place", "_law_setting"]
theorem scL_tidy : FnScope nL_tidy ["_law_p_here", "_law_pairs"] (defScope sL_tidy) := ⟨rfl, rfl, rfl, by decide +kernel, rfl, by decide +kernel, by decide +kernel⟩
abbrev sL_sum : Stmt := topS 11
abbrev nL_sum : List Str := ["_law_p_here", "_law_one", "_law_other", "_law_by", "_law_many", "_law_place", "_law_setting"]
theorem scL_sum : FnScope nL_sum ["_law_p_here", "_law_one", "_law_other", "_law_by", "_law_many"] (defScope sL_sum) := ⟨rfl, rfl, rfl, by decide +kernel, rfl, by decide +kernel, by decide +kernel⟩
abbrev sL_join : Stmt := topS 12
abbrev nL_join : List Str := ["_law_p_here", "_law_one", "_law_other"]
theorem scL_join : FnScope nL_join ["_law_p_here", "_law_one", "_law_other"] (defScope sL_join) := ⟨rfl, rfl, rfl, by decide +kernel, rfl, by decide +kernel, by decide +kernel⟩
abbrev sL_int : Stmt := topS 13
abbrev nL_int : List Str := ["_law_thing"]
theorem scL_int : FnScope nL_int ["_law_thing"] (defScope sL_int) := ⟨rfl, rfl, rfl, by decide +kernel, rfl, by decide +kernel, by decide +kernel⟩
abbrev sL_patterns : Stmt := topS 14
abbrev nL_patterns : List Str := ["_law_p_here", "_law_free", "_law_tips", "_law_cost", "_law_row", "_law_k", "_law_longer", "_law_have", "_law_setting", "_law_more"]
theorem scL_patterns : FnScope nL_patterns ["_law_p_here", "_law_free", "_law_tips", "_law_cost"] (defScope sL_patterns) := ⟨rfl, rfl, rfl, by decide +kernel, rfl, by decide +kernel, by decide +kernel⟩
abbrev sL_count : Stmt := topS 15
abbrev nL_count : List Str := ["_law_p_here", "_law_n", "_law_total", "_law_down", "_law_wide", "_law_end", "_law_left", "_law_tips"]
theorem scL_count : FnScope nL_count ["_law_p_here", "_law_n"] (defScope sL_count) := ⟨rfl, rfl, rfl, by decide +kernel, rfl, by decide +kernel, by decide +kernel⟩
abbrev sL_layer : Stmt := topS 16
abbrev nL_layer : List Str := ["_law_p_here", "_law_n", "_law_seen", "_law_layer_here", "_law_k", "_law_fresh", "_law_one", "_law_step", "_law_there"]
theorem scL_layer : FnScope nL_layer ["_law_p_here", "_law_n"] (defScope sL_layer) := ⟨rfl, rfl, rfl, by decide +kernel, rfl, by decide +kernel, by decide +kernel⟩
abbrev sLaw : Stmt := topS 17
abbrev nLaw : List Str := ["_law_script", "_law_draw", "_law_p_here", "_law_n", "_law_found", "_law_few"]
theorem scLaw : FnScope nLaw ["_law_script"] (defScope sLaw) := ⟨rfl, rfl, rfl, by decide +kernel, rfl, by decide +kernel, by decide +kernel⟩
structure Txt (K : Fg) (mg : Str → Option Value) where
  price : FnIn K mg "price" sPrice ["p", "setting"]
  prices : FnIn K mg "prices" sPrices ["p", "lit"]
  spread : FnIn K mg "spread" sSpread ["counts", "more", "n"]
  spreads : FnIn K mg "spreads" sSpreads ["p", "n"]
  many_at : FnIn K mg "many_at" sMany_at ["p", "n"]
  l_begin : FnIn K mg "_law_begin" sL_begin ["_law_script"]
  l_take : FnIn K mg "_law_take" sL_take ["_law_draw", "_law_many"]
  l_p : FnIn K mg "_law_p" sL_p ["_law_draw"]
  l_tidy : FnIn K mg "_law_tidy" sL_tidy ["_law_p_here", "_law_pairs"]
  l_sum : FnIn K mg "_law_sum" sL_sum ["_law_p_here", "_law_one", "_law_other", "_law_by", "_law_many"]
  l_join : FnIn K mg "_law_join" sL_join ["_law_p_here", "_law_one", "_law_other"]
  l_int : FnIn K mg "_law_int" sL_int ["_law_thing"]
  l_patterns : FnIn K mg "_law_patterns" sL_patterns ["_law_p_here", "_law_free", "_law_tips", "_law_cost"]
  l_count : FnIn K mg "_law_count" sL_count ["_law_p_here", "_law_n"]
  l_layer : FnIn K mg "_law_layer" sL_layer ["_law_p_here", "_law_n"]
  zabs : mg "abs" = none
  zbool : mg "bool" = none
  zint : mg "int" = none
  zisinstance : mg "isinstance" = none
  zlen : mg "len" = none
  zlist : mg "list" = none
  zmax : mg "max" = none
  zmin : mg "min" = none
  zrange : mg "range" = none
  zsorted : mg "sorted" = none
  ztuple : mg "tuple" = none
end Law
namespace Law
open PySem PySem.Spec PyProof.Rows L2 Dk
section
variable {P : Program} {w : World} {K : Fg} {mg : Str → Option Value} {base : Heap}
set_option maxHeartbeats 4000000 in
theorem ok_price (T : Txt K mg) : FnOk P w K mg base CX0 1 T.price.f T.price.fd ["p", "setting"] (PureSp K cPrice) := by
  refine pure_ok T.price.F scPrice (fun ds Qd h => by obtain ⟨p, a, rfl, _⟩ := h; rfl) fun cdv A outer s H E hr => ?_
  refine ⟨_, (pss_one (ps_ret (pe_callB (b_min2 rfl) (by rfl) T.zmin (by decide +kernel) (pa_cons (pv 1) (pa_cons (pe_op op_sub (pv 0) (pv 1)) pa_nil))))), ?_⟩
  walk_at "ss"
  rintro ds Qd ⟨p, s, rfl, q⟩
  refine ⟨[.sh (.int p), .sh (.int s)], .cons (.inr ⟨rfl, rfl⟩) (.cons (.inr ⟨rfl, rfl⟩) .nil), ?_⟩
  walk_at "g"
  exact q

end
end Law
namespace Law
open PySem PySem.Spec PyProof.Rows L2 Dk
section
variable {P : Program} {w : World} {K : Fg} {mg : Str → Option Value} {base : Heap}
set_option maxHeartbeats 4000000 in
theorem ok_spread (T : Txt K mg) : FnOk P w K mg base CX0 1 T.spread.f T.spread.fd ["counts", "more", "n"] (FreshSp K cSpread) := by
  refine fresh_ok T.spread.F scSpread (fun ds Qd h => by obtain ⟨xs, more, n, rfl, _⟩ := h; rfl) fun cdv A outer s H E hr => ?_
  refine ⟨_, (pss_cons (ps_set (i := 3) scSpread.nd rfl (.inl rfl) (pe_op op_rep (pe_lst (pa_cons pe_int pa_nil)) (pe_op op_add (pv 2) pe_int)))
        (pss_cons (ps_for PassesOwn.never rfl (pi_range1 rfl T.zrange (pa_cons (pe_callB (klen K) (by rfl) T.zlen (by decide +kernel) (pa_cons (pv 0) pa_nil)) pa_nil)) (pg_name (i := 4) scSpread.nd rfl (.inl rfl)) (pss_one (ps_for PassesOwn.never rfl (pi_range1 rfl T.zrange (pa_cons (pe_callB (klen K) (by rfl) T.zlen (by decide +kernel) (pa_cons (pv 1) pa_nil)) pa_nil)) (pg_name (i := 5) scSpread.nd rfl (.inl rfl)) (pss_one (ps_if (pt_cmpR op_le (pe_op op_add (pv 4) (pv 5)) (pv 2) (nomark _)) (pss_one (ps_augS (pv 3) (pe_op op_add (pv 4) (pv 5)) (kgetL K) (pe_op op_mul (pe_ix (kixL K) (pv 0) (pv 4) (fun _ _ => rfl)) (pe_ix (kixL K) (pv 1) (pv 5) (fun _ _ => rfl))) ip_add set_list)) pss_nil)))))
        (pss_one (ps_ret (pv 3))))), ?_⟩
  walk_at "ss"
  rintro ds Qd ⟨xs, more, n, rfl, n12, lx, lm, hm, q⟩
  refine ⟨[.ar (.list (eIs xs)), .ar (.list (eIs more)), .sh (.int n)], .cons (.inl rfl) (.cons (.inl rfl) (.cons (.inr ⟨rfl, rfl⟩) .nil)), ?_⟩
  have l1 := is_len xs
  have l2 := is_len more
  have e1 : ((n : Int) + 1).toNat = n + 1 := by omega
  walk_at "h"
  refine ⟨_, _, _, rfl, ⟨_, rfl, by rw [l1]; omega, by rw [l1]; omega, rfl, rfl⟩, fun k Γ => ∃ y4 y5 : Sl, Γ = [.ar (.list (eIs xs)), .ar (.list (eIs more)), .sh (.int n), .ow (.lst (eIs (Wy.spreadTo xs more n k))), y4, y5], ⟨.no, .no, by rw [e1, rep_is]; rfl⟩, ?_, ?_⟩
  · rintro k Γ hk ⟨y4, y5, rfl⟩
    have hk1 : k < xs.length := by omega
    rw [Int.zero_add]
    walk_at "h"
    refine ⟨_, _, _, rfl, ⟨_, rfl, by rw [l2]; omega, by rw [l2]; omega, rfl, rfl⟩, fun e Γ => ∃ y5 : Sl, Γ = [.ar (.list (eIs xs)), .ar (.list (eIs more)), .sh (.int n), .ow (.lst (eIs (Wy.spreadIn xs more n k (Wy.spreadTo xs more n k) e))), .sh (.int k), y5], ⟨_, rfl⟩, ?_, ?_⟩
    · rintro e Γ he ⟨y5, rfl⟩
      have he1 : e < more.length := by omega
      rw [Int.zero_add]
      walk_at "g"
      have ln : (Wy.spreadIn xs more n k (Wy.spreadTo xs more n k) e).length = n + 1 := by rw [spreadIn_len, spreadTo_len]
      refine ite2b (fun hz => ?_) fun hz => ?_
      · have hz' : k + e ≤ n := by have := of_decide_eq_true hz; omega
        have st : Wy.spreadIn xs more n k (Wy.spreadTo xs more n k) (e + 1) = Wy.inc (Wy.spreadIn xs more n k (Wy.spreadTo xs more n k) e) (k + e) (Wy.at_ xs k * Wy.at_ more e) := by show (if _ then _ else _) = _; rw [if_pos hz']
        generalize e3 : Wy.spreadIn xs more n k (Wy.spreadTo xs more n k) e = row at ln st
        have ha := is_at (xs := row) (i := k + e) (by omega)
        have hx := is_at (xs := xs) (i := k) hk1
        have hm1 := is_at (xs := more) (i := e) he1
        have hb := hm (Wy.at_ more e) (by unfold Wy.at_; rw [List.getD_eq_getElem?_getD, List.getElem?_eq_getElem he1]; exact List.getElem_mem _)
        have cm : CMul (Wy.at_ xs k) (Wy.at_ more e) := .inr ⟨by omega, by omega⟩
        have e4 : ((k : Int) + e) = ((k + e : Nat) : Int) := by omega
        walk_at "g"
        refine ⟨_, k + e, _, _, rfl, rfl, (by show atI _ ((k : Int) + e) = _; rw [e4]; exact ha), ?_⟩
        walk_at "g"
        refine ⟨_, _, _, rfl, rfl, hx, ?_⟩
        walk_at "g"
        refine ⟨_, _, _, rfl, rfl, hm1, ?_⟩
        walk_at "g"
        refine ⟨by rw [e4]; exact is_ix (by omega), ?_⟩
        exact ⟨.sh (.int e), by rw [st, ← is_set]; rfl⟩
      · have hz' : ¬ k + e ≤ n := by have := of_decide_eq_false hz; omega
        have sf : Wy.spreadIn xs more n k (Wy.spreadTo xs more n k) (e + 1) = Wy.spreadIn xs more n k (Wy.spreadTo xs more n k) e := by show (if _ then _ else _) = _; rw [if_neg hz']
        exact ⟨.sh (.int e), by rw [sf]; rfl⟩
    · rintro Γ ⟨y5, rfl⟩
      refine ⟨.sh (.int k), y5, ?_⟩
      rw [l2, Int.toNat_natCast]
      rfl
  · rintro Γ ⟨y4, y5, rfl⟩
    rw [l1, Int.toNat_natCast]
    walk_at "h"
    exact q

end
end Law
namespace Law
open PySem PySem.Spec PyProof.Rows L2 Dk
section
variable {P : Program} {w : World} {K : Fg} {mg : Str → Option Value} {base : Heap}
set_option maxHeartbeats 4000000 in
theorem ok_l_begin (T : Txt K mg) : FnOk P w K mg base CX0 1 T.l_begin.f T.l_begin.fd ["_law_script"] (spBegin K) := by
  refine T.l_begin.F.ok scL_begin (fun vs H Q E h => ?_) (fun cdv A outer s H vs Q E hr h => ?_)
  · obtain ⟨a, ns, rfl, _⟩ := h
    rfl
  · obtain ⟨a, ns, rfl, hS, q⟩ := h
    refine ⟨_, (pss_one (ps_ret (pe_lst (pa_cons (pe_callTy (klist K) (by rfl) T.zlist (by decide +kernel) (pa_cons (pe_slice (kslL K) (pv 0) po_none (po_some pe_int)) pa_nil)) (pa_cons pe_int (pa_cons pe_int (pa_cons pe_int pa_nil))))))), ?_⟩
    refine ⟨.ref a, rfl, 63, rfl, a, _, rfl, hS, fun c nc => ?_⟩
    have s1 : Same H (upd H c (.lst (cutV (ns.map V.int) none (some 63)))) := same_new nc
    refine ⟨c, _, rfl, .inl (SqL.of upd_same), fun l nl => ?_⟩
    have s2 := s1.trans (same_new (o := .lst (cutV (ns.map V.int) none (some 63))) nl)
    refine ⟨by show 4 ≤ sizeLine; decide, fun p np => ?_⟩
    have s3 := s2.trans (same_new (o := .lst [.ref l, .int 0, .int 0, .int 11]) np)
    have npl : p ≠ l := fun z => by
      rw [z, upd_same] at np
      cases np
    refine q p [p, l] _ s3 (fun x hx => ?_) ⟨l, (ns.map fun n => n).take 63, 0, 0, 11, rfl, npl, upd_same, ?_, by decide, by decide⟩
    · simp only [List.mem_cons, List.not_mem_nil, or_false] at hx
      rcases hx with rfl | rfl
      · exact s2.free np
      · exact s1.free nl
    · rw [upd_ne npl.symm, upd_same]
      congr 2
      unfold cutV
      rw [HT.sIx_none, show HT.sIx (ns.map V.int).length (ns.map V.int).length (some 63) = min 63 (ns.map V.int).length from HT.sIx_nat _ _ 63]
      simp [List.map_take]

end
end Law
namespace Law
open PySem PySem.Spec PyProof.Rows L2 Dk
section
variable {P : Program} {w : World} {K : Fg} {mg : Str → Option Value} {base : Heap}
set_option maxHeartbeats 4000000 in
theorem ok_l_take (T : Txt K mg) : FnOk P w K mg base CX0 1 T.l_take.f T.l_take.fd ["_law_draw", "_law_many"] (RefSp K IsDraw cTake) := by
  refine T.l_take.F.ok scL_take (fun vs H Q E h => ?_) (fun cdv A outer s H vs Q E hr h => ?_)
  · obtain ⟨p, f, us, ds, Qd, rfl, _, h1, ⟨m, rfl, _⟩, _⟩ := h
    rw [List.length_cons, h1.length]
    rfl
  · obtain ⟨p, f, us, ds, Qd, rfl, hI, h1, ⟨m, rfl, m0, m1, q⟩, k⟩ := h
    obtain rfl := ints1 h1
    obtain ⟨l, ns, pos, left, seed, rfl, ne, hp, hl, b1, b2⟩ := hI
    have fin : ∀ (pos left seed r : Int) (H' : Hp), 0 ≤ pos → 0 ≤ left → 0 ≤ r → r < m → (∀ a o, a ∉ [p, l] → H a = some o → H' a = some o) → H' p = some (.lst [.ref l, .int pos, .int left, .int seed]) → H' l = some (.lst (ns.map V.int)) → Q (.int r) H' := fun pos left seed r H' c1 c2 c3 c4 fr g1 g2 =>
      k (.int r) H' (.int r) fr ⟨l, ns, pos, left, seed, rfl, ne, g1, g2, c1, c2⟩ (.int r) (q r c3 c4)
    have put : ∀ {H' : Hp} {o : HO}, (∀ a o, a ∉ [p, l] → H a = some o → H' a = some o) → ∀ a u, a ∉ [p, l] → H a = some u → (upd H' p o) a = some u := fun {H' o} fr a u na e => by
      rw [upd_ne (fun z => na (by simp [z]))]
      exact fr a u na e
    have putl : ∀ {H' : Hp} {o : HO}, H' l = some (.lst (ns.map V.int)) → (upd H' p o) l = some (.lst (ns.map V.int)) := fun {H' o} e => by
      rw [upd_ne ne.symm]
      exact e
    obtain ⟨t2, ht2, tail⟩ : ∃ t2, PSs (cxOf CX0 P w K mg base nL_take "_law_take" (defScope sL_take) T.l_take.f cdv A outer s H E).nox (defBody sL_take).tail t2 ∧ ∀ (y2 y3 : Option V) (pos left seed : Int) (H' : Hp), 0 ≤ pos → 0 ≤ left → (∀ a o, a ∉ [p, l] → H a = some o → H' a = some o) → H' p = some (.lst [.ref l, .int pos, .int left, .int seed]) → H' l = some (.lst (ns.map V.int)) →
        t2 { nx := fun _ H' => Q .non H', rt := Q } [some (.ref p), some (.int m), y2, y3] H' := by
      refine ⟨_, (pss_cons (ps_if (pt_cmpR op_ge (pe_ix (kixL K) (pv 0) pe_int (fun _ _ => rfl)) (pv 1) (nomark _)) (pss_cons (ps_set (i := 3) scL_take.nd rfl (.inl rfl) (pe_op op_mod (pe_ix (kixL K) (pv 0) pe_int (fun _ _ => rfl)) (pv 1)))
        (pss_cons (ps_asg (pe_op op_fdiv (pe_ix (kixL K) (pv 0) pe_int (fun _ _ => rfl)) (pv 1)) (pg_sub (pv 0) pe_int set_list))
        (pss_one (ps_ret (pv 3))))) pss_nil)
        (pss_cons (ps_asg (pe_op op_mod (pe_op op_add (pe_op op_mul (pe_ix (kixL K) (pv 0) pe_int (fun _ _ => rfl)) pe_int) pe_int) pe_int) (pg_sub (pv 0) pe_int set_list))
        (pss_one (ps_ret (pe_op op_mod (pe_op op_fdiv (pe_ix (kixL K) (pv 0) pe_int (fun _ _ => rfl)) pe_int) (pv 1)))))), fun y2 y3 pos left seed H' c1 c2 fr g1 g2 => ?_⟩
      refine ⟨_, rfl, p, _, 2, _, rfl, rfl, SqL.of g1, rfl, _, rfl, _, _, rfl, rfl, _, rfl, ite2 (fun e1 => ?_) fun e1 => ?_⟩
      · refine ⟨_, rfl, p, _, 2, _, rfl, rfl, SqL.of g1, rfl, _, rfl, _, _, rfl, rfl, m0, ?_⟩
        refine ⟨_, rfl, p, _, 2, _, rfl, rfl, SqL.of g1, rfl, _, rfl, _, _, rfl, rfl, ⟨m0, m1⟩, _, rfl, p, _, 2, 2, rfl, rfl, g1, rfl, ?_⟩
        refine ⟨_, rfl, ?_⟩
        exact fin pos (left / m) seed _ _ c1 (Int.ediv_nonneg c2 (Int.le_of_lt m0)) (Int.emod_nonneg _ (by omega)) (Int.emod_lt_of_pos _ m0) (put fr) upd_same (putl g2)
      · refine ⟨_, rfl, p, _, 3, _, rfl, rfl, SqL.of g1, rfl, _, _, rfl, rfl, .inr ⟨by decide, by decide⟩, _, _, rfl, rfl, _, _, rfl, rfl, (by show (0 : Int) < 2147483647; decide), _, rfl, p, _, 3, 3, rfl, rfl, g1, rfl, ?_⟩
        refine ⟨_, rfl, p, _, 3, _, rfl, rfl, SqL.of upd_same, rfl, _, _, rfl, rfl, ⟨by decide, by decide⟩, _, rfl, _, _, rfl, rfl, m0, ?_⟩
        exact fin pos left _ _ _ c1 c2 (Int.emod_nonneg _ (by omega)) (Int.emod_lt_of_pos _ m0) (put fr) upd_same (putl g2)
    refine ⟨_, pss_cons (ps_if (PW.pt (pw_and (pt_cmpR op_lt (pe_ix (kixL K) (pv 0) pe_int (fun _ _ => rfl)) (pv 1) (nomark _)) (pw_and1 (pt_cmpR op_lt (pe_ix (kixL K) (pv 0) pe_int (fun _ _ => rfl)) (pe_callB (klen K) (by rfl) T.zlen (by decide +kernel) (pa_cons (pe_ix (kixL K) (pv 0) pe_int (fun _ _ => rfl)) pa_nil)) (nomark _))))) (pss_cons (ps_set (i := 2) scL_take.nd rfl (.inl rfl) (pe_ix (kixL K) (pe_ix (kixL K) (pv 0) pe_int (fun _ _ => rfl)) (pe_ix (kixL K) (pv 0) pe_int (fun _ _ => rfl)) (fun _ _ => rfl)))
        (pss_cons (ps_asg (pe_op op_add (pe_ix (kixL K) (pv 0) pe_int (fun _ _ => rfl)) pe_int) (pg_sub (pv 0) pe_int set_list))
        (pss_cons (ps_asg pe_int (pg_sub (pv 0) pe_int set_list))
        (pss_one (ps_if (pt_cmpR op_ge (pe_callB b_abs (by rfl) T.zabs (by decide +kernel) (pa_cons (pv 2) pa_nil)) (pe_op op_pow pe_int pe_int) (nomark _)) (pss_one (ps_asg (pe_callB b_abs (by rfl) T.zabs (by decide +kernel) (pa_cons (pv 2) pa_nil)) (pg_sub (pv 0) pe_int set_list))) (pss_one (ps_asg (pe_op op_mod (pe_op op_add (pe_op op_add (pe_op op_mul (pe_ix (kixL K) (pv 0) pe_int (fun _ _ => rfl)) pe_int) (pe_op op_mul (pe_op op_mod (pv 2) pe_int) pe_int)) pe_int) pe_int) (pg_sub (pv 0) pe_int set_list)))))))) pss_nil) ht2, ?_⟩
    have fr0 : ∀ a o, a ∉ [p, l] → H a = some o → H a = some o := fun _ _ _ e => e
    refine ⟨_, rfl, p, _, 2, _, rfl, rfl, SqL.of hp, rfl, _, rfl, _, _, rfl, rfl, _, rfl, ite2 (fun e1 => ?_) fun e1 => ?_⟩
    · refine ⟨_, rfl, p, _, 1, _, rfl, rfl, SqL.of hp, rfl, _, rfl, p, _, 0, _, rfl, rfl, SqL.of hp, rfl, l, _, rfl, .inl (SqL.of hl), _, _, rfl, rfl, _, rfl, ite2 (fun e2 => ?_) fun e2 => ?_⟩
      · have hlt : pos.toNat < ns.length := by
          have := of_decide_eq_true e2
          rw [List.length_map] at this
          omega
        obtain ⟨z, hat⟩ : ∃ z, atI (ns.map V.int) pos = some (.int z) := by
          have e : pos = (pos.toNat : Int) := by omega
          refine ⟨ns[pos.toNat], ?_⟩
          generalize pos.toNat = j at e hlt ⊢
          subst e
          exact atI_nat (by rw [List.getElem?_map, List.getElem?_eq_getElem hlt]; rfl)
        refine ⟨_, rfl, p, _, 0, _, rfl, rfl, SqL.of hp, rfl, _, rfl, p, _, 1, _, rfl, rfl, SqL.of hp, rfl, l, _, _, _, rfl, rfl, SqL.of hl, hat, ?_⟩
        refine ⟨_, rfl, p, _, 1, _, rfl, rfl, SqL.of hp, rfl, _, _, rfl, rfl, _, rfl, p, _, 1, 1, rfl, rfl, hp, rfl, ?_⟩
        refine ⟨_, rfl, p, _, 2, 2, rfl, rfl, upd_same, rfl, ?_⟩
        refine ⟨_, rfl, _, rfl, _, _, rfl, rfl, ⟨by decide, by decide, by decide⟩, _, _, rfl, rfl, _, rfl, ite2 (fun e3 => ?_) fun e3 => ?_⟩
        · refine ⟨_, rfl, _, rfl, _, rfl, p, _, 2, 2, rfl, rfl, upd_same, rfl, ?_⟩
          refine tail _ _ (pos + 1) _ seed _ (by omega) ?_ (put (put (put fr0))) upd_same (putl (putl (putl hl)))
          split <;> omega
        · refine ⟨_, rfl, p, _, 3, _, rfl, rfl, SqL.of upd_same, rfl, _, _, rfl, rfl, .inr ⟨by decide, by decide⟩, _, rfl, _, _, rfl, rfl, (by show (0 : Int) < 2147483629; decide), _, _, rfl, rfl, .inr ⟨by decide, by decide⟩, _, _, rfl, rfl, _, _, rfl, rfl, _, _, rfl, rfl, (by show (0 : Int) < 2147483647; decide), _, rfl, p, _, 3, 3, rfl, rfl, upd_same, rfl, ?_⟩
          exact tail _ _ (pos + 1) 0 _ _ (by omega) (by omega) (put (put (put fr0))) upd_same (putl (putl (putl hl)))
      · exact tail _ _ pos left seed H b1 b2 fr0 hp hl
    · exact tail _ _ pos left seed H b1 b2 fr0 hp hl

end
end Law
namespace Law
open PySem PySem.Spec PyProof.Rows L2 Dk
section
variable {P : Program} {w : World} {K : Fg} {mg : Str → Option Value} {base : Heap}
set_option maxHeartbeats 4000000 in
theorem ok_l_tidy (T : Txt K mg) : FnOk P w K mg base CX0 1 T.l_tidy.f T.l_tidy.fd ["_law_p_here", "_law_pairs"] (PureSp K cTidy) := by
  refine pure_ok T.l_tidy.F scL_tidy (fun ds Qd h => by obtain ⟨p, xs, rfl, _⟩ := h; rfl) fun cdv A outer s H E hr => ?_
  refine ⟨_, (pss_cons (ps_set (i := 2) scL_tidy.nd rfl (.inr rfl) pe_dnewK)
        (pss_cons (ps_for PassesOwn.never rfl (kpil K (pv 1)) (kpg K 2 rfl (pgs_cons (pg_name (i := 3) scL_tidy.nd rfl (.inl rfl)) (pgs_cons (pg_name (i := 4) scL_tidy.nd rfl (.inl rfl)) pgs_nil))) (pss_one (ps_dput (hu_of hr) (pv 2) (pv 3) (pe_op op_mod (pe_op op_add (pe_dget2 (hu_of hr) (pv 2) (pv 3) pe_int ⟨rfl, rfl, rfl, rfl⟩) (pv 4)) (pv 0)) rfl)))
        (pss_one (ps_ret (pe_callTy (ktuple K) (by rfl) T.ztuple (by decide +kernel) (pa_cons (pe_lc (own := [("_law_place", 3)]) rfl scL_tidy.nd (kpil K (pe_callB (b_sortDI rfl) (by rfl) T.zsorted (by decide +kernel) (pa_cons (pv 2) pa_nil))) (blkOk_by (own := [("_law_place", 3)]) (N := nL_tidy) (sc := defScope sL_tidy) (by decide +kernel)) (fun _ _ _ _ _ => (pg_name (i := 3) scL_tidy.nd rfl (.inl rfl) (.inr rfl))) (fun _ _ _ _ _ => pts_one (pt_cmpR op_gt (pe_dget (hu_of hr) (pv 2) (pv 3) (fun _ _ => rfl)) pe_int (nomark _))) (fun _ _ _ _ _ => (pe_tup (pa_cons (pv 3) (pa_cons (pe_dget (hu_of hr) (pv 2) (pv 3) (fun _ _ => rfl)) pa_nil))))) pa_nil)))))), ?_⟩
  walk_at "ss"
  rintro ds Qd ⟨p, xs, rfl, hp, hk, q⟩
  refine ⟨[.sh (.int p), .ar (ePairs xs)], .cons (.inr ⟨rfl, rfl⟩) (.cons (.inl rfl) .nil), ?_⟩
  -- the loop
  refine ⟨_, rfl, _, _, rfl, for_pre (f := ePair) (fun pre Γ => ∃ y3 y4, Γ = [.sh (.int p), .ar (ePairs xs), .ow (.dK (sumsD p pre)), y3, y4] ∧ y3.own? = none) ⟨.no, .no, rfl, rfl⟩ ?_ ?_⟩
  · rintro pre x post Γ e ⟨y3, y4, rfl, _⟩
    have hl : (sumsD p pre).length < sizeLine := by
      have h2 := Pt.keys_mono pre (x :: post)
      rw [← e] at h2
      unfold sumsD
      rw [List.length_map]
      exact small100000 (by omega)
    have hv := valD_map (Pt.keys pre) (fun k => .int (Pt.sumAt pre k % p)) x.1
    have ht := sums_turn (p := p) pre x
    refine ⟨_, rfl, rfl, _, _, rfl, ⟨_, rfl, _, _, rfl, ⟨_, rfl, rfl, ?_⟩⟩⟩
    refine ⟨rfl, _, rfl, _, _, rfl, rfl, fun h0 => ?_, fun d h0 => ?_⟩
    · replace h0 := hv.symm.trans h0
      have hm : x.1 ∉ Pt.keys pre := fun z => by rw [if_pos z] at h0; cases h0
      rw [if_neg hm] at ht
      refine ⟨_, rfl, _, _, rfl, rfl, _, rfl, _, _, rfl, rfl, hp, rfl, _, rfl, _, _, _, _, rfl, rfl, rfl, hl, ?_⟩
      exact ⟨.ar (.int x.1), .ar (.int x.2), congrArg (fun z => [Sl.sh (.int p), .ar (ePairs xs), .ow (.dK z), .ar (.int x.1), .ar (.int x.2)]) ht, rfl⟩
    · replace h0 := hv.symm.trans h0
      by_cases hm : x.1 ∈ Pt.keys pre
      · rw [if_pos hm] at h0 ht
        cases h0
        refine ⟨_, rfl, _, _, rfl, rfl, _, rfl, _, _, rfl, rfl, hp, rfl, _, rfl, _, _, _, _, rfl, rfl, rfl, hl, ?_⟩
        exact ⟨.ar (.int x.1), .ar (.int x.2), congrArg (fun z => [Sl.sh (.int p), .ar (ePairs xs), .ow (.dK z), .ar (.int x.1), .ar (.int x.2)]) ht, rfl⟩
      · rw [if_neg hm] at h0
        cases h0
  · rintro Γ ⟨y3, y4, rfl, h3⟩
    -- tuple([.. for place in sorted(sums) ..])
    refine ⟨Pt.keys xs, by show some ((sumsD p xs).map _) = _; unfold sumsD; rw [List.map_map]; rfl, Nat.le_of_lt (small100000 (by omega)), fun ys hperm hs => ⟨_, rfl, _, _, rfl, ?_, rfl, ?_, lc_map (f := PyData.int) (fun k => (Pt.pick p xs k).map ePair) (fun k hk2 P hP => ?_) ?_⟩⟩
    · simp [ownFree, h3]
    · rw [List.length_map, hperm.length_eq]
      exact Nat.le_of_lt (small100000 (by omega))
    · have hv := valD_map (Pt.keys xs) (fun k => .int (Pt.sumAt xs k % p)) k
      rw [if_pos (hperm.mem_iff.mp hk2)] at hv
      refine ⟨_, rfl, rfl, _, rfl, _, _, rfl, congrArg some hv, _, _, rfl, rfl, _, rfl, ?_⟩
      unfold Pt.pick at hP
      by_cases e0 : Pt.sumAt xs k % p = 0
      · rw [if_neg (by simp [e0])] at hP
        exact iteFb (by rw [e0]; rfl) hP
      · rw [if_pos e0] at hP
        have m1 := Int.emod_nonneg (Pt.sumAt xs k) (show p ≠ 0 by omega)
        exact iteTb (decide_eq_true (by omega)) ⟨_, rfl, rfl, _, rfl, _, _, rfl, congrArg some hv, _, rfl, Nat.le_of_ble_eq_true rfl, _, rfl, hP⟩
    · refine ⟨_, rfl, _, rfl, trivial, _, rfl, ?_⟩
      rw [ePair_pick, Pt.pick_pat hp hperm hs]
      exact q

end
end Law
namespace Law
open PySem PySem.Spec PyProof.Rows L2 Dk
section
variable {P : Program} {w : World} {K : Fg} {mg : Str → Option Value} {base : Heap}
set_option maxHeartbeats 4000000 in
theorem ok_l_int (T : Txt K mg) : FnOk P w K mg base CX0 1 T.l_int.f T.l_int.fd ["_law_thing"] (PureSp K cInt) := by
  refine pure_ok T.l_int.F scL_int (fun ds Qd h => by obtain ⟨d, rfl, _⟩ := h; rfl) fun cdv A outer s H E hr => ?_
  refine ⟨_, (pss_one (ps_ret (pe_and (pe_callB (kisi K) (by rfl) T.zisinstance (by decide +kernel) (pa_cons (pv 0) (pa_cons (pe_bltn (v := .ty "int") (by rfl) T.zint (by decide +kernel) rfl) pa_nil))) (pe_one (pe_not (pe_callB (kisi K) (by rfl) T.zisinstance (by decide +kernel) (pa_cons (pv 0) (pa_cons (pe_bltn (v := .ty "bool") (by rfl) T.zbool (by decide +kernel) rfl) pa_nil)))))))), ?_⟩
  walk_at "ss"
  rintro ds Qd ⟨d, rfl, nd, q⟩
  refine ⟨[.ar d], .cons (.inl rfl) .nil, ?_⟩
  cases d with
  | int i => exact ⟨_, rfl, _, true, rfl, kb_int_int, _, rfl, iteT ⟨_, rfl, _, false, rfl, kb_int_bool, _, rfl, _, rfl, q⟩⟩
  | bool i => exact ⟨_, rfl, _, true, rfl, kb_bool_int, _, rfl, iteT ⟨_, rfl, _, true, rfl, kb_bool_bool, _, rfl, _, rfl, q⟩⟩
  | none => exact ⟨_, rfl, _, false, rfl, kb_NoneType_int, _, rfl, iteF ⟨_, rfl, q⟩⟩
  | str i => exact ⟨_, rfl, _, false, rfl, kb_str_int, _, rfl, iteF ⟨_, rfl, q⟩⟩
  | list i => exact ⟨_, rfl, _, false, rfl, kb_list_int, _, rfl, iteF ⟨_, rfl, q⟩⟩
  | tuple i => exact ⟨_, rfl, _, false, rfl, kb_tuple_int, _, rfl, iteF ⟨_, rfl, q⟩⟩
  | dict kvs => exact absurd rfl (nd kvs)

end
end Law
namespace Law
open PySem PySem.Spec PyProof.Rows L2 Dk
section
variable {P : Program} {w : World} {K : Fg} {mg : Str → Option Value} {base : Heap}
set_option maxHeartbeats 4000000 in
theorem ok_l_patterns (T : Txt K mg) : FnOk P w K mg base CX0 1 T.l_patterns.f T.l_patterns.fd ["_law_p_here", "_law_free", "_law_tips", "_law_cost"] (PureSp K cLPats) := by
  refine pure_ok T.l_patterns.F scL_patterns (fun ds Qd h => by obtain ⟨p, free, tips, c, rfl, _⟩ := h; rfl) fun cdv A outer s H E hr => ?_
  refine ⟨_, (pss_cons (ps_set (i := 4) scL_patterns.nd rfl (.inl rfl) (pe_op op_cat (pe_lst (pa_cons pe_int pa_nil)) (pe_op op_rep (pe_lst (pa_cons pe_int pa_nil)) (pv 3))))
        (pss_cons (ps_for PassesOwn.never rfl (pi_range1 rfl T.zrange (pa_cons (pe_op op_add (pv 1) (pv 2)) pa_nil)) (pg_name (i := 5) scL_patterns.nd rfl (.inl rfl)) (pss_cons (ps_set (i := 6) scL_patterns.nd rfl (.inl rfl) (pe_op op_rep (pe_lst (pa_cons pe_int pa_nil)) (pe_op op_add (pv 3) pe_int)))
        (pss_cons (ps_for PassesOwn.never rfl (pi_range1 rfl T.zrange (pa_cons (pe_op op_add (pv 3) pe_int) pa_nil)) (pg_name (i := 7) scL_patterns.nd rfl (.inl rfl)) (pss_one (ps_for PassesOwn.never rfl (pi_range2 rfl T.zrange (pa_cons (pe_callTy b_int (by rfl) T.zint (by decide +kernel) (pa_cons (pe_cmpR op_lt (pv 5) (pv 2) (nomark _)) pa_nil)) (pa_cons (pv 0) pa_nil))) (pg_name (i := 8) scL_patterns.nd rfl (.inl rfl)) (pss_cons (ps_set (i := 9) scL_patterns.nd rfl (.inl rfl) (pe_op op_add (pv 7) (pe_callB (b_min2 rfl) (by rfl) T.zmin (by decide +kernel) (pa_cons (pv 8) (pa_cons (pe_op op_sub (pv 0) (pv 8)) pa_nil)))))
        (pss_one (ps_if (pt_cmpR op_le (pv 9) (pv 3) (nomark _)) (pss_one (ps_asg (pe_op op_add (pe_ix (kixL K) (pv 6) (pv 9) (fun _ _ => rfl)) (pe_ix (kixL K) (pv 4) (pv 7) (fun _ _ => rfl))) (pg_sub (pv 6) (pv 9) set_list))) pss_nil))))))
        (pss_one (ps_set (i := 4) scL_patterns.nd rfl (.inl rfl) (kmv (pv 6)))))))
        (pss_one (ps_ret (pe_ix (kixL K) (pv 4) (pv 3) (fun _ _ => rfl)))))), ?_⟩
  walk_at "ss"
  rintro ds Qd ⟨p, free, tips, c, rfl, hp, hf, ht, hc, q⟩
  refine ⟨[.sh (.int p), .sh (.int free), .sh (.int tips), .sh (.int c)], .cons (.inr ⟨rfl, rfl⟩) (.cons (.inr ⟨rfl, rfl⟩) (.cons (.inr ⟨rfl, rfl⟩) (.cons (.inr ⟨rfl, rfl⟩) .nil))), ?_⟩
  obtain ⟨p2, p7⟩ := hp.le
  have e1 : ((c : Int)).toNat = c := by omega
  have e2 : ((c : Int) + 1).toNat = c + 1 := by omega
  walk_at "h"
  rw [e1, rep_is]
  refine ⟨?_, ?_⟩
  · exact Nat.le_of_lt (small100000 (by simp only [eIs, List.length_map, List.length_replicate, List.length_cons, List.length_nil]; omega))
  walk_at "h"
  refine ⟨_, _, _, rfl, ⟨_, rfl, by omega, by omega, rfl, rfl⟩, fun k Γ => ∃ y5 y6 y7 y8 y9 : Sl, Γ = [.sh (.int p), .sh (.int free), .sh (.int tips), .sh (.int c), .ow (.lst (eIs (Wy.lawRow p tips c k))), y5, y6, y7, y8, y9], ⟨.no, .no, .no, .no, .no, rfl⟩, ?_, ?_⟩
  · rintro k Γ hk ⟨y5, y6, y7, y8, y9, rfl⟩
    rw [Int.zero_add]
    walk_at "h"
    rw [e2, rep_is]
    have hlo : ((if k < tips then 1 else 0 : Nat) : Int) = if (k : Int) < tips then 1 else 0 := by split <;> split <;> omega
    have hrow := lawRow_len p tips c k
    refine ⟨_, _, _, rfl, ⟨_, rfl, by omega, by omega, rfl, rfl⟩, fun h Γ => ∃ y7 y8 y9 : Sl, Γ = [.sh (.int p), .sh (.int free), .sh (.int tips), .sh (.int c), .ow (.lst (eIs (Wy.lawRow p tips c k))), .sh (.int k), .ow (.lst (eIs (Wy.lawTo p c (if k < tips then 1 else 0) (Wy.lawRow p tips c k) h))), y7, y8, y9], ⟨y7, y8, y9, rfl⟩, ?_, ?_⟩
    · rintro h Γ hh ⟨y7, y8, y9, rfl⟩
      rw [Int.zero_add]
      walk_at "h"
      have hlo2 : (if decide ((k : Int) < tips) = true then (1 : Int) else 0) = ((if k < tips then 1 else 0 : Nat) : Int) := by rw [hlo]; simp only [decide_eq_true_eq]
      rw [hlo2]
      generalize hg : (if k < tips then 1 else 0 : Nat) = lo
      have lo1 : lo ≤ 1 := by rw [← hg]; split <;> omega
      have lto := lawTo_len p c lo (Wy.lawRow p tips c k)
      refine ⟨_, _, _, rfl, ⟨_, _, rfl, ⟨by omega, by omega, by omega, by omega⟩, rfl, rfl⟩, fun i Γ => ∃ y8 y9 : Sl, Γ = [.sh (.int p), .sh (.int free), .sh (.int tips), .sh (.int c), .ow (.lst (eIs (Wy.lawRow p tips c k))), .sh (.int k), .ow (.lst (eIs (Wy.lawIn p c h lo (Wy.lawRow p tips c k) (Wy.lawTo p c lo (Wy.lawRow p tips c k) h) i))), .sh (.int h), y8, y9], ⟨y8, y9, rfl⟩, ?_, ?_⟩
      · rintro i Γ hi ⟨y8, y9, rfl⟩
        have hip : lo + i < p := by omega
        rw [show ((lo : Int) + i) = ((lo + i : Nat) : Int) by omega]
        have lin : (Wy.lawIn p c h lo (Wy.lawRow p tips c k) (Wy.lawTo p c lo (Wy.lawRow p tips c k) h) i).length = c + 1 := by rw [lawIn_len, lto]
        walk_at "h"
        rw [minI_price hip]
        have st : h + Wy.price p (lo + i) ≤ c → Wy.lawIn p c h lo (Wy.lawRow p tips c k) (Wy.lawTo p c lo (Wy.lawRow p tips c k) h) (i + 1) = Wy.inc (Wy.lawIn p c h lo (Wy.lawRow p tips c k) (Wy.lawTo p c lo (Wy.lawRow p tips c k) h) i) (h + Wy.price p (lo + i)) (Wy.at_ (Wy.lawRow p tips c k) h) := fun z => by show (if _ then _ else _) = _; rw [if_pos z]
        have sf : ¬ h + Wy.price p (lo + i) ≤ c → Wy.lawIn p c h lo (Wy.lawRow p tips c k) (Wy.lawTo p c lo (Wy.lawRow p tips c k) h) (i + 1) = Wy.lawIn p c h lo (Wy.lawRow p tips c k) (Wy.lawTo p c lo (Wy.lawRow p tips c k) h) i := fun z => by show (if _ then _ else _) = _; rw [if_neg z]
        walk_at "g"
        refine ite2b (fun hz => ?_) fun hz => ?_
        · have hz' : h + Wy.price p (lo + i) ≤ c := by have := of_decide_eq_true hz; omega
          have st := st hz'
          generalize Wy.lawIn p c h lo (Wy.lawRow p tips c k) (Wy.lawTo p c lo (Wy.lawRow p tips c k) h) i = row at lin st
          have e4 : ((h : Int) + (Wy.price p (lo + i) : Nat)) = ((h + Wy.price p (lo + i) : Nat) : Int) := by omega
          have ha := is_at (xs := row) (i := h + Wy.price p (lo + i)) (by omega)
          have hx := is_at (xs := Wy.lawRow p tips c k) (i := h) (by omega)
          walk_at "g"
          refine ⟨_, _, _, rfl, rfl, (by show atI _ ((h : Int) + (Wy.price p (lo + i) : Nat)) = _; rw [e4]; exact ha), ?_⟩
          walk_at "g"
          refine ⟨_, _, _, rfl, rfl, hx, ?_⟩
          walk_at "g"
          refine ⟨_, h + Wy.price p (lo + i), _, _, rfl, rfl, (by show ixN _ ((h : Int) + (Wy.price p (lo + i) : Nat)) = _; rw [e4]; exact is_ix (by omega)), rfl, ?_⟩
          refine ⟨.sh (.int ((lo + i : Nat) : Int)), .sh (.int ((h : Int) + (Wy.price p (lo + i) : Nat))), ?_⟩
          rw [st, ← is_set]
          rfl
        · refine ⟨.sh (.int ((lo + i : Nat) : Int)), .sh (.int ((h : Int) + (Wy.price p (lo + i) : Nat))), ?_⟩
          rw [sf (by have := of_decide_eq_false hz; omega)]
          rfl
      · rintro Γ ⟨y8, y9, rfl⟩
        refine ⟨.sh (.int h), y8, y9, ?_⟩
        rw [show ((p : Int) - lo).toNat = p - lo by omega]
        rfl
    · rintro Γ ⟨y7, y8, y9, rfl⟩
      rw [e2]
      walk_at "h"
      exact ⟨.sh (.int k), .no, y7, y8, y9, rfl⟩
  · rintro Γ ⟨y5, y6, y7, y8, y9, rfl⟩
    walk_at "h"
    refine ⟨_, _, _, rfl, rfl, is_at (i := c) (by rw [lawRow_len]; omega), ?_⟩
    rw [show ((free : Int) + tips).toNat = free + tips by omega]
    walk_at "h"
    exact q

end
end Law
namespace Law
open PySem PySem.Spec PyProof.Rows L2 Dk
section
variable {P : Program} {w : World} {K : Fg} {mg : Str → Option Value} {base : Heap}
set_option maxHeartbeats 4000000 in
theorem ok_prices (T : Txt K mg) : FnOk P w K mg base CX0 2 T.prices.f T.prices.fd ["p", "lit"] (FreshSp K cPrices) := by
  refine fresh_ok T.prices.F scPrices (fun ds Qd h => by obtain ⟨p, lit, rfl, _⟩ := h; rfl) fun cdv A outer s H E hr => ?_
  refine ⟨_, (pss_cons (ps_set (i := 2) scPrices.nd rfl (.inl rfl) (pe_op op_rep (pe_lst (pa_cons pe_int pa_nil)) (pe_op op_add (pe_op op_fdiv (pv 0) pe_int) pe_int)))
        (pss_cons (ps_for PassesOwn.never rfl (pi_range1 rfl T.zrange (pa_cons (pv 0) pa_nil)) (pg_name (i := 3) scPrices.nd rfl (.inl rfl)) (pss_one (ps_if (PW.pt (pw_or (pt_cmpR op_gt (pv 3) pe_int (nomark _)) (pw_or1 (pt_not (pt_val (pv 1)))))) (pss_one (ps_augS (pv 2) (pe_call (ok_price T) (hr.mono (by decide)) (by rfl) T.price.m T.price.F.kp T.price.b .nil pass0 (pa_cons (pv 0) (pa_cons (pv 3) pa_nil))) (kgetL K) pe_int ip_add set_list)) pss_nil)))
        (pss_one (ps_ret (pv 2))))), ?_⟩
  walk_at "ss"
  rintro ds Qd ⟨p, lit, rfl, hp, q⟩
  refine ⟨[.sh (.int p), .sh (.bool lit)], .cons (.inr ⟨rfl, rfl⟩) (.cons (.inr ⟨rfl, rfl⟩) .nil), ?_⟩
  obtain ⟨p2, p7⟩ := hp.le
  have e1 : ((p : Int) / 2 + 1).toNat = p / 2 + 1 := by omega
  walk_at "h"
  refine ⟨_, _, _, rfl, ⟨_, rfl, by omega, by omega, rfl, rfl⟩, fun k Γ => ∃ y3 : Sl, Γ = [.sh (.int p), .sh (.bool lit), .ow (.lst (eIs (Wy.pricesTo p lit k))), y3], ⟨.no, by rw [e1, rep_is]; rfl⟩, ?_, ?_⟩
  · rintro k Γ hk ⟨y3, rfl⟩
    have hkp : k < p := by omega
    rw [Int.zero_add]
    have hl := pricesTo_len p lit k
    have hc : Wy.price p k < (Wy.pricesTo p lit k).length := by rw [hl]; have := price_le p k; omega
    have ha := is_at hc
    have en : ∀ v : Int, (eIs (Wy.pricesTo p lit k)).set (Wy.price p k) (.int (Wy.at_ (Wy.pricesTo p lit k) (Wy.price p k) + v)) = eIs (Wy.inc (Wy.pricesTo p lit k) (Wy.price p k) v) := is_set _ _
    have st : (0 < k ∨ lit = false) → Wy.pricesTo p lit (k + 1) = Wy.inc (Wy.pricesTo p lit k) (Wy.price p k) 1 := fun h => by show (if _ then _ else _) = _; rw [if_pos h]
    have sf : ¬ (0 < k ∨ lit = false) → Wy.pricesTo p lit (k + 1) = Wy.pricesTo p lit k := fun h => by show (if _ then _ else _) = _; rw [if_neg h]
    have ep := price_nat hkp
    generalize Wy.price p k = c at hc ha en st ep ⊢
    rcases Nat.eq_zero_or_pos k with hz | hz
    · subst hz
      cases lit with
      | true =>
        walk_at "g"
        exact ⟨.sh (.int 0), by rw [sf (by decide)]; rfl⟩
      | false =>
        walk_at "g"
        rw [ep]
        refine ⟨_, c, _, _, rfl, rfl, ha, ?_⟩
        walk_at "g"
        refine ⟨is_ix hc, .sh (.int 0), ?_⟩
        rw [st (.inr rfl), ← is_set]
        rfl
    · walk_at "g"
      refine iteTb (by simp; omega) ?_
      walk_at "g"
      rw [ep]
      refine ⟨_, c, _, _, rfl, rfl, ha, ?_⟩
      walk_at "g"
      refine ⟨is_ix hc, .sh (.int k), ?_⟩
      rw [st (.inl hz), ← is_set]
      rfl
  · rintro Γ ⟨y3, rfl⟩
    walk_at "h"
    exact q

end
end Law
namespace Law
open PySem PySem.Spec PyProof.Rows L2 Dk
section
variable {P : Program} {w : World} {K : Fg} {mg : Str → Option Value} {base : Heap}
set_option maxHeartbeats 4000000 in
theorem ok_l_p (T : Txt K mg) : FnOk P w K mg base CX0 2 T.l_p.f T.l_p.fd ["_law_draw"] (RefSp K IsDraw cP) := by
  refine ref_ok T.l_p.F scL_p (fun ds Qd h => by obtain ⟨rfl, _⟩ := h; rfl) fun cdv A outer s H E hr => ?_
  refine ⟨_, (pss_one (ps_ret (pe_ix (kixT K) (pe_tup (pa_cons pe_int (pa_cons pe_int (pa_cons pe_int (pa_cons pe_int pa_nil))))) (pe_call (ok_l_take T) (hr.mono (by decide)) (by rfl) T.l_take.m T.l_take.F.kp T.l_take.b .nil pass0 (pa_cons (pv 0) (pa_cons pe_int pa_nil))) (fun _ _ => rfl)))), ?_⟩
  walk_at "ss"
  rintro ds Qd ⟨rfl, q⟩
  refine ⟨[], .nil, ?_⟩
  refine ⟨_, rfl, Nat.le_of_ble_eq_true rfl, .inr rfl, _, .inr rfl, rfl, 4, rfl, by decide, by decide, fun r h0 h1 => ?_⟩
  have hr : r = 0 ∨ r = 1 ∨ r = 2 ∨ r = 3 := by omega
  rcases hr with rfl | rfl | rfl | rfl
  · exact ⟨_, _, _, rfl, rfl, rfl, rfl, _, rfl, q 2 (.inl rfl)⟩
  · exact ⟨_, _, _, rfl, rfl, rfl, rfl, _, rfl, q 3 (.inr (.inl rfl))⟩
  · exact ⟨_, _, _, rfl, rfl, rfl, rfl, _, rfl, q 5 (.inr (.inr (.inl rfl)))⟩
  · exact ⟨_, _, _, rfl, rfl, rfl, rfl, _, rfl, q 7 (.inr (.inr (.inr rfl)))⟩

end
end Law
namespace Law
open PySem PySem.Spec PyProof.Rows L2 Dk
section
variable {P : Program} {w : World} {K : Fg} {mg : Str → Option Value} {base : Heap}
set_option maxHeartbeats 4000000 in
theorem ok_l_sum (T : Txt K mg) : FnOk P w K mg base CX0 2 T.l_sum.f T.l_sum.fd ["_law_p_here", "_law_one", "_law_other", "_law_by", "_law_many"] (PureSp K cSum) := by
  refine pure_ok T.l_sum.F scL_sum (fun ds Qd h => by obtain ⟨p, xs, ys, b, n, rfl, _⟩ := h; rfl) fun cdv A outer s H E hr => ?_
  refine ⟨_, (pss_one (ps_ret (pe_call (ok_l_tidy T) (hr.mono (by decide)) (by rfl) T.l_tidy.m T.l_tidy.F.kp T.l_tidy.b .nil pass0 (pa_cons (pv 0) (pa_cons (pe_op op_cat (pe_callTy (klist K) (by rfl) T.zlist (by decide +kernel) (pa_cons (pv 1) pa_nil)) (pe_lc (own := [("_law_place", 5), ("_law_setting", 6)]) rfl scL_sum.nd (kpit K (pv 2)) (blkOk_by (own := [("_law_place", 5), ("_law_setting", 6)]) (N := nL_sum) (sc := defScope sL_sum) (by decide +kernel)) (fun _ _ _ _ _ => (kpg K 2 rfl (pgs_cons (pg_name (i := 5) scL_sum.nd rfl (.inl rfl) (.inr rfl)) (pgs_cons (pg_name (i := 6) scL_sum.nd rfl (.inl rfl) (.inr rfl)) pgs_nil)))) (fun _ _ _ _ _ => pts_nil) (fun _ _ _ _ _ => (pe_tup (pa_cons (pe_op op_add (pv 5) (pv 3)) (pa_cons (pe_op op_mul (pv 6) (pv 4)) pa_nil)))))) pa_nil))))), ?_⟩
  walk_at "ss"
  rintro ds Qd ⟨p, xs, ys, b, n, rfl, hp, hx, hy, hm, q⟩
  refine ⟨[.sh (.int p), .sh (ePat xs), .sh (ePat ys), .sh (.int b), .sh (.int n)], .cons (.inr ⟨rfl, rfl⟩) (.cons (.inr ⟨rfl, ePat_tupO _⟩) (.cons (.inr ⟨rfl, ePat_tupO _⟩) (.cons (.inr ⟨rfl, rfl⟩) (.cons (.inr ⟨rfl, rfl⟩) .nil)))), ?_⟩
  walk_at "g"
  refine lc_map (f := ePair) (fun x => some (ePair (x.1 + b, x.2 * n))) (fun x hx P hP => ?_) ?_
  · have := hm x hx
    walk_at "g"
    exact hP
  · rw [fm_map]
    walk_at "g"
    have hk := Pt.keys_len (xs ++ ys.map fun x => (x.1 + b, x.2 * n))
    rw [List.length_append, List.length_map] at hk
    refine ⟨p, xs ++ ys.map fun x : Int × Int => (x.1 + b, x.2 * n), by unfold ePairs; rw [List.map_append, List.map_map]; rfl, hp, by omega, _, rfl, ?_⟩
    exact q

end
end Law
namespace Law
open PySem PySem.Spec PyProof.Rows L2 Dk
section
variable {P : Program} {w : World} {K : Fg} {mg : Str → Option Value} {base : Heap}
set_option maxHeartbeats 4000000 in
theorem ok_l_count (T : Txt K mg) : FnOk P w K mg base CX0 2 T.l_count.f T.l_count.fd ["_law_p_here", "_law_n"] (PureSp K cLCount) := by
  refine pure_ok T.l_count.F scL_count (fun ds Qd h => by obtain ⟨p, n, rfl, _⟩ := h; rfl) fun cdv A outer s H E hr => ?_
  refine ⟨_, (pss_cons (ps_set (i := 2) scL_count.nd rfl (.inl rfl) pe_int)
        (pss_cons (ps_for PassesOwn.never rfl (pi_range1 rfl T.zrange (pa_cons (pe_op op_add (pv 1) pe_int) pa_nil)) (pg_name (i := 3) scL_count.nd rfl (.inl rfl)) (pss_one (ps_for PassesOwn.never rfl (pi_range2 rfl T.zrange (pa_cons (pv 3) (pa_cons (pe_op op_add (pv 1) pe_int) pa_nil))) (pg_name (i := 4) scL_count.nd rfl (.inl rfl)) (pss_one (ps_for PassesOwn.never rfl (pi_range2 rfl T.zrange (pa_cons (pe_un un_neg (pv 3)) (pa_cons (pe_op op_add (pe_op op_sub (pv 4) (pv 3)) pe_int) pa_nil))) (pg_name (i := 5) scL_count.nd rfl (.inl rfl)) (pss_cons (ps_set (i := 6) scL_count.nd rfl (.inl rfl) (pe_op op_add (pe_op op_sub (pv 1) (pe_op op_mul pe_int (pv 4))) (pe_callB b_abs (by rfl) T.zabs (by decide +kernel) (pa_cons (pv 5) pa_nil))))
        (pss_cons (ps_set (i := 7) scL_count.nd rfl (.inl rfl) (pe_op op_add (pe_callTy b_int (by rfl) T.zint (by decide +kernel) (pa_cons (pe_cmpR op_lt (pe_un un_neg (pv 3)) (pe_callB (b_min2 rfl) (by rfl) T.zmin (by decide +kernel) (pa_cons pe_int (pa_cons (pv 5) pa_nil))) (nomark _)) pa_nil)) (pe_callTy b_int (by rfl) T.zint (by decide +kernel) (pa_cons (pe_cmpR op_gt (pe_op op_sub (pv 4) (pv 3)) (pe_callB (b_max2 rfl) (by rfl) T.zmax (by decide +kernel) (pa_cons pe_int (pa_cons (pv 5) pa_nil))) (nomark _)) pa_nil))))
        (pss_one (ps_if (pt_cmpR op_ge (pv 6) (pv 7) (nomark _)) (pss_one (ps_set (i := 2) scL_count.nd rfl (.inl rfl) (pe_op op_add (pv 2) (pe_call (ok_l_patterns T) (hr.mono (by decide)) (by rfl) T.l_patterns.m T.l_patterns.F.kp T.l_patterns.b .nil pass0 (pa_cons (pv 0) (pa_cons (pe_op op_sub (pe_op op_add (pv 4) pe_int) (pv 7)) (pa_cons (pv 7) (pa_cons (pv 6) pa_nil)))))))) pss_nil)))))))))
        (pss_one (ps_ret (pv 2))))), ?_⟩
  walk_at "ss"
  rintro ds Qd ⟨p, n, rfl, hp, hn, q⟩
  refine ⟨[.sh (.int p), .sh (.int n)], .cons (.inr ⟨rfl, rfl⟩) (.cons (.inr ⟨rfl, rfl⟩) .nil), ?_⟩
  obtain ⟨p2, p7⟩ := hp.le
  have e1 : ((n : Int) + 1).toNat = n + 1 := by omega
  walk_at "h"
  refine ⟨_, _, _, rfl, ⟨_, rfl, by omega, by omega, rfl, rfl⟩, fun d Γ => ∃ y3 y4 y5 y6 y7 : Sl, Γ = [.sh (.int p), .sh (.int n), .sh (.int (Wy.sumN (cF p n) d)), y3, y4, y5, y6, y7], ⟨.no, .no, .no, .no, .no, rfl⟩, ?_, ?_⟩
  · rintro d Γ hd ⟨y3, y4, y5, y6, y7, rfl⟩
    obtain ⟨A, hA⟩ : ∃ A, Wy.sumN (cF p n) d = A := ⟨_, rfl⟩
    rw [hA, Int.zero_add]
    walk_at "h"
    refine ⟨_, _, _, rfl, ⟨_, _, rfl, ⟨by omega, by omega, by omega, by omega⟩, rfl, rfl⟩, fun i Γ => ∃ y4 y5 y6 y7 : Sl, Γ = [.sh (.int p), .sh (.int n), .sh (.int (A + Wy.sumN (cG p n d) i)), .sh (.int d), y4, y5, y6, y7], ⟨y4, y5, y6, y7, by rw [show Wy.sumN _ 0 = 0 from rfl, Int.add_zero]; rfl⟩, ?_, ?_⟩
    · rintro i Γ hi ⟨y4, y5, y6, y7, rfl⟩
      obtain ⟨B, hB⟩ : ∃ B, A + Wy.sumN (cG p n d) i = B := ⟨_, rfl⟩
      rw [hB, show ((d : Int) + i) = ((d + i : Nat) : Int) by omega]
      walk_at "h"
      refine ⟨_, _, _, rfl, ⟨_, _, rfl, ⟨by omega, by omega, by omega, by omega⟩, rfl, rfl⟩, fun k Γ => ∃ y5 y6 y7 : Sl, Γ = [.sh (.int p), .sh (.int n), .sh (.int (B + Wy.sumN (cH p n d i) k)), .sh (.int d), .sh (.int (d + i : Nat)), y5, y6, y7], ⟨y5, y6, y7, by rw [show Wy.sumN _ 0 = 0 from rfl, Int.add_zero]; rfl⟩, ?_, ?_⟩
      · rintro k Γ hk ⟨y5, y6, y7, rfl⟩
        obtain ⟨C, hC⟩ : ∃ C, B + Wy.sumN (cH p n d i) k = C := ⟨_, rfl⟩
        rw [hC]
        obtain ⟨e, he⟩ : ∃ e : Int, -(d : Int) + k = e := ⟨_, rfl⟩
        rw [he]
        have ew : ((d + i : Nat) : Int) - d = i := by omega
        obtain ⟨t, ht⟩ : ∃ t, Wy.litOf e (-d) ((d + i : Nat) - d) = t := ⟨_, rfl⟩
        have hl := lit_int e (-d) ((d + i : Nat) - d)
        have tl : (t : Int) ≤ ((d + i : Nat) - d) - (-d) := by rw [← ht]; exact lit_le (by omega) (by omega)
        rw [ht] at hl
        have t2 : t ≤ 2 := by rw [← ht]; exact Wy.litOf_le _ _ _
        walk_at "h"
        rw [show ∀ (a b : Int), (fun i j => PyData.int (i + j)) a b = .int (a + b) from fun _ _ => rfl, show ∀ (a b : Int), (fun i j => PyData.int (i + j)) a b = .int (a + b) from fun _ _ => rfl, hl, absI_is]
        have hn0 : (n : Int) - 2 * (d + i : Nat) + e.natAbs ≤ n := by omega
        obtain ⟨x, hx⟩ : ∃ x : Int, (n : Int) - 2 * (d + i : Nat) + e.natAbs = x := ⟨_, rfl⟩
        rw [hx]
        walk_at "g"
        refine ite2b (fun hz => ?_) fun hz => ?_
        · have hz' : (t : Int) ≤ x := of_decide_eq_true hz
          obtain ⟨c, rfl⟩ : ∃ c : Nat, x = c := ⟨x.toNat, by omega⟩
          have st := lawTerm_yes (L := Wy.lawPat p) ht hx (by omega)
          have ef : (((d + i : Nat) : Int) + 1 - t) = ((d + i + 1 - t : Nat) : Int) := by omega
          walk_at "g"
          refine ⟨p, d + i + 1 - t, t, c, (by show [PyData.int p, .int (((d + i : Nat) : Int) + 1 - t), PyData.int t, PyData.int c] = _; rw [ef]), hp, by omega, by omega, by omega, ?_⟩
          walk_at "g"
          refine ⟨.sh (.int e), .sh (.int c), .sh (.int t), ?_⟩
          subst hC
          rw [show ∀ F : Nat → Int, Wy.sumN F (k + 1) = Wy.sumN F k + F k from fun _ => rfl, show cH p n d i k = Wy.lawPat p (d + i + 1 - t) t c by unfold cH; rw [he]; exact st, ← Int.add_assoc]
          rfl
        · have st := lawTerm_no (L := Wy.lawPat p) ht (by rw [hx]; exact of_decide_eq_false hz)
          refine ⟨.sh (.int e), .sh (.int x), .sh (.int t), ?_⟩
          subst hC
          rw [show ∀ F : Nat → Int, Wy.sumN F (k + 1) = Wy.sumN F k + F k from fun _ => rfl, show cH p n d i k = 0 by unfold cH; rw [he]; exact st, Int.add_zero]
          rfl
      · rintro Γ ⟨y5, y6, y7, rfl⟩
        refine ⟨.sh (.int (d + i : Nat)), y5, y6, y7, ?_⟩
        rw [show (((d + i : Nat) : Int) - d + 1 - -d).toNat = d + i + 1 by omega]
        subst hB
        rw [Int.add_assoc]
        rfl
    · rintro Γ ⟨y4, y5, y6, y7, rfl⟩
      refine ⟨.sh (.int d), y4, y5, y6, y7, ?_⟩
      rw [show ((n : Int) + 1 - d).toNat = n + 1 - d by omega]
      subst hA
      rfl
  · rintro Γ ⟨y3, y4, y5, y6, y7, rfl⟩
    rw [e1]
    walk_at "h"
    exact q

end
end Law
namespace Law
open PySem PySem.Spec PyProof.Rows L2 Dk
section
variable {P : Program} {w : World} {K : Fg} {mg : Str → Option Value} {base : Heap}
set_option maxHeartbeats 4000000 in
theorem ok_spreads (T : Txt K mg) : FnOk P w K mg base CX0 3 T.spreads.f T.spreads.fd ["p", "n"] (FreshSp K cSpreads) := by
  refine fresh_ok T.spreads.F scSpreads (fun ds Qd h => by obtain ⟨p, n, rfl, _⟩ := h; rfl) fun cdv A outer s H E hr => ?_
  refine ⟨_, (pss_cons (ps_set (i := 2) scSpreads.nd rfl (.inl rfl) pe_dnewT)
        (pss_cons (ps_for PassesOwn.never rfl (pi_range1 rfl T.zrange (pa_cons pe_int pa_nil)) (pg_name (i := 3) scSpreads.nd rfl (.inl rfl)) (pss_cons (ps_set (i := 4) scSpreads.nd rfl (.inl rfl) (pe_lst (pa_cons pe_int pa_nil)))
        (pss_cons (ps_for PassesOwn.never rfl (pi_range1 rfl T.zrange (pa_cons (pv 3) pa_nil)) (pg_name (i := 5) scSpreads.nd rfl (.inl rfl)) (pss_one (ps_set (i := 4) scSpreads.nd rfl (.inl rfl) (pe_call (ok_spread T) (hr.mono (by decide)) (by rfl) T.spread.m T.spread.F.kp T.spread.b .nil pass0 (pa_cons (pv 4) (pa_cons (pe_call (ok_prices T) (hr.mono (by decide)) (by rfl) T.prices.m T.prices.F.kp T.prices.b .nil pass0 (pa_cons (pv 0) (pa_cons pe_bl pa_nil))) (pa_cons (pv 1) pa_nil)))))))
        (pss_one (ps_for PassesOwn.never rfl (pi_range1 rfl T.zrange (pa_cons (pe_op op_add (pv 1) pe_int) pa_nil)) (pg_name (i := 6) scSpreads.nd rfl (.inl rfl)) (pss_cons (ps_dput (hu_of hr) (pv 2) (pe_tup (pa_cons (pv 3) (pa_cons (pv 6) pa_nil))) (pz 4) rfl)
        (pss_one (ps_set (i := 4) scSpreads.nd rfl (.inl rfl) (pe_call (ok_spread T) (hr.mono (by decide)) (by rfl) T.spread.m T.spread.F.kp T.spread.b .nil pass0 (pa_cons (pv 4) (pa_cons (pe_call (ok_prices T) (hr.mono (by decide)) (by rfl) T.prices.m T.prices.F.kp T.prices.b .nil pass0 (pa_cons (pv 0) (pa_cons pe_bl pa_nil))) (pa_cons (pv 1) pa_nil))))))))))))
        (pss_one (ps_ret (pv 2))))), ?_⟩
  walk_at "ss"
  rintro ds Qd ⟨p, n, rfl, hp, hn, q⟩
  refine ⟨[.sh (.int p), .sh (.int n)], .cons (.inr ⟨rfl, rfl⟩) (.cons (.inr ⟨rfl, rfl⟩) .nil), ?_⟩
  obtain ⟨p2, p7⟩ := hp.le
  have e1 : ((n : Int) + 2).toNat = n + 2 := by omega
  have pt := prices_small hp true
  have pf := prices_small hp false
  refine ⟨_, _, _, rfl, ⟨_, rfl, by omega, by omega, rfl, rfl⟩, fun lit Γ => ∃ (kvs : List (List Key × PyData)) (y3 y4 y5 y6 : Sl), WayD p n lit 0 kvs ∧ Γ = [.sh (.int p), .sh (.int n), .ow (.dT kvs), y3, y4, y5, y6], ⟨[], .no, .no, .no, .no, WayD.nil p n, rfl⟩, ?_, ?_⟩
  · rintro lit Γ hlit ⟨kvs, y3, y4, y5, y6, hw, rfl⟩
    rw [Int.zero_add]
    walk_at "h"
    refine ⟨_, _, _, rfl, ⟨_, rfl, by omega, by omega, rfl, rfl⟩, fun k Γ => ∃ y5 : Sl, Γ = [.sh (.int p), .sh (.int n), .ow (.dT kvs), .sh (.int lit), .ow (.lst (eIs (Wy.tipRow p n k))), y5, y6], ⟨y5, rfl⟩, ?_, ?_⟩
    · rintro k Γ hk ⟨y5, rfl⟩
      have tl := tipRow_len p n k
      walk_at "h"
      exact ⟨pt.2, .sh (.int (0 + k)), rfl⟩
    · rintro Γ ⟨y5, rfl⟩
      rw [Int.toNat_natCast]
      walk_at "h"
      refine ⟨_, _, _, rfl, ⟨_, rfl, by omega, by omega, rfl, rfl⟩, fun f Γ => ∃ (kvs : List (List Key × PyData)) (y6 : Sl), WayD p n lit f kvs ∧ Γ = [.sh (.int p), .sh (.int n), .ow (.dT kvs), .sh (.int lit), .ow (.lst (eIs (Wy.freeRow p n lit f))), y5, y6], ⟨kvs, y6, hw, rfl⟩, ?_, ?_⟩
      · rintro f Γ hf ⟨kvs, y6, hw, rfl⟩
        rw [Int.zero_add]
        have tl := freeRow_len p n lit f
        have hkl : kvs.length < sizeLine := small100000 (by have := hw.1; have : lit * (n + 2) ≤ 3 * 14 := Nat.mul_le_mul (by omega) (by omega); omega)
        walk_at "h"
        exact ⟨pf.2, _, .sh (.int f), hw.put, rfl⟩
      · rintro Γ ⟨kvs, y6, hw, rfl⟩
        exact ⟨kvs, .sh (.int lit), _, y5, y6, by rw [e1] at hw; exact hw.next, rfl⟩
  · rintro Γ ⟨kvs, y3, y4, y5, y6, hw, rfl⟩
    walk_at "h"
    exact q kvs fun l g h1 h2 => hw.2 l g (.inl ⟨h1, h2⟩)

end
end Law
namespace Law
open PySem PySem.Spec PyProof.Rows L2 Dk
section
variable {P : Program} {w : World} {K : Fg} {mg : Str → Option Value} {base : Heap}
set_option maxHeartbeats 4000000 in
theorem ok_l_join (T : Txt K mg) : FnOk P w K mg base CX0 3 T.l_join.f T.l_join.fd ["_law_p_here", "_law_one", "_law_other"] (PureSp K cJoin) := by
  refine pure_ok T.l_join.F scL_join (fun ds Qd h => by obtain ⟨p, a, b, rfl, _⟩ := h; rfl) fun cdv A outer s H E hr => ?_
  refine ⟨_, (pss_one (ps_ret (pe_tup (pa_cons (pe_op op_add (pe_ix (kixT K) (pv 1) pe_int (fun _ _ => rfl)) (pe_ix (kixT K) (pv 2) pe_int (fun _ _ => rfl))) (pa_cons (pe_call (ok_l_sum T) (hr.mono (by decide)) (by rfl) T.l_sum.m T.l_sum.F.kp T.l_sum.b .nil pass0 (pa_cons (pv 0) (pa_cons (pe_ix (kixT K) (pv 1) pe_int (fun _ _ => rfl)) (pa_cons (pe_ix (kixT K) (pv 2) pe_int (fun _ _ => rfl)) (pa_cons (pe_ix (kixT K) (pv 1) pe_int (fun _ _ => rfl)) (pa_cons pe_int pa_nil)))))) pa_nil))))), ?_⟩
  walk_at "ss"
  rintro ds Qd ⟨p, ⟨a, xs⟩, ⟨b, ys⟩, rfl, hp, hx, hy, q⟩
  refine ⟨[.sh (.int p), .sh (eRound (a, xs)), .sh (eRound (b, ys))], .cons (.inr ⟨rfl, rfl⟩) (.cons (.inr ⟨rfl, eRound_tupO _⟩) (.cons (.inr ⟨rfl, eRound_tupO _⟩) .nil)), ?_⟩
  simp only at hx hy
  have hm : ∀ x ∈ ys, CMul x.2 1 := fun _ _ => .inr ⟨by decide, by decide⟩
  have e : (ys.map fun y => (y.1 + a, y.2 * 1)) = Pt.moved ys a := by simp only [Int.mul_one]; rfl
  walk_at "g"
  rw [e]
  walk_at "g"
  exact q

end
end Law
namespace Law
open PySem PySem.Spec PyProof.Rows L2 Dk
section
variable {P : Program} {w : World} {K : Fg} {mg : Str → Option Value} {base : Heap}
set_option maxHeartbeats 4000000 in
theorem ok_many_at (T : Txt K mg) : FnOk P w K mg base CX0 4 T.many_at.f T.many_at.fd ["p", "n"] (PureSp K cMany) := by
  refine pure_ok T.many_at.F scMany_at (fun ds Qd h => by obtain ⟨p, n, rfl, _⟩ := h; rfl) fun cdv A outer s H E hr => ?_
  refine ⟨_, (pss_cons (ps_set (i := 2) scMany_at.nd rfl (.inl rfl) (pe_call (ok_spreads T) (hr.mono (by decide)) (by rfl) T.spreads.m T.spreads.F.kp T.spreads.b .nil pass0 (pa_cons (pv 0) (pa_cons (pv 1) pa_nil))))
        (pss_cons (ps_set (i := 3) scMany_at.nd rfl (.inl rfl) pe_int)
        (pss_cons (ps_for PassesOwn.never rfl (pi_range2 rfl T.zrange (pa_cons (pe_un un_neg (pv 1)) (pa_cons (pe_op op_add (pv 1) pe_int) pa_nil))) (pg_name (i := 4) scMany_at.nd rfl (.inl rfl)) (pss_one (ps_for PassesOwn.never rfl (pi_range2 rfl T.zrange (pa_cons (pe_un un_neg (pv 1)) (pa_cons (pe_op op_add (pe_callB (b_min2 rfl) (by rfl) T.zmin (by decide +kernel) (pa_cons pe_int (pa_cons (pv 4) pa_nil))) pe_int) pa_nil))) (pg_name (i := 5) scMany_at.nd rfl (.inl rfl)) (pss_one (ps_for PassesOwn.never rfl (pi_range2 rfl T.zrange (pa_cons (pe_callB (b_max2 rfl) (by rfl) T.zmax (by decide +kernel) (pa_cons pe_int (pa_cons (pv 4) pa_nil))) (pa_cons (pe_op op_add (pe_op op_add (pv 5) (pv 1)) pe_int) pa_nil))) (pg_name (i := 6) scMany_at.nd rfl (.inl rfl)) (pss_cons (ps_set (i := 7) scMany_at.nd rfl (.inl rfl) (pe_op op_add (pe_op op_sub (pv 1) (pe_op op_mul pe_int (pe_op op_sub (pv 6) (pv 5)))) (pe_callB b_abs (by rfl) T.zabs (by decide +kernel) (pa_cons (pv 4) pa_nil))))
        (pss_cons (ps_set (i := 8) scMany_at.nd rfl (.inl rfl) (pe_op op_add (pe_callTy b_int (by rfl) T.zint (by decide +kernel) (pa_cons (pe_cmpR op_lt (pv 5) (pe_callB (b_min2 rfl) (by rfl) T.zmin (by decide +kernel) (pa_cons pe_int (pa_cons (pv 4) pa_nil))) (nomark _)) pa_nil)) (pe_callTy b_int (by rfl) T.zint (by decide +kernel) (pa_cons (pe_cmpR op_gt (pv 6) (pe_callB (b_max2 rfl) (by rfl) T.zmax (by decide +kernel) (pa_cons pe_int (pa_cons (pv 4) pa_nil))) (nomark _)) pa_nil))))
        (pss_cons (ps_set (i := 9) scMany_at.nd rfl (.inl rfl) (pe_dget (hu_of hr) (pv 2) (pe_tup (pa_cons (pv 8) (pa_cons (pe_op op_sub (pe_op op_add (pe_op op_sub (pv 6) (pv 5)) pe_int) (pv 8)) pa_nil))) (fun _ _ => rfl)))
        (pss_one (ps_if (pt_chain op_le op_lt pe_int (pv 7) (pe_callB (klen K) (by rfl) T.zlen (by decide +kernel) (pa_cons (pv 9) pa_nil))) (pss_one (ps_aug (i := 3) scMany_at.nd rfl (.inl rfl) (pe_ix (kixL K) (pv 9) (pv 7) (fun _ _ => rfl)) ip_add)) pss_nil))))))))))
        (pss_one (ps_ret (pv 3)))))), ?_⟩
  walk_at "ss"
  rintro ds Qd ⟨p, n, rfl, hp, hn, q⟩
  refine ⟨[.sh (.int p), .sh (.int n)], .cons (.inr ⟨rfl, rfl⟩) (.cons (.inr ⟨rfl, rfl⟩) .nil), ?_⟩
  walk_at "h"
  intro kvs hv
  have e1 : ((n : Int) + 1 - -n).toNat = n + 1 + n := by omega
  walk_at "h"
  refine ⟨_, _, _, rfl, ⟨_, _, rfl, ⟨by omega, by omega, by omega, by omega⟩, rfl, rfl⟩, fun i Γ => ∃ y4 y5 y6 y7 y8 y9 : Sl, Γ = [.sh (.int p), .sh (.int n), .ow (.dT kvs), .sh (.int (Wy.sumN (mF p n) i)), y4, y5, y6, y7, y8, y9], ⟨.no, .no, .no, .no, .no, .no, rfl⟩, ?_, ?_⟩
  · rintro i Γ hi ⟨y4, y5, y6, y7, y8, y9, rfl⟩
    obtain ⟨A, hA⟩ : ∃ A, Wy.sumN (mF p n) i = A := ⟨_, rfl⟩
    obtain ⟨e, he⟩ : ∃ e : Int, -(n : Int) + i = e := ⟨_, rfl⟩
    have eM : maxI 0 e = max 0 e := by unfold maxI; split <;> omega
    have em : minI 0 e = min 0 e := by unfold minI; split <;> omega
    rw [hA, he]
    walk_at "h"
    rw [em]
    refine ⟨_, _, _, rfl, ⟨_, _, rfl, ⟨by omega, by omega, by omega, by omega⟩, rfl, rfl⟩, fun j Γ => ∃ y5 y6 y7 y8 y9 : Sl, Γ = [.sh (.int p), .sh (.int n), .ow (.dT kvs), .sh (.int (A + Wy.sumN (mG p n i) j)), .sh (.int e), y5, y6, y7, y8, y9], ⟨y5, y6, y7, y8, y9, by rw [show Wy.sumN _ 0 = 0 from rfl, Int.add_zero]; rfl⟩, ?_, ?_⟩
    · rintro j Γ hj ⟨y5, y6, y7, y8, y9, rfl⟩
      obtain ⟨B, hB⟩ : ∃ B, A + Wy.sumN (mG p n i) j = B := ⟨_, rfl⟩
      obtain ⟨l, hl⟩ : ∃ l : Int, -(n : Int) + j = l := ⟨_, rfl⟩
      rw [hB, hl]
      walk_at "h"
      rw [eM]
      refine ⟨_, _, _, rfl, ⟨_, _, rfl, ⟨by omega, by omega, by omega, by omega⟩, rfl, rfl⟩, fun k Γ => ∃ y6 y7 y8 y9 : Sl, Γ = [.sh (.int p), .sh (.int n), .ow (.dT kvs), .sh (.int (B + Wy.sumN (mH p n i j) k)), .sh (.int e), .sh (.int l), y6, y7, y8, y9], ⟨y6, y7, y8, y9, by rw [show Wy.sumN _ 0 = 0 from rfl, Int.add_zero]; rfl⟩, ?_, ?_⟩
      · rintro k Γ hk ⟨y6, y7, y8, y9, rfl⟩
        obtain ⟨C, hC⟩ : ∃ C, B + Wy.sumN (mH p n i j) k = C := ⟨_, rfl⟩
        obtain ⟨h, hh⟩ : ∃ h : Int, max 0 e + k = h := ⟨_, rfl⟩
        rw [hC, hh]
        obtain ⟨t, ht⟩ : ∃ t, Wy.litOf e l h = t := ⟨_, rfl⟩
        have hli := lit_int e l h
        have tl : (t : Int) ≤ h - l := by rw [← ht]; exact lit_le (by omega) (by omega)
        rw [ht] at hli
        have t2 : t ≤ 2 := by rw [← ht]; exact Wy.litOf_le _ _ _
        walk_at "h"
        rw [show ∀ (a b : Int), (fun i j => PyData.int (i + j)) a b = .int (a + b) from fun _ _ => rfl, show ∀ (a b : Int), (fun i j => PyData.int (i + j)) a b = .int (a + b) from fun _ _ => rfl, show ∀ (a b : Int), (fun i j => PyData.int (i - j)) a b = .int (a - b) from fun _ _ => rfl, hli, absI_is]
        obtain ⟨x, hx⟩ : ∃ x : Int, (n : Int) - 2 * (h - l) + e.natAbs = x := ⟨_, rfl⟩
        obtain ⟨f, hf⟩ : ∃ f : Nat, h - l + 1 - t = f := ⟨(h - l + 1 - t).toNat, by omega⟩
        have fl := freeRow_len p n t f
        have hvt := hv t f (by omega) (by omega)
        rw [hx, hf]
        refine ⟨.tuple [.int t, .int f], .list (eIs (Wy.freeRow p n t f)), rfl, congrArg some hvt, ?_⟩
        have hlen := is_len (Wy.freeRow p n t f)
        have emH : mH p n i j k = Wy.term (Wy.freeRow p n) n e l h := by unfold mH; rw [he, hl, hh]
        have no : ¬ (0 ≤ x ∧ x < (Wy.freeRow p n t f).length) → ∃ z6 z7 z8 z9 : Sl, ((((([Sl.sh (PyData.int p), Sl.sh (PyData.int n), Sl.ow (OD.dT kvs), Sl.sh (PyData.int C), Sl.sh (PyData.int e), Sl.sh (PyData.int l), y6, y7, y8, y9] : G).set 6 (Sl.sh (PyData.int h))).set 7 (Sl.sh (PyData.int x))).set 8 (Sl.sh (PyData.int t))).set 9 (Sl.sh (PyData.list (eIs (Wy.freeRow p n t f))))) = [.sh (.int p), .sh (.int n), .ow (.dT kvs), .sh (.int (B + Wy.sumN (mH p n i j) (k + 1))), .sh (.int e), .sh (.int l), z6, z7, z8, z9] := fun z => by
          refine ⟨.sh (.int h), .sh (.int x), .sh (.int t), .sh (.list (eIs (Wy.freeRow p n t f))), ?_⟩
          subst hC
          rw [show ∀ F : Nat → Int, Wy.sumN F (k + 1) = Wy.sumN F k + F k from fun _ => rfl, emH, term_no ht hf (by rw [hx]; exact z), Int.add_zero]
          rfl
        walk_at "g"
        refine ⟨fun z0 => ?_, fun z0 => ?_⟩
        · have x0 : 0 ≤ x := of_decide_eq_true z0
          walk_at "g"
          refine ite2b (fun hz => ?_) fun hz => ?_
          · have hz' : x < (Wy.freeRow p n t f).length := by rw [← hlen]; exact of_decide_eq_true hz
            obtain ⟨c, rfl⟩ : ∃ c : Nat, x = c := ⟨x.toNat, by omega⟩
            have st := term_yes (T := Wy.freeRow p n) ht hf hx (by omega)
            have ha := is_at (xs := Wy.freeRow p n t f) (i := c) (by omega)
            walk_at "g"
            refine ⟨_, _, _, rfl, rfl, ha, ?_⟩
            walk_at "g"
            refine ⟨.sh (.int h), .sh (.int c), .sh (.int t), .sh (.list (eIs (Wy.freeRow p n t f))), ?_⟩
            subst hC
            rw [show ∀ F : Nat → Int, Wy.sumN F (k + 1) = Wy.sumN F k + F k from fun _ => rfl, emH, st, ← Int.add_assoc]
            rfl
          · exact no fun z => absurd z.2 (by rw [← hlen]; exact of_decide_eq_false hz)
        · walk_at "g"
          exact no fun z => absurd z.1 (of_decide_eq_false z0)
      · rintro Γ ⟨y6, y7, y8, y9, rfl⟩
        refine ⟨.sh (.int l), y6, y7, y8, y9, ?_⟩
        subst hB
        subst hl
        subst he
        rw [Int.add_assoc]
        rfl
    · rintro Γ ⟨y5, y6, y7, y8, y9, rfl⟩
      refine ⟨.sh (.int e), y5, y6, y7, y8, y9, ?_⟩
      rw [show (min 0 e + 1 - -(n : Int)).toNat = (min 0 e + 1 + n).toNat by omega]
      subst hA
      subst he
      rfl
  · rintro Γ ⟨y4, y5, y6, y7, y8, y9, rfl⟩
    rw [e1]
    walk_at "h"
    exact q

end
end Law
namespace Law
open PySem PySem.Spec PyProof.Rows L2 Dk
section
variable {P : Program} {w : World} {K : Fg} {mg : Str → Option Value} {base : Heap}
set_option maxHeartbeats 4000000 in
theorem ok_l_layer (T : Txt K mg) : FnOk P w K mg base CX0 4 T.l_layer.f T.l_layer.fd ["_law_p_here", "_law_n"] (PureSp K cLLayer) := by
  refine pure_ok T.l_layer.F scL_layer (fun ds Qd h => by obtain ⟨p, n, rfl, _⟩ := h; rfl) fun cdv A outer s H E hr => ?_
  refine ⟨_, (pss_cons (ps_set (i := 2) scL_layer.nd rfl (.inl rfl) (kdisp1N P w (hu9_of hr) (pe_tup (pa_cons pe_int (pa_cons (pe_tup pa_nil) pa_nil))) pe_bl))
        (pss_cons (ps_set (i := 3) scL_layer.nd rfl (.inl rfl) (pe_lst (pa_cons (pe_tup (pa_cons pe_int (pa_cons (pe_tup pa_nil) pa_nil))) pa_nil)))
        (pss_cons (ps_for PassesOwn.never rfl (pi_range1 rfl T.zrange (pa_cons (pv 1) pa_nil)) (pg_name (i := 4) scL_layer.nd rfl (.inl rfl)) (pss_cons (ps_set (i := 5) scL_layer.nd rfl (.inl rfl) (pe_lst pa_nil))
        (pss_cons (ps_for PassesOwn.never rfl (kpil K (pv 3)) (pg_name (i := 6) scL_layer.nd rfl (.inl rfl)) (pss_one (ps_for PassesOwn.never rfl (kpil K (pe_lst (pa_cons (pe_tup (pa_cons pe_int (pa_cons (pe_tup pa_nil) pa_nil))) (pa_cons (pe_tup (pa_cons (pe_un un_neg pe_int) (pa_cons (pe_tup pa_nil) pa_nil))) (pa_cons (pe_tup (pa_cons pe_int (pa_cons (pe_tup (pa_cons (pe_tup (pa_cons pe_int (pa_cons pe_int pa_nil))) pa_nil)) pa_nil))) (pa_cons (pe_tup (pa_cons pe_int (pa_cons (pe_tup (pa_cons (pe_tup (pa_cons pe_int (pa_cons (pe_op op_sub (pv 0) pe_int) pa_nil))) pa_nil)) pa_nil))) pa_nil)))))) (pg_name (i := 7) scL_layer.nd rfl (.inl rfl)) (pss_cons (ps_set (i := 8) scL_layer.nd rfl (.inl rfl) (pe_call (ok_l_join T) (hr.mono (by decide)) (by rfl) T.l_join.m T.l_join.F.kp T.l_join.b .nil pass0 (pa_cons (pv 0) (pa_cons (pv 6) (pa_cons (pv 7) pa_nil)))))
        (pss_one (ps_if (pt_cmp (kdnotinN P w (hu9_of hr) (pv 8) (pv 2))) (pss_cons (kdputN P w (hu9_of hr) (pv 2) (pv 8) pe_bl rfl)
        (pss_one (ps_expr (kbm K PySem.F.plainAttrs_list PySem.F.slot_list_append PySem.F.type_list_append mt_append (pv 5) (pa_cons (pv 8) pa_nil))))) pss_nil))))))
        (pss_one (ps_set (i := 3) scL_layer.nd rfl (.inl rfl) (kmv (pv 5)))))))
        (pss_one (ps_ret (pe_callB (klen K) (by rfl) T.zlen (by decide +kernel) (pa_cons (pv 3) pa_nil))))))), ?_⟩
  walk_at "ss"
  rintro ds Qd ⟨p, n, rfl, hp, hn, q⟩
  refine ⟨[.sh (.int p), .sh (.int n)], .cons (.inr ⟨rfl, rfl⟩) (.cons (.inr ⟨rfl, rfl⟩) .nil), ?_⟩
  walk_at "h"
  refine ⟨eRound (0, []), nkR (0, []), _, rfl, nkD_round _, rfl, nkR_depth _, ⟨_, rfl⟩, rfl, rfl, fun o0 => ?_⟩
  walk_at "h"
  refine ⟨_, _, _, rfl, ⟨_, rfl, by omega, by omega, rfl, rfl⟩, fun k Γ => ∃ (o : Obj) (kvs : ND) (y4 y5 y6 y7 y8 : Sl), KeysR kvs (Wy.layer p k).1 ∧ Γ = [.sh (.int p), .sh (.int n), .ow (.ab (NDict P w o kvs)), .ow (.lst ((Wy.layer p k).2.map eRound)), y4, y5, y6, y7, y8], ⟨o0, [(nkR (0, []), .bool true)], .no, .no, .no, .no, .no, rfl, rfl⟩, ?_, ?_⟩
  · rintro k Γ hk ⟨o, kvs, y4, y5, y6, y7, y8, hks, rfl⟩
    have hp2 : 0 < (p : Int) := by have := hp.le; omega
    have k3 : k ≤ 3 := by omega
    obtain ⟨z1, z2, z3⟩ := layer_sz p k
    have zk : 4 ^ k ≤ 4 ^ 3 := Nat.pow_le_pow_right (by decide) k3
    walk_at "h"
    refine ⟨fun m Γ => ∃ (o : Obj) (kvs : ND) (y6 y7 y8 : Sl), KeysR kvs (((Wy.layer p k).2.take m).foldl (Wy.putAll p) ((Wy.layer p k).1, [])).1 ∧ Γ = [.sh (.int p), .sh (.int n), .ow (.ab (NDict P w o kvs)), .sh (.list ((Wy.layer p k).2.map eRound)), .sh (.int (0 + k)), .ow (.lst ((((Wy.layer p k).2.take m).foldl (Wy.putAll p) ((Wy.layer p k).1, [])).2.map eRound)), y6, y7, y8], ⟨o, kvs, y6, y7, y8, hks, rfl⟩, ?_, ?_⟩
    · rintro m d Γ hd ⟨o, kvs, y6, y7, y8, hks, rfl⟩
      rw [List.getElem?_map] at hd
      obtain ⟨one, h1, rfl⟩ := Option.map_eq_some_iff.mp hd
      have lone := z3 one (List.mem_of_getElem? h1)
      have ml : m < (Wy.layer p k).2.length := (List.getElem?_eq_some_iff.mp h1).1
      have zm : Sz 500 300 (k + 1) (((Wy.layer p k).2.take m).foldl (Wy.putAll p) ((Wy.layer p k).1, [])) := (Sz.fold (l := k + 1) p (ones := (Wy.layer p k).2.take m) (S := ((Wy.layer p k).1, [])) (a := 128) (b := 0) ⟨by show (Wy.layer p k).1.length ≤ 128; omega, Nat.zero_le _, fun x hx => nomatch hx⟩ fun o ho => by have := z3 o (List.mem_of_mem_take ho); omega).mono (by rw [List.length_take]; omega) (by rw [List.length_take]; omega)
      have e3 : ((Wy.layer p k).2.take (m + 1)).foldl (Wy.putAll p) ((Wy.layer p k).1, []) = Wy.putAll p (((Wy.layer p k).2.take m).foldl (Wy.putAll p) ((Wy.layer p k).1, [])) one := by
        rw [List.take_succ, h1, List.foldl_append]
        rfl
      generalize (((Wy.layer p k).2.take m).foldl (Wy.putAll p) ((Wy.layer p k).1, [])) = S at hks e3 zm ⊢
      walk_at "h"
      refine for_pre (xs := Wy.steps p) (f := eRound) (fun pre Γ => ∃ (o : Obj) (kvs : ND) (y7 y8 : Sl), KeysR kvs (pre.foldl (Wy.put p one) S).1 ∧ Sz (500 + pre.length) (300 + pre.length) (k + 1) (pre.foldl (Wy.put p one) S) ∧ Γ = [.sh (.int p), .sh (.int n), .ow (.ab (NDict P w o kvs)), .sh (.list ((Wy.layer p k).2.map eRound)), .sh (.int (0 + k)), .ow (.lst ((pre.foldl (Wy.put p one) S).2.map eRound)), .sh (eRound one), y7, y8]) ⟨o, kvs, y7, y8, hks, zm, rfl⟩ ?_ ?_
      · rintro pre st post Γ e ⟨o, kvs, y7, y8, hks, zs, rfl⟩
        have hst : st ∈ Wy.steps p := by rw [e]; simp
        have lst : st.2.length ≤ 1 := by
          unfold Wy.steps at hst
          simp only [List.mem_cons, List.not_mem_nil, or_false] at hst
          rcases hst with rfl | rfl | rfl | rfl <;> first | exact Nat.le_refl _ | exact Nat.zero_le _
        have l1 : one.2.length ≤ 4000000 := by omega
        have l2 : st.2.length ≤ 4000000 := by omega
        have lpre : pre.length ≤ 3 := by have := congrArg List.length e; simp [Wy.steps] at this; omega
        have e5 : (pre ++ [st]).foldl (Wy.put p one) S = Wy.put p one (pre.foldl (Wy.put p one) S) st := by rw [List.foldl_append]; rfl
        have zs2 := zs.put p (one := one) (st := st) (by omega)
        have elp : (pre ++ [st]).length = pre.length + 1 := by rw [List.length_append]; rfl
        have er : (Wy.put p one (pre.foldl (Wy.put p one) S) st).1 = if Rd.join p one st ∈ (pre.foldl (Wy.put p one) S).1 then (pre.foldl (Wy.put p one) S).1 else (pre.foldl (Wy.put p one) S).1 ++ [Rd.join p one st] := by unfold Wy.put; split <;> rfl
        have er2 : (Wy.put p one (pre.foldl (Wy.put p one) S) st).2 = if Rd.join p one st ∈ (pre.foldl (Wy.put p one) S).1 then (pre.foldl (Wy.put p one) S).2 else (pre.foldl (Wy.put p one) S).2 ++ [Rd.join p one st] := by unfold Wy.put; split <;> rfl
        rw [← e5] at er er2 zs2
        walk_at "h"
        generalize List.foldl (Wy.put p one) S (pre ++ [st]) = S2 at er er2 zs2 ⊢
        generalize List.foldl (Wy.put p one) S pre = S1 at hks zs er er2 ⊢
        generalize Rd.join p one st = r at er er2 ⊢
        refine ⟨_, fun _ h => h, ?_⟩
        walk_at "h"
        refine ⟨eRound r, nkR r, o, kvs, rfl, nkD_round r, rfl, nkR_depth r, ⟨_, rfl⟩, rfl, ?_⟩
        rw [hks.at_ r]
        by_cases hm : r ∈ S1.1
        · rw [if_pos hm] at er er2
          rw [decide_eq_true hm]
          walk_at "h"
          exact ⟨o, kvs, .sh (eRound st), .sh (eRound r), by rw [er]; exact hks, by rw [elp]; exact zs2, by rw [er2]; rfl⟩
        · rw [if_neg hm] at er er2
          rw [decide_eq_false hm]
          walk_at "h"
          refine ⟨⟨o, kvs, rfl⟩, ?_⟩
          walk_at "h"
          refine ⟨eRound r, nkR r, _, o, kvs, rfl, nkD_round r, rfl, nkR_depth r, ⟨_, rfl⟩, rfl, rfl, rfl, ?_, fun o' => ?_⟩
          · have := hks.len
            exact Nat.lt_of_le_of_lt (by rw [this]; exact zs.1) (small100000 (by omega))
          walk_at "h"
          refine ⟨by rw [List.length_map]; exact small100000 (by have := zs.2.1; omega), ?_⟩
          exact ⟨o', putKD kvs (nkR r) (.bool true), .sh (eRound st), .sh (eRound r), by rw [er]; exact hks.put hm _, by rw [elp]; exact zs2, by rw [er2, List.map_append]; rfl⟩
      · rintro Γ ⟨o, kvs, y7, y8, hks, zs, rfl⟩
        exact ⟨o, kvs, .sh (eRound one), y7, y8, by rw [e3]; exact hks, by rw [e3]; rfl⟩
    · rintro Γ ⟨o, kvs, y6, y7, y8, hks, rfl⟩
      rw [List.length_map, List.take_length] at *
      walk_at "h"
      exact ⟨o, kvs, _, _, _, _, _, hks, rfl⟩
  · rintro Γ ⟨o, kvs, y4, y5, y6, y7, y8, hks, rfl⟩
    walk_at "h"
    rw [List.length_map]
    exact q

end
end Law
namespace Law
open PySem PySem.Spec PyProof.Rows L2 Dk
section
variable {P : Program} {w : World} {K : Fg} {mg : Str → Option Value} {base : Heap}
set_option maxHeartbeats 4000000 in
theorem ok_law {f : Addr} {fd : FuncData} (Fn : L2.Fun K "law" "law" sLaw f fd) (T : Txt K mg) : FnOk P w K mg base CX0 5 f fd ["_law_script"] (spLaw K) := by
  refine law_ok Fn scLaw (by decide) fun cdv A outer s H E hr => ?_
  refine ⟨_, _, (pss_cons (ps_set (i := 1) scLaw.nd rfl (.inl rfl) (pe_call (ok_l_begin T) (hr.mono (by decide)) (by rfl) T.l_begin.m T.l_begin.F.kp T.l_begin.b .nil pass0 (pa_cons (pv 0) pa_nil)))
        (pss_cons (ps_set (i := 2) scLaw.nd rfl (.inl rfl) (pe_call (ok_l_p T) (hr.mono (by decide)) (by rfl) T.l_p.m T.l_p.F.kp T.l_p.b .nil pass0 (pa_cons (pv 1) pa_nil)))
        (pss_cons (ps_set (i := 3) scLaw.nd rfl (.inl rfl) (pe_call (ok_l_take T) (hr.mono (by decide)) (by rfl) T.l_take.m T.l_take.F.kp T.l_take.b .nil pass0 (pa_cons (pv 1) (pa_cons pe_int pa_nil))))
        (pss_cons (ps_set (i := 4) scLaw.nd rfl (.inl rfl) (pe_call (ok_many_at T) (hr.mono (by decide)) (by rfl) T.many_at.m T.many_at.F.kp T.many_at.b .nil pass0 (pa_cons (pv 2) (pa_cons (pv 3) pa_nil))))
        (pss_cons (ps_if (PW.pt (pw_or (pt_not (pt_val (pe_call (ok_l_int T) (hr.mono (by decide)) (by rfl) T.l_int.m T.l_int.F.kp T.l_int.b .nil pass0 (pa_cons (pv 4) pa_nil)))) (pw_or1 (pt_cmpR op_ne (pv 4) (pe_call (ok_l_count T) (hr.mono (by decide)) (by rfl) T.l_count.m T.l_count.F.kp T.l_count.b .nil pass0 (pa_cons (pv 2) (pa_cons (pv 3) pa_nil))) (nomark _))))) (pss_one (ps_ret pe_bl)) pss_nil)
        (pss_cons (ps_set (i := 5) scLaw.nd rfl (.inl rfl) (pe_call (ok_l_take T) (hr.mono (by decide)) (by rfl) T.l_take.m T.l_take.F.kp T.l_take.b .nil pass0 (pa_cons (pv 1) (pa_cons pe_int pa_nil))))
        (pss_cons (ps_set (i := 4) scLaw.nd rfl (.inl rfl) (pe_call (ok_many_at T) (hr.mono (by decide)) (by rfl) T.many_at.m T.many_at.F.kp T.many_at.b .nil pass0 (pa_cons (pv 2) (pa_cons (pv 5) pa_nil))))
        (pss_one (ps_ret (pe_and (pe_call (ok_l_int T) (hr.mono (by decide)) (by rfl) T.l_int.m T.l_int.F.kp T.l_int.b .nil pass0 (pa_cons (pv 4) pa_nil)) (pe_one (pe_cmpR op_eq (pv 4) (pe_call (ok_l_layer T) (hr.mono (by decide)) (by rfl) T.l_layer.m T.l_layer.F.kp T.l_layer.b .nil pass0 (pa_cons (pv 2) (pa_cons (pv 5) pa_nil))) (nomark _))))))))))))), ?_⟩
  walk_at "ss"
  walk_at "h"
  intro p0 hp0
  obtain ⟨p, rfl, hp⟩ := inP_of hp0
  walk_at "h"
  intro n0 na nb
  obtain ⟨n, rfl⟩ : ∃ n : Nat, n0 = n := ⟨n0.toNat, by omega⟩
  have n12 : n ≤ 12 := by omega
  have ml := Wy.many_law hp (n := n) (by omega)
  walk_at "g"
  rw [decide_eq_true ml]
  walk_at "g"
  intro f0 fa fb
  obtain ⟨f, rfl⟩ : ∃ f : Nat, f0 = f := ⟨f0.toNat, by omega⟩
  have f4 : f ≤ 4 := by omega
  have f12 : f ≤ 12 := by omega
  have my := Wy.many_layer hp (n := f) (by omega)
  walk_at "g"
  rw [decide_eq_true my]
  rfl

end
end Law
namespace Law
open PySem PySem.Spec PyProof.Rows L2 Dk
def mkFn {K : Fg} {h : Heap} {mg : Str → Option Value} {x : Str} {st : Stmt} {ps : List Str} {f : Addr} {od an : Option Addr} {sl : Array (Option Value)} {oc kV dc pm cd ct : Value} (X : K.In h) (G : h.Ns mainGlobals mg)
    (a : PySem.W.nsIn K mainGlobals x = some (some (.ref f))) (l : K.lookup f = some ⟨oc, od, .func (PySem.W.fnOf x x (defArgs st) (defBody st) (defScope st) .none kV dc pm an cd ct), sl⟩) (c : PySem.W.codeIn K cd x = true) (k : PySem.W.keepIn K (.ref f) = true)
    (hb : ∀ fd, L2.Fun K x x st f fd → Binds K fd ps []) : FnIn K mg x st ps := ⟨f, _, fun_mk (st := st) l c k, hb _ (fun_mk (st := st) l c k), PySem.W.mg_of X G a⟩
set_option maxHeartbeats 8000000 in
theorem all_mk {l : PySem.W.OpenLaw} {w : World} {K : Fg} {h : Heap} {mg : Str → Option Value} {fa : Addr} (X : K.In h) (G : h.Ns mainGlobals mg) (hfa : mg "law" = some (.ref fa))
    {f0 : Addr} {od0 an0 : Option Addr} {sl0 : Array (Option Value)} {oc0 kV0 dc0 pm0 cd0 ct0 : Value} (a0 : PySem.W.nsIn K mainGlobals "price" = some (some (.ref f0))) (l0 : K.lookup f0 = some ⟨oc0, od0, .func (PySem.W.fnOf "price" "price" (defArgs sPrice) (defBody sPrice) (defScope sPrice) .none kV0 dc0 pm0 an0 cd0 ct0), sl0⟩) (c0 : PySem.W.codeIn K cd0 "price" = true) (k0 : PySem.W.keepIn K (.ref f0) = true)
    {f1 : Addr} {od1 an1 : Option Addr} {sl1 : Array (Option Value)} {oc1 kV1 dc1 pm1 cd1 ct1 : Value} (a1 : PySem.W.nsIn K mainGlobals "prices" = some (some (.ref f1))) (l1 : K.lookup f1 = some ⟨oc1, od1, .func (PySem.W.fnOf "prices" "prices" (defArgs sPrices) (defBody sPrices) (defScope sPrices) .none kV1 dc1 pm1 an1 cd1 ct1), sl1⟩) (c1 : PySem.W.codeIn K cd1 "prices" = true) (k1 : PySem.W.keepIn K (.ref f1) = true)
    {f2 : Addr} {od2 an2 : Option Addr} {sl2 : Array (Option Value)} {oc2 kV2 dc2 pm2 cd2 ct2 : Value} (a2 : PySem.W.nsIn K mainGlobals "spread" = some (some (.ref f2))) (l2 : K.lookup f2 = some ⟨oc2, od2, .func (PySem.W.fnOf "spread" "spread" (defArgs sSpread) (defBody sSpread) (defScope sSpread) .none kV2 dc2 pm2 an2 cd2 ct2), sl2⟩) (c2 : PySem.W.codeIn K cd2 "spread" = true) (k2 : PySem.W.keepIn K (.ref f2) = true)
    {f3 : Addr} {od3 an3 : Option Addr} {sl3 : Array (Option Value)} {oc3 kV3 dc3 pm3 cd3 ct3 : Value} (a3 : PySem.W.nsIn K mainGlobals "spreads" = some (some (.ref f3))) (l3 : K.lookup f3 = some ⟨oc3, od3, .func (PySem.W.fnOf "spreads" "spreads" (defArgs sSpreads) (defBody sSpreads) (defScope sSpreads) .none kV3 dc3 pm3 an3 cd3 ct3), sl3⟩) (c3 : PySem.W.codeIn K cd3 "spreads" = true) (k3 : PySem.W.keepIn K (.ref f3) = true)
    {f4 : Addr} {od4 an4 : Option Addr} {sl4 : Array (Option Value)} {oc4 kV4 dc4 pm4 cd4 ct4 : Value} (a4 : PySem.W.nsIn K mainGlobals "many_at" = some (some (.ref f4))) (l4 : K.lookup f4 = some ⟨oc4, od4, .func (PySem.W.fnOf "many_at" "many_at" (defArgs sMany_at) (defBody sMany_at) (defScope sMany_at) .none kV4 dc4 pm4 an4 cd4 ct4), sl4⟩) (c4 : PySem.W.codeIn K cd4 "many_at" = true) (k4 : PySem.W.keepIn K (.ref f4) = true)
    {f5 : Addr} {od5 an5 : Option Addr} {sl5 : Array (Option Value)} {oc5 kV5 dc5 pm5 cd5 ct5 : Value} (a5 : PySem.W.nsIn K mainGlobals "_law_begin" = some (some (.ref f5))) (l5 : K.lookup f5 = some ⟨oc5, od5, .func (PySem.W.fnOf "_law_begin" "_law_begin" (defArgs sL_begin) (defBody sL_begin) (defScope sL_begin) .none kV5 dc5 pm5 an5 cd5 ct5), sl5⟩) (c5 : PySem.W.codeIn K cd5 "_law_begin" = true) (k5 : PySem.W.keepIn K (.ref f5) = true)
    {f6 : Addr} {od6 an6 : Option Addr} {sl6 : Array (Option Value)} {oc6 kV6 dc6 pm6 cd6 ct6 : Value} (a6 : PySem.W.nsIn K mainGlobals "_law_take" = some (some (.ref f6))) (l6 : K.lookup f6 = some ⟨oc6, od6, .func (PySem.W.fnOf "_law_take" "_law_take" (defArgs sL_take) (defBody sL_take) (defScope sL_take) .none kV6 dc6 pm6 an6 cd6 ct6), sl6⟩) (c6 : PySem.W.codeIn K cd6 "_law_take" = true) (k6 : PySem.W.keepIn K (.ref f6) = true)
    {f7 : Addr} {od7 an7 : Option Addr} {sl7 : Array (Option Value)} {oc7 kV7 dc7 pm7 cd7 ct7 : Value} (a7 : PySem.W.nsIn K mainGlobals "_law_p" = some (some (.ref f7))) (l7 : K.lookup f7 = some ⟨oc7, od7, .func (PySem.W.fnOf "_law_p" "_law_p" (defArgs sL_p) (defBody sL_p) (defScope sL_p) .none kV7 dc7 pm7 an7 cd7 ct7), sl7⟩) (c7 : PySem.W.codeIn K cd7 "_law_p" = true) (k7 : PySem.W.keepIn K (.ref f7) = true)
    {f8 : Addr} {od8 an8 : Option Addr} {sl8 : Array (Option Value)} {oc8 kV8 dc8 pm8 cd8 ct8 : Value} (a8 : PySem.W.nsIn K mainGlobals "_law_tidy" = some (some (.ref f8))) (l8 : K.lookup f8 = some ⟨oc8, od8, .func (PySem.W.fnOf "_law_tidy" "_law_tidy" (defArgs sL_tidy) (defBody sL_tidy) (defScope sL_tidy) .none kV8 dc8 pm8 an8 cd8 ct8), sl8⟩) (c8 : PySem.W.codeIn K cd8 "_law_tidy" = true) (k8 : PySem.W.keepIn K (.ref f8) = true)
    {f9 : Addr} {od9 an9 : Option Addr} {sl9 : Array (Option Value)} {oc9 kV9 dc9 pm9 cd9 ct9 : Value} (a9 : PySem.W.nsIn K mainGlobals "_law_sum" = some (some (.ref f9))) (l9 : K.lookup f9 = some ⟨oc9, od9, .func (PySem.W.fnOf "_law_sum" "_law_sum" (defArgs sL_sum) (defBody sL_sum) (defScope sL_sum) .none kV9 dc9 pm9 an9 cd9 ct9), sl9⟩) (c9 : PySem.W.codeIn K cd9 "_law_sum" = true) (k9 : PySem.W.keepIn K (.ref f9) = true)
    {f10 : Addr} {od10 an10 : Option Addr} {sl10 : Array (Option Value)} {oc10 kV10 dc10 pm10 cd10 ct10 : Value} (a10 : PySem.W.nsIn K mainGlobals "_law_join" = some (some (.ref f10))) (l10 : K.lookup f10 = some ⟨oc10, od10, .func (PySem.W.fnOf "_law_join" "_law_join" (defArgs sL_join) (defBody sL_join) (defScope sL_join) .none kV10 dc10 pm10 an10 cd10 ct10), sl10⟩) (c10 : PySem.W.codeIn K cd10 "_law_join" = true) (k10 : PySem.W.keepIn K (.ref f10) = true)
    {f11 : Addr} {od11 an11 : Option Addr} {sl11 : Array (Option Value)} {oc11 kV11 dc11 pm11 cd11 ct11 : Value} (a11 : PySem.W.nsIn K mainGlobals "_law_int" = some (some (.ref f11))) (l11 : K.lookup f11 = some ⟨oc11, od11, .func (PySem.W.fnOf "_law_int" "_law_int" (defArgs sL_int) (defBody sL_int) (defScope sL_int) .none kV11 dc11 pm11 an11 cd11 ct11), sl11⟩) (c11 : PySem.W.codeIn K cd11 "_law_int" = true) (k11 : PySem.W.keepIn K (.ref f11) = true)
    {f12 : Addr} {od12 an12 : Option Addr} {sl12 : Array (Option Value)} {oc12 kV12 dc12 pm12 cd12 ct12 : Value} (a12 : PySem.W.nsIn K mainGlobals "_law_patterns" = some (some (.ref f12))) (l12 : K.lookup f12 = some ⟨oc12, od12, .func (PySem.W.fnOf "_law_patterns" "_law_patterns" (defArgs sL_patterns) (defBody sL_patterns) (defScope sL_patterns) .none kV12 dc12 pm12 an12 cd12 ct12), sl12⟩) (c12 : PySem.W.codeIn K cd12 "_law_patterns" = true) (k12 : PySem.W.keepIn K (.ref f12) = true)
    {f13 : Addr} {od13 an13 : Option Addr} {sl13 : Array (Option Value)} {oc13 kV13 dc13 pm13 cd13 ct13 : Value} (a13 : PySem.W.nsIn K mainGlobals "_law_count" = some (some (.ref f13))) (l13 : K.lookup f13 = some ⟨oc13, od13, .func (PySem.W.fnOf "_law_count" "_law_count" (defArgs sL_count) (defBody sL_count) (defScope sL_count) .none kV13 dc13 pm13 an13 cd13 ct13), sl13⟩) (c13 : PySem.W.codeIn K cd13 "_law_count" = true) (k13 : PySem.W.keepIn K (.ref f13) = true)
    {f14 : Addr} {od14 an14 : Option Addr} {sl14 : Array (Option Value)} {oc14 kV14 dc14 pm14 cd14 ct14 : Value} (a14 : PySem.W.nsIn K mainGlobals "_law_layer" = some (some (.ref f14))) (l14 : K.lookup f14 = some ⟨oc14, od14, .func (PySem.W.fnOf "_law_layer" "_law_layer" (defArgs sL_layer) (defBody sL_layer) (defScope sL_layer) .none kV14 dc14 pm14 an14 cd14 ct14), sl14⟩) (c14 : PySem.W.codeIn K cd14 "_law_layer" = true) (k14 : PySem.W.keepIn K (.ref f14) = true)
    {f15 : Addr} {od15 an15 : Option Addr} {sl15 : Array (Option Value)} {oc15 kV15 dc15 pm15 cd15 ct15 : Value} (a15 : PySem.W.nsIn K mainGlobals "law" = some (some (.ref f15))) (l15 : K.lookup f15 = some ⟨oc15, od15, .func (PySem.W.fnOf "law" "law" (defArgs sLaw) (defBody sLaw) (defScope sLaw) .none kV15 dc15 pm15 an15 cd15 ct15), sl15⟩) (c15 : PySem.W.codeIn K cd15 "law" = true) (k15 : PySem.W.keepIn K (.ref f15) = true)
    (z_abs : PySem.W.nsIn K mainGlobals "abs" = some none)
    (z_bool : PySem.W.nsIn K mainGlobals "bool" = some none)
    (z_int : PySem.W.nsIn K mainGlobals "int" = some none)
    (z_isinstance : PySem.W.nsIn K mainGlobals "isinstance" = some none)
    (z_len : PySem.W.nsIn K mainGlobals "len" = some none)
    (z_list : PySem.W.nsIn K mainGlobals "list" = some none)
    (z_max : PySem.W.nsIn K mainGlobals "max" = some none)
    (z_min : PySem.W.nsIn K mainGlobals "min" = some none)
    (z_range : PySem.W.nsIn K mainGlobals "range" = some none)
    (z_sorted : PySem.W.nsIn K mainGlobals "sorted" = some none)
    (z_tuple : PySem.W.nsIn K mainGlobals "tuple" = some none)
    : ∃ fd : FuncData, (∀ (s : Shared) (v : Value), BindsTo s fd ⟨[v], []⟩ [("_law_script", v)]) ∧ ∀ base : Heap, K.In base → base.Ns mainGlobals mg → FnOk l.prog w K mg base CX0 5 fa fd ["_law_script"] (spLaw K) := by
  have T : Txt K mg := {
    price := mkFn X G a0 l0 c0 k0 fun fd F => F.binds (ps := ["p", "setting"]) fun _ _ _ _ _ _ us hl => match us, hl with | [_, _], _ => rfl
    prices := mkFn X G a1 l1 c1 k1 fun fd F => F.binds (ps := ["p", "lit"]) fun _ _ _ _ _ _ us hl => match us, hl with | [_, _], _ => rfl
    spread := mkFn X G a2 l2 c2 k2 fun fd F => F.binds (ps := ["counts", "more", "n"]) fun _ _ _ _ _ _ us hl => match us, hl with | [_, _, _], _ => rfl
    spreads := mkFn X G a3 l3 c3 k3 fun fd F => F.binds (ps := ["p", "n"]) fun _ _ _ _ _ _ us hl => match us, hl with | [_, _], _ => rfl
    many_at := mkFn X G a4 l4 c4 k4 fun fd F => F.binds (ps := ["p", "n"]) fun _ _ _ _ _ _ us hl => match us, hl with | [_, _], _ => rfl
    l_begin := mkFn X G a5 l5 c5 k5 fun fd F => F.binds (ps := ["_law_script"]) fun _ _ _ _ _ _ us hl => match us, hl with | [_], _ => rfl
    l_take := mkFn X G a6 l6 c6 k6 fun fd F => F.binds (ps := ["_law_draw", "_law_many"]) fun _ _ _ _ _ _ us hl => match us, hl with | [_, _], _ => rfl
    l_p := mkFn X G a7 l7 c7 k7 fun fd F => F.binds (ps := ["_law_draw"]) fun _ _ _ _ _ _ us hl => match us, hl with | [_], _ => rfl
    l_tidy := mkFn X G a8 l8 c8 k8 fun fd F => F.binds (ps := ["_law_p_here", "_law_pairs"]) fun _ _ _ _ _ _ us hl => match us, hl with | [_, _], _ => rfl
    l_sum := mkFn X G a9 l9 c9 k9 fun fd F => F.binds (ps := ["_law_p_here", "_law_one", "_law_other", "_law_by", "_law_many"]) fun _ _ _ _ _ _ us hl => match us, hl with | [_, _, _, _, _], _ => rfl
    l_join := mkFn X G a10 l10 c10 k10 fun fd F => F.binds (ps := ["_law_p_here", "_law_one", "_law_other"]) fun _ _ _ _ _ _ us hl => match us, hl with | [_, _, _], _ => rfl
    l_int := mkFn X G a11 l11 c11 k11 fun fd F => F.binds (ps := ["_law_thing"]) fun _ _ _ _ _ _ us hl => match us, hl with | [_], _ => rfl
    l_patterns := mkFn X G a12 l12 c12 k12 fun fd F => F.binds (ps := ["_law_p_here", "_law_free", "_law_tips", "_law_cost"]) fun _ _ _ _ _ _ us hl => match us, hl with | [_, _, _, _], _ => rfl
    l_count := mkFn X G a13 l13 c13 k13 fun fd F => F.binds (ps := ["_law_p_here", "_law_n"]) fun _ _ _ _ _ _ us hl => match us, hl with | [_, _], _ => rfl
    l_layer := mkFn X G a14 l14 c14 k14 fun fd F => F.binds (ps := ["_law_p_here", "_law_n"]) fun _ _ _ _ _ _ us hl => match us, hl with | [_, _], _ => rfl
    zabs := PySem.W.mg_none_of X G z_abs
    zbool := PySem.W.mg_none_of X G z_bool
    zint := PySem.W.mg_none_of X G z_int
    zisinstance := PySem.W.mg_none_of X G z_isinstance
    zlen := PySem.W.mg_none_of X G z_len
    zlist := PySem.W.mg_none_of X G z_list
    zmax := PySem.W.mg_none_of X G z_max
    zmin := PySem.W.mg_none_of X G z_min
    zrange := PySem.W.mg_none_of X G z_range
    zsorted := PySem.W.mg_none_of X G z_sorted
    ztuple := PySem.W.mg_none_of X G z_tuple
  }
  have e := hfa.symm.trans (PySem.W.mg_of X G a15)
  cases e
  exact ⟨PySem.W.fnOf "law" "law" (defArgs sLaw) (defBody sLaw) (defScope sLaw) .none kV15 dc15 pm15 an15 cd15 ct15, fun s v => .of_eq rfl, fun base _ _ => ok_law (fun_mk (st := sLaw) l15 c15 k15) T⟩
end Law
open PySem PySem.W PyProof.Rows
set_option maxHeartbeats 0 in
theorem PySem.Challenge.cw_duskround_k14_rounds_of_each_cost_holds : PySem.Challenge.rw_duskround_k14_rounds_of_each_cost.Holds := by
  w_on; o_law; k_head; (case hw => w_witness2)
  k_fill
  refine L2.walk_of (l := PySem.Challenge.rw_duskround_k14_rounds_of_each_cost) (n := 63) (k := 5) (x := "_law_script") (CX := fun _ => L2.CX0) (sp := fun w => Dk.spLaw _) rfl (by decide) rfl ⟨rfl, by decide, by decide⟩ (fun w h Y => PySem.W.kIn_of Y) ?F (fun _ _ a ns hl _ hS => ⟨a, ns, rfl, hS, fun _ => rfl⟩) (fun _ _ _ _ _ h => h)
  case F =>
    intro w mg fa h KX G hmg
    refine' Law.all_mk KX G hmg ?a0 ?l0 ?c0 ?k0 ?a1 ?l1 ?c1 ?k1 ?a2 ?l2 ?c2 ?k2 ?a3 ?l3 ?c3 ?k3 ?a4 ?l4 ?c4 ?k4 ?a5 ?l5 ?c5 ?k5 ?a6 ?l6 ?c6 ?k6 ?a7 ?l7 ?c7 ?k7 ?a8 ?l8 ?c8 ?k8 ?a9 ?l9 ?c9 ?k9 ?a10 ?l10 ?c10 ?k10 ?a11 ?l11 ?c11 ?k11 ?a12 ?l12 ?c12 ?k12 ?a13 ?l13 ?c13 ?k13 ?a14 ?l14 ?c14 ?k14 ?a15 ?l15 ?c15 ?k15 ?z_abs ?z_bool ?z_int ?z_isinstance ?z_len ?z_list ?z_max ?z_min ?z_range ?z_sorted ?z_tuple
    (case a0 => k_is); (case l0 => k_is); (case c0 => k_is); (case k0 => k_is); (case a1 => k_is); (case l1 => k_is); (case c1 => k_is); (case k1 => k_is); (case a2 => k_is); (case l2 => k_is); (case c2 => k_is); (case k2 => k_is); (case a3 => k_is); (case l3 => k_is); (case c3 => k_is); (case k3 => k_is); (case a4 => k_is); (case l4 => k_is); (case c4 => k_is); (case k4 => k_is); (case a5 => k_is); (case l5 => k_is); (case c5 => k_is); (case k5 => k_is); (case a6 => k_is); (case l6 => k_is); (case c6 => k_is); (case k6 => k_is); (case a7 => k_is); (case l7 => k_is); (case c7 => k_is); (case k7 => k_is); (case a8 => k_is); (case l8 => k_is); (case c8 => k_is); (case k8 => k_is); (case a9 => k_is); (case l9 => k_is); (case c9 => k_is); (case k9 => k_is); (case a10 => k_is); (case l10 => k_is); (case c10 => k_is); (case k10 => k_is); (case a11 => k_is); (case l11 => k_is); (case c11 => k_is); (case k11 => k_is); (case a12 => k_is); (case l12 => k_is); (case c12 => k_is); (case k12 => k_is); (case a13 => k_is); (case l13 => k_is); (case c13 => k_is); (case k13 => k_is); (case a14 => k_is); (case l14 => k_is); (case c14 => k_is); (case k14 => k_is); (case a15 => k_is); (case l15 => k_is); (case c15 => k_is); (case k15 => k_is); (case z_abs => k_is); (case z_bool => k_is); (case z_int => k_is); (case z_isinstance => k_is); (case z_len => k_is); (case z_list => k_is); (case z_max => k_is); (case z_min => k_is); (case z_range => k_is); (case z_sorted => k_is); (case z_tuple => k_is)
