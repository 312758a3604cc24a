import PyProof.Rows.All
import Wide.All
import OpenK.AllK
import Wide.FinOn
import HandS.ForMost
import HandS.EndBits
import HandS.IsInst
import HandS.Wide
import HandS.More
import HandS.SortInts
import HandS.Deep
import HandS.Exc
import HandS.TryOnly
import HandS.ExcOwn
import HandS.ExcIs
import HandS.WordsExc
import HandS.Style
import HandS.Conv
import HandS.Walk
import KE.RegKIsAll
import HandS.TupAny
import PySem.Challenge.RW_duskround_k23_stairs_of_one_column
set_option Elab.async false
set_option linter.all false
set_option maxRecDepth 100000
set_option autoImplicit false
set_option synthInstance.maxHeartbeats 4000000
set_option synthInstance.maxSize 100000
namespace Pt
/-! patterns: which lamps were turned how far -/
abbrev Pat := List (Int × Int)
def at_ : Pat → Int → Int
  | [], _ => 0
  | x :: r, k => if x.1 = k then x.2 else at_ r k
def sumAt : Pat → Int → Int
  | [], _ => 0
  | x :: r, k => (if x.1 = k then x.2 else 0) + sumAt r k
structure IsPat (p : Int) (xs : Pat) : Prop where
  srt : xs.Pairwise fun a b => a.1 < b.1
  rng : ∀ x ∈ xs, 0 < x.2 ∧ x.2 < p
theorem sumAt_app (xs ys : Pat) (k : Int) : sumAt (xs ++ ys) k = sumAt xs k + sumAt ys k := by
  induction xs with
  | nil => simp [sumAt]
  | cons x r ih => simp only [List.cons_append, sumAt, ih]; omega
theorem at_none {xs : Pat} {k : Int} (h : ∀ x ∈ xs, x.1 ≠ k) : at_ xs k = 0 := by
  induction xs with
  | nil => rfl
  | cons x r ih =>
    have h1 := h x (by simp)
    simp only [at_, if_neg h1]
    exact ih fun y hy => h y (by simp [hy])
theorem sumAt_none {xs : Pat} {k : Int} (h : ∀ x ∈ xs, x.1 ≠ k) : sumAt xs k = 0 := by
  induction xs with
  | nil => rfl
  | cons x r ih =>
    have h1 := h x (by simp)
    simp only [sumAt, if_neg h1]
    rw [ih fun y hy => h y (by simp [hy])]
    rfl
theorem at_mem {xs : Pat} {k : Int} (h : at_ xs k ≠ 0) : (k, at_ xs k) ∈ xs := by
  induction xs with
  | nil => exact absurd rfl h
  | cons x r ih =>
    simp only [at_] at h ⊢
    split at h
    · rename_i e
      rw [if_pos e]
      subst e
      simp
    · rename_i e
      rw [if_neg e]
      exact List.mem_cons_of_mem _ (ih h)
theorem IsPat.tail {p : Int} {x : Int × Int} {r : Pat} (h : IsPat p (x :: r)) : IsPat p r := ⟨(List.pairwise_cons.mp h.srt).2, fun y hy => h.rng y (by simp [hy])⟩
theorem IsPat.nil (p : Int) : IsPat p [] := ⟨.nil, by simp⟩
theorem IsPat.head {p : Int} {x : Int × Int} {r : Pat} (h : IsPat p (x :: r)) : ∀ y ∈ r, x.1 < y.1 := (List.pairwise_cons.mp h.srt).1
theorem IsPat.at_of_mem {p : Int} {xs : Pat} {x : Int × Int} (h : IsPat p xs) (hx : x ∈ xs) : at_ xs x.1 = x.2 := by
  induction xs with
  | nil => simp at hx
  | cons y r ih =>
    rcases List.mem_cons.mp hx with rfl | hx'
    · simp [at_]
    · have := h.head x hx'
      simp only [at_]
      rw [if_neg (by omega)]
      exact ih h.tail hx'
theorem IsPat.at_sum {p : Int} {xs : Pat} (h : IsPat p xs) (k : Int) : sumAt xs k = at_ xs k := by
  induction xs with
  | nil => rfl
  | cons x r ih =>
    simp only [at_, sumAt]
    split
    · rename_i e
      rw [sumAt_none]
      · omega
      · intro y hy
        have := h.head y hy
        omega
    · rw [ih h.tail]
      omega
theorem IsPat.at_rng {p : Int} {xs : Pat} (h : IsPat p xs) (hp : 0 < p) (k : Int) : 0 ≤ at_ xs k ∧ at_ xs k < p := by
  by_cases e : at_ xs k = 0
  · omega
  · have := h.rng _ (at_mem e)
    simp only at this
    omega
theorem pat_ext {p : Int} {xs ys : Pat} (hx : IsPat p xs) (hy : IsPat p ys) (h : ∀ k, at_ xs k = at_ ys k) : xs = ys := by
  induction xs generalizing ys with
  | nil =>
    cases ys with
    | nil => rfl
    | cons y r =>
      have h1 := h y.1
      have h2 := hy.rng y (by simp)
      simp [at_] at h1
      omega
  | cons x r ih =>
    cases ys with
    | nil =>
      have h1 := h x.1
      have h2 := hx.rng x (by simp)
      simp [at_] at h1
      omega
    | cons y s =>
      have hx2 := hx.rng x (by simp)
      have hy2 := hy.rng y (by simp)
      have e1 : x.1 = y.1 := by
        have a1 := h x.1
        have a2 := h y.1
        simp only [at_, if_true] at a1 a2
        by_cases q : x.1 = y.1
        · exact q
        · exfalso
          by_cases l : x.1 < y.1
          · rw [if_neg (fun z => q z.symm), at_none fun z hz => by have := hy.head z hz; omega] at a1
            omega
          · rw [if_neg q, at_none fun z hz => by have := hx.head z hz; omega] at a2
            omega
      have e2 : x.2 = y.2 := by
        have a1 := h x.1
        simp only [at_, if_true] at a1
        rw [if_pos e1.symm] at a1
        exact a1
      have e : x = y := Prod.ext e1 e2
      subst e
      congr 1
      refine ih hx.tail hy.tail fun k => ?_
      have a := h k
      simp only [at_] at a
      by_cases q : x.1 = k
      · rw [at_none fun z hz => by have := hx.head z hz; omega, at_none fun z hz => by have := hy.head z hz; omega]
      · rw [if_neg q, if_neg q] at a
        exact a
/-- one lamp turned on -/
def addAt (p : Int) : Pat → Int → Int → Pat
  | [], k, v => if v % p = 0 then [] else [(k, v % p)]
  | x :: r, k, v =>
    if k < x.1 then (if v % p = 0 then x :: r else (k, v % p) :: x :: r)
    else if k = x.1 then (if (x.2 + v) % p = 0 then r else (k, (x.2 + v) % p) :: r)
    else x :: addAt p r k v
theorem addAt_ok {p : Int} (hp : 0 < p) : ∀ {xs : Pat} (k v : Int), IsPat p xs → IsPat p (addAt p xs k v) ∧ (∀ j, at_ (addAt p xs k v) j = if j = k then (at_ xs k + v) % p else at_ xs j) ∧ (∀ y ∈ addAt p xs k v, y.1 = k ∨ ∃ x ∈ xs, x.1 = y.1)
  | [], k, v, h => by
    have m1 := Int.emod_nonneg v (show p ≠ 0 by omega)
    have m2 := Int.emod_lt_of_pos v hp
    simp only [addAt]
    split
    · rename_i e
      refine ⟨h, fun j => ?_, by simp⟩
      simp [at_, e]
    · rename_i e
      refine ⟨⟨by simp, by simp; omega⟩, fun j => ?_, by simp⟩
      simp only [at_, Int.zero_add]
      by_cases q : k = j
      · rw [if_pos q, if_pos q.symm]
      · rw [if_neg q, if_neg (Ne.symm q)]
  | x :: r, k, v, h => by
    have m1 := Int.emod_nonneg v (show p ≠ 0 by omega)
    have m2 := Int.emod_lt_of_pos v hp
    have n1 := Int.emod_nonneg (x.2 + v) (show p ≠ 0 by omega)
    have n2 := Int.emod_lt_of_pos (x.2 + v) hp
    have hx := h.rng x (by simp)
    simp only [addAt]
    split
    · rename_i lt
      have z : at_ (x :: r) k = 0 := at_none fun y hy => by
        rcases List.mem_cons.mp hy with rfl | hy
        · omega
        · have := h.head y hy; omega
      split
      · rename_i e
        refine ⟨h, fun j => ?_, fun y hy => .inr ⟨y, hy, rfl⟩⟩
        by_cases q : j = k
        · subst q
          rw [if_pos rfl, z, Int.zero_add, e]
        · rw [if_neg q]
      · rename_i e
        refine ⟨⟨List.pairwise_cons.mpr ⟨fun y hy => ?_, h.srt⟩, fun y hy => ?_⟩, fun j => ?_, fun y hy => ?_⟩
        · rcases List.mem_cons.mp hy with rfl | hy
          · exact lt
          · have := h.head y hy
            show k < y.1
            omega
        · rcases List.mem_cons.mp hy with rfl | hy
          · simp only; omega
          · exact h.rng y hy
        · by_cases q : j = k
          · subst q
            rw [if_pos rfl, z, Int.zero_add]
            simp [at_]
          · rw [if_neg q]
            show (if k = j then _ else at_ (x :: r) j) = _
            rw [if_neg (Ne.symm q)]
        · rcases List.mem_cons.mp hy with rfl | hy
          · exact .inl rfl
          · exact .inr ⟨y, hy, rfl⟩
    · rename_i nlt
      split
      · rename_i e
        subst e
        have z : at_ r x.1 = 0 := at_none fun y hy => by have := h.head y hy; omega
        split
        · rename_i e2
          refine ⟨h.tail, fun j => ?_, fun y hy => .inr ⟨y, by simp [hy], rfl⟩⟩
          by_cases q : j = x.1
          · subst q
            rw [if_pos rfl, z]
            simp only [at_, if_true]
            exact e2.symm
          · rw [if_neg q]
            simp only [at_]
            rw [if_neg (Ne.symm q)]
        · rename_i e2
          refine ⟨⟨List.pairwise_cons.mpr ⟨fun y hy => h.head y hy, h.tail.srt⟩, fun y hy => ?_⟩, fun j => ?_, fun y hy => ?_⟩
          · rcases List.mem_cons.mp hy with rfl | hy
            · simp only; omega
            · exact h.rng y (by simp [hy])
          · by_cases q : j = x.1
            · subst q
              rw [if_pos rfl]
              simp only [at_, if_true]
            · rw [if_neg q]
              simp only [at_]
              rw [if_neg (Ne.symm q), if_neg (Ne.symm q)]
          · rcases List.mem_cons.mp hy with rfl | hy
            · exact .inl rfl
            · exact .inr ⟨y, by simp [hy], rfl⟩
      · rename_i ne
        obtain ⟨i1, i2, i3⟩ := addAt_ok hp k v h.tail
        refine ⟨⟨List.pairwise_cons.mpr ⟨fun y hy => ?_, i1.srt⟩, fun y hy => ?_⟩, fun j => ?_, fun y hy => ?_⟩
        · rcases i3 y hy with q | ⟨z, hz, q⟩
          · omega
          · have := h.head z hz
            omega
        · rcases List.mem_cons.mp hy with rfl | hy
          · exact hx
          · exact i1.rng y hy
        · by_cases q : j = k
          · subst q
            rw [if_pos rfl]
            simp only [at_]
            rw [if_neg (fun z => ne z.symm), if_neg (fun z => ne z.symm), i2 j, if_pos rfl]
          · rw [if_neg q]
            simp only [at_]
            by_cases q2 : x.1 = j
            · rw [if_pos q2, if_pos q2]
            · rw [if_neg q2, if_neg q2, i2 j, if_neg q]
        · rcases List.mem_cons.mp hy with rfl | hy
          · exact .inr ⟨y, by simp, rfl⟩
          · rcases i3 y hy with q | ⟨z, hz, q⟩
            · exact .inl q
            · exact .inr ⟨z, by simp [hz], q⟩
/-- the pattern of pairs in any order -/
def tidy (p : Int) (xs : Pat) : Pat := xs.foldl (fun a x => addAt p a x.1 x.2) []
theorem tidy_go {p : Int} (hp : 0 < p) : ∀ (xs a : Pat), IsPat p a → IsPat p (xs.foldl (fun a x => addAt p a x.1 x.2) a) ∧ ∀ k, at_ (xs.foldl (fun a x => addAt p a x.1 x.2) a) k = (at_ a k + sumAt xs k) % p
  | [], a, h => ⟨h, fun k => by
    have := h.at_rng hp k
    simp only [List.foldl_nil, sumAt, Int.add_zero]
    rw [Int.emod_eq_of_lt this.1 this.2]⟩
  | x :: r, a, h => by
    obtain ⟨h1, h2, _⟩ := addAt_ok hp x.1 x.2 h
    obtain ⟨i1, i2⟩ := tidy_go hp r _ h1
    refine ⟨i1, fun k => ?_⟩
    rw [List.foldl_cons, i2 k, h2 k]
    simp only [sumAt]
    by_cases q : k = x.1
    · subst q
      rw [if_pos rfl, if_pos rfl, Int.emod_add_emod]
      congr 1
      omega
    · rw [if_neg q, if_neg (Ne.symm q), Int.zero_add]
theorem tidy_pat {p : Int} (hp : 0 < p) (xs : Pat) : IsPat p (tidy p xs) := (tidy_go hp xs [] (IsPat.nil p)).1
theorem tidy_at {p : Int} (hp : 0 < p) (xs : Pat) (k : Int) : at_ (tidy p xs) k = sumAt xs k % p := by
  have := (tidy_go hp xs [] (IsPat.nil p)).2 k
  unfold tidy
  simpa [at_] using this
theorem tidy_eq {p : Int} (hp : 0 < p) {xs ys : Pat} (hy : IsPat p ys) (h : ∀ k, at_ ys k = sumAt xs k % p) : ys = tidy p xs :=
  pat_ext hy (tidy_pat hp xs) fun k => by rw [h k, tidy_at hp]
theorem addAt_len (p : Int) : ∀ (xs : Pat) (k v : Int), (addAt p xs k v).length ≤ xs.length + 1
  | [], k, v => by simp only [addAt]; split <;> simp
  | x :: r, k, v => by
    have ih := addAt_len p r k v
    simp only [addAt]
    split
    · split <;> simp
    · split
      · split <;> simp <;> omega
      · simp only [List.length_cons]; omega
theorem tidy_len (p : Int) (xs : Pat) : (tidy p xs).length ≤ xs.length := by
  have go : ∀ (xs a : Pat), (xs.foldl (fun a x => addAt p a x.1 x.2) a).length ≤ a.length + xs.length := by
    intro xs
    induction xs with
    | nil => exact fun a => Nat.le_refl _
    | cons x r ih =>
      intro a
      have h1 := ih (addAt p a x.1 x.2)
      have h2 := addAt_len p a x.1 x.2
      simp only [List.foldl_cons, List.length_cons]
      omega
  unfold tidy
  simpa using go xs []
/-- each place once, as they come -/
def places : Pat → List Int
  | [] => []
  | x :: r => x.1 :: (places r).filter fun k => decide (k ≠ x.1)
def addK (ks : List Int) (k : Int) : List Int := if k ∈ ks then ks else ks ++ [k]
def keys (xs : Pat) : List Int := xs.foldl (fun ks x => addK ks x.1) []
theorem keys_snoc (xs : Pat) (x : Int × Int) : keys (xs ++ [x]) = addK (keys xs) x.1 := by simp [keys, List.foldl_append]
theorem addK_nodup {ks : List Int} {k : Int} (h : ks.Nodup) : (addK ks k).Nodup := by
  unfold addK
  split
  · exact h
  · rename_i n
    rw [List.nodup_append]
    exact ⟨h, by simp, fun a ha b hb => by simp at hb; subst hb; exact fun z => n (z ▸ ha)⟩
theorem mem_addK {ks : List Int} {k j : Int} : j ∈ addK ks k ↔ j ∈ ks ∨ j = k := by
  unfold addK
  split
  · rename_i h
    refine ⟨.inl, fun z => z.elim id fun e => e ▸ h⟩
  · simp
theorem keys_nodup (xs : Pat) : (keys xs).Nodup := by
  have go : ∀ (xs : Pat) (ks : List Int), ks.Nodup → (xs.foldl (fun ks x => addK ks x.1) ks).Nodup := by
    intro xs
    induction xs with
    | nil => exact fun ks h => h
    | cons x r ih => exact fun ks h => ih _ (addK_nodup h)
  exact go xs [] (by simp)
theorem mem_keys (xs : Pat) (k : Int) : k ∈ keys xs ↔ ∃ x ∈ xs, x.1 = k := by
  have go : ∀ (xs : Pat) (ks : List Int), k ∈ (xs.foldl (fun ks x => addK ks x.1) ks) ↔ k ∈ ks ∨ ∃ x ∈ xs, x.1 = k := by
    intro xs
    induction xs with
    | nil => simp
    | cons x r ih =>
      intro ks
      rw [List.foldl_cons, ih, mem_addK]
      simp only [List.mem_cons, exists_eq_or_imp]
      constructor
      · rintro ((h | h) | h)
        · exact .inl h
        · exact .inr (.inl h.symm)
        · exact .inr (.inr h)
      · rintro (h | h | h)
        · exact .inl (.inl h)
        · exact .inl (.inr h.symm)
        · exact .inr h
  have := go xs []
  simpa [keys] using this
theorem keys_len (xs : Pat) : (keys xs).length ≤ xs.length := by
  have go : ∀ (xs : Pat) (ks : List Int), (xs.foldl (fun ks x => addK ks x.1) ks).length ≤ ks.length + xs.length := by
    intro xs
    induction xs with
    | nil => exact fun ks => Nat.le_refl _
    | cons x r ih =>
      intro ks
      have h1 := ih (addK ks x.1)
      have h2 : (addK ks x.1).length ≤ ks.length + 1 := by
        unfold addK
        split
        · omega
        · simp
      simp only [List.foldl_cons, List.length_cons]
      omega
  simpa [keys] using go xs []
theorem keys_mono (xs ys : Pat) : (keys xs).length ≤ (keys (xs ++ ys)).length := by
  have go : ∀ (ys : Pat) (ks : List Int), ks.length ≤ (ys.foldl (fun ks x => addK ks x.1) ks).length := by
    intro ys
    induction ys with
    | nil => exact fun ks => Nat.le_refl _
    | cons y r ih =>
      intro ks
      have h1 := ih (addK ks y.1)
      have h2 : ks.length ≤ (addK ks y.1).length := by
        unfold addK
        split
        · omega
        · simp
      simp only [List.foldl_cons]
      omega
  unfold keys
  rw [List.foldl_append]
  exact go ys _
/-- the pattern that sorted keys with their sums make -/
def pick (p : Int) (xs : Pat) (k : Int) : Option (Int × Int) := if sumAt xs k % p ≠ 0 then some (k, sumAt xs k % p) else none
theorem sorted_strict {ys ks : List Int} (hp : ys.Perm ks) (hn : ks.Nodup) (hs : ys.Pairwise (· ≤ ·)) : ys.Pairwise (· < ·) := by
  have hn' : ys.Nodup := hp.nodup_iff.mpr hn
  have := List.Pairwise.and hs hn'
  exact this.imp fun h => by omega
theorem pick_at (p : Int) (xs : Pat) : ∀ {ys : List Int} (k : Int), at_ (ys.filterMap (pick p xs)) k = if k ∈ ys then sumAt xs k % p else 0
  | [], k => rfl
  | y :: r, k => by
    have ih := pick_at p xs (ys := r) k
    rw [List.filterMap_cons]
    unfold pick at *
    by_cases e : sumAt xs y % p ≠ 0
    · rw [if_pos e]
      simp only [at_]
      by_cases q : y = k
      · subst q
        rw [if_pos rfl, if_pos (by simp)]
      · rw [if_neg q, ih]
        simp [Ne.symm q]
    · rw [if_neg e]
      simp only
      rw [ih]
      by_cases q : k = y
      · subst q
        have e' : sumAt xs k % p = 0 := by omega
        by_cases m : k ∈ r <;> simp [m, e']
      · simp [q]
theorem pick_pat {p : Int} (hp : 0 < p) {xs : Pat} {ys : List Int} (hperm : ys.Perm (keys xs)) (hs : ys.Pairwise (· ≤ ·)) : ys.filterMap (pick p xs) = tidy p xs := by
  have st := sorted_strict hperm (keys_nodup xs) hs
  refine tidy_eq hp ⟨?_, fun x hx => ?_⟩ fun k => ?_
  · rw [List.pairwise_filterMap]
    refine st.imp fun {a b} h x hx y hy => ?_
    unfold pick at hx hy
    split at hx
    · split at hy
      · cases hx; cases hy; exact h
      · cases hy
    · cases hx
  · obtain ⟨y, hy, e⟩ := List.mem_filterMap.mp hx
    unfold pick at e
    split at e
    · rename_i ne
      cases e
      have m1 := Int.emod_nonneg (sumAt xs y) (show p ≠ 0 by omega)
      have m2 := Int.emod_lt_of_pos (sumAt xs y) hp
      simp only
      omega
    · cases e
  · rw [pick_at]
    split
    · rfl
    · rename_i nm
      rw [sumAt_none]
      · simp
      · intro x hx e
        exact nm (hperm.mem_iff.mpr ((mem_keys xs k).mpr ⟨x, hx, e⟩))
def moved (xs : Pat) (b : Int) : Pat := xs.map fun x => (x.1 + b, x.2)
theorem moved_len (xs : Pat) (b : Int) : (moved xs b).length = xs.length := by simp [moved]
theorem moved_at (b : Int) : ∀ (xs : Pat) (k : Int), at_ (moved xs b) k = at_ xs (k - b)
  | [], k => rfl
  | x :: r, k => by
    show (if x.1 + b = k then x.2 else at_ (moved r b) k) = if x.1 = k - b then x.2 else at_ r (k - b)
    rw [moved_at b r k]
    by_cases e : x.1 + b = k
    · rw [if_pos e, if_pos (by omega)]
    · rw [if_neg e, if_neg (by omega)]
theorem moved_pat {p : Int} {xs : Pat} (h : IsPat p xs) (b : Int) : IsPat p (moved xs b) := by
  refine ⟨?_, fun x hx => ?_⟩
  · unfold moved
    rw [List.pairwise_map]
    exact h.srt.imp fun z => by simp only; omega
  · obtain ⟨y, hy, rfl⟩ := List.mem_map.mp hx
    exact h.rng y hy
theorem moved_moved (xs : Pat) (a b : Int) : moved (moved xs a) b = moved xs (a + b) := by
  unfold moved
  rw [List.map_map]
  refine List.map_congr_left fun x _ => ?_
  simp only [Function.comp]
  congr 1
  omega
theorem moved_zero (xs : Pat) : moved xs 0 = xs := by
  unfold moved
  conv => rhs; rw [← List.map_id xs]
  refine List.map_congr_left fun x _ => ?_
  simp
theorem tidy_mem {p : Int} (hp : 0 < p) {xs : Pat} {x : Int × Int} (h : x ∈ tidy p xs) : ∃ y ∈ xs, y.1 = x.1 := by
  have ha := (tidy_pat hp xs).at_of_mem h
  have hr := (tidy_pat hp xs).rng x h
  rw [tidy_at hp] at ha
  by_cases z : ∃ y ∈ xs, y.1 = x.1
  · exact z
  · rw [sumAt_none (fun y hy e => z ⟨y, hy, e⟩)] at ha
    simp at ha
    omega
def added (p : Int) (xs ys : Pat) : Pat := tidy p (xs ++ ys)
def timed (p : Int) (xs : Pat) (n : Int) : Pat := tidy p (xs.map fun x => (x.1, x.2 * n))
theorem sumAt_map_mul (n : Int) : ∀ (xs : Pat) (k : Int), sumAt (xs.map fun x => (x.1, x.2 * n)) k = sumAt xs k * n
  | [], k => by simp [sumAt]
  | x :: r, k => by
    simp only [List.map_cons, sumAt, sumAt_map_mul n r k]
    split
    · rw [Int.add_mul]
    · rw [Int.add_mul, Int.zero_mul]
theorem added_pat {p : Int} (hp : 0 < p) (xs ys : Pat) : IsPat p (added p xs ys) := tidy_pat hp _
theorem timed_pat {p : Int} (hp : 0 < p) (xs : Pat) (n : Int) : IsPat p (timed p xs n) := tidy_pat hp _
theorem added_at {p : Int} (hp : 0 < p) {xs ys : Pat} (hx : IsPat p xs) (hy : IsPat p ys) (k : Int) : at_ (added p xs ys) k = (at_ xs k + at_ ys k) % p := by
  unfold added
  rw [tidy_at hp, sumAt_app, hx.at_sum, hy.at_sum]
theorem timed_at {p : Int} (hp : 0 < p) {xs : Pat} (hx : IsPat p xs) (n k : Int) : at_ (timed p xs n) k = at_ xs k * n % p := by
  unfold timed
  rw [tidy_at hp, sumAt_map_mul, hx.at_sum]
theorem added_len (p : Int) (xs ys : Pat) : (added p xs ys).length ≤ xs.length + ys.length := by
  have := tidy_len p (xs ++ ys)
  rw [List.length_append] at this
  exact this
theorem timed_len (p : Int) (xs : Pat) (n : Int) : (timed p xs n).length ≤ xs.length := by
  have := tidy_len p (xs.map fun x => (x.1, x.2 * n))
  rw [List.length_map] at this
  exact this
theorem added_comm {p : Int} (hp : 0 < p) {xs ys : Pat} (hx : IsPat p xs) (hy : IsPat p ys) : added p xs ys = added p ys xs :=
  pat_ext (added_pat hp xs ys) (added_pat hp ys xs) fun k => by rw [added_at hp hx hy, added_at hp hy hx, Int.add_comm]
theorem dark_of {p : Int} {xs : Pat} (hx : IsPat p xs) (h : ∀ k, at_ xs k = 0) : xs = [] := pat_ext hx (IsPat.nil p) fun k => by rw [h k]; rfl
theorem map01 (ys : Pat) : (ys.map fun y => (y.1 + 0, y.2 * 1)) = ys := by
  have : (fun y : Int × Int => (y.1 + 0, y.2 * 1)) = id := funext fun y => by simp
  rw [this, List.map_id]
theorem map0n (ys : Pat) (n : Int) : (ys.map fun y => (y.1 + 0, y.2 * n)) = ys.map fun y => (y.1, y.2 * n) := by
  simp only [Int.add_zero]
end Pt

/-! rounds: an end and a pattern -/
namespace Rd
open Pt
abbrev R := Int × Pat
def IsRound (p : Int) (r : R) : Prop := IsPat p r.2
def join (p : Int) (a b : R) : R := (a.1 + b.1, added p a.2 (moved b.2 a.1))
def inv (p : Int) (a : R) : R := (-a.1, timed p (moved a.2 (-a.1)) (-1))
def still : R := (0, [])
theorem ext {p : Int} {a b : R} (ha : IsRound p a) (hb : IsRound p b) (h1 : a.1 = b.1) (h2 : ∀ k, at_ a.2 k = at_ b.2 k) : a = b := Prod.ext h1 (pat_ext ha hb h2)
theorem still_ok (p : Int) : IsRound p still := IsPat.nil p
section
variable {p : Int} (hp : 0 < p)
include hp
theorem join_ok (a b : R) : IsRound p (join p a b) := added_pat hp _ _
theorem inv_ok (a : R) : IsRound p (inv p a) := timed_pat hp _ _
theorem join_at {a b : R} (ha : IsRound p a) (hb : IsRound p b) (k : Int) : at_ (join p a b).2 k = (at_ a.2 k + at_ b.2 (k - a.1)) % p := by
  show at_ (added p a.2 (moved b.2 a.1)) k = _
  rw [added_at hp ha (moved_pat hb a.1), moved_at]
theorem inv_at {a : R} (ha : IsRound p a) (k : Int) : at_ (inv p a).2 k = -(at_ a.2 (k + a.1)) % p := by
  show at_ (timed p (moved a.2 (-a.1)) (-1)) k = _
  rw [timed_at hp (moved_pat ha (-a.1)), moved_at, show k - -a.1 = k + a.1 by omega, show at_ a.2 (k + a.1) * -1 = -(at_ a.2 (k + a.1)) by omega]
theorem at_mod {a : R} (ha : IsRound p a) (k : Int) : at_ a.2 k % p = at_ a.2 k := by
  have h := IsPat.at_rng ha hp k
  exact Int.emod_eq_of_lt h.1 h.2
theorem assoc {a b c : R} (ha : IsRound p a) (hb : IsRound p b) (hc : IsRound p c) : join p (join p a b) c = join p a (join p b c) := by
  refine ext (p := p) (join_ok hp _ _) (join_ok hp _ _) (by simp only [join]; omega) fun k => ?_
  rw [join_at hp (join_ok hp a b) hc, join_at hp ha hb, join_at hp ha (join_ok hp b c), join_at hp hb hc, Int.emod_add_emod, Int.add_emod_emod]
  simp only [join]
  rw [show k - a.1 - b.1 = k - (a.1 + b.1) by omega, Int.add_assoc]
theorem join_still {a : R} (ha : IsRound p a) : join p a still = a := by
  refine ext (p := p) (join_ok hp _ _) ha (by simp [join, still]) fun k => ?_
  rw [join_at hp ha (still_ok p)]
  show (at_ a.2 k + 0) % p = _
  rw [Int.add_zero, at_mod hp ha]
theorem still_join {a : R} (ha : IsRound p a) : join p still a = a := by
  refine ext (p := p) (join_ok hp _ _) ha (by simp [join, still]) fun k => ?_
  rw [join_at hp (still_ok p) ha]
  show (0 + at_ a.2 (k - 0)) % p = _
  rw [Int.zero_add, Int.sub_zero, at_mod hp ha]
theorem join_inv {a : R} (ha : IsRound p a) : join p a (inv p a) = still := by
  refine ext (p := p) (join_ok hp _ _) (still_ok p) (by simp only [join, inv, still]; omega) fun k => ?_
  rw [join_at hp ha (inv_ok hp a), inv_at hp ha, Int.add_emod_emod, show k - a.1 + a.1 = k by omega, Int.add_right_neg]
  rfl
theorem inv_join {a : R} (ha : IsRound p a) : join p (inv p a) a = still := by
  refine ext (p := p) (join_ok hp _ _) (still_ok p) (by simp only [join, inv, still]; omega) fun k => ?_
  rw [join_at hp (inv_ok hp a) ha, inv_at hp ha, Int.emod_add_emod, show k - (inv p a).1 = k + a.1 by simp only [inv]; omega, Int.add_left_neg]
  rfl
theorem inv_uniq {a b : R} (ha : IsRound p a) (hb : IsRound p b) (h : join p a b = still) : b = inv p a := by
  have h2 := assoc hp (inv_ok hp a) ha hb
  rw [h, inv_join hp ha, still_join hp hb, join_still hp (inv_ok hp a)] at h2
  exact h2
theorem inv_inv {a : R} (ha : IsRound p a) : inv p (inv p a) = a := (inv_uniq hp (inv_ok hp a) ha (inv_join hp ha)).symm
theorem inv_of_join {a b : R} (ha : IsRound p a) (hb : IsRound p b) : inv p (join p a b) = join p (inv p b) (inv p a) := by
  refine (inv_uniq hp (join_ok hp a b) (join_ok hp _ _) ?_).symm
  rw [assoc hp ha hb (join_ok hp _ _), ← assoc hp hb (inv_ok hp b) (inv_ok hp a), join_inv hp hb, still_join hp (inv_ok hp a), join_inv hp ha]
end
theorem join_len (p : Int) (a b : R) : (join p a b).2.length ≤ a.2.length + b.2.length := by
  have := added_len p a.2 (moved b.2 a.1)
  rw [moved_len] at this
  exact this
theorem inv_len (p : Int) (a : R) : (inv p a).2.length ≤ a.2.length := by
  have := timed_len p (moved a.2 (-a.1)) (-1)
  rw [moved_len] at this
  exact this
end Rd

namespace Dk
/-- whether tuples of the module's own text may be data -/
abbrev KT : Bool := false
end Dk

/-! Data over the hand layer: what a name holds, as plain data. -/
namespace Dk
open PySem PySem.Spec PyProof.Rows L2

abbrev Fg := PySem.W.Frag
/-! ### data in a heap -/
/-- a tuple of the module's own text -/
def SqK (K : Fg) (a : Addr) (xs : List V) : Prop := ∃ (o : Obj) (its : Array Value) (n : Nat), K.lookup a = some o ∧ o.cls = .type "tuple" ∧ o.data = .seq its n ∧ its.size ≤ sizeLine ∧ Vals xs its.toList
def Tq (K : Fg) (H : Hp) (a : Addr) (xs : List V) : Prop := H a = some (.tup xs) ∨ (KT = true ∧ SqK K a xs)
theorem Tq.sq {K : Fg} {H : Hp} {a : Addr} {xs : List V} (h : Tq K H a xs) : SqT K H a xs := h.elim (fun z => .inl (.inl z)) fun z => .inr z.2
theorem Tq.mono {K : Fg} {H H' : Hp} {a : Addr} {xs : List V} (h : Tq K H a xs) (e : H a = some (.tup xs) → H' a = some (.tup xs)) : Tq K H' a xs := h.elim (fun z => .inl (e z)) fun z => .inr z
theorem Tq.same {K : Fg} {H H' : Hp} {a : Addr} {xs : List V} (h : Tq K H a xs) (e : Same H H') : Tq K H' a xs := h.mono fun z => e _ _ z
/-- a dict's key as data -/
def kD : Key → PyData
  | .inl i => .int i
  | .inr x => .str x
mutual
inductive Dq (K : Fg) (H : Hp) : V → PyData → Prop
  | non : Dq K H .non .none
  | bl (b : Bool) : Dq K H (.bl b) (.bool b)
  | int (i : Int) : Dq K H (.int i) (.int i)
  | str (x : Str) : Dq K H (.str x) (.str x)
  | lst {a : Addr} {xs : List V} {ds : List PyData} : H a = some (.lst xs) → DqAll K H xs ds → Dq K H (.ref a) (.list ds)
  | tup {a : Addr} {xs : List V} {ds : List PyData} : Tq K H a xs → DqAll K H xs ds → Dq K H (.ref a) (.tuple ds)
  | dct {a : Addr} {us : List (Key × V)} {kvs : List (PyData × PyData)} : L2.Rd H a (.dK us) → DqKv K H us kvs → Dq K H (.ref a) (.dict kvs)
inductive DqKv (K : Fg) (H : Hp) : List (Key × V) → List (PyData × PyData) → Prop
  | nil : DqKv K H [] []
  | cons {k : Key} {v : V} {us : List (Key × V)} {e d : PyData} {kvs : List (PyData × PyData)} : e = kD k → Dq K H v d → DqKv K H us kvs → DqKv K H ((k, v) :: us) ((e, d) :: kvs)
inductive DqAll (K : Fg) (H : Hp) : List V → List PyData → Prop
  | nil : DqAll K H [] []
  | cons {v : V} {vs : List V} {d : PyData} {ds : List PyData} : Dq K H v d → DqAll K H vs ds → DqAll K H (v :: vs) (d :: ds)
end
section
variable {K : Fg} {H H' : Hp}
mutual
theorem Dq.mono (e1 : ∀ a xs, H a = some (.lst xs) → H' a = some (.lst xs)) (e2 : ∀ a xs, H a = some (.tup xs) → H' a = some (.tup xs)) (e3 : ∀ a us, L2.Rd H a (.dK us) → L2.Rd H' a (.dK us)) : ∀ {d : PyData} {v : V}, Dq K H v d → Dq K H' v d
  | _, _, .non => .non
  | _, _, .bl _ => .bl _
  | _, _, .int _ => .int _
  | _, _, .str _ => .str _
  | _, _, .lst a b => .lst (e1 _ _ a) (DqAll.mono e1 e2 e3 b)
  | _, _, .tup a b => .tup (a.mono (e2 _ _)) (DqAll.mono e1 e2 e3 b)
  | _, _, .dct a b => .dct (e3 _ _ a) (DqKv.mono e1 e2 e3 b)
theorem DqAll.mono (e1 : ∀ a xs, H a = some (.lst xs) → H' a = some (.lst xs)) (e2 : ∀ a xs, H a = some (.tup xs) → H' a = some (.tup xs)) (e3 : ∀ a us, L2.Rd H a (.dK us) → L2.Rd H' a (.dK us)) : ∀ {ds : List PyData} {vs : List V}, DqAll K H vs ds → DqAll K H' vs ds
  | _, _, .nil => .nil
  | _, _, .cons a b => .cons (Dq.mono e1 e2 e3 a) (DqAll.mono e1 e2 e3 b)
theorem DqKv.mono (e1 : ∀ a xs, H a = some (.lst xs) → H' a = some (.lst xs)) (e2 : ∀ a xs, H a = some (.tup xs) → H' a = some (.tup xs)) (e3 : ∀ a us, L2.Rd H a (.dK us) → L2.Rd H' a (.dK us)) : ∀ {ds : List (PyData × PyData)} {vs : List (Key × V)}, DqKv K H vs ds → DqKv K H' vs ds
  | _, _, .nil => .nil
  | _, _, .cons e a b => .cons e (Dq.mono e1 e2 e3 a) (DqKv.mono e1 e2 e3 b)
end
theorem _root_.L2.Same.rd (e : Same H H') {a : Addr} {o : HO} (h : L2.Rd H a o) : L2.Rd H' a o := h.imp (e _ _) fun ⟨od, q⟩ => ⟨od, e _ _ q⟩
theorem Dq.same (e : Same H H') {d : PyData} {v : V} (h : Dq K H v d) : Dq K H' v d := Dq.mono (fun a xs q => e _ _ q) (fun a xs q => e _ _ q) (fun a xs q => e.rd q) h
theorem DqAll.same (e : Same H H') {d : List PyData} {v : List V} (h : DqAll K H v d) : DqAll K H' v d := DqAll.mono (fun a xs q => e _ _ q) (fun a xs q => e _ _ q) (fun a xs q => e.rd q) h
theorem DqKv.same (e : Same H H') {d : List (PyData × PyData)} {v : List (Key × V)} (h : DqKv K H v d) : DqKv K H' v d := DqKv.mono (fun a xs q => e _ _ q) (fun a xs q => e _ _ q) (fun a xs q => e.rd q) h
mutual
theorem Dq.dp : ∀ (d : PyData) (v : V), d.canLay0 = true → Dq K H v d → Dp K H v d
  | .none, _, _, h => by cases h; exact .non
  | .bool _, _, _, h => by cases h; exact .bl _
  | .int _, _, _, h => by cases h; exact .int _
  | .str _, _, _, h => by cases h; exact .str _
  | .list ds, _, c, h => by
    cases h with
    | lst a b => exact .lst (.inl (.inl a)) (DqAll.dp ds _ (by simpa [PyData.canLay0] using c) b)
  | .tuple ds, _, c, h => by
    cases h with
    | tup a b => exact .tup a.sq (DqAll.dp ds _ (by simpa [PyData.canLay0] using c) b)
  | .dict _, _, c, h => by simp [PyData.canLay0] at c
theorem DqAll.dp : ∀ (ds : List PyData) (vs : List V), PyData.canLayAll0 ds = true → DqAll K H vs ds → DpAll K H vs ds
  | [], _, _, h => by cases h; exact .nil
  | d :: ds, _, c, h => by
    simp only [PyData.canLayAll0, Bool.and_eq_true] at c
    cases h with
    | cons a b => exact .cons (Dq.dp d _ c.1 a) (DqAll.dp ds _ c.2 b)
end
theorem DqAll.length : ∀ {ds : List PyData} {vs : List V}, DqAll K H vs ds → vs.length = ds.length
  | [], _, h => by cases h; rfl
  | _ :: _, _, h => by
    cases h with
    | cons a b => simp [DqAll.length b]
theorem DqAll.get : ∀ {ds : List PyData} {vs : List V} {i : Nat} {d : PyData}, DqAll K H vs ds → ds[i]? = some d → ∃ v, vs[i]? = some v ∧ Dq K H v d
  | [], _, _, _, h, e => by simp at e
  | _ :: _, _, 0, _, h, e => by
    cases h with
    | cons a b => simp at e; subst e; exact ⟨_, rfl, a⟩
  | _ :: _, _, i + 1, _, h, e => by
    cases h with
    | cons a b => simp at e; obtain ⟨v, h1, h2⟩ := DqAll.get b e; exact ⟨v, by simpa using h1, h2⟩
theorem DqAll.app : ∀ {ds es : List PyData} {vs us : List V}, DqAll K H vs ds → DqAll K H us es → DqAll K H (vs ++ us) (ds ++ es)
  | [], _, _, _, h, g => by cases h; exact g
  | _ :: _, _, _, _, h, g => by
    cases h with
    | cons a b => exact .cons a (DqAll.app b g)
theorem DqAll.setAt : ∀ {ds : List PyData} {vs : List V} {i : Nat} {d : PyData} {v : V}, DqAll K H vs ds → Dq K H v d → DqAll K H (vs.set i v) (ds.set i d)
  | [], _, _, _, _, h, _ => by cases h; exact .nil
  | _ :: _, _, 0, _, _, h, g => by
    cases h with
    | cons a b => exact .cons g b
  | _ :: _, _, i + 1, _, _, h, g => by
    cases h with
    | cons a b => exact .cons a (DqAll.setAt b g)
theorem DqAll.dropLast : ∀ {ds : List PyData} {vs : List V}, DqAll K H vs ds → DqAll K H vs.dropLast ds.dropLast
  | [], _, h => by cases h; exact .nil
  | [_], _, h => by
    cases h with
    | cons a b => cases b; exact .nil
  | _ :: _ :: _, _, h => by
    cases h with
    | cons a b =>
      cases b with
      | cons c d => exact .cons a (DqAll.dropLast (.cons c d))
theorem DqAll.take : ∀ {ds : List PyData} {vs : List V} (n : Nat), DqAll K H vs ds → DqAll K H (vs.take n) (ds.take n)
  | _, _, 0, _ => by simp; exact .nil
  | [], _, n + 1, h => by cases h; exact .nil
  | _ :: _, _, n + 1, h => by
    cases h with
    | cons a b => exact .cons a (DqAll.take n b)
theorem DqAll.drop : ∀ {ds : List PyData} {vs : List V} (n : Nat), DqAll K H vs ds → DqAll K H (vs.drop n) (ds.drop n)
  | _, _, 0, h => by simpa using h
  | [], _, n + 1, h => by cases h; exact .nil
  | _ :: _, _, n + 1, h => by
    cases h with
    | cons a b => exact DqAll.drop n b
theorem DqAll.reverse : ∀ {ds : List PyData} {vs : List V}, DqAll K H vs ds → DqAll K H vs.reverse ds.reverse
  | [], _, h => by cases h; exact .nil
  | _ :: _, _, h => by
    cases h with
    | cons a b => rw [List.reverse_cons, List.reverse_cons]; exact DqAll.app (DqAll.reverse b) (.cons a .nil)
theorem DqAll.ints : ∀ {ns : List Int} {vs : List V}, DqAll K H vs (ns.map PyData.int) → vs = ns.map V.int
  | [], _, h => by cases h; rfl
  | n :: ns, _, h => by
    cases h with
    | cons a b => cases a; rw [DqAll.ints b]; rfl
theorem DqAll.ofInts : ∀ (ns : List Int), DqAll K H (ns.map V.int) (ns.map PyData.int)
  | [] => .nil
  | n :: ns => .cons (.int n) (DqAll.ofInts ns)
theorem DqAll.bools : ∀ {ns : List Bool} {vs : List V}, DqAll K H vs (ns.map PyData.bool) → vs = ns.map V.bl
  | [], _, h => by cases h; rfl
  | n :: ns, _, h => by
    cases h with
    | cons a b => cases a; rw [DqAll.bools b]; rfl
theorem DqAll.strs : ∀ {ns : List Str} {vs : List V}, DqAll K H vs (ns.map PyData.str) → vs = ns.map V.str
  | [], _, h => by cases h; rfl
  | n :: ns, _, h => by
    cases h with
    | cons a b => cases a; rw [DqAll.strs b]; rfl
theorem DqAll.ofStrs : ∀ (ns : List Str), DqAll K H (ns.map V.str) (ns.map PyData.str)
  | [] => .nil
  | n :: ns => .cons (.str n) (DqAll.ofStrs ns)
end

/-! ### parts of a heap -/
/-- what a run may change -/
def Mo : Option HO → Prop
  | none => False
  | some (.tup _) => False
  | _ => True
open Classical in
noncomputable def less (H : Hp) (x : Addr → Prop) : Hp := fun a => if x a then none else H a
theorem less_some {H : Hp} {x : Addr → Prop} {a : Addr} {o : HO} : less H x a = some o ↔ ¬ x a ∧ H a = some o := by
  unfold less
  by_cases h : x a
  · simp [h]
  · simp [h]
theorem less_same {H : Hp} {x : Addr → Prop} : Same (less H x) H := fun a o e => (less_some.mp e).2
theorem same_less {H H' : Hp} {x y : Addr → Prop} (h : ∀ a o, ¬ x a → H a = some o → ¬ y a ∧ H' a = some o) : Same (less H x) (less H' y) := fun a o e =>
  less_some.mpr (h a o (less_some.mp e).1 (less_some.mp e).2)
theorem not_mo_tup {H : Hp} {a : Addr} {xs : List V} (h : H a = some (.tup xs)) : ¬ Mo (H a) := by
  rw [h]
  exact fun z => z

/-! only numbers, texts and tuples -/
mutual
def tupO : PyData → Bool
  | .tuple xs => tupOs xs
  | .list _ => false
  | .dict _ => false
  | _ => true
def tupOs : List PyData → Bool
  | [] => true
  | x :: xs => tupO x && tupOs xs
end
mutual
theorem Dq.tupO_less {K : Fg} {H H' : Hp} {x : Addr → Prop} (hx : ∀ a, x a → Mo (H a)) : ∀ (d : PyData) (v : V), tupO d = true → Dq K H v d → Dq K (less H x) v d
  | .none, _, _, h => by cases h; exact .non
  | .bool _, _, _, h => by cases h; exact .bl _
  | .int _, _, _, h => by cases h; exact .int _
  | .str _, _, _, h => by cases h; exact .str _
  | .list ds, _, t, h => by simp [tupO] at t
  | .tuple ds, _, t, h => by
    cases h with
    | tup a b =>
      simp only [tupO] at t
      exact .tup (a.mono fun a => less_some.mpr ⟨fun z => not_mo_tup a (hx _ z), a⟩) (DqAll.tupO_less (H' := H') hx ds _ t b)
  | .dict _, _, t, h => by simp [tupO] at t
theorem DqAll.tupO_less {K : Fg} {H H' : Hp} {x : Addr → Prop} (hx : ∀ a, x a → Mo (H a)) : ∀ (ds : List PyData) (vs : List V), tupOs ds = true → DqAll K H vs ds → DqAll K (less H x) vs ds
  | [], _, _, h => by cases h; exact .nil
  | d :: ds, _, t, h => by
    cases h with
    | cons a b =>
      simp only [tupOs, Bool.and_eq_true] at t
      exact .cons (Dq.tupO_less (H' := H') hx d _ t.1 a) (DqAll.tupO_less (H' := H') hx ds _ t.2 b)
end

/-! ### what a name holds -/
mutual
inductive OD where
  | lst (ds : List PyData)
  | dK (kvs : List (Key × PyData))
  | dT (kvs : List (List Key × PyData))
  | ab (I : Hp → Addr → List Addr → Prop)
  | ins (C : Addr) (fs : Fs)
/-- the attributes of an instance: data, or objects of its own -/
inductive Fs where
  | nil
  | sh (f : Str) (d : PyData) (r : Fs)
  | ow (f : Str) (o : OD) (r : Fs)
  | no (f : Str) (r : Fs)
end
inductive Sl where
  | no
  | sh (d : PyData)
  | ar (d : PyData)
  | ow (o : OD)
  | rf (o : OD)
  | ro (o : OD)
abbrev G := List Sl
def Sl.own? : Sl → Option OD
  | .ow o => some o
  | .rf o => some o
  | _ => none
def OD.isIns : OD → Bool
  | .ins _ _ => true
  | _ => false
def insO (o : OD) : Option OD := if o.isIns = true then some o else none
/-- the object that a name stands for, if it is an instance -/
def Sl.ins? : Sl → Option OD
  | .ow o => insO o
  | .rf o => insO o
  | .ro o => insO o
  | _ => none
/-- what an attribute's attribute .. holds -/
def PathV (H : Hp) : Addr → List Str → V → Prop
  | p, [], v => v = .ref p
  | p, f :: r, v => ∃ C dx vs u, H p = some (.ins C dx vs) ∧ vs.lookup f = some u ∧ ((r = [] ∧ v = u) ∨ (r ≠ [] ∧ ∃ q, u = .ref q ∧ PathV H q r v))
theorem PathV.mono {H H' : Hp} (e : ∀ a C dx vs, H a = some (.ins C dx vs) → H' a = some (.ins C dx vs)) : ∀ {path : List Str} {p : Addr} {v : V}, PathV H p path v → PathV H' p path v
  | [], _, _, h => h
  | _ :: _, _, _, ⟨C, dx, vs, u, h1, h2, h3⟩ => ⟨C, dx, vs, u, e _ _ _ _ h1, h2, h3.imp id fun ⟨n, q, h4, h5⟩ => ⟨n, q, h4, PathV.mono e h5⟩⟩
def Fs.getO : Fs → Str → Option OD
  | .nil, _ => none
  | .sh g _ r, f => if f = g then none else r.getO f
  | .ow g o r, f => if f = g then some o else r.getO f
  | .no g r, f => if f = g then none else r.getO f
def Fs.getD : Fs → Str → Option PyData
  | .nil, _ => none
  | .sh g d r, f => if f = g then some d else r.getD f
  | .ow g _ r, f => if f = g then none else r.getD f
  | .no g r, f => if f = g then none else r.getD f
def Fs.has : Fs → Str → Bool
  | .nil, _ => false
  | .sh g _ r, f => decide (f = g) || r.has f
  | .ow g _ r, f => decide (f = g) || r.has f
  | .no g r, f => decide (f = g) || r.has f
/-- what the text says of an instance's class -/
structure ClsI (K : Fg) (C : Addr) (fs : Fs) : Prop where
  cl : Cls K C
  na : ∀ f, fs.has f = true → NoAttr K C f
/-- an object of an object .. -/
def OD.at_ : OD → List Str → Option OD
  | o, [] => some o
  | .ins _ fs, f :: r => (fs.getO f).bind fun o => o.at_ r
  | _, _ => none
def Sl.there : Sl → Bool
  | .no => false
  | _ => true
inductive RV where
  | sh (d : PyData)
  | ar (d : PyData)
  | own (i : Nat)
  | fld (i : Nat) (path : List Str)
def notIns : Option HO → Prop
  | some (.ins _ _ _) => False
  | _ => True
/-- fixed objects are kept -/
def Tx (H H' : Hp) : Prop := ∀ a o, ¬ Mo (some o) → H a = some o → H' a = some o
def KvOk {κ : Type} (K : Fg) (S : Hp) (us : List (κ × V)) (kvs : List (κ × PyData)) : Prop := Paired (fun (p : κ × V) (q : κ × PyData) => p.1 = q.1 ∧ Dq K S p.2 q.2) us kvs
mutual
def OwnO (K : Fg) (S H : Hp) : OD → Addr → List Addr → Prop
  | .lst ds, p, F => F = [p] ∧ ∃ vs, H p = some (.lst vs) ∧ DqAll K S vs ds
  | .dK kvs, p, F => F = [p] ∧ ∃ us, H p = some (.dK us) ∧ KvOk K S us kvs
  | .dT kvs, p, F => F = [p] ∧ ∃ us, H p = some (.dT us) ∧ KvOk K S us kvs
  | .ab I, p, F => p ∈ F ∧ I H p F ∧ (∀ H', (∀ a ∈ F, H' a = H a) → Tx H H' → I H' p F) ∧ ∀ a ∈ F, Mo (H a) ∧ notIns (H a)
  | .ins C fs, p, F => ∃ dx vs qs, F = p :: dx :: qs ∧ F.Nodup ∧ H p = some (.ins C dx vs) ∧ H dx = some (.own p) ∧ FsOk K S H fs vs qs ∧ ClsI K C fs
def FsOk (K : Fg) (S H : Hp) : Fs → List (Str × V) → List Addr → Prop
  | .nil, vs, qs => vs = [] ∧ qs = []
  | .sh f d r, vs, qs => ∃ v vs', vs = (f, v) :: vs' ∧ Dq K S v d ∧ FsOk K S H r vs' qs
  | .ow f o r, vs, qs => ∃ p vs' q1 q2, vs = (f, .ref p) :: vs' ∧ qs = q1 ++ q2 ∧ OwnO K S H o p q1 ∧ FsOk K S H r vs' q2
  | .no f r, vs, qs => ∃ v vs', vs = (f, v) :: vs' ∧ FsOk K S H r vs' qs
end
def OwnOk (K : Fg) (S H : Hp) (p : Addr) (F : List Addr) : OD → Prop
  | .lst ds => F = [p] ∧ ∃ vs, H p = some (.lst vs) ∧ DqAll K S vs ds
  | .dK kvs => F = [p] ∧ ∃ us, H p = some (.dK us) ∧ KvOk K S us kvs
  | .dT kvs => F = [p] ∧ ∃ us, H p = some (.dT us) ∧ KvOk K S us kvs
  | .ab I => p ∈ F ∧ I H p F ∧ (∀ H', (∀ a ∈ F, H' a = H a) → Tx H H' → I H' p F) ∧ ∀ a ∈ F, Mo (H a) ∧ notIns (H a)
  | .ins C fs => ∃ dx vs qs, F = p :: dx :: qs ∧ F.Nodup ∧ H p = some (.ins C dx vs) ∧ H dx = some (.own p) ∧ FsOk K S H fs vs qs ∧ ClsI K C fs
theorem ownO_ok {K : Fg} {S H : Hp} {p : Addr} {F : List Addr} {o : OD} : OwnO K S H o p F ↔ OwnOk K S H p F o := by
  cases o <;> simp only [OwnO, OwnOk]

theorem kvOk_dq {K : Fg} {S : Hp} : ∀ {us : List (Key × V)} {kvs : List (Key × PyData)}, KvOk K S us kvs → DqKv K S us (kvs.map fun p => (kD p.1, p.2))
  | _, _, .nil => .nil
  | (k, v) :: _, (k', d) :: _, .cons ⟨e, a⟩ b => by
    cases e
    exact .cons rfl a (kvOk_dq b)
theorem DqAll.map {K : Fg} {S S' : Hp} (hs : ∀ v d, Dq K S v d → Dq K S' v d) : ∀ {vs : List V} {ds : List PyData}, DqAll K S vs ds → DqAll K S' vs ds
  | _, _, .nil => .nil
  | _, _, .cons a b => .cons (hs _ _ a) (DqAll.map hs b)
mutual
theorem OwnO.keepD {K : Fg} {S S' H H' : Hp} (hs : ∀ v d, Dq K S v d → Dq K S' v d) (ht : Tx H H') : ∀ {o : OD} {p : Addr} {f : List Addr}, OwnO K S H o p f → (∀ a ∈ f, H' a = H a) → OwnO K S' H' o p f
  | .lst ds, p, f, h, hk => by
    simp only [OwnO] at h ⊢
    obtain ⟨e, vs, h1, h2⟩ := h
    subst e
    exact ⟨rfl, vs, by rw [hk p (by simp)]; exact h1, DqAll.map hs h2⟩
  | .dK kvs, p, f, h, hk => by
    simp only [OwnO] at h ⊢
    obtain ⟨e, vs, h1, h2⟩ := h
    subst e
    exact ⟨rfl, vs, by rw [hk p (by simp)]; exact h1, Paired.mapP h2 fun _ _ z => ⟨z.1, hs _ _ z.2⟩⟩
  | .dT kvs, p, f, h, hk => by
    simp only [OwnO] at h ⊢
    obtain ⟨e, vs, h1, h2⟩ := h
    subst e
    exact ⟨rfl, vs, by rw [hk p (by simp)]; exact h1, Paired.mapP h2 fun _ _ z => ⟨z.1, hs _ _ z.2⟩⟩
  | .ab I, p, f, h, hk => by
    simp only [OwnO] at h ⊢
    obtain ⟨e, h1, h2, h3⟩ := h
    exact ⟨e, h2 H' hk ht, (fun H'' hk' ht' => h2 H'' (fun a ha => (hk' a ha).trans (hk a ha)) fun a o nm q => ht' a o nm (ht a o nm q)), fun a ha => by rw [hk a ha]; exact h3 a ha⟩
  | .ins C fs, p, f, h, hk => by
    simp only [OwnO] at h ⊢
    obtain ⟨dx, vs, qs, e, nd, h1, h2, h3, h4⟩ := h
    subst e
    exact ⟨dx, vs, qs, rfl, nd, by rw [hk p (by simp)]; exact h1, by rw [hk dx (by simp)]; exact h2, FsOk.keepD hs ht h3 fun a ha => hk a (by simp [ha]), h4⟩
theorem FsOk.keepD {K : Fg} {S S' H H' : Hp} (hs : ∀ v d, Dq K S v d → Dq K S' v d) (ht : Tx H H') : ∀ {fs : Fs} {vs : List (Str × V)} {f : List Addr}, FsOk K S H fs vs f → (∀ a ∈ f, H' a = H a) → FsOk K S' H' fs vs f
  | .nil, vs, f, h, hk => by simp only [FsOk] at h ⊢; exact h
  | .sh g d r, vs, f, h, hk => by
    simp only [FsOk] at h ⊢
    obtain ⟨v, vs', e, h1, h2⟩ := h
    exact ⟨v, vs', e, hs _ _ h1, FsOk.keepD hs ht h2 hk⟩
  | .ow g o r, vs, f, h, hk => by
    simp only [FsOk] at h ⊢
    obtain ⟨p, vs', q1, q2, e, e2, h1, h2⟩ := h
    subst e2
    exact ⟨p, vs', q1, q2, e, rfl, OwnO.keepD hs ht h1 fun a ha => hk a (by simp [ha]), FsOk.keepD hs ht h2 fun a ha => hk a (by simp [ha])⟩
  | .no g r, vs, f, h, hk => by
    simp only [FsOk] at h ⊢
    obtain ⟨v, vs', e, h2⟩ := h
    exact ⟨v, vs', e, FsOk.keepD hs ht h2 hk⟩
end
theorem OwnO.keep {K : Fg} {S S' H H' : Hp} (hs : Same S S') (ht : Tx H H') {o : OD} {p : Addr} {f : List Addr} (h : OwnO K S H o p f) (hk : ∀ a ∈ f, H' a = H a) : OwnO K S' H' o p f := OwnO.keepD (fun _ _ z => z.same hs) ht h hk
theorem FsOk.keep {K : Fg} {S S' H H' : Hp} (hs : Same S S') (ht : Tx H H') {fs : Fs} {vs : List (Str × V)} {f : List Addr} (h : FsOk K S H fs vs f) (hk : ∀ a ∈ f, H' a = H a) : FsOk K S' H' fs vs f := FsOk.keepD (fun _ _ z => z.same hs) ht h hk
mutual
theorem OwnO.mo {K : Fg} {S H : Hp} : ∀ {o : OD} {p : Addr} {f : List Addr}, OwnO K S H o p f → ∀ a ∈ f, Mo (H a)
  | .lst ds, p, f, h => by
    simp only [OwnO] at h
    obtain ⟨rfl, vs, h1, h2⟩ := h
    intro a ha
    rw [List.mem_singleton] at ha
    rw [ha, h1]
    trivial
  | .dK ds, p, f, h => by
    simp only [OwnO] at h
    obtain ⟨rfl, vs, h1, h2⟩ := h
    intro a ha
    rw [List.mem_singleton] at ha
    rw [ha, h1]
    trivial
  | .dT ds, p, f, h => by
    simp only [OwnO] at h
    obtain ⟨rfl, vs, h1, h2⟩ := h
    intro a ha
    rw [List.mem_singleton] at ha
    rw [ha, h1]
    trivial
  | .ab I, p, f, h => by
    simp only [OwnO] at h
    exact fun a ha => (h.2.2.2 a ha).1
  | .ins C fs, p, f, h => by
    simp only [OwnO] at h
    obtain ⟨dx, vs, qs, rfl, nd, h1, h2, h3, _⟩ := h
    intro a ha
    rcases List.mem_cons.mp ha with rfl | ha
    · rw [h1]; trivial
    · rcases List.mem_cons.mp ha with rfl | ha
      · rw [h2]; trivial
      · exact FsOk.mo h3 a ha
theorem FsOk.mo {K : Fg} {S H : Hp} : ∀ {fs : Fs} {vs : List (Str × V)} {f : List Addr}, FsOk K S H fs vs f → ∀ a ∈ f, Mo (H a)
  | .nil, vs, f, h => by
    simp only [FsOk] at h
    rw [h.2]
    exact fun a ha => nomatch ha
  | .sh g d r, vs, f, h => by
    simp only [FsOk] at h
    obtain ⟨v, vs', _, _, h2⟩ := h
    exact FsOk.mo h2
  | .ow g o r, vs, f, h => by
    simp only [FsOk] at h
    obtain ⟨p, vs', q1, q2, _, rfl, h1, h2⟩ := h
    intro a ha
    rcases List.mem_append.mp ha with ha | ha
    · exact OwnO.mo h1 a ha
    · exact FsOk.mo h2 a ha
  | .no g r, vs, f, h => by
    simp only [FsOk] at h
    obtain ⟨v, vs', _, h2⟩ := h
    exact FsOk.mo h2
end
theorem OwnO.notIns {K : Fg} {S H : Hp} {o : OD} {p : Addr} {f : List Addr} (h : OwnO K S H o p f) (n : o.isIns = false) : ∀ a ∈ f, notIns (H a) := by
  cases o with
  | lst ds =>
    simp only [OwnO] at h
    obtain ⟨rfl, vs, h1, h2⟩ := h
    intro a ha
    rw [List.mem_singleton] at ha
    rw [ha, h1]
    trivial
  | dK ds =>
    simp only [OwnO] at h
    obtain ⟨rfl, vs, h1, h2⟩ := h
    intro a ha
    rw [List.mem_singleton] at ha
    rw [ha, h1]
    trivial
  | dT ds =>
    simp only [OwnO] at h
    obtain ⟨rfl, vs, h1, h2⟩ := h
    intro a ha
    rw [List.mem_singleton] at ha
    rw [ha, h1]
    trivial
  | ab I =>
    simp only [OwnO] at h
    exact fun a ha => (h.2.2.2 a ha).2
  | ins C fs => cases n
theorem FsOk.getO {K : Fg} {S H : Hp} {f : Str} {o : OD} {u : V} : ∀ {fs : Fs} {vs : List (Str × V)} {qs : List Addr}, FsOk K S H fs vs qs → fs.getO f = some o → vs.lookup f = some u → ∃ p q1, u = .ref p ∧ (∀ a ∈ q1, a ∈ qs) ∧ OwnO K S H o p q1
  | .nil, _, _, _, e, _ => by simp [Fs.getO] at e
  | .sh g d r, _, _, h, e, l => by
    simp only [FsOk] at h
    obtain ⟨v, vs', rfl, h1, h2⟩ := h
    by_cases z : f = g
    · simp [Fs.getO, z] at e
    · simp only [Fs.getO, if_neg z] at e
      rw [List.lookup_cons, beq_false_of_ne z] at l
      exact FsOk.getO h2 e l
  | .ow g o' r, _, _, h, e, l => by
    simp only [FsOk] at h
    obtain ⟨p, vs', q1, q2, rfl, rfl, h1, h2⟩ := h
    by_cases z : f = g
    · subst z
      simp only [Fs.getO, if_true] at e
      rw [List.lookup_cons, beq_self_eq_true] at l
      cases e
      cases l
      exact ⟨p, q1, rfl, fun a ha => by simp [ha], h1⟩
    · simp only [Fs.getO, if_neg z] at e
      rw [List.lookup_cons, beq_false_of_ne z] at l
      obtain ⟨p', q', a1, a2, a3⟩ := FsOk.getO h2 e l
      exact ⟨p', q', a1, fun a ha => by simp [a2 a ha], a3⟩
  | .no g r, _, _, h, e, l => by
    simp only [FsOk] at h
    obtain ⟨v, vs', rfl, h2⟩ := h
    by_cases z : f = g
    · simp [Fs.getO, z] at e
    · simp only [Fs.getO, if_neg z] at e
      rw [List.lookup_cons, beq_false_of_ne z] at l
      exact FsOk.getO h2 e l
theorem FsOk.lookO {K : Fg} {S H : Hp} {f : Str} {o : OD} : ∀ {fs : Fs} {vs : List (Str × V)} {qs : List Addr}, FsOk K S H fs vs qs → fs.getO f = some o → ∃ p, vs.lookup f = some (.ref p)
  | .nil, _, _, _, e => by simp [Fs.getO] at e
  | .sh g d r, _, _, h, e => by
    simp only [FsOk] at h
    obtain ⟨v, vs', rfl, h1, h2⟩ := h
    by_cases z : f = g
    · simp [Fs.getO, z] at e
    · simp only [Fs.getO, if_neg z] at e
      rw [List.lookup_cons, beq_false_of_ne z]
      exact FsOk.lookO h2 e
  | .ow g o' r, _, _, h, e => by
    simp only [FsOk] at h
    obtain ⟨p, vs', q1, q2, rfl, rfl, h1, h2⟩ := h
    by_cases z : f = g
    · subst z
      rw [List.lookup_cons, beq_self_eq_true]
      exact ⟨p, rfl⟩
    · simp only [Fs.getO, if_neg z] at e
      rw [List.lookup_cons, beq_false_of_ne z]
      exact FsOk.lookO h2 e
  | .no g r, _, _, h, e => by
    simp only [FsOk] at h
    obtain ⟨v, vs', rfl, h2⟩ := h
    by_cases z : f = g
    · simp [Fs.getO, z] at e
    · simp only [Fs.getO, if_neg z] at e
      rw [List.lookup_cons, beq_false_of_ne z]
      exact FsOk.lookO h2 e
theorem FsOk.getD {K : Fg} {S H : Hp} {f : Str} {d : PyData} : ∀ {fs : Fs} {vs : List (Str × V)} {qs : List Addr}, FsOk K S H fs vs qs → fs.getD f = some d → ∃ u, vs.lookup f = some u ∧ Dq K S u d
  | .nil, _, _, _, e => by simp [Fs.getD] at e
  | .sh g d' r, _, _, h, e => by
    simp only [FsOk] at h
    obtain ⟨v, vs', rfl, h1, h2⟩ := h
    by_cases z : f = g
    · subst z
      simp only [Fs.getD, if_true] at e
      cases e
      rw [List.lookup_cons, beq_self_eq_true]
      exact ⟨v, rfl, h1⟩
    · simp only [Fs.getD, if_neg z] at e
      rw [List.lookup_cons, beq_false_of_ne z]
      exact FsOk.getD h2 e
  | .ow g o' r, _, _, h, e => by
    simp only [FsOk] at h
    obtain ⟨p, vs', q1, q2, rfl, rfl, h1, h2⟩ := h
    by_cases z : f = g
    · simp [Fs.getD, z] at e
    · simp only [Fs.getD, if_neg z] at e
      rw [List.lookup_cons, beq_false_of_ne z]
      exact FsOk.getD h2 e
  | .no g r, _, _, h, e => by
    simp only [FsOk] at h
    obtain ⟨v, vs', rfl, h2⟩ := h
    by_cases z : f = g
    · simp [Fs.getD, z] at e
    · simp only [Fs.getD, if_neg z] at e
      rw [List.lookup_cons, beq_false_of_ne z]
      exact FsOk.getD h2 e
/-- along a path -/
theorem OwnO.path {K : Fg} {S H : Hp} {o' : OD} {v : V} : ∀ {path : List Str} {o : OD} {p : Addr} {F : List Addr}, OwnO K S H o p F → o.at_ path = some o' → PathV H p path v → ∃ q F', v = .ref q ∧ (∀ a ∈ F', a ∈ F) ∧ OwnO K S H o' q F'
  | [], o, p, F, h, e, z => by
    simp only [OD.at_] at e
    cases e
    exact ⟨p, F, z, fun a ha => ha, h⟩
  | f :: r, .ins C fs, p, F, h, e, z => by
    simp only [OD.at_] at e
    obtain ⟨o1, e1, e2⟩ := Option.bind_eq_some_iff.mp e
    simp only [OwnO] at h
    obtain ⟨dx, vs, qs, eF, nd, h1, h2, h3, _⟩ := h
    obtain ⟨C', dx', vs', u, g1, g2, g3⟩ := z
    rw [h1] at g1
    cases g1
    obtain ⟨q, F1, rfl, hF, hO⟩ := FsOk.getO h3 e1 g2
    have sub : ∀ a ∈ F1, a ∈ F := fun a ha => by rw [eF]; simp [hF a ha]
    rcases g3 with ⟨rfl, rfl⟩ | ⟨_, q', g4, g5⟩
    · simp only [OD.at_] at e2
      cases e2
      exact ⟨q, F1, rfl, sub, hO⟩
    · cases g4
      obtain ⟨q2, F2, a1, a2, a3⟩ := OwnO.path hO e2 g5
      exact ⟨q2, F2, a1, fun a ha => sub a (a2 a ha), a3⟩
  | _ :: _, .lst _, _, _, _, e, _ => by simp [OD.at_] at e
  | _ :: _, .dK _, _, _, _, e, _ => by simp [OD.at_] at e
  | _ :: _, .dT _, _, _, _, e, _ => by simp [OD.at_] at e
  | _ :: _, .ab _, _, _, _, e, _ => by simp [OD.at_] at e
/-- the surroundings of a def's run: the heap at its start, what it may change (by-reference arguments), where these stand -/
structure Fx (K : Fg) where
  H0 : Hp
  rf : Addr → Prop
  rp : Nat → Option (Addr × List Addr)
  ex : Addr → Prop := fun a => Mo (H0 a)
  xm : ∀ a, ex a → Mo (H0 a) := by exact fun _ z => z
  rm : ∀ a, rf a → Mo (H0 a) := by exact fun _ z => z.elim
theorem Fx.exn {K : Fg} (F : Fx K) {a : Addr} (h : F.ex a) (z : F.H0 a = none) : False := by
  have m := F.xm a h
  rw [z] at m
  exact m
/-- ours, or another's -/
def Ex {K : Fg} (F : Fx K) (O : Addr → Prop) : Addr → Prop := fun a => F.ex a ∨ O a
/-- what stands shared at the start -/
noncomputable abbrev Fx.S0 {K : Fg} (F : Fx K) : Hp := less F.H0 fun a => F.ex a ∨ F.rf a
/-- the world of a moment: the objects that are ours, each name's objects, the heap -/
structure Wd where
  O : Addr → Prop
  ft : Nat → List Addr
  H : Hp
noncomputable abbrev Wd.S {K : Fg} (W : Wd) (F : Fx K) : Hp := less W.H (Ex F W.O)
def SlotOk {K : Fg} (F : Fx K) (W : Wd) (i : Nat) (x : Option (Option V)) : Sl → Prop
  | .no => True
  | .sh d => ∃ v, x = some (some v) ∧ Dq K (W.S F) v d
  | .ar d => ∃ v, x = some (some v) ∧ Dq K (less F.H0 F.rf) v d
  | .ow o => ∃ p, x = some (some (.ref p)) ∧ (∀ a ∈ W.ft i, W.O a ∧ ¬ F.rf a) ∧ OwnOk K (W.S F) W.H p (W.ft i) o
  | .rf o => ∃ p, (∃ f, F.rp i = some (p, f) ∧ (o.isIns = false → f = W.ft i)) ∧ x = some (some (.ref p)) ∧ (∀ a ∈ W.ft i, W.O a) ∧ OwnOk K (W.S F) W.H p (W.ft i) o
  | .ro o => ∃ p f, x = some (some (.ref p)) ∧ (∀ a ∈ f, ¬ F.rf a ∧ F.ex a) ∧ o.isIns = true ∧ OwnOk K F.S0 F.H0 p f o
structure Rel {K : Fg} (F : Fx K) (W : Wd) (σ : L2.St) (Γ : G) : Prop where
  base : ∀ a o, F.H0 a = some o → ¬ F.rf a → W.H a = some o
  new : ∀ a, W.O a → F.H0 a = none ∨ F.rf a
  mu : ∀ a, W.O a → Mo (W.H a)
  rfo : ∀ a, F.rf a → W.O a
  len : σ.length = Γ.length
  slot : ∀ (i : Nat) (s : Sl), Γ[i]? = some s → SlotOk F W i σ[i]? s
  dis : ∀ (i j : Nat) (s t : Sl) (oi oj : OD) (a : Addr), i ≠ j → Γ[i]? = some s → Γ[j]? = some t → s.own? = some oi → t.own? = some oj → a ∈ W.ft i → a ∉ W.ft j
def VOk {K : Fg} (F : Fx K) (W : Wd) (σ : L2.St) (Γ : G) (v : V) : RV → Prop
  | .sh d => Dq K (W.S F) v d
  | .ar d => Dq K (less F.H0 F.rf) v d
  | .own i => ∃ s, Γ[i]? = some s ∧ s.there = true ∧ σ[i]? = some (some v)
  | .fld i path => ∃ s p o, Γ[i]? = some s ∧ s.ins? = some o ∧ σ[i]? = some (some (.ref p)) ∧ PathV W.H p path v
/-- ours, but no name's -/
def Tm (W : Wd) (Γ : G) (p : Addr) : Prop := W.O p ∧ ∀ (j : Nat) (s : Sl) (o : OD), Γ[j]? = some s → s.own? = some o → p ∉ W.ft j
/-- what a run leaves as it was -/
structure Kq {K : Fg} (F : Fx K) (W : Wd) (Γ : G) (W' : Wd) (Γ' : G) : Prop where
  sh : Same (W.S F) (W'.S F)
  tmp : ∀ p, Tm W Γ p → Tm W' Γ' p ∧ W'.H p = W.H p
def InsK (H H' : Hp) : Prop := ∀ a C dx vs, H a = some (.ins C dx vs) → H' a = some (.ins C dx vs)
theorem InsK.refl (H : Hp) : InsK H H := fun _ _ _ _ e => e
theorem InsK.trans {H H1 H2 : Hp} (a : InsK H H1) (b : InsK H1 H2) : InsK H H2 := fun x C d v e => b x C d v (a x C d v e)
theorem InsK.same {H H1 : Hp} (a : Same H H1) : InsK H H1 := fun x C d v e => a _ _ e
theorem InsK.upd {H : Hp} {p : Addr} {ho : HO} (n : notIns (H p)) : InsK H (upd H p ho) := fun x C d v e => by
  rw [upd_ne]
  · exact e
  · intro z
    subst z
    rw [e] at n
    exact n.elim
/-- .. and the instances, too -/
structure Kp {K : Fg} (F : Fx K) (W : Wd) (Γ : G) (W' : Wd) (Γ' : G) : Prop extends Kq F W Γ W' Γ' where
  obj : InsK W.H W'.H
def Kx (s s' : Sl) : Prop := (s.there = true → s'.there = true) ∧ (s.own? = none → s' = s) ∧ (∀ o, s = .rf o → ∃ o', s' = .rf o')
def Kn (s s' : Sl) : Prop := (s.there = true → s'.there = true) ∧ (s.own? = none → s' = s) ∧ (∀ o, s = .rf o → ∃ o', s' = .rf o') ∧ (∀ o, s.ins? = some o → s' = s)
theorem Kn.refl (s : Sl) : Kn s s := ⟨fun z => z, fun _ => rfl, fun o z => ⟨o, z⟩, fun _ _ => rfl⟩
theorem Kn.trans {s s1 s2 : Sl} (a : Kn s s1) (b : Kn s1 s2) : Kn s s2 := ⟨fun z => b.1 (a.1 z), fun q => by
  have z := a.2.1 q
  subst z
  exact b.2.1 q, fun o q => by
  obtain ⟨o1, q1⟩ := a.2.2.1 o q
  exact b.2.2.1 o1 q1, fun o q => by
  have z := a.2.2.2 o q
  subst z
  exact b.2.2.2 o q⟩
structure Stp {K : Fg} (F : Fx K) (W : Wd) (Γ : G) (W' : Wd) (Γ' : G) : Prop extends Kp F W Γ W' Γ' where
  kin : ∀ (i : Nat) (s : Sl), Γ[i]? = some s → ∃ s' : Sl, Γ'[i]? = some s' ∧ Kn s s'
  len : Γ'.length = Γ.length
theorem Kp.refl {K : Fg} (F : Fx K) (W : Wd) (Γ : G) : Kp F W Γ W Γ := ⟨⟨Same.refl _, fun p h => ⟨h, rfl⟩⟩, InsK.refl _⟩
theorem Kq.trans {K : Fg} {F : Fx K} {W W1 W2 : Wd} {Γ Γ1 Γ2 : G} (a : Kq F W Γ W1 Γ1) (b : Kq F W1 Γ1 W2 Γ2) : Kq F W Γ W2 Γ2 :=
  ⟨a.sh.trans b.sh, fun p h => ⟨(b.tmp p (a.tmp p h).1).1, (b.tmp p (a.tmp p h).1).2.trans (a.tmp p h).2⟩⟩
theorem Kp.trans {K : Fg} {F : Fx K} {W W1 W2 : Wd} {Γ Γ1 Γ2 : G} (a : Kp F W Γ W1 Γ1) (b : Kp F W1 Γ1 W2 Γ2) : Kp F W Γ W2 Γ2 := ⟨a.toKq.trans b.toKq, a.obj.trans b.obj⟩
theorem Stp.refl {K : Fg} (F : Fx K) (W : Wd) (Γ : G) : Stp F W Γ W Γ := ⟨Kp.refl F W Γ, fun i s h => ⟨s, h, Kn.refl s⟩, rfl⟩
theorem Stp.trans {K : Fg} {F : Fx K} {W W1 W2 : Wd} {Γ Γ1 Γ2 : G} (a : Stp F W Γ W1 Γ1) (b : Stp F W1 Γ1 W2 Γ2) : Stp F W Γ W2 Γ2 :=
  ⟨a.toKp.trans b.toKp, fun i s h => by
    obtain ⟨s1, h1, k1⟩ := a.kin i s h
    obtain ⟨s2, h2, k2⟩ := b.kin i s1 h1
    exact ⟨s2, h2, k1.trans k2⟩, b.len.trans a.len⟩
theorem VOk.stp {K : Fg} {F : Fx K} {W W' : Wd} {σ : L2.St} {Γ Γ' : G} {v : V} {rv : RV} (a : Stp F W Γ W' Γ') (h : VOk F W σ Γ v rv) : VOk F W' σ Γ' v rv := by
  cases rv with
  | sh d => exact Dq.same a.sh h
  | ar d => exact h
  | own i =>
    obtain ⟨s, h1, h2, h3⟩ := h
    obtain ⟨s', g1, g2, _⟩ := a.kin i s h1
    exact ⟨s', g1, g2 h2, h3⟩
  | fld i path =>
    obtain ⟨s, p, o, h1, h2, h3, h4⟩ := h
    obtain ⟨s', g1, _, _, _, g2⟩ := a.kin i s h1
    cases g2 o h2
    exact ⟨s, p, o, g1, h2, h3, h4.mono a.obj⟩
/-- a list or dict of one's own, read as data -/
def odD : OD → Option PyData
  | .lst ds => some (.list ds)
  | .dK kvs => some (.dict (kvs.map fun p => (kD p.1, p.2)))
  | _ => none
def dat (Γ : G) : RV → Option PyData
  | .sh d => some d
  | .ar d => some d
  | .own i => match Γ[i]? with
    | some (.ow (.lst ds)) => some (.list ds)
    | some (.rf (.lst ds)) => some (.list ds)
    | some (.ow (.dK kvs)) => some (.dict (kvs.map fun p => (kD p.1, p.2)))
    | some (.rf (.dK kvs)) => some (.dict (kvs.map fun p => (kD p.1, p.2)))
    | some (.sh d) => some d
    | some (.ar d) => some d
    | _ => none
  | .fld i path => match Γ[i]? with
    | some s => s.ins?.bind fun o => (o.at_ path).bind odD
    | _ => none
theorem Rel.S_same {K : Fg} {F : Fx K} {W : Wd} : Same (W.S F) W.H := less_same
theorem Rel.ar_same {K : Fg} {F : Fx K} {W : Wd} {σ : L2.St} {Γ : G} (R : Rel F W σ Γ) : Same (less F.H0 F.rf) W.H := fun a o e => R.base a o (less_some.mp e).2 (less_some.mp e).1
theorem Rel.S0_same {K : Fg} {F : Fx K} {W : Wd} {σ : L2.St} {Γ : G} (R : Rel F W σ Γ) : Same F.S0 (W.S F) := fun a o e => by
  obtain ⟨n, q⟩ := less_some.mp e
  have nr : ¬ F.rf a := fun z => n (.inr z)
  refine less_some.mpr ⟨fun z => ?_, R.base a o q nr⟩
  rcases z with z | z
  · exact n (.inl z)
  · rcases R.new a z with y | y
    · rw [q] at y; cases y
    · exact nr y
theorem Rel.tx0 {K : Fg} {F : Fx K} {W : Wd} {σ : L2.St} {Γ : G} (R : Rel F W σ Γ) : Tx F.H0 W.H := fun a o nm e => R.base a o e fun z => by
  have m := F.rm a z
  rw [e] at m
  exact nm m
theorem insO_eq {o o' : OD} (h : insO o = some o') : o' = o ∧ o.isIns = true := by
  unfold insO at h
  split at h
  · rename_i z
    cases h
    exact ⟨rfl, z⟩
  · cases h
/-- an instance's own, as it stands now -/
theorem Rel.insOkX {K : Fg} {F : Fx K} {W : Wd} {σ : L2.St} {Γ : G} (R : Rel F W σ Γ) {i : Nat} {s : Sl} {o : OD} (h : Γ[i]? = some s) (g : s.ins? = some o) : ∃ p f, σ[i]? = some (some (.ref p)) ∧ OwnO K (W.S F) W.H o p f ∧ (∀ a ∈ f, W.O a → a ∈ W.ft i ∧ s.own? = some o) ∧ ∀ a ∈ f, Ex F W.O a := by
  have q := R.slot i s h
  cases s with
  | no => cases g
  | sh _ => cases g
  | ar _ => cases g
  | ow o' =>
    cases (insO_eq g).1
    obtain ⟨p, e1, e2, e3⟩ := q
    exact ⟨p, _, e1, ownO_ok.mpr e3, fun a ha _ => ⟨ha, rfl⟩, fun a ha => .inr (e2 a ha).1⟩
  | rf o' =>
    cases (insO_eq g).1
    obtain ⟨p, _, e1, e2, e3⟩ := q
    exact ⟨p, _, e1, ownO_ok.mpr e3, fun a ha _ => ⟨ha, rfl⟩, fun a ha => .inr (e2 a ha)⟩
  | ro o' =>
    cases (insO_eq g).1
    obtain ⟨p, f, e1, e2, _, e3⟩ := q
    refine ⟨p, f, e1, OwnO.keep R.S0_same R.tx0 (ownO_ok.mpr e3) fun a ha => ?_, fun a ha ho => ?_, fun a ha => .inl (e2 a ha).2⟩
    · cases z : F.H0 a with
      | none => exact (F.exn (e2 a ha).2 z).elim
      | some u => exact R.base a u z (e2 a ha).1
    · rcases R.new a ho with z | z
      · exact (F.exn (e2 a ha).2 z).elim
      · exact ((e2 a ha).1 z).elim
theorem Rel.insOk {K : Fg} {F : Fx K} {W : Wd} {σ : L2.St} {Γ : G} (R : Rel F W σ Γ) {i : Nat} {s : Sl} {o : OD} (h : Γ[i]? = some s) (g : s.ins? = some o) : ∃ p f, σ[i]? = some (some (.ref p)) ∧ OwnO K (W.S F) W.H o p f ∧ ∀ a ∈ f, W.O a → a ∈ W.ft i ∧ s.own? = some o := by
  obtain ⟨p, f, a, b, c, _⟩ := R.insOkX h g
  exact ⟨p, f, a, b, c⟩
theorem odD_ok {K : Fg} {S H : Hp} {o : OD} {d : PyData} {p : Addr} {f : List Addr} (h : OwnO K S H o p f) (hs : Same S H) (e : odD o = some d) : Dq K H (.ref p) d := by
  cases o with
  | lst ds =>
    cases e
    simp only [OwnO] at h
    obtain ⟨_, vs, h1, h2⟩ := h
    exact .lst h1 (h2.same hs)
  | dK kvs =>
    cases e
    simp only [OwnO] at h
    obtain ⟨_, vs, h1, h2⟩ := h
    exact .dct (.inl h1) ((kvOk_dq h2).same hs)
  | _ => cases e
theorem VOk.full {K : Fg} {F : Fx K} {W : Wd} {σ : L2.St} {Γ : G} {v : V} {rv : RV} {d : PyData} (R : Rel F W σ Γ) (h : VOk F W σ Γ v rv) (e : dat Γ rv = some d) : Dq K W.H v d := by
  cases rv with
  | sh d' => cases e; exact Dq.same Rel.S_same h
  | ar d' => cases e; exact Dq.same R.ar_same h
  | own i =>
    obtain ⟨s, h1, h2, h3⟩ := h
    have q := R.slot i s h1
    simp only [dat, h1] at e
    cases s with
    | no => cases h2
    | sh d' =>
      cases e
      obtain ⟨v', e1, e2⟩ := q
      rw [h3] at e1
      cases e1
      exact Dq.same Rel.S_same e2
    | ar d' =>
      cases e
      obtain ⟨v', e1, e2⟩ := q
      rw [h3] at e1
      cases e1
      exact Dq.same R.ar_same e2
    | ow o' =>
      cases o' with
      | lst ds =>
        cases e
        obtain ⟨p, e1, _, _, vs, e2, e3⟩ := q
        rw [h3] at e1
        cases e1
        exact .lst e2 (DqAll.same Rel.S_same e3)
      | dK kvs =>
        cases e
        obtain ⟨p, e1, _, _, vs, e2, e3⟩ := q
        rw [h3] at e1
        cases e1
        exact .dct (.inl e2) (DqKv.same Rel.S_same (kvOk_dq e3))
      | dT _ => cases e
      | ab _ => cases e
      | ins _ _ => cases e
    | rf o' =>
      cases o' with
      | lst ds =>
        cases e
        obtain ⟨p, _, e1, _, _, vs, e2, e3⟩ := q
        rw [h3] at e1
        cases e1
        exact .lst e2 (DqAll.same Rel.S_same e3)
      | dK kvs =>
        cases e
        obtain ⟨p, _, e1, _, _, vs, e2, e3⟩ := q
        rw [h3] at e1
        cases e1
        exact .dct (.inl e2) (DqKv.same Rel.S_same (kvOk_dq e3))
      | dT _ => cases e
      | ab _ => cases e
      | ins _ _ => cases e
    | ro o' => cases e
  | fld i path =>
    obtain ⟨s, p, o, h1, h2, h3, h4⟩ := h
    simp only [dat, h1, h2, Option.bind_some] at e
    obtain ⟨o', e1, e2⟩ := Option.bind_eq_some_iff.mp e
    obtain ⟨p', f, g1, g2, _⟩ := R.insOk h1 h2
    rw [h3] at g1
    cases g1
    obtain ⟨q, F', rfl, _, hO⟩ := g2.path e1 h4
    exact odD_ok hO Rel.S_same e2
end Dk

namespace Dk
open PySem PySem.Spec PyProof.Rows L2
section
variable {K : Fg} {F : Fx K} {W : Wd} {σ : L2.St} {Γ : G}
theorem mo_some {x : Option HO} (h : Mo x) : ∃ o, x = some o := by
  cases x with
  | none => exact h.elim
  | some o => exact ⟨o, rfl⟩
theorem Rel.exmo (R : Rel F W σ Γ) {a : Addr} (h : Ex F W.O a) : Mo (W.H a) := by
  by_cases ho : W.O a
  · exact R.mu a ho
  · rcases h with h | h
    · have h := F.xm a h
      obtain ⟨o, e⟩ := mo_some h
      have nr : ¬ F.rf a := fun z => ho (R.rfo a z)
      rw [R.base a o e nr, ← e]
      exact h
    · exact (ho h).elim
theorem OwnOk.keep {S S' H H' : Hp} {p : Addr} {f : List Addr} {o : OD} (h : OwnOk K S H p f o) (hs : Same S S') (hk : ∀ a ∈ f, H' a = H a) (ht : Tx H H') : OwnOk K S' H' p f o := by
  cases o with
  | lst ds =>
    obtain ⟨e, vs, h1, h2⟩ := h
    subst e
    exact ⟨rfl, vs, by rw [hk p (by simp)]; exact h1, h2.same hs⟩
  | dK kvs =>
    obtain ⟨e, vs, h1, h2⟩ := h
    subst e
    exact ⟨rfl, vs, by rw [hk p (by simp)]; exact h1, Paired.mapP h2 fun _ _ z => ⟨z.1, z.2.same hs⟩⟩
  | dT kvs =>
    obtain ⟨e, vs, h1, h2⟩ := h
    subst e
    exact ⟨rfl, vs, by rw [hk p (by simp)]; exact h1, Paired.mapP h2 fun _ _ z => ⟨z.1, z.2.same hs⟩⟩
  | ab I =>
    obtain ⟨e, h1, h2, h3⟩ := h
    refine ⟨e, h2 H' hk ht, (fun H'' hk' ht' => h2 H'' (fun a ha => (hk' a ha).trans (hk a ha)) fun a o nm q => ht' a o nm (ht a o nm q)), fun a ha => by rw [hk a ha]; exact h3 a ha⟩
  | ins C fs => exact ownO_ok.mp (OwnO.keep hs ht (ownO_ok.mpr h) hk)
theorem SlotOk.keep {W' : Wd} {i : Nat} {x : Option (Option V)} {s : Sl} (h : SlotOk F W i x s) (hf : W'.ft i = W.ft i) (hs : Same (W.S F) (W'.S F)) (ho : ∀ a ∈ W.ft i, W.O a → W'.O a) (hk : ∀ a ∈ W.ft i, s.own?.isSome = true → W'.H a = W.H a) (ht : Tx W.H W'.H) : SlotOk F W' i x s := by
  cases s with
  | no => trivial
  | sh d => obtain ⟨v, e, q⟩ := h; exact ⟨v, e, q.same hs⟩
  | ar d => exact h
  | ow o =>
    obtain ⟨p, e, q, r⟩ := h
    exact ⟨p, e, by rw [hf]; exact fun a ha => ⟨ho a ha (q a ha).1, (q a ha).2⟩, by rw [hf]; exact r.keep hs (fun a ha => hk a ha rfl) ht⟩
  | rf o =>
    obtain ⟨p, e0, e, q, r⟩ := h
    exact ⟨p, by rw [hf]; exact e0, e, by rw [hf]; exact fun a ha => ho a ha (q a ha), by rw [hf]; exact r.keep hs (fun a ha => hk a ha rfl) ht⟩
  | ro o => exact h
theorem Same.ts {H H' : Hp} (h : Same H H') : Tx H H' := fun a o _ e => h a o e
/-- the same world with a greater heap -/
theorem Rel.grow (R : Rel F W σ Γ) {H' : Hp} (h : Same W.H H') : Rel F { W with H := H' } σ Γ ∧ Same (W.S F) (({ W with H := H' } : Wd).S F) := by
  have hs : Same (W.S F) (({ W with H := H' } : Wd).S F) := same_less fun a o nx e => ⟨nx, h a o e⟩
  refine ⟨⟨fun a o e nr => h a o (R.base a o e nr), R.new, fun a ha => ?_, R.rfo, R.len, fun i s e => ?_, R.dis⟩, hs⟩
  · obtain ⟨o, q⟩ := mo_some (R.mu a ha)
    show Mo (H' a)
    rw [h a o q, ← q]
    exact R.mu a ha
  · have z := R.slot i s e
    refine z.keep (W' := { W with H := H' }) rfl hs (fun _ _ q => q) (fun a ha so => ?_) (Same.ts h)
    have hO : W.O a := by
      cases s with
      | no => cases so
      | sh _ => cases so
      | ar _ => cases so
      | ow o => obtain ⟨p, _, q, _⟩ := z; exact (q a ha).1
      | rf o => obtain ⟨p, _, _, q, _⟩ := z; exact q a ha
      | ro _ => cases so
    obtain ⟨o, q⟩ := mo_some (R.mu a hO)
    show H' a = W.H a
    rw [h a o q, q]
theorem Stp.grow (R : Rel F W σ Γ) {H' : Hp} (h : Same W.H H') : Stp F W Γ { W with H := H' } Γ := ⟨⟨⟨(R.grow h).2, fun p t => ⟨t, by
  obtain ⟨o, q⟩ := mo_some (R.mu p t.1)
  show H' p = W.H p
  rw [h p o q, q]⟩⟩, InsK.same h⟩, fun i s e => ⟨s, e, Kn.refl s⟩, rfl⟩
theorem same_new {H : Hp} {p : Addr} {o : HO} (h : H p = none) : Same H (upd H p o) := fun b x e => by
  rw [upd_ne (ne_of_none e h)]
  exact e
/-- a fresh place is nobody's -/
theorem Rel.free (R : Rel F W σ Γ) {p : Addr} (h : W.H p = none) : ¬ Ex F W.O p := fun z => by
  obtain ⟨o, q⟩ := mo_some (R.exmo z)
  rw [h] at q
  cases q
theorem S_of {p : Addr} {o : HO} (n : ¬ Ex F W.O p) (h : W.H p = some o) : W.S F p = some o := less_some.mpr ⟨n, h⟩
end

/-! ### the data readings -/
abbrev TEd := G → (RV → G → Prop) → Prop
abbrev TTd := G → (Bool → G → Prop) → Prop
abbrev TAd := G → (List RV → G → Prop) → Prop
abbrev TFd := G → (OD → G → Prop) → Prop
def VOks {K : Fg} (F : Fx K) (W : Wd) (σ : L2.St) (Γ : G) (vs : List V) (xs : List RV) : Prop := Paired (fun v x => VOk F W σ Γ v x) vs xs
/-- what a new object holds -/
def OwnH (K : Fg) (S : Hp) (ho : HO) : OD → Prop
  | .lst ds => ∃ vs, ho = .lst vs ∧ DqAll K S vs ds
  | .dK kvs => ∃ us, ho = .dK us ∧ KvOk K S us kvs
  | .dT kvs => ∃ us, ho = .dT us ∧ KvOk K S us kvs
  | .ab _ => False
  | .ins _ _ => False
class SE (K : Fg) (t : TE) (d : outParam TEd) : Prop where
  run : ∀ (F : Fx K) (W : Wd) (σ : L2.St) (Γ : G) (Q : VK) (Qd : RV → G → Prop), Rel F W σ Γ → d Γ Qd →
    (∀ (rv : RV) (W' : Wd) (Γ' : G) (v : V), Stp F W Γ W' Γ' → Rel F W' σ Γ' → VOk F W' σ Γ' v rv → Qd rv Γ' → Q v W'.H) → t σ W.H Q
class ST (K : Fg) (t : TT) (d : outParam TTd) : Prop where
  run : ∀ (F : Fx K) (W : Wd) (σ : L2.St) (Γ : G) (Q : Bool → Hp → Prop) (Qd : Bool → G → Prop), Rel F W σ Γ → d Γ Qd →
    (∀ (b : Bool) (W' : Wd) (Γ' : G), Stp F W Γ W' Γ' → Rel F W' σ Γ' → Qd b Γ' → Q b W'.H) → t σ W.H Q
class SA (K : Fg) (t : TA) (d : outParam TAd) : Prop where
  run : ∀ (F : Fx K) (W : Wd) (σ : L2.St) (Γ : G) (Q : List V → Hp → Prop) (Qd : List RV → G → Prop), Rel F W σ Γ → d Γ Qd →
    (∀ (xs : List RV) (W' : Wd) (Γ' : G) (vs : List V), Stp F W Γ W' Γ' → Rel F W' σ Γ' → VOks F W' σ Γ' vs xs → Qd xs Γ' → Q vs W'.H) → t σ W.H Q
class SEF (K : Fg) (t : TE) (d : outParam TFd) : Prop where
  run : ∀ (F : Fx K) (W : Wd) (σ : L2.St) (Γ : G) (Q : VK) (Qd : OD → G → Prop), Rel F W σ Γ → d Γ Qd →
    (∀ (o : OD) (W' : Wd) (Γ' : G) (p : Addr) (ho : HO), Stp F W Γ W' Γ' → Rel F W' σ Γ' → W'.H p = none → OwnH K (W'.S F) ho o → Qd o Γ' → Q (.ref p) (upd W'.H p ho)) → t σ W.H Q
def dats (Γ : G) : List RV → Option (List PyData)
  | [] => some []
  | x :: xs => match dat Γ x, dats Γ xs with
    | some d, some ds => some (d :: ds)
    | _, _ => none
theorem VOks.full {K : Fg} {F : Fx K} {W : Wd} {σ : L2.St} {Γ : G} (R : Rel F W σ Γ) : ∀ {xs : List RV} {vs : List V} {ds : List PyData}, VOks F W σ Γ vs xs → dats Γ xs = some ds → DqAll K W.H vs ds
  | [], _, _, h, e => by cases h; cases e; exact .nil
  | x :: xs, _, _, h, e => by
    cases h with
    | cons a b =>
      simp only [dats] at e
      split at e
      · rename_i d ds h1 h2
        cases e
        exact .cons (a.full R h1) (VOks.full R b h2)
      · cases e
theorem VOks.stp {K : Fg} {F : Fx K} {W W' : Wd} {σ : L2.St} {Γ Γ' : G} {vs : List V} {xs : List RV} (a : Stp F W Γ W' Γ') (h : VOks F W σ Γ vs xs) : VOks F W' σ Γ' vs xs := Paired.mapP h fun _ _ z => z.stp a
/-- what may be kept as it is -/
def shOf : RV → Option PyData
  | .sh d => some d
  | .ar d => if tupO d = true then some d else none
  | .own _ => none
  | .fld _ _ => none
theorem VOk.sh {K : Fg} {F : Fx K} {W : Wd} {σ : L2.St} {Γ : G} {v : V} {rv : RV} {d : PyData} (R : Rel F W σ Γ) (h : VOk F W σ Γ v rv) (e : shOf rv = some d) : Dq K (W.S F) v d := by
  cases rv with
  | sh d' => cases e; exact h
  | ar d' =>
    simp only [shOf] at e
    split at e
    · rename_i t
      cases e
      exact Dq.tupO_less (H' := W.H) (fun a z => R.exmo z) _ _ t (Dq.same R.ar_same h)
    · cases e
  | own i => cases e
  | fld i f => cases e
section
variable {K : Fg} {F : Fx K} {W : Wd} {σ : L2.St} {Γ : G}
theorem VOk.int (i : Int) : VOk F W σ Γ (.int i) (.sh (.int i)) := Dq.int i
theorem VOk.bl (i : Bool) : VOk F W σ Γ (.bl i) (.sh (.bool i)) := Dq.bl i
theorem VOk.str (i : Str) : VOk F W σ Γ (.str i) (.sh (.str i)) := Dq.str i
theorem VOk.non : VOk F W σ Γ .non (.sh .none) := Dq.non
theorem VOk.ofSh {v : V} {d : PyData} (h : Dq K (W.S F) v d) : VOk F W σ Γ v (.sh d) := h
theorem VOk.ofAr {v : V} {d : PyData} (h : Dq K (less F.H0 F.rf) v d) : VOk F W σ Γ v (.ar d) := h
theorem VOk.ofOwn {v : V} {i : Nat} {s : Sl} (h1 : Γ[i]? = some s) (h2 : s.there = true) (h3 : σ[i]? = some (some v)) : VOk F W σ Γ v (.own i) := ⟨s, h1, h2, h3⟩
end
def shsOf : List RV → Option (List PyData)
  | [] => some []
  | x :: xs => match shOf x, shsOf xs with
    | some d, some ds => some (d :: ds)
    | _, _ => none
theorem VOks.shs {K : Fg} {F : Fx K} {W : Wd} {σ : L2.St} {Γ : G} (R : Rel F W σ Γ) : ∀ {xs : List RV} {vs : List V} {ds : List PyData}, VOks F W σ Γ vs xs → shsOf xs = some ds → DqAll K (W.S F) vs ds
  | [], _, _, h, e => by cases h; cases e; exact .nil
  | x :: xs, _, _, h, e => by
    cases h with
    | cons a b =>
      simp only [shsOf] at e
      split at e
      · rename_i d ds h1 h2
        cases e
        exact .cons (a.sh R h1) (VOks.shs R b h2)
      · cases e
theorem DqAll.len_eq {K : Fg} {H : Hp} {vs : List V} {ds : List PyData} (h : DqAll K H vs ds) : vs.length = ds.length := h.length

/-! ### names and constants -/
def slotV (Γ : G) (i : Nat) : Option RV := match Γ[i]? with
  | some (.sh d) => some (.sh d)
  | some (.ar d) => some (.ar d)
  | some (.ow _) => some (.own i)
  | some (.rf _) => some (.own i)
  | some (.ro _) => some (.own i)
  | _ => none
def dVar (i : Nat) : TEd := fun Γ Q => ∃ rv, slotV Γ i = some rv ∧ Q rv Γ
def dC (d : PyData) : TEd := fun Γ Q => Q (.sh d) Γ
section
variable {K : Fg}
instance se_var (i : Nat) : SE K (tVar i) (dVar i) := ⟨fun F W σ Γ Q Qd R h k => by
  obtain ⟨rv, e, q⟩ := h
  unfold slotV at e
  split at e
  · rename_i d h1
    cases e
    obtain ⟨v, e1, e2⟩ := R.slot i _ h1
    exact ⟨v, e1, k _ W Γ v (Stp.refl ..) R (.ofSh e2) q⟩
  · rename_i d h1
    cases e
    obtain ⟨v, e1, e2⟩ := R.slot i _ h1
    exact ⟨v, e1, k _ W Γ v (Stp.refl ..) R (.ofAr e2) q⟩
  · rename_i o h1
    cases e
    obtain ⟨p, e1, e2⟩ := R.slot i _ h1
    exact ⟨_, e1, k _ W Γ _ (Stp.refl ..) R (.ofOwn h1 rfl e1) q⟩
  · rename_i o h1
    cases e
    obtain ⟨p, e0, e1, e2⟩ := R.slot i _ h1
    exact ⟨_, e1, k _ W Γ _ (Stp.refl ..) R (.ofOwn h1 rfl e1) q⟩
  · rename_i o h1
    cases e
    obtain ⟨p, f, e1, e2⟩ := R.slot i _ h1
    exact ⟨_, e1, k _ W Γ _ (Stp.refl ..) R (.ofOwn h1 rfl e1) q⟩
  · cases e⟩
instance se_int (i : Int) : SE K (tC (.int i)) (dC (.int i)) := ⟨fun F W σ Γ Q Qd R h k => k _ W Γ _ (Stp.refl ..) R (.int i) h⟩
instance se_bl (i : Bool) : SE K (tC (.bl i)) (dC (.bool i)) := ⟨fun F W σ Γ Q Qd R h k => k _ W Γ _ (Stp.refl ..) R (.bl i) h⟩
instance se_str (i : Str) : SE K (tC (.str i)) (dC (.str i)) := ⟨fun F W σ Γ Q Qd R h k => k _ W Γ _ (Stp.refl ..) R (.str i) h⟩
instance se_non : SE K (tC .non) (dC .none) := ⟨fun F W σ Γ Q Qd R h k => k _ W Γ _ (Stp.refl ..) R .non h⟩

/-! ### two operands -/
theorem two {ta tb : TE} {da db : TEd} [A : SE K ta da] [B : SE K tb db] {F : Fx K} {W : Wd} {σ : L2.St} {Γ : G} {Qd : RV → RV → G → Prop} {Q : V → V → Hp → Prop} (R : Rel F W σ Γ) (h : da Γ fun x Γ1 => db Γ1 fun y Γ2 => Qd x y Γ2)
    (k : ∀ (x y : RV) (W' : Wd) (Γ' : G) (u v : V), Stp F W Γ W' Γ' → Rel F W' σ Γ' → VOk F W' σ Γ' u x → VOk F W' σ Γ' v y → Qd x y Γ' → Q u v W'.H) : ta σ W.H fun u H1 => tb σ H1 fun v H2 => Q u v H2 :=
  A.run F W σ Γ _ _ R h fun x W1 Γ1 u s1 R1 o1 q1 => B.run F W1 σ Γ1 _ _ R1 q1 fun y W2 Γ2 v s2 R2 o2 q2 => k x y W2 Γ2 u v (s1.trans s2) R2 (o1.stp s2) o2 q2
def dI0 (h : Int → Int → PyData) (da db : TEd) : TEd := fun Γ Q => da Γ fun x Γ1 => db Γ1 fun y Γ2 => ∃ i j, dat Γ2 x = some (.int i) ∧ dat Γ2 y = some (.int j) ∧ Q (.sh (h i j)) Γ2
def dIC (C : Int → Int → Prop) (h : Int → Int → PyData) (da db : TEd) : TEd := fun Γ Q => da Γ fun x Γ1 => db Γ1 fun y Γ2 => ∃ i j, dat Γ2 x = some (.int i) ∧ dat Γ2 y = some (.int j) ∧ C i j ∧ Q (.sh (h i j)) Γ2
theorem int_of {H : Hp} {v : V} {i : Int} (h : Dq K H v (.int i)) : v = .int i := by cases h; rfl
theorem str_of {H : Hp} {v : V} {i : Str} (h : Dq K H v (.str i)) : v = .str i := by cases h; rfl
theorem bl_of {H : Hp} {v : V} {i : Bool} (h : Dq K H v (.bool i)) : v = .bl i := by cases h; rfl
section
variable {ta tb : TE} {da db : TEd}
instance se_I0i (h : Int → Int → Int) [SE K ta da] [SE K tb db] : SE K (tOp (rI0 fun i j => V.int (h i j)) ta tb) (dI0 (fun i j => .int (h i j)) da db) := ⟨fun F W σ Γ Q Qd R q k => two R q fun x y W' Γ' u v s' R' o1 o2 ⟨i, j, e1, e2, q⟩ =>
  ⟨i, j, int_of (o1.full R' e1), int_of (o2.full R' e2), k _ W' Γ' _ s' R' (.int _) q⟩⟩
instance se_I0b (h : Int → Int → Bool) [SE K ta da] [SE K tb db] : SE K (tOp (rI0 fun i j => V.bl (h i j)) ta tb) (dI0 (fun i j => .bool (h i j)) da db) := ⟨fun F W σ Γ Q Qd R q k => two R q fun x y W' Γ' u v s' R' o1 o2 ⟨i, j, e1, e2, q⟩ =>
  ⟨i, j, int_of (o1.full R' e1), int_of (o2.full R' e2), k _ W' Γ' _ s' R' (.bl _) q⟩⟩
instance se_ICi (C : Int → Int → Prop) (h : Int → Int → Int) [SE K ta da] [SE K tb db] : SE K (tOp (rI C fun i j => V.int (h i j)) ta tb) (dIC C (fun i j => .int (h i j)) da db) := ⟨fun F W σ Γ Q Qd R q k => two R q fun x y W' Γ' u v s' R' o1 o2 ⟨i, j, e1, e2, c, q⟩ =>
  ⟨i, j, int_of (o1.full R' e1), int_of (o2.full R' e2), c, k _ W' Γ' _ s' R' (.int _) q⟩⟩
/-- == of numbers, texts, bools -/
def eqS : PyData → PyData → Option Bool
  | .int i, .int j => some (decide (i = j))
  | .str i, .str j => some (decide (i = j))
  | .bool i, .bool j => some (decide (i = j))
  | _, _ => none
def dEq (f : Bool → Bool) (da db : TEd) : TEd := fun Γ Q => da Γ fun x Γ1 => db Γ1 fun y Γ2 => ∃ a b c, dat Γ2 x = some a ∧ dat Γ2 y = some b ∧ eqS a b = some c ∧ Q (.sh (.bool (f c))) Γ2
theorem eqS_ok {H : Hp} {u v : V} {a b : PyData} {c : Bool} (h1 : Dq K H u a) (h2 : Dq K H v b) (e : eqS a b = some c) : scal u v = true ∧ decide (u = v) = c := by
  cases a <;> cases b <;> simp only [eqS] at e <;> try cases e
  all_goals (cases h1; cases h2; refine ⟨rfl, ?_⟩; simp)
instance se_eq [SE K ta da] [SE K tb db] : SE K (tOp rEq ta tb) (dEq id da db) := ⟨fun F W σ Γ Q Qd R q k => two R q fun x y W' Γ' u v s' R' o1 o2 ⟨a, b, c, e1, e2, e3, q⟩ => by
  obtain ⟨h1, h2⟩ := eqS_ok (o1.full R' e1) (o2.full R' e2) e3
  refine ⟨h1, ?_⟩
  rw [h2]
  exact k _ W' Γ' _ s' R' (.bl c) q⟩
instance se_ne [SE K ta da] [SE K tb db] : SE K (tOp rNe ta tb) (dEq not da db) := ⟨fun F W σ Γ Q Qd R q k => two R q fun x y W' Γ' u v s' R' o1 o2 ⟨a, b, c, e1, e2, e3, q⟩ => by
  obtain ⟨h1, h2⟩ := eqS_ok (o1.full R' e1) (o2.full R' e2) e3
  refine ⟨h1, ?_⟩
  rw [h2]
  exact k _ W' Γ' _ s' R' (.bl (!c)) q⟩
/-- == of data -/
def dEqD (f : Bool → Bool) (da db : TEd) : TEd := fun Γ Q => da Γ fun x Γ1 => db Γ1 fun y Γ2 => ∃ a b, dat Γ2 x = some a ∧ dat Γ2 y = some b ∧ SeqAt.shaped a = true ∧ SeqAt.shaped b = true ∧ Q (.sh (.bool (f (PyData.eqv a b)))) Γ2
instance se_eqD [SE K ta da] [SE K tb db] : SE K (tOp (rEqD K) ta tb) (dEqD id da db) := ⟨fun F W σ Γ Q Qd R q k => two R q fun x y W' Γ' u v s' R' o1 o2 ⟨a, b, e1, e2, s1, s2, q⟩ =>
  ⟨a, b, Dq.dp _ _ (SeqAt.canLay_of_shaped s1) (o1.full R' e1), Dq.dp _ _ (SeqAt.canLay_of_shaped s2) (o2.full R' e2), s1, s2, k _ W' Γ' _ s' R' (.bl _) q⟩⟩
instance se_neD [SE K ta da] [SE K tb db] : SE K (tOp (rNeD K) ta tb) (dEqD not da db) := ⟨fun F W σ Γ Q Qd R q k => two R q fun x y W' Γ' u v s' R' o1 o2 ⟨a, b, e1, e2, s1, s2, q⟩ =>
  ⟨a, b, Dq.dp _ _ (SeqAt.canLay_of_shaped s1) (o1.full R' e1), Dq.dp _ _ (SeqAt.canLay_of_shaped s2) (o2.full R' e2), s1, s2, k _ W' Γ' _ s' R' (.bl _) q⟩⟩
/-- -a -/
def dU (h : Int → PyData) (da : TEd) : TEd := fun Γ Q => da Γ fun x Γ1 => ∃ i, dat Γ1 x = some (.int i) ∧ Q (.sh (h i)) Γ1
instance se_U (h : Int → Int) [A : SE K ta da] : SE K (tUn (rU fun i => V.int (h i)) ta) (dU (fun i => .int (h i)) da) := ⟨fun F W σ Γ Q Qd R q k => A.run F W σ Γ _ _ R q fun x W' Γ' u s' R' o1 ⟨i, e1, q⟩ =>
  ⟨i, int_of (o1.full R' e1), k _ W' Γ' _ s' R' (.int _) q⟩⟩
/-- chains -/
def dChain (h h' : Int → Int → Bool) (da db dc : TEd) : TEd := fun Γ Q => da Γ fun x Γ1 => db Γ1 fun y Γ2 => ∃ i j, dat Γ2 x = some (.int i) ∧ dat Γ2 y = some (.int j) ∧ (h i j = true → dc Γ2 fun z Γ3 => ∃ l, dat Γ3 z = some (.int l) ∧ Q (.sh (.bool (h' j l))) Γ3) ∧ (h i j = false → Q (.sh (.bool false)) Γ2)
instance se_chain (h h' : Int → Int → Bool) {tc : TE} {dc : TEd} [SE K ta da] [SE K tb db] [C : SE K tc dc] : SE K (tChain (rI0 fun i j => V.bl (h i j)) (rI0 fun i j => V.bl (h' i j)) ta tb tc) (dChain h h' da db dc) := ⟨fun F W σ Γ Q Qd R q k => two (ta := ta) (tb := tb) (da := da) (db := db) R q fun x y W' Γ' u v s' R' o1 o2 ⟨i, j, e1, e2, q1, q2⟩ => by
  have ev := int_of (o2.full R' e2)
  refine ⟨i, j, int_of (o1.full R' e1), ev, h i j, rfl, ?_⟩
  cases hb : h i j with
  | true =>
    refine iteT (C.run F W' σ Γ' _ _ R' (q1 hb) fun z W2 Γ2 w s2 R2 o3 ⟨l, e3, q⟩ => ?_)
    exact ⟨j, l, ev, int_of (o3.full R2 e3), k _ W2 Γ2 _ (s'.trans s2) R2 (.bl _) q⟩
  | false => exact iteF (k _ W' Γ' _ s' R' (.bl _) (q2 hb))⟩
end

/-! ### tests -/
section
variable {ta : TE} {da : TEd} {t u : TT} {d e : TTd}
def dTest (da : TEd) : TTd := fun Γ Q => da Γ fun x Γ1 => ∃ b, dat Γ1 x = some (.bool b) ∧ Q b Γ1
instance st_test [A : SE K ta da] : ST K (tTest ta) (dTest da) := ⟨fun F W σ Γ Q Qd R q k => A.run F W σ Γ _ _ R q fun x W' Γ' v s' R' o1 ⟨b, e1, q⟩ =>
  ⟨b, bl_of (o1.full R' e1), k b W' Γ' s' R' q⟩⟩
instance st_tB [A : SE K ta da] : ST K (tB ta) (dTest da) := ⟨fun F W σ Γ Q Qd R q k => A.run F W σ Γ _ _ R q fun x W' Γ' v s' R' o1 ⟨b, e1, q⟩ =>
  ⟨b, bl_of (o1.full R' e1), k b W' Γ' s' R' q⟩⟩
def dAnd (d e : TTd) : TTd := fun Γ Q => d Γ fun b Γ1 => if b = true then e Γ1 Q else Q false Γ1
def dOr (d e : TTd) : TTd := fun Γ Q => d Γ fun b Γ1 => if b = true then Q true Γ1 else e Γ1 Q
def dNot (d : TTd) : TTd := fun Γ Q => d Γ fun b Γ1 => Q (!b) Γ1
instance st_and [A : ST K t d] [B : ST K u e] : ST K (tAnd t u) (dAnd d e) := ⟨fun F W σ Γ Q Qd R q k => A.run F W σ Γ _ _ R q fun b W' Γ' s' R' q => by
  cases b with
  | true => rw [if_pos rfl] at q; exact iteT (B.run F W' σ Γ' _ _ R' q fun b' W2 Γ2 s2 R2 q => k b' W2 Γ2 (s'.trans s2) R2 q)
  | false => rw [if_neg Bool.false_ne_true] at q; exact iteF (k _ W' Γ' s' R' q)⟩
instance st_or [A : ST K t d] [B : ST K u e] : ST K (tOr t u) (dOr d e) := ⟨fun F W σ Γ Q Qd R q k => A.run F W σ Γ _ _ R q fun b W' Γ' s' R' q => by
  cases b with
  | false => rw [if_neg Bool.false_ne_true] at q; exact iteF (B.run F W' σ Γ' _ _ R' q fun b' W2 Γ2 s2 R2 q => k b' W2 Γ2 (s'.trans s2) R2 q)
  | true => rw [if_pos rfl] at q; exact iteT (k _ W' Γ' s' R' q)⟩
instance st_not [A : ST K t d] : ST K (tNot t) (dNot d) := ⟨fun F W σ Γ Q Qd R q k => A.run F W σ Γ _ _ R q fun b W' Γ' s' R' q => k _ W' Γ' s' R' q⟩
/-- as values -/
def dAndV (d e : TEd) : TEd := fun Γ Q => d Γ fun x Γ1 => ∃ b, dat Γ1 x = some (.bool b) ∧ if b = true then e Γ1 Q else Q (.sh (.bool false)) Γ1
def dOrV (d e : TEd) : TEd := fun Γ Q => d Γ fun x Γ1 => ∃ b, dat Γ1 x = some (.bool b) ∧ if b = true then Q (.sh (.bool true)) Γ1 else e Γ1 Q
def dNotV (d : TEd) : TEd := fun Γ Q => d Γ fun x Γ1 => ∃ b, dat Γ1 x = some (.bool b) ∧ Q (.sh (.bool (!b))) Γ1
instance se_andV {tb : TE} {db : TEd} [A : SE K ta da] [B : SE K tb db] : SE K (tAndV ta tb) (dAndV da db) := ⟨fun F W σ Γ Q Qd R q k => A.run F W σ Γ _ _ R q fun x W' Γ' v s' R' o1 ⟨b, e1, q⟩ => by
  refine ⟨b, bl_of (o1.full R' e1), ?_⟩
  cases b with
  | true => rw [if_pos rfl] at q; exact iteT (B.run F W' σ Γ' _ _ R' q fun b' W2 Γ2 v2 s2 R2 o2 q => k b' W2 Γ2 v2 (s'.trans s2) R2 o2 q)
  | false => rw [if_neg Bool.false_ne_true] at q; exact iteF (k _ W' Γ' _ s' R' (.bl false) q)⟩
instance se_orV {tb : TE} {db : TEd} [A : SE K ta da] [B : SE K tb db] : SE K (tOrV ta tb) (dOrV da db) := ⟨fun F W σ Γ Q Qd R q k => A.run F W σ Γ _ _ R q fun x W' Γ' v s' R' o1 ⟨b, e1, q⟩ => by
  refine ⟨b, bl_of (o1.full R' e1), ?_⟩
  cases b with
  | false => rw [if_neg Bool.false_ne_true] at q; exact iteF (B.run F W' σ Γ' _ _ R' q fun b' W2 Γ2 v2 s2 R2 o2 q => k b' W2 Γ2 v2 (s'.trans s2) R2 o2 q)
  | true => rw [if_pos rfl] at q; exact iteT (k _ W' Γ' _ s' R' (.bl true) q)⟩
instance se_notV [A : SE K ta da] : SE K (tNotV ta) (dNotV da) := ⟨fun F W σ Γ Q Qd R q k => A.run F W σ Γ _ _ R q fun x W' Γ' v s' R' o1 ⟨b, e1, q⟩ =>
  ⟨b, bl_of (o1.full R' e1), k _ W' Γ' _ s' R' (.bl _) q⟩⟩
def dIfE (d : TTd) (da db : TEd) : TEd := fun Γ Q => d Γ fun b Γ1 => if b = true then da Γ1 Q else db Γ1 Q
instance se_ifE {tb : TE} {db : TEd} [T : ST K t d] [A : SE K ta da] [B : SE K tb db] : SE K (tIf t ta tb) (dIfE d da db) := ⟨fun F W σ Γ Q Qd R q k => T.run F W σ Γ _ _ R q fun b W' Γ' s' R' q => by
  cases b with
  | true => rw [if_pos rfl] at q; exact iteT (A.run F W' σ Γ' _ _ R' q fun x W2 Γ2 v s2 R2 o2 q => k x W2 Γ2 v (s'.trans s2) R2 o2 q)
  | false => rw [if_neg Bool.false_ne_true] at q; exact iteF (B.run F W' σ Γ' _ _ R' q fun x W2 Γ2 v s2 R2 o2 q => k x W2 Γ2 v (s'.trans s2) R2 o2 q)⟩
end

/-! ### arguments, tuples, lists, calls -/
section
variable {ta : TE} {da : TEd} {t : TA} {d : TAd}
def dNil : TAd := fun Γ Q => Q [] Γ
def dCons (da : TEd) (d : TAd) : TAd := fun Γ Q => da Γ fun x Γ1 => d Γ1 fun xs Γ2 => Q (x :: xs) Γ2
instance sa_nil : SA K tNil dNil := ⟨fun F W σ Γ Q Qd R q k => k [] W Γ [] (Stp.refl ..) R .nil q⟩
instance sa_cons [A : SE K ta da] [B : SA K t d] : SA K (tCons ta t) (dCons da d) := ⟨fun F W σ Γ Q Qd R q k => A.run F W σ Γ _ _ R q fun x W' Γ' v s' R' o1 q =>
  B.run F W' σ Γ' _ _ R' q fun xs W2 Γ2 vs s2 R2 o2 q => k (x :: xs) W2 Γ2 (v :: vs) (s'.trans s2) R2 (.cons (o1.stp s2) o2) q⟩
def dTup (d : TAd) : TEd := fun Γ Q => d Γ fun xs Γ1 => ∃ ds, shsOf xs = some ds ∧ ds.length ≤ sizeLine ∧ Q (.sh (.tuple ds)) Γ1
instance se_tup [A : SA K t d] : SE K (tTup t) (dTup d) := ⟨fun F W σ Γ Q Qd R q k => A.run F W σ Γ _ _ R q fun xs W' Γ' vs s' R' o1 ⟨ds, e1, hl, q⟩ => by
  have hd := o1.shs R' e1
  refine ⟨by rw [hd.length]; exact hl, fun p hp => ?_⟩
  have hS := same_new (o := .tup vs) hp
  refine k (.sh (.tuple ds)) { W' with H := upd W'.H p (.tup vs) } Γ' (.ref p) (s'.trans (Stp.grow R' hS)) (R'.grow hS).1 ?_ q
  exact .tup (.inl (S_of (W := { W' with H := upd W'.H p (.tup vs) }) (R'.free hp) upd_same)) (hd.same (R'.grow hS).2)⟩
def dLst (d : TAd) : TFd := fun Γ Q => d Γ fun xs Γ1 => ∃ ds, shsOf xs = some ds ∧ ds.length ≤ sizeLine ∧ Q (.lst ds) Γ1
instance sf_lst [A : SA K t d] : SEF K (tLst t) (dLst d) := ⟨fun F W σ Γ Q Qd R q k => A.run F W σ Γ _ _ R q fun xs W' Γ' vs s' R' o1 ⟨ds, e1, hl, q⟩ => by
  have hd := o1.shs R' e1
  exact ⟨by rw [hd.length]; exact hl, fun p hp => k (.lst ds) W' Γ' p _ s' R' hp ⟨vs, rfl, hd⟩ q⟩⟩
/-- a new list or dict that nobody will change -/
def dFrz (d : TFd) : TEd := fun Γ Q => d Γ fun o Γ1 => ∃ d, odD o = some d ∧ Q (.sh d) Γ1
instance (priority := low) se_frz {te : TE} {df : TFd} [A : SEF K te df] : SE K te (dFrz df) := ⟨fun F W σ Γ Q Qd R q k => A.run F W σ Γ _ _ R q fun o W' Γ' p ho s' R' hp oh ⟨d, e1, q⟩ => by
  have hS := same_new (o := ho) hp
  refine k (.sh d) { W' with H := upd W'.H p ho } Γ' (.ref p) (s'.trans (Stp.grow R' hS)) (R'.grow hS).1 ?_ q
  have here : (({ W' with H := upd W'.H p ho } : Wd).S F) p = some ho := S_of (W := { W' with H := upd W'.H p ho }) (R'.free hp) upd_same
  cases o with
  | lst ds =>
    cases e1
    obtain ⟨vs, e2, hd⟩ := oh
    subst e2
    exact .lst here (hd.same (R'.grow hS).2)
  | dK kvs =>
    cases e1
    obtain ⟨us, e2, hd⟩ := oh
    subst e2
    exact .dct (.inl here) ((kvOk_dq hd).same (R'.grow hS).2)
  | dT kvs => cases e1
  | ab I => cases e1
  | ins C fs => cases e1⟩
/-- a promise in data: nothing that stood is changed, the answer is new but for its tuples -/
def PureSp (K : Fg) (C : List PyData → (PyData → Prop) → Prop) : Sp := fun vs H Q _ => ∃ (ds : List PyData) (Qd : PyData → Prop), DqAll K H vs ds ∧ C ds Qd ∧ ∀ (v : V) (H' : Hp) (d : PyData), Same H H' → Dq K (less H' fun a => Mo (H a)) v d → Qd d → Q v H'
def dCall (C : List PyData → (PyData → Prop) → Prop) (d : TAd) : TEd := fun Γ Q => d Γ fun xs Γ1 => ∃ ds, dats Γ1 xs = some ds ∧ C ds fun r => Q (.sh r) Γ1
instance se_call {C : List PyData → (PyData → Prop) → Prop} {E : XK} [A : SA K t d] : SE K (tCall (PureSp K C) [] E t) (dCall C d) := ⟨fun F W σ Γ Q Qd R q k => A.run F W σ Γ _ _ R q fun xs W' Γ' vs s' R' o1 ⟨ds, e1, q⟩ => by
  rw [List.append_nil]
  refine ⟨ds, _, o1.full R' e1, q, fun v H' r hS hv hq => ?_⟩
  refine k (.sh r) { W' with H := H' } Γ' v (s'.trans (Stp.grow R' hS)) (R'.grow hS).1 ?_ hq
  exact hv.same (same_less fun a o nx e => ⟨fun z => nx (R'.exmo z), e⟩)⟩
/-- .. the answer is a new list -/
def FreshSp (K : Fg) (C : List PyData → (OD → Prop) → Prop) : Sp := fun vs H Q _ => ∃ (ds : List PyData) (Qd : OD → Prop), DqAll K H vs ds ∧ C ds Qd ∧ ∀ (p : Addr) (ho : HO) (H' : Hp) (o : OD), Same H H' → H' p = none → OwnH K (less H' fun a => Mo (H a)) ho o → Qd o → Q (.ref p) (upd H' p ho)
def dCallF (C : List PyData → (OD → Prop) → Prop) (d : TAd) : TFd := fun Γ Q => d Γ fun xs Γ1 => ∃ ds, dats Γ1 xs = some ds ∧ C ds fun r => Q r Γ1
theorem OwnH.same {S S' : Hp} {ho : HO} {o : OD} (h : OwnH K S ho o) (e : Same S S') : OwnH K S' ho o := by
  cases o with
  | lst ds => obtain ⟨vs, h1, h2⟩ := h; exact ⟨vs, h1, h2.same e⟩
  | dK ds => obtain ⟨vs, h1, h2⟩ := h; exact ⟨vs, h1, Paired.mapP h2 fun _ _ z => ⟨z.1, z.2.same e⟩⟩
  | dT ds => obtain ⟨vs, h1, h2⟩ := h; exact ⟨vs, h1, Paired.mapP h2 fun _ _ z => ⟨z.1, z.2.same e⟩⟩
  | ab I => exact h
  | ins _ _ => exact h
instance sf_call {C : List PyData → (OD → Prop) → Prop} {E : XK} [A : SA K t d] : SEF K (tCall (FreshSp K C) [] E t) (dCallF C d) := ⟨fun F W σ Γ Q Qd R q k => A.run F W σ Γ _ _ R q fun xs W' Γ' vs s' R' o1 ⟨ds, e1, q⟩ => by
  rw [List.append_nil]
  refine ⟨ds, _, o1.full R' e1, q, fun p ho H' r hS hp hv hq => ?_⟩
  refine k r { W' with H := H' } Γ' p ho (s'.trans (Stp.grow R' hS)) (R'.grow hS).1 hp ?_ hq
  exact hv.same (same_less fun a o nx e => ⟨fun z => nx (R'.exmo z), e⟩)⟩
end
end
end Dk

namespace Dk
open PySem PySem.Spec PyProof.Rows L2
/-! ### names stored -/
section
variable {K : Fg} {F : Fx K} {W : Wd} {σ : L2.St} {Γ : G}
def notRf (Γ : G) (i : Nat) : Bool := match Γ[i]? with
  | some (.rf _) => false
  | _ => true
theorem get_set {α : Type} (l : List α) (i j : Nat) (x y : α) (h : (l.set i x)[j]? = some y) : (j = i ∧ y = x ∧ i < l.length) ∨ (j ≠ i ∧ l[j]? = some y) := by
  by_cases e : j = i
  · subst e
    rw [List.getElem?_set_self'] at h
    cases q : l[j]? with
    | none => rw [q] at h; cases h
    | some z =>
      rw [q] at h
      refine .inl ⟨rfl, ?_, (List.getElem?_eq_some_iff.mp q).1⟩
      simpa using h.symm
  · rw [List.getElem?_set_ne (Ne.symm e)] at h
    exact .inr ⟨e, h⟩
theorem get_set_same {l : List (Option V)} {i : Nat} {x : Option V} (h : i < l.length) : (l.set i x)[i]? = some x := List.getElem?_set_self h
/-- a shared thing is given a name -/
theorem Rel.setSh (R : Rel F W σ Γ) {i : Nat} {v : V} {d : PyData} (hv : Dq K (W.S F) v d) : Rel F W (σ.set i (some v)) (Γ.set i (.sh d)) := by
  refine ⟨R.base, R.new, R.mu, R.rfo, by simp [R.len], fun j s e => ?_, fun j k s t oi oj a ne e1 e2 h1 h2 => ?_⟩
  · rcases get_set _ _ _ _ _ e with ⟨rfl, rfl, hl⟩ | ⟨ne, e⟩
    · exact ⟨v, get_set_same (by rw [R.len]; exact hl), hv⟩
    · rw [List.getElem?_set_ne (Ne.symm ne)]
      exact R.slot j s e
  · rcases get_set _ _ _ _ _ e1 with ⟨rfl, rfl, _⟩ | ⟨ne1, e1⟩
    · cases h1
    · rcases get_set _ _ _ _ _ e2 with ⟨rfl, rfl, _⟩ | ⟨ne2, e2⟩
      · cases h2
      · exact R.dis j k s t oi oj a ne e1 e2 h1 h2
theorem Rel.setAr (R : Rel F W σ Γ) {i : Nat} {v : V} {d : PyData} (hv : Dq K (less F.H0 F.rf) v d) : Rel F W (σ.set i (some v)) (Γ.set i (.ar d)) := by
  refine ⟨R.base, R.new, R.mu, R.rfo, by simp [R.len], fun j s e => ?_, fun j k s t oi oj a ne e1 e2 h1 h2 => ?_⟩
  · rcases get_set _ _ _ _ _ e with ⟨rfl, rfl, hl⟩ | ⟨ne, e⟩
    · exact ⟨v, get_set_same (by rw [R.len]; exact hl), hv⟩
    · rw [List.getElem?_set_ne (Ne.symm ne)]
      exact R.slot j s e
  · rcases get_set _ _ _ _ _ e1 with ⟨rfl, rfl, _⟩ | ⟨ne1, e1⟩
    · cases h1
    · rcases get_set _ _ _ _ _ e2 with ⟨rfl, rfl, _⟩ | ⟨ne2, e2⟩
      · cases h2
      · exact R.dis j k s t oi oj a ne e1 e2 h1 h2
/-- any value, the name forgotten -/
theorem Rel.setNo (R : Rel F W σ Γ) {i : Nat} {x : Option V} : Rel F W (σ.set i x) (Γ.set i .no) := by
  refine ⟨R.base, R.new, R.mu, R.rfo, by simp [R.len], fun j s e => ?_, fun j k s t oi oj a ne e1 e2 h1 h2 => ?_⟩
  · rcases get_set _ _ _ _ _ e with ⟨rfl, rfl, hl⟩ | ⟨ne, e⟩
    · trivial
    · rw [List.getElem?_set_ne (Ne.symm ne)]
      exact R.slot j s e
  · rcases get_set _ _ _ _ _ e1 with ⟨rfl, rfl, _⟩ | ⟨ne1, e1⟩
    · cases h1
    · rcases get_set _ _ _ _ _ e2 with ⟨rfl, rfl, _⟩ | ⟨ne2, e2⟩
      · cases h2
      · exact R.dis j k s t oi oj a ne e1 e2 h1 h2
theorem mo_ownH {S : Hp} {ho : HO} {o : OD} (h : OwnH K S ho o) : Mo (some ho) := by
  cases o with
  | lst ds => obtain ⟨vs, rfl, _⟩ := h; trivial
  | dK ds => obtain ⟨vs, rfl, _⟩ := h; trivial
  | dT ds => obtain ⟨vs, rfl, _⟩ := h; trivial
  | ab I => exact h.elim
  | ins _ _ => exact h.elim
theorem ownH_ok {S H : Hp} {p : Addr} {ho : HO} {o : OD} (h : OwnH K S ho o) (e : H p = some ho) : OwnOk K S H p [p] o := by
  cases o with
  | lst ds => obtain ⟨vs, rfl, q⟩ := h; exact ⟨rfl, vs, e, q⟩
  | dK ds => obtain ⟨vs, rfl, q⟩ := h; exact ⟨rfl, vs, e, q⟩
  | dT ds => obtain ⟨vs, rfl, q⟩ := h; exact ⟨rfl, vs, e, q⟩
  | ab I => exact h.elim
  | ins _ _ => exact h.elim
theorem slot_O {W : Wd} {i : Nat} {x : Option (Option V)} {s : Sl} {o : OD} (z : SlotOk F W i x s) (so : s.own? = some o) : ∀ a ∈ W.ft i, W.O a := by
  cases s with
  | no => cases so
  | sh _ => cases so
  | ar _ => cases so
  | ow o => obtain ⟨p, _, q, _⟩ := z; exact fun a ha => (q a ha).1
  | rf o => obtain ⟨p, _, _, q, _⟩ := z; exact q
  | ro _ => cases so
/-- a new object is given a name, to be changed by it -/
theorem Rel.setNew (R : Rel F W σ Γ) {i : Nat} {p : Addr} {ho : HO} {o : OD} (hp : W.H p = none) (hh : OwnH K (W.S F) ho o) :
    ∃ W' : Wd, W'.H = upd W.H p ho ∧ Same (W.S F) (W'.S F) ∧ Rel F W' (σ.set i (some (.ref p))) (Γ.set i (.ow o)) := by
  have nO : ¬ W.O p := fun z => R.free hp (.inr z)
  have nH0 : F.H0 p = none := by
    cases q : F.H0 p with
    | none => rfl
    | some u =>
      by_cases r : F.rf p
      · exact (nO (R.rfo p r)).elim
      · have := R.base p u q r
        rw [hp] at this
        cases this
  let W' : Wd := ⟨fun a => a = p ∨ W.O a, fun j => if j = i then [p] else W.ft j, upd W.H p ho⟩
  have hs : Same (W.S F) (W'.S F) := same_less fun a u nx e => by
    have ne : a ≠ p := ne_of_none e hp
    refine ⟨fun z => ?_, by show upd W.H p ho a = some u; rw [upd_ne ne]; exact e⟩
    rcases z with z | z | z
    · exact nx (.inl z)
    · exact ne z
    · exact nx (.inr z)
  have keep : ∀ a, W.O a → W'.H a = W.H a := fun a ha => by
    show upd W.H p ho a = W.H a
    rw [upd_ne]
    intro z
    subst z
    exact nO ha
  refine ⟨W', rfl, hs, ⟨fun a u e nr => ?_, fun a ha => ?_, fun a ha => ?_, fun a ha => .inr (R.rfo a ha), by simp [R.len], fun j s e => ?_, fun j k s t oi oj a ne e1 e2 h1 h2 => ?_⟩⟩
  · have q := R.base a u e nr
    show upd W.H p ho a = some u
    rw [upd_ne (ne_of_none q hp)]
    exact q
  · rcases ha with rfl | ha
    · exact .inl nH0
    · exact R.new a ha
  · rcases ha with rfl | ha
    · show Mo (upd W.H a ho a)
      rw [upd_same]
      exact mo_ownH hh
    · rw [keep a ha]
      exact R.mu a ha
  · rcases get_set _ _ _ _ _ e with ⟨rfl, rfl, hl⟩ | ⟨ne, e⟩
    · have f : W'.ft j = [p] := if_pos rfl
      refine ⟨p, get_set_same (by rw [R.len]; exact hl), by rw [f]; intro a ha; rw [List.mem_singleton] at ha; exact ⟨.inl ha, by rw [ha]; exact fun z => nO (R.rfo p z)⟩, by rw [f]; exact ownH_ok (hh.same hs) upd_same⟩
    · rw [List.getElem?_set_ne (Ne.symm ne)]
      have z := R.slot j s e
      refine z.keep (W' := W') (if_neg ne) hs (fun a _ q => .inr q) (fun a ha so => ?_) (Same.ts (same_new hp))
      obtain ⟨o', so⟩ := Option.isSome_iff_exists.mp so
      exact keep a (slot_O z so a ha)
  · intro ha hb
    have fi : ∀ j, j ≠ i → W'.ft j = W.ft j := fun j q => if_neg q
    have fs : W'.ft i = [p] := if_pos rfl
    rcases get_set _ _ _ _ _ e1 with ⟨q1, _, _⟩ | ⟨ne1, g1⟩
    · rcases get_set _ _ _ _ _ e2 with ⟨q2, _, _⟩ | ⟨ne2, g2⟩
      · exact ne (q1.trans q2.symm)
      · rw [q1, fs, List.mem_singleton] at ha
        subst ha
        rw [fi k ne2] at hb
        exact nO (slot_O (R.slot k t g2) h2 _ hb)
    · rcases get_set _ _ _ _ _ e2 with ⟨q2, _, _⟩ | ⟨ne2, g2⟩
      · rw [q2, fs, List.mem_singleton] at hb
        subst hb
        rw [fi j ne1] at ha
        exact nO (slot_O (R.slot j s g1) h1 _ ha)
      · rw [fi j ne1] at ha
        rw [fi k ne2] at hb
        exact R.dis j k s t oi oj a ne g1 g2 h1 h2 ha hb
/-- the object of a name is changed in its place -/
def setOwn (s : Sl) (o : OD) : Sl := match s with
  | .ow _ => .ow o
  | .rf _ => .rf o
  | s => s
def plainOD : OD → Bool
  | .ab _ => false
  | .ins _ _ => false
  | _ => true
theorem Rel.put (R : Rel F W σ Γ) {i : Nat} {p : Addr} {s : Sl} {ho : HO} {o o' : OD} (h1 : Γ[i]? = some s) (h2 : s.own? = some o) (hp : plainOD o = true) (h3 : σ[i]? = some (some (.ref p))) (hh : OwnH K (W.S F) ho o') :
    Rel F { W with H := upd W.H p ho } σ (Γ.set i (setOwn s o')) ∧ (({ W with H := upd W.H p ho } : Wd).S F) = W.S F := by
  have z := R.slot i s h1
  obtain ⟨hO, hf, hM⟩ : W.O p ∧ W.ft i = [p] ∧ (∀ q, s = .rf q → F.rp i = some (p, W.ft i)) := by
    have hni : o.isIns = false := by cases o <;> first | rfl | cases hp
    have hfp : ∀ q, OwnOk K (W.S F) W.H q (W.ft i) o → W.ft i = [q] := fun q r => by
      cases o with
      | lst ds => exact r.1
      | dK ds => exact r.1
      | dT ds => exact r.1
      | ab I => cases hp
      | ins _ _ => cases hp
    cases s with
    | no => cases h2
    | sh _ => cases h2
    | ar _ => cases h2
    | ow q =>
      cases h2
      obtain ⟨p', e, a, b⟩ := z
      rw [h3] at e
      cases e
      have f := hfp p b
      exact ⟨(a p (by rw [f]; simp)).1, f, fun q r => by cases r⟩
    | rf q =>
      cases h2
      obtain ⟨p', ⟨f0, e0, ef⟩, e, a, b⟩ := z
      rw [h3] at e
      cases e
      have f := hfp p b
      exact ⟨a p (by rw [f]; simp), f, fun q r => by rw [e0, ef hni]⟩
    | ro q => cases h2
  have hS : (({ W with H := upd W.H p ho } : Wd).S F) = W.S F := by
    funext a
    show less (upd W.H p ho) (Ex F W.O) a = less W.H (Ex F W.O) a
    unfold less
    by_cases q : Ex F W.O a
    · rw [if_pos q, if_pos q]
    · rw [if_neg q, if_neg q, upd_ne]
      intro e
      subst e
      exact q (.inr hO)
  refine ⟨⟨fun a u e nr => ?_, R.new, fun a ha => ?_, R.rfo, by simp [R.len], fun j t e => ?_, fun j k t1 t2 oi oj a ne e1 e2 g1 g2 => ?_⟩, hS⟩
  · show upd W.H p ho a = some u
    rw [upd_ne]
    · exact R.base a u e nr
    · intro q
      subst q
      rcases R.new a hO with q | q
      · rw [q] at e; cases e
      · exact nr q
  · by_cases q : a = p
    · subst q
      show Mo (upd W.H a ho a)
      rw [upd_same]
      exact mo_ownH hh
    · show Mo (upd W.H p ho a)
      rw [upd_ne q]
      exact R.mu a ha
  · rcases get_set _ _ _ _ _ e with ⟨rfl, rfl, hl⟩ | ⟨ne, e⟩
    · have ok : OwnOk K (({ W with H := upd W.H p ho } : Wd).S F) (upd W.H p ho) p (W.ft j) o' := by
        rw [hS, hf]
        exact ownH_ok hh upd_same
      have hin : ∀ a ∈ W.ft j, W.O a := fun a ha => by
        rw [hf, List.mem_singleton] at ha
        rw [ha]
        exact hO
      cases s with
      | no => cases h2
      | sh _ => cases h2
      | ar _ => cases h2
      | ow q =>
        obtain ⟨p', e', a', _⟩ := z
        exact ⟨p, h3, fun a ha => ⟨hin a ha, (a' a ha).2⟩, ok⟩
      | rf q => exact ⟨p, ⟨_, hM q rfl, fun _ => rfl⟩, h3, hin, ok⟩
      | ro q => cases h2
    · have zj := R.slot j t e
      have hts : Tx W.H (upd W.H p ho) := fun a u nm q => by
        rw [upd_ne]
        · exact q
        · intro w
          subst w
          have m := R.mu a hO
          rw [q] at m
          exact nm m
      refine zj.keep (W' := { W with H := upd W.H p ho }) rfl (by rw [hS]; exact Same.refl _) (fun _ _ q => q) (fun a ha so => ?_) hts
      obtain ⟨oj, so⟩ := Option.isSome_iff_exists.mp so
      show upd W.H p ho a = W.H a
      rw [upd_ne]
      intro w
      subst w
      exact R.dis j i t s oj o a ne e h1 so h2 ha (by rw [hf]; simp)
  · have q : ∀ (j : Nat) (t : Sl) (oj : OD), (Γ.set i (setOwn s o'))[j]? = some t → t.own? = some oj → ∃ t' oj', Γ[j]? = some t' ∧ t'.own? = some oj' := fun j t oj e g => by
      rcases get_set _ _ _ _ _ e with ⟨rfl, _, _⟩ | ⟨_, e⟩
      · exact ⟨s, o, h1, h2⟩
      · exact ⟨t, oj, e, g⟩
    obtain ⟨t1', o1', a1, b1⟩ := q j t1 oi e1 g1
    obtain ⟨t2', o2', a2, b2⟩ := q k t2 oj e2 g2
    exact R.dis j k t1' t2' o1' o2' a ne a1 a2 b1 b2
theorem plain_at {S H : Hp} {p : Addr} {f : List Addr} {o : OD} (h : OwnOk K S H p f o) (hp : plainOD o = true) : notIns (H p) := by
  cases o with
  | lst ds => obtain ⟨_, vs, e, _⟩ := h; rw [e]; trivial
  | dK ds => obtain ⟨_, vs, e, _⟩ := h; rw [e]; trivial
  | dT ds => obtain ⟨_, vs, e, _⟩ := h; rw [e]; trivial
  | ab _ => cases hp
  | ins _ _ => cases hp
theorem own_at (R : Rel F W σ Γ) {i : Nat} {p : Addr} {s : Sl} {o : OD} (h1 : Γ[i]? = some s) (h2 : s.own? = some o) (h3 : σ[i]? = some (some (.ref p))) : OwnOk K (W.S F) W.H p (W.ft i) o := by
  have z := R.slot i s h1
  cases s with
  | no => cases h2
  | sh _ => cases h2
  | ar _ => cases h2
  | ro _ => cases h2
  | ow q =>
    cases h2
    obtain ⟨p', e, a, b⟩ := z
    rw [h3] at e
    cases e
    exact b
  | rf q =>
    cases h2
    obtain ⟨p', e0, e, a, b⟩ := z
    rw [h3] at e
    cases e
    exact b
theorem ins_own {s : Sl} {o : OD} (h : s.ins? = some o) (hs : s.own? ≠ none) : s.own? = some o := by
  cases s with
  | ow q => cases (insO_eq h).1; rfl
  | rf q => cases (insO_eq h).1; rfl
  | ro q => exact (hs rfl).elim
  | _ => cases h
theorem plain_ins {s : Sl} {o o' : OD} (h2 : s.own? = some o) (hp : plainOD o = true) (h : s.ins? = some o') : False := by
  have := ins_own h (by rw [h2]; exact fun z => nomatch z)
  rw [h2] at this
  cases this
  cases s with
  | ow q => cases h2; have := (insO_eq h).2; cases o <;> first | (cases hp; done) | (cases this; done)
  | rf q => cases h2; have := (insO_eq h).2; cases o <;> first | (cases hp; done) | (cases this; done)
  | _ => cases h2
theorem Stp.put (R : Rel F W σ Γ) {i : Nat} {p : Addr} {s : Sl} {ho : HO} {o o' : OD} (h1 : Γ[i]? = some s) (h2 : s.own? = some o) (hp : plainOD o = true) (h3 : σ[i]? = some (some (.ref p))) (hh : OwnH K (W.S F) ho o') :
    Stp F W Γ { W with H := upd W.H p ho } (Γ.set i (setOwn s o')) := by
  have fp : p ∈ W.ft i := by
    have z := R.slot i s h1
    have hfp : ∀ q, OwnOk K (W.S F) W.H q (W.ft i) o → W.ft i = [q] := fun q r => by
      cases o with
      | lst ds => exact r.1
      | dK ds => exact r.1
      | dT ds => exact r.1
      | ab I => cases hp
      | ins _ _ => cases hp
    cases s with
    | no => cases h2
    | sh _ => cases h2
    | ar _ => cases h2
    | ow q =>
      cases h2
      obtain ⟨p', e, a, b⟩ := z
      rw [h3] at e
      cases e
      rw [hfp p b]
      simp
    | rf q =>
      cases h2
      obtain ⟨p', e0, e, a, b⟩ := z
      rw [h3] at e
      cases e
      rw [hfp p b]
      simp
    | ro q => cases h2
  refine ⟨⟨⟨by rw [(R.put h1 h2 hp h3 hh).2]; exact Same.refl _, fun q t => ⟨⟨t.1, fun j t' o2 e g => ?_⟩, ?_⟩⟩, InsK.upd (plain_at (own_at R h1 h2 h3) hp)⟩, fun j t e => ?_, by simp⟩
  · rcases get_set _ _ _ _ _ e with ⟨rfl, _, _⟩ | ⟨_, e⟩
    · exact t.2 j s o h1 h2
    · exact t.2 j t' o2 e g
  · show upd W.H p ho q = W.H q
    rw [upd_ne]
    intro z
    subst z
    exact t.2 i s o h1 h2 fp
  · by_cases q : j = i
    · subst q
      rw [h1] at e
      cases e
      refine ⟨_, List.getElem?_set_self (List.getElem?_eq_some_iff.mp h1).1, ?_, (fun z => by rw [h2] at z; cases z), fun o3 z => ?_, fun o3 z => (plain_ins h2 hp z).elim⟩
      · cases s <;> first | rfl | exact fun z => z
      · subst z
        exact ⟨o', rfl⟩
    · exact ⟨t, by rw [List.getElem?_set_ne (Ne.symm q)]; exact e, Kn.refl t⟩
theorem Kp.setNon {i : Nat} {s : Sl} (h : s.own? = none) : Kp F W Γ W (Γ.set i s) := ⟨⟨Same.refl _, fun p t => ⟨⟨t.1, fun j t' o e g => by
  rcases get_set _ _ _ _ _ e with ⟨_, r, _⟩ | ⟨_, e⟩
  · subst r
    rw [h] at g
    cases g
  · exact t.2 j t' o e g⟩, rfl⟩⟩, InsK.refl _⟩
/-- a name's list or dict is changed no more: it becomes plain data -/
theorem Rel.freezeO (R : Rel F W σ Γ) {i : Nat} {o0 : OD} {d0 : PyData} (h : Γ[i]? = some (.ow o0)) (ed : odD o0 = some d0) : ∃ W' : Wd, W'.H = W.H ∧ Stp F W Γ W' (Γ.set i (.sh d0)) ∧ Rel F W' σ (Γ.set i (.sh d0)) := by
  obtain ⟨p, e1, hO, hw⟩ := R.slot i _ h
  have hpl : plainOD o0 = true := by cases o0 <;> first | rfl | cases ed
  have hf : W.ft i = [p] := by
    cases o0 with
    | lst ds => exact hw.1
    | dK ds => exact hw.1
    | dT ds => exact hw.1
    | ab _ => cases hpl
    | ins _ _ => cases hpl
  have hOp : W.O p := (hO p (by rw [hf]; simp)).1
  have hrf : ¬ F.rf p := (hO p (by rw [hf]; simp)).2
  have h0 : F.H0 p = none := (R.new p hOp).resolve_right hrf
  let W' : Wd := ⟨fun a => W.O a ∧ a ≠ p, W.ft, W.H⟩
  have hs : Same (W.S F) (W'.S F) := same_less fun a u nx e => ⟨fun z => nx (z.imp_right And.left), e⟩
  have il : i < Γ.length := (List.getElem?_eq_some_iff.mp h).1
  have nx : ¬ Ex F W'.O p := fun z => by
    rcases z with z | z
    · have m := F.xm p z
      rw [h0] at m
      exact m
    · exact z.2 rfl
  have hst : Stp F W Γ W' (Γ.set i (.sh d0)) := by
    refine ⟨⟨⟨hs, fun q t => ⟨⟨⟨t.1, fun z => ?_⟩, fun j t' o2 e g => ?_⟩, rfl⟩⟩, InsK.refl _⟩, fun j t e => ?_, by simp⟩
    · subst z
      exact t.2 i _ _ h rfl (by rw [hf]; simp)
    · rcases get_set _ _ _ _ _ e with ⟨_, r, _⟩ | ⟨_, e⟩
      · subst r; cases g
      · exact t.2 j t' o2 e g
    · by_cases q : j = i
      · subst q
        rw [h] at e
        cases e
        exact ⟨_, List.getElem?_set_self il, fun _ => rfl, (fun z => by cases z), (fun o z => by cases z), fun o z => (plain_ins rfl hpl z).elim⟩
      · exact ⟨t, by rw [List.getElem?_set_ne (Ne.symm q)]; exact e, Kn.refl t⟩
  refine ⟨W', rfl, hst, ⟨R.base, fun a ha => R.new a ha.1, fun a ha => R.mu a ha.1, fun a ha => ⟨R.rfo a ha, fun z => hrf (z ▸ ha)⟩, by simp [R.len], fun j t e => ?_, fun j k s t oi oj a ne e1 e2 g1 g2 => ?_⟩⟩
  · rcases get_set _ _ _ _ _ e with ⟨rfl, rfl, hl⟩ | ⟨ne, e⟩
    · refine ⟨.ref p, e1, ?_⟩
      cases o0 with
      | lst ds =>
        cases ed
        obtain ⟨_, vs, q1, q2⟩ := hw
        exact .lst (less_some.mpr ⟨nx, q1⟩) (q2.same hs)
      | dK kvs =>
        cases ed
        obtain ⟨_, vs, q1, q2⟩ := hw
        exact .dct (.inl (less_some.mpr ⟨nx, q1⟩)) ((kvOk_dq q2).same hs)
      | _ => cases ed
    · have zj := R.slot j t e
      have hne : ∀ a ∈ W.ft j, ∀ oj, t.own? = some oj → a ≠ p := fun a ha oj so w => by
        subst w
        exact R.dis j i t _ oj _ a ne e h so rfl ha (by rw [hf]; simp)
      cases t with
      | no => trivial
      | sh d => obtain ⟨v, q1, q2⟩ := zj; exact ⟨v, q1, q2.same hs⟩
      | ar d => exact zj
      | ow o =>
        obtain ⟨q, a1, a2, a3⟩ := zj
        exact ⟨q, a1, fun a ha => ⟨⟨(a2 a ha).1, hne a ha o rfl⟩, (a2 a ha).2⟩, a3.keep hs (fun _ _ => rfl) fun _ _ _ z => z⟩
      | rf o =>
        obtain ⟨q, a0, a1, a2, a3⟩ := zj
        exact ⟨q, a0, a1, fun a ha => ⟨a2 a ha, hne a ha o rfl⟩, a3.keep hs (fun _ _ => rfl) fun _ _ _ z => z⟩
      | ro o => exact zj
  · rcases get_set _ _ _ _ _ e1 with ⟨_, r, _⟩ | ⟨_, f1⟩
    · subst r; cases g1
    · rcases get_set _ _ _ _ _ e2 with ⟨_, r, _⟩ | ⟨_, f2⟩
      · subst r; cases g2
      · exact R.dis j k s t oi oj a ne f1 f2 g1 g2
theorem Rel.freeze (R : Rel F W σ Γ) {i : Nat} {ds : List PyData} (h : Γ[i]? = some (.ow (.lst ds))) : ∃ W' : Wd, W'.H = W.H ∧ Stp F W Γ W' (Γ.set i (.sh (.list ds))) ∧ Rel F W' σ (Γ.set i (.sh (.list ds))) := R.freezeO h rfl
end
end Dk

namespace Dk
open PySem PySem.Spec PyProof.Rows L2
/-! ### statements -/
structure DE where
  nx : G → Prop
  rt : RV → G → Prop
  rn : OD → G → Prop := fun _ _ => False
  bk : G → Prop := fun _ => False
  ct : G → Prop := fun _ => False
  xs : Value → G → Prop := fun _ _ => False
def DE.nxt (E : DE) (M : G → Prop) : DE := { E with nx := M }
def DE.lp (E : DE) (M : G → Prop) : DE := { E with nx := M, ct := M, bk := E.nx }
abbrev TSd := DE → G → Prop
abbrev X0 : WX := fun _ _ _ _ => False
structure Lk {K : Fg} (F : Fx K) (W0 : Wd) (Xw : WX) (D : Ends) (E : DE) : Prop where
  nx : ∀ (W : Wd) (σ : L2.St) (Γ : G), Same (W0.S F) (W.S F) → Rel F W σ Γ → E.nx Γ → D.nx σ W.H
  rt : ∀ (W : Wd) (σ : L2.St) (Γ : G) (x : RV) (v : V), Same (W0.S F) (W.S F) → Rel F W σ Γ → VOk F W σ Γ v x → E.rt x Γ → D.rt v W.H
  rn : ∀ (W : Wd) (σ : L2.St) (Γ : G) (o : OD) (p : Addr) (ho : HO), Same (W0.S F) (W.S F) → Rel F W σ Γ → W.H p = none → OwnH K (W.S F) ho o → E.rn o Γ → D.rt (.ref p) (upd W.H p ho)
  bk : ∀ (W : Wd) (σ : L2.St) (Γ : G), Same (W0.S F) (W.S F) → Rel F W σ Γ → E.bk Γ → D.bk σ W.H
  ct : ∀ (W : Wd) (σ : L2.St) (Γ : G), Same (W0.S F) (W.S F) → Rel F W σ Γ → E.ct Γ → D.ct σ W.H
  xs : ∀ (W : Wd) (σ : L2.St) (Γ : G) (c : Value), Same (W0.S F) (W.S F) → Rel F W σ Γ → E.xs c Γ → Xw c none σ W.H
theorem Lk.mono {K : Fg} {F : Fx K} {W0 W1 : Wd} {Xw : WX} {D : Ends} {E : DE} (L : Lk F W0 Xw D E) (h : Same (W0.S F) (W1.S F)) : Lk F W1 Xw D E :=
  ⟨fun W σ Γ s => L.nx W σ Γ (h.trans s), fun W σ Γ x v s => L.rt W σ Γ x v (h.trans s), fun W σ Γ o p ho s => L.rn W σ Γ o p ho (h.trans s), fun W σ Γ s => L.bk W σ Γ (h.trans s), fun W σ Γ s => L.ct W σ Γ (h.trans s), fun W σ Γ c s => L.xs W σ Γ c (h.trans s)⟩
class SS (K : Fg) (Xw : WX) (t : TS) (d : outParam TSd) : Prop where
  run : ∀ (F : Fx K) (W : Wd) (σ : L2.St) (Γ : G) (D : Ends) (E : DE), Rel F W σ Γ → d E Γ → Lk F W Xw D E → t D σ W.H
section
variable {K : Fg} {Xw : WX} {t u : TS} {d e : TSd} {te : TE} {de : TEd}
def dNext : TSd := fun E Γ => E.nx Γ
instance ss_next : SS K Xw tNext dNext := ⟨fun F W σ Γ D E R q L => L.nx W σ Γ (Same.refl _) R q⟩
def dSeq (d e : TSd) : TSd := fun E Γ => d (E.nxt (e E)) Γ
instance ss_seq [A : SS K Xw t d] [B : SS K Xw u e] : SS K Xw (tSeq t u) (dSeq d e) := ⟨fun F W σ Γ D E R q L => A.run F W σ Γ _ _ R q
  ⟨fun W' σ' Γ' s R' q => B.run F W' σ' Γ' D E R' q (L.mono s), L.rt, L.rn, L.bk, L.ct, L.xs⟩⟩
def dBreak : TSd := fun E Γ => E.bk Γ
instance ss_break : SS K Xw tBreak dBreak := ⟨fun F W σ Γ D E R q L => L.bk W σ Γ (Same.refl _) R q⟩
def dCont : TSd := fun E Γ => E.ct Γ
instance ss_cont : SS K Xw tCont dCont := ⟨fun F W σ Γ D E R q L => L.ct W σ Γ (Same.refl _) R q⟩
def dDrop (de : TEd) : TSd := fun E Γ => de Γ fun _ Γ1 => E.nx Γ1
instance ss_drop [A : SE K te de] : SS K Xw (tDrop te) (dDrop de) := ⟨fun F W σ Γ D E R q L => A.run F W σ Γ _ _ R q fun x W' Γ' v s R' o q => L.nx W' σ Γ' s.sh R' q⟩
def dRet (de : TEd) : TSd := fun E Γ => de Γ E.rt
instance (priority := low) ss_ret [A : SE K te de] : SS K Xw (tRet te) (dRet de) := ⟨fun F W σ Γ D E R q L => A.run F W σ Γ _ _ R q fun x W' Γ' v s R' o q => L.rt W' σ Γ' x v s.sh R' o q⟩
def dRetF (de : TFd) : TSd := fun E Γ => de Γ E.rn
instance ss_retF {df : TFd} [A : SEF K te df] : SS K Xw (tRet te) (dRetF df) := ⟨fun F W σ Γ D E R q L => A.run F W σ Γ _ _ R q fun o W' Γ' p ho s R' hp oh q => L.rn W' σ Γ' o p ho s.sh R' hp oh q⟩
def dRetN : TSd := fun E Γ => E.rt (.sh .none) Γ
instance ss_retN : SS K Xw tRetN dRetN := ⟨fun F W σ Γ D E R q L => L.rt W σ Γ _ .non (Same.refl _) R .non q⟩
/-- M: what holds where both ways meet -/
def dIfS (c : TTd) (d e : TSd) : TSd := fun E Γ => ∃ M : G → Prop, (∀ Γ', M Γ' → E.nx Γ') ∧ c Γ fun b Γ1 => if b = true then d (E.nxt M) Γ1 else e (E.nxt M) Γ1
instance ss_if {c : TT} {dc : TTd} [C : ST K c dc] [A : SS K Xw t d] [B : SS K Xw u e] : SS K Xw (tIfS c t u) (dIfS dc d e) := ⟨fun F W σ Γ D E R ⟨M, hM, q⟩ L => C.run F W σ Γ _ _ R q fun b W' Γ' s R' q => by
  have L' : Lk F W' Xw D (E.nxt M) := by
    have := L.mono s.sh
    exact ⟨fun W2 σ2 Γ2 s2 R2 q2 => this.nx W2 σ2 Γ2 s2 R2 (hM Γ2 q2), this.rt, this.rn, this.bk, this.ct, this.xs⟩
  cases b with
  | true => rw [if_pos rfl] at q; exact iteT (A.run F W' σ Γ' D _ R' q L')
  | false => rw [if_neg Bool.false_ne_true] at q; exact iteF (B.run F W' σ Γ' D _ R' q L')⟩
def dNever : TSd := fun _ _ => False
instance ss_never : SS K Xw tNever dNever := ⟨fun F W σ Γ D E R q L => q.elim⟩
/-! ### targets -/
/-- a value as a name's content -/
def asSl : RV → Option Sl
  | .sh d => some (.sh d)
  | .ar d => some (.ar d)
  | .own _ => none
  | .fld _ _ => none
/-- only the slots ix are changed -/
structure Fm (ix : List Nat) (σ : L2.St) (Γ : G) (σ' : L2.St) (Γ' : G) : Prop where
  st : ∀ j, j ∉ ix → σ'[j]? = σ[j]?
  ga : ∀ j, j ∉ ix → ∀ s, Γ[j]? = some s → ∃ s', Γ'[j]? = some s' ∧ Kn s s'
  sl : σ'.length = σ.length
  gl : Γ'.length = Γ.length
abbrev TGd := RV → G → (G → Prop) → Prop
class SG (K : Fg) (g : TG) (d : outParam TGd) (ix : outParam (List Nat)) : Prop where
  run : ∀ (F : Fx K) (W : Wd) (σ : L2.St) (Γ : G) (v : V) (x : RV) (Q : L2.St → Hp → Prop) (Qd : G → Prop), Rel F W σ Γ → VOk F W σ Γ v x → d x Γ Qd →
    (∀ (W' : Wd) (σ' : L2.St) (Γ' : G), Kp F W Γ W' Γ' → Fm ix σ Γ σ' Γ' → Rel F W' σ' Γ' → Qd Γ' → Q σ' W'.H) → g v σ W.H Q
abbrev TGsd := List RV → G → (G → Prop) → Prop
class SGs (K : Fg) (g : TGs) (d : outParam TGsd) (ix : outParam (List Nat)) : Prop where
  run : ∀ (F : Fx K) (W : Wd) (σ : L2.St) (Γ : G) (vs : List V) (ds : List PyData) (k : PyData → RV) (Q : L2.St → Hp → Prop) (Qd : G → Prop), (k = .sh ∨ k = .ar) → Rel F W σ Γ → Paired (fun v d => ∀ (W' : Wd) (σ' : L2.St) (Γ' : G), Same (W.S F) (W'.S F) → VOk F W' σ' Γ' v (k d)) vs ds → d (ds.map k) Γ Qd →
    (∀ (W' : Wd) (σ' : L2.St) (Γ' : G), Kp F W Γ W' Γ' → Fm ix σ Γ σ' Γ' → Rel F W' σ' Γ' → Qd Γ' → Q σ' W'.H) → g vs σ W.H Q
theorem asSl_set {F : Fx K} {W : Wd} {σ : L2.St} {Γ : G} {v : V} {x : RV} {s : Sl} {i : Nat} (R : Rel F W σ Γ) (o : VOk F W σ Γ v x) (e : asSl x = some s) : Rel F W (σ.set i (some v)) (Γ.set i s) := by
  cases x with
  | sh d => cases e; exact R.setSh o
  | ar d => cases e; exact R.setAr o
  | own j => cases e
  | fld _ _ => cases e
def dName (i : Nat) : TGd := fun x Γ Q => ∃ s, asSl x = some s ∧ Q (Γ.set i s)
theorem asSl_own {x : RV} {s : Sl} (e : asSl x = some s) : s.own? = none := by
  cases x with
  | sh d => cases e; rfl
  | ar d => cases e; rfl
  | own j => cases e
  | fld _ _ => cases e
instance sg_name (i : Nat) : SG K (gName i) (dName i) [i] := ⟨fun F W σ Γ v x Q Qd R o ⟨s, e, q⟩ k => k W _ _ (Kp.setNon (asSl_own e)) ⟨fun j hj => List.getElem?_set_ne (fun z => hj (by simp [z])), fun j hj s e => ⟨s, by rw [List.getElem?_set_ne (fun z => hj (by simp [z]))]; exact e, Kn.refl s⟩, by simp, by simp⟩ (asSl_set R o e) q⟩
def dgNil : TGsd := fun xs Γ Q => xs = [] ∧ Q Γ
def dgCons (g : TGd) (h : TGsd) : TGsd := fun xs Γ Q => ∃ x r, xs = x :: r ∧ g x Γ fun Γ1 => h r Γ1 Q
instance sgs_nil : SGs K gNil dgNil [] := ⟨fun F W σ Γ vs ds k Q Qd hk R o ⟨e, q⟩ kk => by
  cases ds with
  | nil => cases o; exact ⟨rfl, kk W σ Γ (Kp.refl ..) ⟨fun _ _ => rfl, fun _ _ s e => ⟨s, e, Kn.refl s⟩, rfl, rfl⟩ R q⟩
  | cons d ds => cases e⟩
instance sgs_cons {g : TG} {h : TGs} {dg : TGd} {dh : TGsd} {i1 i2 : List Nat} [A : SG K g dg i1] [B : SGs K h dh i2] : SGs K (gCons g h) (dgCons dg dh) (i1 ++ i2) := ⟨fun F W σ Γ vs ds k Q Qd hk R o ⟨x, r, e, q⟩ kk => by
  cases ds with
  | nil => cases e
  | cons d ds =>
    cases e
    cases o with
    | cons o1 o2 =>
      refine ⟨_, _, rfl, A.run F W σ Γ _ _ _ _ R (o1 W σ Γ (Same.refl _)) q fun W' σ' Γ' s' f' R' q => ?_⟩
      exact B.run F W' σ' Γ' _ _ k _ _ hk R' (Paired.mapP o2 fun _ _ z W2 σ2 Γ2 s2 => z W2 σ2 Γ2 (s'.sh.trans s2)) q fun W2 σ2 Γ2 s2 f2 R2 q => kk W2 σ2 Γ2 (s'.trans s2) ⟨fun j hj => (f2.st j fun z => hj (List.mem_append_right _ z)).trans (f'.st j fun z => hj (List.mem_append_left _ z)), fun j hj s e => by
        obtain ⟨s1, e1, k1⟩ := f'.ga j (fun z => hj (List.mem_append_left _ z)) s e
        obtain ⟨s2', e2, k2⟩ := f2.ga j (fun z => hj (List.mem_append_right _ z)) s1 e1
        exact ⟨s2', e2, k1.trans k2⟩, f2.sl.trans f'.sl, f2.gl.trans f'.gl⟩ R2 q⟩
/-- the parts of a tuple, of the same kind -/
def parts : RV → Option (List RV)
  | .sh (.tuple ds) => some (ds.map .sh)
  | .ar (.tuple ds) => some (ds.map .ar)
  | _ => none
def dgTup (n : Nat) (h : TGsd) : TGd := fun x Γ Q => ∃ xs, parts x = some xs ∧ xs.length = n ∧ h xs Γ Q
theorem paired_of {H : Hp} : ∀ {vs : List V} {ds : List PyData}, DqAll K H vs ds → Paired (fun v d => Dq K H v d) vs ds
  | _, [], h => by cases h; exact .nil
  | _, _ :: _, h => by
    cases h with
    | cons a b => exact .cons a (paired_of b)
instance sg_tup (n : Nat) {h : TGs} {dh : TGsd} {ix : List Nat} [B : SGs K h dh ix] : SG K (gTup K n h) (dgTup n dh) ix := ⟨fun F W σ Γ v x Q Qd R o ⟨xs, e, hn, q⟩ kk => by
  cases x with
  | own j => cases e
  | fld _ _ => cases e
  | sh d =>
    cases d with
    | tuple ds =>
      cases e
      cases (show Dq K (W.S F) v (.tuple ds) from o) with
      | tup a b =>
        refine ⟨_, _, rfl, (a.same less_same).sq, by rw [b.length]; simpa using hn, ?_⟩
        exact B.run F W σ Γ _ ds RV.sh _ _ (.inl rfl) R (Paired.mapP (paired_of b) fun _ _ z W2 σ2 Γ2 s2 => z.same s2) q kk
    | _ => cases e
  | ar d =>
    cases d with
    | tuple ds =>
      cases e
      cases (show Dq K (less F.H0 F.rf) v (.tuple ds) from o) with
      | tup a b =>
        refine ⟨_, _, rfl, (a.same R.ar_same).sq, by rw [b.length]; simpa using hn, ?_⟩
        exact B.run F W σ Γ _ ds RV.ar _ _ (.inr rfl) R (Paired.mapP (paired_of b) fun _ _ z W2 σ2 Γ2 s2 => z) q kk
    | _ => cases e⟩
def dAsg (de : TEd) (g : TGd) : TSd := fun E Γ => de Γ fun x Γ1 => g x Γ1 E.nx
instance (priority := low) ss_asg {g : TG} {dg : TGd} {ix : List Nat} [A : SE K te de] [B : SG K g dg ix] : SS K Xw (tAsg te g) (dAsg de dg) := ⟨fun F W σ Γ D E R q L => A.run F W σ Γ _ _ R q fun x W' Γ' v s R' o q =>
  B.run F W' σ Γ' v x _ _ R' o q fun W2 σ2 Γ2 s2 _ R2 q => L.nx W2 σ2 Γ2 (s.sh.trans s2.sh) R2 q⟩
/-- a name for a new object -/
def dNew (df : TFd) (i : Nat) : TSd := fun E Γ => df Γ fun o Γ1 => E.nx (Γ1.set i (.ow o))
instance ss_new {df : TFd} {i : Nat} [A : SEF K te df] : SS K Xw (tAsg te (gName i)) (dNew df i) := ⟨fun F W σ Γ D E R q L => A.run F W σ Γ _ _ R q fun o W' Γ' p ho s R' hp oh q => by
  obtain ⟨W2, e, s2, R2⟩ := R'.setNew (i := i) hp oh
  show D.nx _ _
  rw [← e]
  exact L.nx W2 _ _ (s.sh.trans s2) R2 q⟩
/-- x += e, numbers -/
def dAug (i : Nat) (h : Int → Int → Int) (de : TEd) : TSd := fun E Γ => ∃ a, (slotV Γ i).bind (dat Γ) = some (.int a) ∧ de Γ fun y Γ1 => ∃ b, dat Γ1 y = some (.int b) ∧ E.nx (Γ1.set i (.sh (.int (h a b))))
instance ss_aug {i : Nat} {h : Int → Int → Int} [A : SE K te de] : SS K Xw (tAug i te (ipI h)) (dAug i h de) := ⟨fun F W σ Γ D E R ⟨a, e, q⟩ L => by
  obtain ⟨x, e1, e2⟩ := Option.bind_eq_some_iff.mp e
  refine (se_var (K := K) i).run F W σ Γ (fun v H => te σ H fun y H1 => ipI h v y H1 fun z H2 => D.nx (σ.set i (some z)) H2) (fun rv Γ1 => rv = x ∧ Γ1 = Γ) R ⟨x, e1, rfl, rfl⟩ fun rv W1 Γ1 v s1 R1 o1 ⟨z1, z2⟩ => ?_
  subst z1
  subst z2
  have ev := int_of (o1.full R1 e2)
  refine A.run F W1 σ _ _ _ R1 q fun y W2 Γ2 u s2 R2 o2 ⟨b, e3, q⟩ => ?_
  exact ⟨a, b, ev, int_of (o2.full R2 e3), L.nx W2 _ _ (s1.sh.trans s2.sh) (R2.setSh (.int _)) q⟩⟩
end
end Dk

namespace Dk
open PySem PySem.Spec PyProof.Rows L2
section
variable {K : Fg} {F : Fx K} {W : Wd} {σ : L2.St} {Γ : G}
/-! ### things of ours without a name -/
theorem Rel.temp (R : Rel F W σ Γ) {p : Addr} {ho : HO} (hp : W.H p = none) (hm : Mo (some ho)) :
    Rel F ⟨fun a => a = p ∨ W.O a, W.ft, upd W.H p ho⟩ σ Γ ∧ Kp F W Γ ⟨fun a => a = p ∨ W.O a, W.ft, upd W.H p ho⟩ Γ ∧ Tm ⟨fun a => a = p ∨ W.O a, W.ft, upd W.H p ho⟩ Γ p ∧ F.H0 p = none ∧ ¬ F.rf p := by
  have nO : ¬ W.O p := fun z => R.free hp (.inr z)
  have nrf : ¬ F.rf p := fun z => nO (R.rfo p z)
  have nH0 : F.H0 p = none := by
    cases q : F.H0 p with
    | none => rfl
    | some u =>
      have := R.base p u q nrf
      rw [hp] at this
      cases this
  have hs : Same (W.S F) ((⟨fun a => a = p ∨ W.O a, W.ft, upd W.H p ho⟩ : Wd).S F) := same_less fun a u nx e => by
    have ne : a ≠ p := ne_of_none e hp
    refine ⟨fun z => ?_, by show upd W.H p ho a = some u; rw [upd_ne ne]; exact e⟩
    rcases z with z | z | z
    · exact nx (.inl z)
    · exact ne z
    · exact nx (.inr z)
  have keep : ∀ a, W.O a → upd W.H p ho a = W.H a := fun a ha => by
    rw [upd_ne]
    intro z
    subst z
    exact nO ha
  refine ⟨⟨fun a u e nr => ?_, fun a ha => ?_, fun a ha => ?_, fun a ha => .inr (R.rfo a ha), R.len, fun j s e => ?_, R.dis⟩, ⟨⟨hs, fun q t => ⟨⟨.inr t.1, t.2⟩, keep q t.1⟩⟩, InsK.same (same_new hp)⟩, ⟨.inl rfl, fun j s o e g ha => nO (slot_O (R.slot j s e) g p ha)⟩, nH0, nrf⟩
  · have q := R.base a u e nr
    show upd W.H p ho a = some u
    rw [upd_ne (ne_of_none q hp)]
    exact q
  · rcases ha with rfl | ha
    · exact .inl nH0
    · exact R.new a ha
  · rcases ha with rfl | ha
    · show Mo (upd W.H a ho a)
      rw [upd_same]
      exact hm
    · show Mo (upd W.H p ho a)
      rw [keep a ha]
      exact R.mu a ha
  · have z := R.slot j s e
    refine z.keep (W' := ⟨fun a => a = p ∨ W.O a, W.ft, upd W.H p ho⟩) rfl hs (fun a _ q => .inr q) (fun a ha so => ?_) (Same.ts (same_new hp))
    obtain ⟨o', so⟩ := Option.isSome_iff_exists.mp so
    exact keep a (slot_O z so a ha)
theorem Rel.putTemp (R : Rel F W σ Γ) {p : Addr} {ho : HO} (t : Tm W Γ p) (hm : Mo (some ho)) (nrf : ¬ F.rf p) :
    Rel F { W with H := upd W.H p ho } σ Γ ∧ (({ W with H := upd W.H p ho } : Wd).S F) = W.S F := by
  have hS : (({ W with H := upd W.H p ho } : Wd).S F) = W.S F := by
    funext a
    show less (upd W.H p ho) (Ex F W.O) a = less W.H (Ex F W.O) a
    unfold less
    by_cases q : Ex F W.O a
    · rw [if_pos q, if_pos q]
    · rw [if_neg q, if_neg q, upd_ne]
      intro e
      subst e
      exact q (.inr t.1)
  refine ⟨⟨fun a u e nr => ?_, R.new, fun a ha => ?_, R.rfo, R.len, fun j s e => ?_, R.dis⟩, hS⟩
  · show upd W.H p ho a = some u
    rw [upd_ne]
    · exact R.base a u e nr
    · intro q
      subst q
      rcases R.new a t.1 with q | q
      · rw [q] at e; cases e
      · exact nr q
  · by_cases q : a = p
    · subst q
      show Mo (upd W.H a ho a)
      rw [upd_same]
      exact hm
    · show Mo (upd W.H p ho a)
      rw [upd_ne q]
      exact R.mu a ha
  · have zj := R.slot j s e
    have hts : Tx W.H (upd W.H p ho) := fun a u nm q => by
      rw [upd_ne]
      · exact q
      · intro w
        subst w
        have m := R.mu a t.1
        rw [q] at m
        exact nm m
    refine zj.keep (W' := { W with H := upd W.H p ho }) rfl (by rw [hS]; exact Same.refl _) (fun _ _ q => q) (fun a ha so => ?_) hts
    obtain ⟨oj, so⟩ := Option.isSome_iff_exists.mp so
    show upd W.H p ho a = W.H a
    rw [upd_ne]
    intro w
    subst w
    exact t.2 j s oj e so ha
open Classical in
noncomputable def dropW (W : Wd) (p : Addr) : Wd := ⟨fun a => W.O a ∧ a ≠ p, W.ft, fun a => if a = p then none else W.H a⟩
theorem dropW_at {p : Addr} : (dropW W p).H p = none := if_pos rfl
theorem dropW_ne {p a : Addr} (h : a ≠ p) : (dropW W p).H a = W.H a := if_neg h
theorem dropW_upd {p : Addr} {ho : HO} (h : W.H p = some ho) : upd (dropW W p).H p ho = W.H := by
  funext a
  by_cases e : a = p
  · subst e
    rw [upd_same, h]
  · rw [upd_ne e, dropW_ne e]
theorem Rel.dropTemp (R : Rel F W σ Γ) {p : Addr} (t : Tm W Γ p) (h0 : F.H0 p = none) (nrf : ¬ F.rf p) : Rel F (dropW W p) σ Γ ∧ Same (W.S F) ((dropW W p).S F) := by
  have hs : Same (W.S F) ((dropW W p).S F) := same_less fun a u nx e => by
    have ne : a ≠ p := fun z => nx (.inr (z ▸ t.1))
    exact ⟨fun z => nx (z.imp_right And.left), by rw [dropW_ne ne]; exact e⟩
  refine ⟨⟨fun a u e nr => ?_, fun a ha => R.new a ha.1, fun a ha => ?_, fun a ha => ⟨R.rfo a ha, fun z => nrf (z ▸ ha)⟩, R.len, fun j s e => ?_, R.dis⟩, hs⟩
  · rw [dropW_ne]
    · exact R.base a u e nr
    · intro z
      rw [z, h0] at e
      cases e
  · rw [dropW_ne ha.2]
    exact R.mu a ha.1
  · have zj := R.slot j s e
    have hne : ∀ a ∈ W.ft j, ∀ oj, s.own? = some oj → a ≠ p := fun a ha oj so w => by
      subst w
      exact t.2 j s oj e so ha
    have hts : Tx W.H (dropW W p).H := fun a u nm q => by
      rw [dropW_ne]
      · exact q
      · intro w
        have m := R.mu p t.1
        rw [← w, q] at m
        exact nm m
    cases s with
    | no => trivial
    | sh d => obtain ⟨v, q1, q2⟩ := zj; exact ⟨v, q1, q2.same hs⟩
    | ar d => exact zj
    | ow o =>
      obtain ⟨q, a1, a2, a3⟩ := zj
      exact ⟨q, a1, fun a ha => ⟨⟨(a2 a ha).1, hne a ha o rfl⟩, (a2 a ha).2⟩, a3.keep hs (fun a ha => dropW_ne (hne a ha o rfl)) hts⟩
    | rf o =>
      obtain ⟨q, a0, a1, a2, a3⟩ := zj
      exact ⟨q, a0, a1, fun a ha => ⟨a2 a ha, hne a ha o rfl⟩, a3.keep hs (fun a ha => dropW_ne (hne a ha o rfl)) hts⟩
    | ro o => exact zj
end

/-! ### what is walked -/
def itK : RV → PyData → RV
  | .ar _ => .ar
  | _ => .sh
def itL (Γ : G) : RV → Option (List PyData × G)
  | .sh (.list ds) => some (ds, Γ)
  | .ar (.list ds) => some (ds, Γ)
  | .own i => match Γ[i]? with
    | some (.ow (.lst ds)) => some (ds, Γ.set i (.sh (.list ds)))
    | some (.sh (.list ds)) => some (ds, Γ)
    | _ => none
  | _ => none
def itT (Γ : G) : RV → Option (List PyData × G)
  | .sh (.tuple ds) => some (ds, Γ)
  | .ar (.tuple ds) => some (ds, Γ)
  | .own i => match Γ[i]? with
    | some (.sh (.tuple ds)) => some (ds, Γ)
    | _ => none
  | _ => none
section
variable {K : Fg} {F : Fx K} {W : Wd} {σ : L2.St} {Γ Γ2 : G} {v : V} {x : RV} {ds : List PyData}
/-- the items stand, from W on -/
def Stand (F : Fx K) (W : Wd) (x : RV) (Sq : Hp → List V → Prop) (xs : List V) (ds : List PyData) : Prop := ∀ (W' : Wd) (σ' : L2.St) (Γ' : G), Same (W.S F) (W'.S F) → Rel F W' σ' Γ' → Sq W'.H xs ∧ Paired (fun v d => VOk F W' σ' Γ' v (itK x d)) xs ds
theorem itL_ok (R : Rel F W σ Γ) (o : VOk F W σ Γ v x) (e : itL Γ x = some (ds, Γ2)) : ∃ (W2 : Wd) (a : Addr) (xs : List V), v = .ref a ∧ W2.H = W.H ∧ Stp F W Γ W2 Γ2 ∧ Rel F W2 σ Γ2 ∧ Stand F W2 x (fun H xs => H a = some (.lst xs)) xs ds := by
  have shared : ∀ {W2 : Wd} {a : Addr} {xs : List V}, itK x = RV.sh → (W2.S F) a = some (.lst xs) → DqAll K (W2.S F) xs ds → Stand F W2 x (fun H xs => H a = some (.lst xs)) xs ds := fun {W2 a xs} hk h1 h2 W' σ' Γ' s R' =>
    ⟨less_same _ _ (s _ _ h1), by rw [hk]; exact Paired.mapP (paired_of h2) fun _ _ z => z.same s⟩
  cases x with
  | fld _ _ => cases e
  | sh d =>
    cases d with
    | list ds' =>
      cases e
      cases (show Dq K (W.S F) v (.list ds) from o) with
      | lst h1 h2 => exact ⟨W, _, _, rfl, rfl, Stp.refl .., R, shared rfl h1 h2⟩
    | _ => cases e
  | ar d =>
    cases d with
    | list ds' =>
      cases e
      cases (show Dq K (less F.H0 F.rf) v (.list ds) from o) with
      | lst h1 h2 => exact ⟨W, _, _, rfl, rfl, Stp.refl .., R, fun W' σ' Γ' s R' => ⟨R'.ar_same _ _ h1, Paired.mapP (paired_of h2) fun _ _ z => z⟩⟩
    | _ => cases e
  | own i =>
    obtain ⟨s, h1, h2, h3⟩ := o
    simp only [itL, h1] at e
    cases s with
    | no => cases e
    | ar d => cases e
    | rf o => cases e
    | ro o => cases e
    | sh d =>
      cases d with
      | list ds' =>
        cases e
        obtain ⟨v', q1, q2⟩ := R.slot i _ h1
        rw [h3] at q1
        cases q1
        cases q2 with
        | lst g1 g2 => exact ⟨W, _, _, rfl, rfl, Stp.refl .., R, shared rfl g1 g2⟩
      | _ => cases e
    | ow o =>
      cases o with
      | lst ds' =>
        cases e
        obtain ⟨W2, e2, s2, R2⟩ := R.freeze h1
        obtain ⟨v', q1, q2⟩ := R2.slot i _ (List.getElem?_set_self (List.getElem?_eq_some_iff.mp h1).1)
        rw [h3] at q1
        cases q1
        cases q2 with
        | lst g1 g2 => exact ⟨W2, _, _, rfl, e2, s2, R2, shared rfl g1 g2⟩
      | _ => cases e
theorem itT_ok (R : Rel F W σ Γ) (o : VOk F W σ Γ v x) (e : itT Γ x = some (ds, Γ2)) : ∃ (W2 : Wd) (a : Addr) (xs : List V), v = .ref a ∧ W2.H = W.H ∧ Stp F W Γ W2 Γ2 ∧ Rel F W2 σ Γ2 ∧ Stand F W2 x (fun H xs => SqT K H a xs) xs ds := by
  have shared : ∀ {a : Addr} {xs : List V}, itK x = RV.sh → Tq K (W.S F) a xs → DqAll K (W.S F) xs ds → Stand F W x (fun H xs => SqT K H a xs) xs ds := fun {a xs} hk h1 h2 W' σ' Γ' s R' =>
    ⟨((h1.same s).same less_same).sq, by rw [hk]; exact Paired.mapP (paired_of h2) fun _ _ z => z.same s⟩
  cases x with
  | fld _ _ => cases e
  | sh d =>
    cases d with
    | tuple ds' =>
      cases e
      cases (show Dq K (W.S F) v (.tuple ds) from o) with
      | tup h1 h2 => exact ⟨W, _, _, rfl, rfl, Stp.refl .., R, shared rfl h1 h2⟩
    | _ => cases e
  | ar d =>
    cases d with
    | tuple ds' =>
      cases e
      cases (show Dq K (less F.H0 F.rf) v (.tuple ds) from o) with
      | tup h1 h2 => exact ⟨W, _, _, rfl, rfl, Stp.refl .., R, fun W' σ' Γ' s R' => ⟨(h1.same R'.ar_same).sq, Paired.mapP (paired_of h2) fun _ _ z => z⟩⟩
    | _ => cases e
  | own i =>
    obtain ⟨s, h1, h2, h3⟩ := o
    simp only [itT, h1] at e
    cases s with
    | no => cases e
    | ar d => cases e
    | rf o => cases e
    | ro o => cases e
    | ow o => cases e
    | sh d =>
      cases d with
      | tuple ds' =>
        cases e
        obtain ⟨v', q1, q2⟩ := R.slot i _ h1
        rw [h3] at q1
        cases q1
        cases q2 with
        | tup g1 g2 => exact ⟨W, _, _, rfl, rfl, Stp.refl .., R, shared rfl g1 g2⟩
      | _ => cases e
theorem paired_get {α β : Type} {P : α → β → Prop} : ∀ {xs : List α} {ys : List β} {i : Nat} {x : α}, Paired P xs ys → xs[i]? = some x → ∃ y, ys[i]? = some y ∧ P x y
  | _, _, _, _, .nil, e => by simp at e
  | _, _, 0, _, .cons r _, e => by simp at e; subst e; exact ⟨_, rfl, r⟩
  | _, _, i + 1, _, .cons _ t, e => by
    obtain ⟨y, h1, h2⟩ := paired_get (i := i) t (by simpa using e)
    exact ⟨y, by simpa using h1, h2⟩
end
section
variable {K : Fg} {Xw : WX} {te : TE} {de : TEd} {g : TG} {dg : TGd} {ix : List Nat} {tb : TS} {db : TSd}
def dForS (it : G → RV → Option (List PyData × G)) (de : TEd) (dg : TGd) (db : TSd) : TSd := fun E Γ => de Γ fun x Γ1 => ∃ ds Γ2, it Γ1 x = some (ds, Γ2) ∧ ∃ I : Nat → G → Prop, I 0 Γ2 ∧
  (∀ k d Γ', ds[k]? = some d → I k Γ' → dg (itK x d) Γ' fun Γ3 => db (E.lp (I (k + 1))) Γ3) ∧ ∀ Γ', I ds.length Γ' → E.nx Γ'
instance ss_forL [A : SE K te de] [B : SG K g dg ix] [C : SS K Xw tb db] : SS K Xw (tFor (iList K te) g tb) (dForS itL de dg db) := ⟨fun F W σ Γ D E R q L => A.run F W σ Γ _ _ R q fun x W1 Γ1 v s1 R1 o1 ⟨ds, Γ2, e, I, i0, step, done⟩ => by
  obtain ⟨W2, a, xs, rfl, eH, s2, R2, st⟩ := itL_ok R1 o1 e
  have s12 : Same (W.S F) (W2.S F) := s1.sh.trans s2.sh
  refine ⟨a, rfl, ⟨xs, by rw [← eH]; exact SqL.of (st W2 σ Γ2 (Same.refl _) R2).1⟩, ?_⟩
  rw [← eH]
  have hl : xs.length = ds.length := Paired.length (st W2 σ Γ2 (Same.refl _) R2).2
  refine for_list (K := K) (a := a) (xs := xs) (fun k σ' H' => ∃ W' Γ', W'.H = H' ∧ Same (W2.S F) (W'.S F) ∧ Rel F W' σ' Γ' ∧ I k Γ') ⟨W2, Γ2, rfl, Same.refl _, R2, i0⟩ ?_ ?_ ?_
  · rintro k σ' H' hk ⟨W', Γ', rfl, s', R', i'⟩
    exact SqL.of (st W' σ' Γ' s' R').1
  · rintro k y σ' H' hy ⟨W', Γ', rfl, s', R', i'⟩
    obtain ⟨d, hd, od⟩ := paired_get (st W' σ' Γ' s' R').2 hy
    refine B.run F W' σ' Γ' y _ _ _ R' od (step k d Γ' hd i') fun W3 σ3 Γ3 k3 f3 R3 q3 => ?_
    refine C.run F W3 σ3 Γ3 _ _ R3 q3 ⟨fun W4 σ4 Γ4 s4 R4 q4 => ⟨W4, Γ4, rfl, (s'.trans k3.sh).trans s4, R4, q4⟩, fun W4 σ4 Γ4 x4 v4 s4 => L.rt W4 σ4 Γ4 x4 v4 (s12.trans ((s'.trans k3.sh).trans s4)), fun W4 σ4 Γ4 o4 p4 h4 s4 => L.rn W4 σ4 Γ4 o4 p4 h4 (s12.trans ((s'.trans k3.sh).trans s4)), fun W4 σ4 Γ4 s4 => L.nx W4 σ4 Γ4 (s12.trans ((s'.trans k3.sh).trans s4)), fun W4 σ4 Γ4 s4 R4 q4 => ⟨W4, Γ4, rfl, (s'.trans k3.sh).trans s4, R4, q4⟩, fun W4 σ4 Γ4 c4 s4 => L.xs W4 σ4 Γ4 c4 (s12.trans ((s'.trans k3.sh).trans s4))⟩
  · rintro σ' H' ⟨W', Γ', rfl, s', R', i'⟩
    rw [hl] at i'
    exact L.nx W' σ' Γ' (s12.trans s') R' (done Γ' i')⟩
instance ss_forT [A : SE K te de] [B : SG K g dg ix] [C : SS K Xw tb db] : SS K Xw (tFor (iTup K te) g tb) (dForS itT de dg db) := ⟨fun F W σ Γ D E R q L => A.run F W σ Γ _ _ R q fun x W1 Γ1 v s1 R1 o1 ⟨ds, Γ2, e, I, i0, step, done⟩ => by
  obtain ⟨W2, a, xs, rfl, eH, s2, R2, st⟩ := itT_ok R1 o1 e
  have s12 : Same (W.S F) (W2.S F) := s1.sh.trans s2.sh
  refine ⟨a, rfl, ⟨xs, by rw [← eH]; exact (st W2 σ Γ2 (Same.refl _) R2).1⟩, ?_⟩
  rw [← eH]
  have hl : xs.length = ds.length := Paired.length (st W2 σ Γ2 (Same.refl _) R2).2
  refine for_tup (K := K) (a := a) (xs := xs) (fun k σ' H' => ∃ W' Γ', W'.H = H' ∧ Same (W2.S F) (W'.S F) ∧ Rel F W' σ' Γ' ∧ I k Γ') ⟨W2, Γ2, rfl, Same.refl _, R2, i0⟩ ?_ ?_ ?_
  · rintro k σ' H' hk ⟨W', Γ', rfl, s', R', i'⟩
    exact (st W' σ' Γ' s' R').1
  · rintro k y σ' H' hy ⟨W', Γ', rfl, s', R', i'⟩
    obtain ⟨d, hd, od⟩ := paired_get (st W' σ' Γ' s' R').2 hy
    refine B.run F W' σ' Γ' y _ _ _ R' od (step k d Γ' hd i') fun W3 σ3 Γ3 k3 f3 R3 q3 => ?_
    refine C.run F W3 σ3 Γ3 _ _ R3 q3 ⟨fun W4 σ4 Γ4 s4 R4 q4 => ⟨W4, Γ4, rfl, (s'.trans k3.sh).trans s4, R4, q4⟩, fun W4 σ4 Γ4 x4 v4 s4 => L.rt W4 σ4 Γ4 x4 v4 (s12.trans ((s'.trans k3.sh).trans s4)), fun W4 σ4 Γ4 o4 p4 h4 s4 => L.rn W4 σ4 Γ4 o4 p4 h4 (s12.trans ((s'.trans k3.sh).trans s4)), fun W4 σ4 Γ4 s4 => L.nx W4 σ4 Γ4 (s12.trans ((s'.trans k3.sh).trans s4)), fun W4 σ4 Γ4 s4 R4 q4 => ⟨W4, Γ4, rfl, (s'.trans k3.sh).trans s4, R4, q4⟩, fun W4 σ4 Γ4 c4 s4 => L.xs W4 σ4 Γ4 c4 (s12.trans ((s'.trans k3.sh).trans s4))⟩
  · rintro σ' H' ⟨W', Γ', rfl, s', R', i'⟩
    rw [hl] at i'
    exact L.nx W' σ' Γ' (s12.trans s') R' (done Γ' i')⟩
/-- over a range by ones -/
def Rg1 (xs : List PyData) (lo : Int) (n : Nat) : Prop := ∃ j, xs = [.int j] ∧ -(2 ^ 62) ≤ j ∧ j < 2 ^ 62 ∧ lo = 0 ∧ n = j.toNat
def Rg2 (xs : List PyData) (lo : Int) (n : Nat) : Prop := ∃ i j, xs = [.int i, .int j] ∧ (-(2 ^ 62) ≤ i ∧ i < 2 ^ 62 ∧ -(2 ^ 62) ≤ j ∧ j < 2 ^ 62) ∧ lo = i ∧ n = (j - i).toNat
def dForR (rg : List PyData → Int → Nat → Prop) (da : TAd) (dg : TGd) (db : TSd) : TSd := fun E Γ => da Γ fun xs Γ1 => ∃ ds lo n, dats Γ1 xs = some ds ∧ rg ds lo n ∧ ∃ I : Nat → G → Prop, I 0 Γ1 ∧
  (∀ k Γ', k < n → I k Γ' → dg (.sh (.int (lo + k))) Γ' fun Γ3 => db (E.lp (I (k + 1))) Γ3) ∧ ∀ Γ', I n Γ' → E.nx Γ'
theorem forR_run {F : Fx K} {W W1 : Wd} {σ : L2.St} {Γ1 : G} {D : Ends} {E : DE} {lo : Int} {n : Nat} [B : SG K g dg ix] [C : SS K Xw tb db] (s12 : Same (W.S F) (W1.S F)) (R1 : Rel F W1 σ Γ1) (L : Lk F W Xw D E) (I : Nat → G → Prop) (i0 : I 0 Γ1)
    (step : ∀ k Γ', k < n → I k Γ' → dg (.sh (.int (lo + k))) Γ' fun Γ3 => db (E.lp (I (k + 1))) Γ3) (done : ∀ Γ', I n Γ' → E.nx Γ') :
    ∃ W : Nat → Nat → L2.St → Hp → Prop, (∃ m, W 0 m σ W1.H) ∧ ∀ i m σ H, W i m σ H →
      ((Itr lo n).stop i H ∧ D.nx σ H) ∨ ((Itr lo n).go i H ∧ ∃ N : L2.St → Hp → Prop, (∀ σ' H', N σ' H' → ∃ m', m' < m ∧ W (i + 1) m' σ' H') ∧ ∀ x H', (Itr lo n).yld i H x H' → g x σ H' fun σ2 H2 => tb { D with nx := N, ct := N, bk := D.nx } σ2 H2) := by
  refine for_range (lo := lo) (n := n) (fun k σ' H' => ∃ W' Γ', W'.H = H' ∧ Same (W1.S F) (W'.S F) ∧ Rel F W' σ' Γ' ∧ I k Γ') ⟨W1, Γ1, rfl, Same.refl _, R1, i0⟩ ?_ ?_
  · rintro k σ' H' hk ⟨W', Γ', rfl, s', R', i'⟩
    refine B.run F W' σ' Γ' _ _ _ _ R' (.int _) (step k Γ' hk i') fun W3 σ3 Γ3 k3 f3 R3 q3 => ?_
    refine C.run F W3 σ3 Γ3 _ _ R3 q3 ⟨fun W4 σ4 Γ4 s4 R4 q4 => ⟨W4, Γ4, rfl, (s'.trans k3.sh).trans s4, R4, q4⟩, fun W4 σ4 Γ4 x4 v4 s4 => L.rt W4 σ4 Γ4 x4 v4 (s12.trans ((s'.trans k3.sh).trans s4)), fun W4 σ4 Γ4 o4 p4 h4 s4 => L.rn W4 σ4 Γ4 o4 p4 h4 (s12.trans ((s'.trans k3.sh).trans s4)), fun W4 σ4 Γ4 s4 => L.nx W4 σ4 Γ4 (s12.trans ((s'.trans k3.sh).trans s4)), fun W4 σ4 Γ4 s4 R4 q4 => ⟨W4, Γ4, rfl, (s'.trans k3.sh).trans s4, R4, q4⟩, fun W4 σ4 Γ4 c4 s4 => L.xs W4 σ4 Γ4 c4 (s12.trans ((s'.trans k3.sh).trans s4))⟩
  · rintro σ' H' ⟨W', Γ', rfl, s', R', i'⟩
    exact L.nx W' σ' Γ' (s12.trans s') R' (done Γ' i')
theorem ints1 {H : Hp} {vs : List V} {j : Int} (h : DqAll K H vs [.int j]) : vs = [.int j] := DqAll.ints (ns := [j]) h
theorem ints2 {H : Hp} {vs : List V} {i j : Int} (h : DqAll K H vs [.int i, .int j]) : vs = [.int i, .int j] := DqAll.ints (ns := [i, j]) h
instance ss_forR1 {ta : TA} {da : TAd} [A : SA K ta da] [B : SG K g dg ix] [C : SS K Xw tb db] : SS K Xw (tFor (iRng1 ta) g tb) (dForR Rg1 da dg db) := ⟨fun F W σ Γ D E R q L => A.run F W σ Γ _ _ R q fun xs W1 Γ1 vs s1 R1 o1 ⟨ds, lo, n, e, ⟨j, e2, b1, b2, hlo, hn⟩, I, i0, step, done⟩ => by
  subst e2 hlo hn
  exact ⟨j, ints1 (o1.full R1 e), b1, b2, forR_run s1.sh R1 L I i0 step done⟩⟩
instance ss_forR2 {ta : TA} {da : TAd} [A : SA K ta da] [B : SG K g dg ix] [C : SS K Xw tb db] : SS K Xw (tFor (iRng2 ta) g tb) (dForR Rg2 da dg db) := ⟨fun F W σ Γ D E R q L => A.run F W σ Γ _ _ R q fun xs W1 Γ1 vs s1 R1 o1 ⟨ds, lo, n, e, ⟨i, j, e2, b, hlo, hn⟩, I, i0, step, done⟩ => by
  subst e2 hlo hn
  exact ⟨_, j, ints2 (o1.full R1 e), b, forR_run s1.sh R1 L I i0 step done⟩⟩
/-- while -/
def dWhile (c : TTd) (db : TSd) : TSd := fun E Γ => ∃ (I : G → Prop) (μ : G → Nat), I Γ ∧ ∀ Γ1, I Γ1 → c Γ1 fun b Γ2 => if b = true then db (E.lp fun Γ' => I Γ' ∧ μ Γ' < μ Γ1) Γ2 else E.nx Γ2
instance ss_while {c : TT} {dc : TTd} [A : ST K c dc] [C : SS K Xw tb db] : SS K Xw (tWhile c tb) (dWhile dc db) := ⟨fun F W σ Γ D E R ⟨I, μ, i0, step⟩ L => by
  refine ⟨fun m σ' H' => ∃ W' Γ', W'.H = H' ∧ Same (W.S F) (W'.S F) ∧ Rel F W' σ' Γ' ∧ I Γ' ∧ m = μ Γ', ⟨_, W, Γ, rfl, Same.refl _, R, i0, rfl⟩, ?_⟩
  rintro m σ' H' ⟨W', Γ', rfl, s', R', i', rfl⟩
  refine A.run F W' σ' Γ' _ _ R' (step Γ' i') fun b W2 Γ2 s2 R2 q2 => ?_
  have s02 := s'.trans s2.sh
  cases b with
  | false => rw [if_neg Bool.false_ne_true] at q2; exact iteF (L.nx W2 σ' Γ2 s02 R2 q2)
  | true =>
    rw [if_pos rfl] at q2
    refine iteT ⟨fun σ3 H3 => ∃ W3 Γ3, W3.H = H3 ∧ Same (W.S F) (W3.S F) ∧ Rel F W3 σ3 Γ3 ∧ I Γ3 ∧ μ Γ3 < μ Γ', fun σ3 H3 ⟨W3, Γ3, e, s3, R3, i3, l3⟩ => ⟨μ Γ3, l3, W3, Γ3, e, s3, R3, i3, rfl⟩, ?_⟩
    exact C.run F W2 σ' Γ2 _ _ R2 q2 ⟨fun W4 σ4 Γ4 s4 R4 q4 => ⟨W4, Γ4, rfl, s02.trans s4, R4, q4⟩, fun W4 σ4 Γ4 x4 v4 s4 => L.rt W4 σ4 Γ4 x4 v4 (s02.trans s4), fun W4 σ4 Γ4 o4 p4 h4 s4 => L.rn W4 σ4 Γ4 o4 p4 h4 (s02.trans s4), fun W4 σ4 Γ4 s4 => L.nx W4 σ4 Γ4 (s02.trans s4), fun W4 σ4 Γ4 s4 R4 q4 => ⟨W4, Γ4, rfl, s02.trans s4, R4, q4⟩, fun W4 σ4 Γ4 c4 s4 => L.xs W4 σ4 Γ4 c4 (s02.trans s4)⟩⟩
end
end Dk

namespace Dk
open PySem PySem.Spec PyProof.Rows L2
/-! ### a comprehension's own names -/
def wipeG (Γ : G) : List Nat → G
  | [] => Γ
  | v :: vs => (wipeG Γ vs).set v .no
def backG (Γ1 Γ : G) : List Nat → G
  | [] => Γ
  | v :: vs => (backG Γ1 Γ vs).set v (Γ1.getD v .no)
def ownFree (Γ : G) (vs : List Nat) : Bool := vs.all fun i => match Γ[i]? with
  | some s => s.own?.isNone
  | none => true
theorem wipe_len (σ : L2.St) : ∀ vs : List Nat, (wipe σ vs).length = σ.length
  | [] => rfl
  | v :: vs => by simp [wipe, wipe_len σ vs]
theorem wipe_get (σ : L2.St) (j : Nat) : ∀ vs : List Nat, j ∉ vs → (wipe σ vs)[j]? = σ[j]?
  | [], _ => rfl
  | v :: vs, h => by
    have h1 : v ≠ j := fun z => h (by simp [z])
    have h2 : j ∉ vs := fun z => h (by simp [z])
    show ((wipe σ vs).set v none)[j]? = _
    rw [List.getElem?_set_ne h1]
    exact wipe_get σ j vs h2
theorem wipe_in (σ : L2.St) (j : Nat) : ∀ vs : List Nat, j ∈ vs → j < σ.length → (wipe σ vs)[j]? = some none
  | v :: vs, h, hl => by
    show ((wipe σ vs).set v none)[j]? = _
    by_cases e : j = v
    · subst e
      exact List.getElem?_set_self (by rw [wipe_len]; exact hl)
    · rw [List.getElem?_set_ne (Ne.symm e)]
      exact wipe_in σ j vs ((List.mem_cons.mp h).resolve_left e) hl
theorem wipe_eq {σ σ' : L2.St} {vs : List Nat} (h : ∀ j, j ∉ vs → σ'[j]? = σ[j]?) (hl : σ'.length = σ.length) : wipe σ' vs = wipe σ vs := by
  apply List.ext_getElem?
  intro j
  by_cases e : j ∈ vs
  · by_cases l : j < σ.length
    · rw [wipe_in σ' j vs e (by rw [hl]; exact l), wipe_in σ j vs e l]
    · rw [List.getElem?_eq_none (by rw [wipe_len, hl]; omega), List.getElem?_eq_none (by rw [wipe_len]; omega)]
  · rw [wipe_get σ' j vs e, wipe_get σ j vs e]
    exact h j e
theorem wipeG_len (Γ : G) : ∀ vs : List Nat, (wipeG Γ vs).length = Γ.length
  | [] => rfl
  | v :: vs => by simp [wipeG, wipeG_len Γ vs]
theorem wipeG_get (Γ : G) (j : Nat) : ∀ vs : List Nat, j ∉ vs → (wipeG Γ vs)[j]? = Γ[j]?
  | [], _ => rfl
  | v :: vs, h => by
    have h1 : v ≠ j := fun z => h (by simp [z])
    have h2 : j ∉ vs := fun z => h (by simp [z])
    show ((wipeG Γ vs).set v .no)[j]? = _
    rw [List.getElem?_set_ne h1]
    exact wipeG_get Γ j vs h2
theorem wipeG_in (Γ : G) (j : Nat) : ∀ vs : List Nat, j ∈ vs → j < Γ.length → (wipeG Γ vs)[j]? = some .no
  | v :: vs, h, hl => by
    show ((wipeG Γ vs).set v .no)[j]? = _
    by_cases e : j = v
    · subst e
      exact List.getElem?_set_self (by rw [wipeG_len]; exact hl)
    · rw [List.getElem?_set_ne (Ne.symm e)]
      exact wipeG_in Γ j vs ((List.mem_cons.mp h).resolve_left e) hl
theorem backG_len (Γ1 Γ : G) : ∀ vs : List Nat, (backG Γ1 Γ vs).length = Γ.length
  | [] => rfl
  | v :: vs => by simp [backG, backG_len Γ1 Γ vs]
theorem backG_get (Γ1 Γ : G) (j : Nat) : ∀ vs : List Nat, j ∉ vs → (backG Γ1 Γ vs)[j]? = Γ[j]?
  | [], _ => rfl
  | v :: vs, h => by
    have h1 : v ≠ j := fun z => h (by simp [z])
    have h2 : j ∉ vs := fun z => h (by simp [z])
    show ((backG Γ1 Γ vs).set v _)[j]? = _
    rw [List.getElem?_set_ne h1]
    exact backG_get Γ1 Γ j vs h2
theorem backG_in (Γ1 Γ : G) (j : Nat) : ∀ vs : List Nat, j ∈ vs → j < Γ.length → (backG Γ1 Γ vs)[j]? = some (Γ1.getD j .no)
  | v :: vs, h, hl => by
    show ((backG Γ1 Γ vs).set v _)[j]? = _
    by_cases e : j = v
    · subst e
      exact List.getElem?_set_self (by rw [backG_len]; exact hl)
    · rw [List.getElem?_set_ne (Ne.symm e)]
      exact backG_in Γ1 Γ j vs ((List.mem_cons.mp h).resolve_left e) hl
theorem lt_of_get {α : Type} {l : List α} {i : Nat} {x : α} (h : l[i]? = some x) : i < l.length := (List.getElem?_eq_some_iff.mp h).1
theorem getD_of {l : G} {i : Nat} {x : Sl} (h : l[i]? = some x) : l.getD i .no = x := by simp [List.getD, h]
theorem ownFree_at {Γ : G} {vs : List Nat} {i : Nat} {s : Sl} (h : ownFree Γ vs = true) (hi : i ∈ vs) (e : Γ[i]? = some s) : s.own? = none := by
  have q := List.all_eq_true.mp h i hi
  simp only [e] at q
  exact Option.isNone_iff_eq_none.mp q
section
variable {K : Fg} {F : Fx K} {W : Wd} {σ : L2.St} {Γ : G}
theorem Rel.wiped (R : Rel F W σ Γ) : ∀ vs : List Nat, Rel F W (L2.wipe σ vs) (wipeG Γ vs)
  | [] => R
  | v :: vs => (R.wiped vs).setNo
theorem Tm.wipe {p : Addr} (t : Tm W Γ p) (vs : List Nat) : Tm W (wipeG Γ vs) p := ⟨t.1, fun j s o e g => by
  by_cases h : j ∈ vs
  · rw [wipeG_in Γ j vs h (by rw [← wipeG_len Γ vs]; exact lt_of_get e)] at e
    cases e
    cases g
  · rw [wipeG_get Γ j vs h] at e
    exact t.2 j s o e g⟩
theorem Tm.back {Γ1 : G} {p : Addr} {vs : List Nat} (t : Tm W Γ p) (hf : ownFree Γ1 vs = true) (hl : Γ.length = Γ1.length) : Tm W (backG Γ1 Γ vs) p := ⟨t.1, fun j s o e g => by
  by_cases h : j ∈ vs
  · have l : j < Γ.length := by rw [← backG_len Γ1 Γ vs]; exact lt_of_get e
    rw [backG_in Γ1 Γ j vs h l] at e
    have l1 : j < Γ1.length := by rw [← hl]; exact l
    have e1 : Γ1[j]? = some Γ1[j] := List.getElem?_eq_getElem l1
    rw [getD_of e1] at e
    cases e
    rw [ownFree_at hf h e1] at g
    cases g
  · rw [backG_get Γ1 Γ j vs h] at e
    exact t.2 j s o e g⟩
theorem Rel.back {W1 : Wd} {Γ1 : G} {vs : List Nat} (R : Rel F W (wipe σ vs) Γ) (R1 : Rel F W1 σ Γ1) (hs : Same (W1.S F) (W.S F)) (hf : ownFree Γ1 vs = true) (hl : Γ.length = Γ1.length) : Rel F W σ (backG Γ1 Γ vs) := by
  have own : ∀ (j : Nat) (s : Sl) (o : OD), (backG Γ1 Γ vs)[j]? = some s → s.own? = some o → j ∉ vs ∧ Γ[j]? = some s := fun j s o e g => by
    by_cases h : j ∈ vs
    · have l : j < Γ.length := by rw [← backG_len Γ1 Γ vs]; exact lt_of_get e
      rw [backG_in Γ1 Γ j vs h l] at e
      have l1 : j < Γ1.length := by rw [← hl]; exact l
      have e1 : Γ1[j]? = some Γ1[j] := List.getElem?_eq_getElem l1
      rw [getD_of e1] at e
      cases e
      rw [ownFree_at hf h e1] at g
      cases g
    · rw [backG_get Γ1 Γ j vs h] at e
      exact ⟨h, e⟩
  refine ⟨R.base, R.new, R.mu, R.rfo, ?_, fun j s e => ?_, fun j k s t oi oj a ne e1 e2 g1 g2 => ?_⟩
  · rw [backG_len, ← R.len, wipe_len]
  · by_cases h : j ∈ vs
    · have l : j < Γ.length := by rw [← backG_len Γ1 Γ vs]; exact lt_of_get e
      rw [backG_in Γ1 Γ j vs h l] at e
      have l1 : j < Γ1.length := by rw [← hl]; exact l
      have e1 : Γ1[j]? = some Γ1[j] := List.getElem?_eq_getElem l1
      rw [getD_of e1] at e
      have z := R1.slot j _ e1
      have no := ownFree_at hf h e1
      cases e
      cases q : Γ1[j] with
      | no => trivial
      | sh d => rw [q] at z; obtain ⟨v, q1, q2⟩ := z; exact ⟨v, q1, q2.same hs⟩
      | ar d => rw [q] at z; exact z
      | ow o => rw [q] at no; cases no
      | rf o => rw [q] at no; cases no
      | ro o => rw [q] at z; exact z
    · rw [backG_get Γ1 Γ j vs h] at e
      have z := R.slot j s e
      rw [wipe_get σ j vs h] at z
      exact z
  · exact R.dis j k s t oi oj a ne (own j s oi e1 g1).2 (own k t oj e2 g2).2 g1 g2
end
def KnO (vs : List Nat) (Γ Γ' : G) : Prop := Γ'.length = Γ.length ∧ ∀ (i : Nat) (s : Sl), i ∉ vs → Γ[i]? = some s → ∃ s', Γ'[i]? = some s' ∧ Kn s s'
theorem KnO.refl (vs : List Nat) (Γ : G) : KnO vs Γ Γ := ⟨rfl, fun i s _ e => ⟨s, e, Kn.refl s⟩⟩
theorem KnO.trans {vs : List Nat} {Γ Γ1 Γ2 : G} (a : KnO vs Γ Γ1) (b : KnO vs Γ1 Γ2) : KnO vs Γ Γ2 := ⟨b.1.trans a.1, fun i s h e => by
  obtain ⟨s1, e1, k1⟩ := a.2 i s h e
  obtain ⟨s2, e2, k2⟩ := b.2 i s1 h e1
  exact ⟨s2, e2, k1.trans k2⟩⟩
theorem KnO.wipe {vs : List Nat} (Γ : G) : KnO vs Γ (wipeG Γ vs) := ⟨wipeG_len Γ vs, fun i s h e => ⟨s, by rw [wipeG_get Γ i vs h]; exact e, Kn.refl s⟩⟩
theorem KnO.ofStp {K : Fg} {F : Fx K} {W W' : Wd} {vs : List Nat} {Γ Γ' : G} (s : Stp F W Γ W' Γ') : KnO vs Γ Γ' := ⟨s.len, fun i t _ e => s.kin i t e⟩
theorem KnO.ofFm {vs ix : List Nat} {σ σ' : L2.St} {Γ Γ' : G} (h : ∀ i ∈ ix, i ∈ vs) (f : Fm ix σ Γ σ' Γ') : KnO vs Γ Γ' := ⟨f.gl, fun i t n e => f.ga i (fun z => n (h i z)) t e⟩
/-! ### list comprehensions -/
def dYes : TTd := fun Γ Q => Q true Γ
instance st_yes {K : Fg} : ST K tYes dYes := ⟨fun F W σ Γ Q Qd R q k => k true W Γ (Stp.refl ..) R q⟩
def subL (ix vs : List Nat) : Bool := ix.all fun i => vs.contains i
def LcTurn (dg : TGd) (dt : TTd) (de : TEd) (vs : List Nat) (x : RV) (Γ' : G) (I : Option PyData → G → Prop) : Prop :=
  dg x Γ' fun Γ3 => dt Γ3 fun b Γ4 => if b = true then de Γ4 fun y Γ5 => ∃ dy, shOf y = some dy ∧ I (some dy) (wipeG Γ5 vs) else I none (wipeG Γ4 vs)
def dLc (it : G → RV → Option (List PyData × G)) (d0 : TEd) (dg : TGd) (dt : TTd) (de : TEd) (ix vs : List Nat) : TFd := fun Γ Q => d0 Γ fun x Γ1 => ∃ ds Γ2, it Γ1 x = some (ds, Γ2) ∧ ownFree Γ2 vs = true ∧ subL ix vs = true ∧ ds.length ≤ sizeLine ∧
  ∃ I : Nat → List PyData → G → Prop, I 0 [] (wipeG Γ2 vs) ∧ (∀ k d acc Γ', ds[k]? = some d → I k acc Γ' → LcTurn dg dt de vs (itK x d) Γ' fun o Γ5 => I (k + 1) (acc ++ o.toList) Γ5) ∧ ∀ acc Γ', I ds.length acc Γ' → Q (.lst acc) (backG Γ2 Γ' vs)
def dLcR (rg : List PyData → Int → Nat → Prop) (da : TAd) (dg : TGd) (dt : TTd) (de : TEd) (ix vs : List Nat) : TFd := fun Γ Q => da Γ fun xs Γ2 => ∃ ds lo n, dats Γ2 xs = some ds ∧ rg ds lo n ∧ ownFree Γ2 vs = true ∧ subL ix vs = true ∧ n ≤ sizeLine ∧
  ∃ I : Nat → List PyData → G → Prop, I 0 [] (wipeG Γ2 vs) ∧ (∀ k acc Γ', k < n → I k acc Γ' → LcTurn dg dt de vs (.sh (.int (lo + k))) Γ' fun o Γ5 => I (k + 1) (acc ++ o.toList) Γ5) ∧ ∀ acc Γ', I n acc Γ' → Q (.lst acc) (backG Γ2 Γ' vs)
section
variable {K : Fg} {F : Fx K} {W2 : Wd} {σ : L2.St} {Γ2 : G} {vs ix : List Nat} {D : Addr} {n : Nat} {I : Nat → List PyData → G → Prop} {g : TG} {dg : TGd} {tt : TT} {dt : TTd} {te : TE} {de : TEd}
/-- the state between two turns -/
def LcSt (F : Fx K) (W2 : Wd) (σ : L2.St) (Γ2 : G) (vs : List Nat) (D : Addr) (I : Nat → List PyData → G → Prop) (k : Nat) (H' : Hp) : Prop :=
  ∃ (W' : Wd) (Γ' : G) (acc : List PyData) (us : List V), W'.H = H' ∧ Rel F W' (wipe σ vs) Γ' ∧ Tm W' Γ' D ∧ W'.H D = some (.lst us) ∧ us.length ≤ k ∧ DqAll K (W'.S F) us acc ∧ Same (W2.S F) (W'.S F) ∧
    (∀ q, q ≠ D → Tm W2 Γ2 q → Tm W' Γ' q ∧ W'.H q = W2.H q) ∧ KnO vs Γ2 Γ' ∧ InsK W2.H W'.H ∧ I k acc Γ'
theorem lc_begin (R2 : Rel F W2 σ Γ2) (hD : W2.H D = none) (i0 : I 0 [] (wipeG Γ2 vs)) : LcSt F W2 σ Γ2 vs D I 0 (upd W2.H D (.lst [])) := by
  obtain ⟨R3, k3, t3, h0, nrf⟩ := R2.temp (ho := .lst []) hD trivial
  exact ⟨_, wipeG Γ2 vs, [], [], rfl, R3.wiped vs, t3.wipe vs, upd_same, Nat.le_refl _, .nil, k3.sh, fun q ne t => ⟨(k3.tmp q t).1.wipe vs, (k3.tmp q t).2⟩, KnO.wipe Γ2, k3.obj, i0⟩
theorem lc_turn {k : Nat} {y : V} {x : RV} {W' : Wd} {Γ' : G} {acc : List PyData} {us : List V} [B : SG K g dg ix] [T : ST K tt dt] [C : SE K te de] (hix : subL ix vs = true) (nrf : ¬ F.rf D)
    (R' : Rel F W' (wipe σ vs) Γ') (t' : Tm W' Γ' D) (hd' : W'.H D = some (.lst us)) (hu : us.length ≤ k) (hk : k < sizeLine) (ha : DqAll K (W'.S F) us acc) (s' : Same (W2.S F) (W'.S F)) (tm' : ∀ q, q ≠ D → Tm W2 Γ2 q → Tm W' Γ' q ∧ W'.H q = W2.H q) (kn' : KnO vs Γ2 Γ') (ik' : InsK W2.H W'.H)
    (oy : VOk F W' (wipe σ vs) Γ' y x) (h : LcTurn dg dt de vs x Γ' fun o Γ5 => I (k + 1) (acc ++ o.toList) Γ5) :
    g y (wipe σ vs) W'.H fun σ2 H2 => wipe σ2 vs = wipe σ vs ∧ tt σ2 H2 fun b H3 => if b = true then te σ2 H3 fun y H4 => ∃ acc, H4 D = some (.lst acc) ∧ acc.length < sizeLine ∧ LcSt F W2 σ Γ2 vs D I (k + 1) (upd H4 D (.lst (acc ++ [y]))) else LcSt F W2 σ Γ2 vs D I (k + 1) H3 := by
  have hsub : ∀ i ∈ ix, i ∈ vs := fun i hi => by simpa using List.all_eq_true.mp hix i hi
  refine B.run F W' _ Γ' y x _ _ R' oy h fun W4 σ4 Γ4 k4 f4 R4 q4 => ?_
  have ew : wipe σ4 vs = wipe σ vs := wipe_eq (fun j hj => by rw [f4.st j fun z => hj (hsub j z), wipe_get σ j vs hj]) (by rw [f4.sl, wipe_len])
  refine ⟨ew, T.run F W4 σ4 Γ4 _ _ R4 q4 fun b W5 Γ5 s5 R5 q5 => ?_⟩
  have k5 : Kp F W' Γ' W5 Γ5 := k4.trans s5.toKp
  have kn5 : KnO vs Γ2 Γ5 := (kn'.trans (KnO.ofFm hsub f4)).trans (KnO.ofStp s5)
  cases b with
  | false =>
    rw [if_neg Bool.false_ne_true] at q5
    refine iteF ⟨W5, wipeG Γ5 vs, acc, us, rfl, ew ▸ R5.wiped vs, (k5.tmp D t').1.wipe vs, (k5.tmp D t').2.trans hd', Nat.le_succ_of_le hu, ha.same k5.sh, s'.trans k5.sh, fun q ne t => ?_, kn5.trans (KnO.wipe Γ5), ik'.trans k5.obj, by simpa using q5⟩
    obtain ⟨a1, a2⟩ := tm' q ne t
    exact ⟨(k5.tmp q a1).1.wipe vs, (k5.tmp q a1).2.trans a2⟩
  | true =>
    rw [if_pos rfl] at q5
    refine iteT (C.run F W5 σ4 Γ5 _ _ R5 q5 fun z W6 Γ6 vz s6 R6 o6 ⟨dy, ey, q6⟩ => ?_)
    have k6 : Kp F W' Γ' W6 Γ6 := k5.trans s6.toKp
    have hd6 : W6.H D = some (.lst us) := (k6.tmp D t').2.trans hd'
    refine ⟨us, hd6, by omega, ?_⟩
    have R6w : Rel F W6 (wipe σ vs) (wipeG Γ6 vs) := ew ▸ R6.wiped vs
    have t6 : Tm W6 (wipeG Γ6 vs) D := (k6.tmp D t').1.wipe vs
    obtain ⟨R7, eS⟩ := R6w.putTemp (ho := .lst (us ++ [vz])) t6 trivial nrf
    refine ⟨_, wipeG Γ6 vs, acc ++ [dy], us ++ [vz], rfl, R7, t6, upd_same, by simp; omega, ?_, ?_, fun q ne t => ?_, (kn5.trans (KnO.ofStp s6)).trans (KnO.wipe Γ6), (ik'.trans k6.obj).trans (InsK.upd (by rw [hd6]; trivial)), q6⟩
    · rw [eS]
      exact (ha.same k6.sh).app (.cons (o6.sh R6 ey) .nil)
    · rw [eS]
      exact s'.trans k6.sh
    · obtain ⟨a1, a2⟩ := tm' q ne t
      exact ⟨(k6.tmp q a1).1.wipe vs, by show upd W6.H D _ q = _; rw [upd_ne ne]; exact (k6.tmp q a1).2.trans a2⟩
theorem lc_end {k : Nat} {H' : Hp} {Q : VK} {Qd : OD → G → Prop} (R2 : Rel F W2 σ Γ2) (hD : W2.H D = none) (h0 : F.H0 D = none) (nrf : ¬ F.rf D) (hf : ownFree Γ2 vs = true) (h : LcSt F W2 σ Γ2 vs D I k H') (done : ∀ acc Γ', I k acc Γ' → Qd (.lst acc) (backG Γ2 Γ' vs))
    (kk : ∀ (o : OD) (W' : Wd) (Γ' : G) (p : Addr) (ho : HO), Stp F W2 Γ2 W' Γ' → Rel F W' σ Γ' → W'.H p = none → OwnH K (W'.S F) ho o → Qd o Γ' → Q (.ref p) (upd W'.H p ho)) : Q (.ref D) H' := by
  obtain ⟨W', Γ', acc, us, rfl, R', t', hd', hu, ha, s', tm', kn', ik', i'⟩ := h
  have Rb : Rel F W' σ (backG Γ2 Γ' vs) := R'.back R2 s' hf kn'.1
  have tb : Tm W' (backG Γ2 Γ' vs) D := t'.back hf kn'.1
  obtain ⟨Rd, sd⟩ := Rb.dropTemp tb h0 nrf
  rw [← dropW_upd hd']
  refine kk (.lst acc) (dropW W' D) (backG Γ2 Γ' vs) D (.lst us) ⟨⟨⟨s'.trans sd, fun q t => ?_⟩, ik'.trans fun a C dx vs e => by rw [dropW_ne (fun z => by rw [z, hd'] at e; cases e)]; exact e⟩, fun i s e => ?_, ?_⟩ Rd dropW_at ⟨us, rfl, ha.same sd⟩ (done acc Γ' i')
  · have ne : q ≠ D := fun z => by
      have m := R2.mu q t.1
      rw [z, hD] at m
      exact m
    obtain ⟨a1, a2⟩ := tm' q ne t
    have tq := a1.back hf kn'.1 (vs := vs)
    exact ⟨⟨⟨tq.1, ne⟩, tq.2⟩, by rw [dropW_ne ne]; exact a2⟩
  · by_cases hi : i ∈ vs
    · have l : i < Γ'.length := by rw [kn'.1]; exact lt_of_get e
      exact ⟨s, by rw [backG_in Γ2 Γ' i vs hi l, getD_of e], Kn.refl s⟩
    · obtain ⟨s1, e1, k1⟩ := kn'.2 i s hi e
      exact ⟨s1, by rw [backG_get Γ2 Γ' i vs hi]; exact e1, k1⟩
  · rw [backG_len]
    exact kn'.1
end
section
variable {K : Fg} {vs ix : List Nat} {g : TG} {dg : TGd} {tt : TT} {dt : TTd} {te t0 : TE} {de d0 : TEd}
instance sf_lcL [A : SE K t0 d0] [B : SG K g dg ix] [T : ST K tt dt] [C : SE K te de] : SEF K (tLc (iList K t0) g tt te vs) (dLc itL d0 dg dt de ix vs) := ⟨fun F W σ Γ Q Qd R q kk => A.run F W σ Γ _ _ R q fun x W1 Γ1 v s1 R1 o1 ⟨ds, Γ2, e, hf, hix, hl, I, i0, step, done⟩ => by
  obtain ⟨W2, a, xs, rfl, eH, s2, R2, st⟩ := itL_ok R1 o1 e
  refine ⟨a, rfl, ⟨xs, by rw [← eH]; exact SqL.of (st W2 σ Γ2 (Same.refl _) R2).1⟩, fun D hD => ?_⟩
  rw [← eH] at hD ⊢
  have hlen : xs.length = ds.length := Paired.length (st W2 σ Γ2 (Same.refl _) R2).2
  obtain ⟨_, _, _, h0, nrf⟩ := R2.temp (ho := .lst []) hD trivial
  refine lc_list (K := K) (a := a) (xs := xs) (LcSt F W2 σ Γ2 vs D I) (lc_begin R2 hD i0) ?_ ?_ ?_
  · rintro k H' hk ⟨W', Γ', acc, us, rfl, R', t', hd', hu, ha, s', tm', kn', ik', i'⟩
    exact SqL.of (st W' _ Γ' s' R').1
  · rintro k y H' hy ⟨W', Γ', acc, us, rfl, R', t', hd', hu, ha, s', tm', kn', ik', i'⟩
    obtain ⟨d, hd, od⟩ := paired_get (st W' _ Γ' s' R').2 hy
    have hk := lt_of_get hy
    exact lc_turn (x := itK x d) hix nrf R' t' hd' hu (by omega) ha s' tm' kn' ik' od (step k d acc Γ' hd i')
  · intro H' h
    rw [hlen] at h
    exact lc_end R2 hD h0 nrf hf h done fun o W' Γ' p ho s' R' hp oh q => kk o W' Γ' p ho (s1.trans (s2.trans s')) R' hp oh q⟩
instance sf_lcT [A : SE K t0 d0] [B : SG K g dg ix] [T : ST K tt dt] [C : SE K te de] : SEF K (tLc (iTup K t0) g tt te vs) (dLc itT d0 dg dt de ix vs) := ⟨fun F W σ Γ Q Qd R q kk => A.run F W σ Γ _ _ R q fun x W1 Γ1 v s1 R1 o1 ⟨ds, Γ2, e, hf, hix, hl, I, i0, step, done⟩ => by
  obtain ⟨W2, a, xs, rfl, eH, s2, R2, st⟩ := itT_ok R1 o1 e
  refine ⟨a, rfl, ⟨xs, by rw [← eH]; exact (st W2 σ Γ2 (Same.refl _) R2).1⟩, fun D hD => ?_⟩
  rw [← eH] at hD ⊢
  have hlen : xs.length = ds.length := Paired.length (st W2 σ Γ2 (Same.refl _) R2).2
  obtain ⟨_, _, _, h0, nrf⟩ := R2.temp (ho := .lst []) hD trivial
  refine lc_tup (K := K) (a := a) (xs := xs) (LcSt F W2 σ Γ2 vs D I) (lc_begin R2 hD i0) ?_ ?_ ?_
  · rintro k H' hk ⟨W', Γ', acc, us, rfl, R', t', hd', hu, ha, s', tm', kn', ik', i'⟩
    exact (st W' _ Γ' s' R').1
  · rintro k y H' hy ⟨W', Γ', acc, us, rfl, R', t', hd', hu, ha, s', tm', kn', ik', i'⟩
    obtain ⟨d, hd, od⟩ := paired_get (st W' _ Γ' s' R').2 hy
    have hk := lt_of_get hy
    exact lc_turn (x := itK x d) hix nrf R' t' hd' hu (by omega) ha s' tm' kn' ik' od (step k d acc Γ' hd i')
  · intro H' h
    rw [hlen] at h
    exact lc_end R2 hD h0 nrf hf h done fun o W' Γ' p ho s' R' hp oh q => kk o W' Γ' p ho (s1.trans (s2.trans s')) R' hp oh q⟩
instance sf_lcR1 {ta : TA} {da : TAd} [A : SA K ta da] [B : SG K g dg ix] [T : ST K tt dt] [C : SE K te de] : SEF K (tLc (iRng1 ta) g tt te vs) (dLcR Rg1 da dg dt de ix vs) := ⟨fun F W σ Γ Q Qd R q kk => A.run F W σ Γ _ _ R q fun xs W2 Γ2 v s1 R2 o1 ⟨ds, lo, n, e, ⟨j, e2, b1, b2, hlo, hn⟩, hf, hix, hl, I, i0, step, done⟩ => by
  subst e2 hlo hn
  refine ⟨j, ints1 (o1.full R2 e), b1, b2, fun D hD => ?_⟩
  obtain ⟨_, _, _, h0, nrf⟩ := R2.temp (ho := .lst []) hD trivial
  refine lc_range (LcSt F W2 σ Γ2 vs D I) (lc_begin R2 hD i0) ?_ ?_
  · rintro k H' hk ⟨W', Γ', acc, us, rfl, R', t', hd', hu, ha, s', tm', kn', ik', i'⟩
    exact lc_turn (x := .sh (.int _)) hix nrf R' t' hd' hu (by omega) ha s' tm' kn' ik' (.int _) (step k acc Γ' hk i')
  · intro H' h
    exact lc_end R2 hD h0 nrf hf h done fun o W' Γ' p ho s' R' hp oh q => kk o W' Γ' p ho (s1.trans s') R' hp oh q⟩
instance sf_lcR2 {ta : TA} {da : TAd} [A : SA K ta da] [B : SG K g dg ix] [T : ST K tt dt] [C : SE K te de] : SEF K (tLc (iRng2 ta) g tt te vs) (dLcR Rg2 da dg dt de ix vs) := ⟨fun F W σ Γ Q Qd R q kk => A.run F W σ Γ _ _ R q fun xs W2 Γ2 v s1 R2 o1 ⟨ds, lo, n, e, ⟨i, j, e2, b, hlo, hn⟩, hf, hix, hl, I, i0, step, done⟩ => by
  subst e2 hlo hn
  refine ⟨_, j, ints2 (o1.full R2 e), b, fun D hD => ?_⟩
  obtain ⟨_, _, _, h0, nrf⟩ := R2.temp (ho := .lst []) hD trivial
  refine lc_range (LcSt F W2 σ Γ2 vs D I) (lc_begin R2 hD i0) ?_ ?_
  · rintro k H' hk ⟨W', Γ', acc, us, rfl, R', t', hd', hu, ha, s', tm', kn', ik', i'⟩
    exact lc_turn (x := .sh (.int _)) hix nrf R' t' hd' hu (by omega) ha s' tm' kn' ik' (.int _) (step k acc Γ' hk i')
  · intro H' h
    exact lc_end R2 hD h0 nrf hf h done fun o W' Γ' p ho s' R' hp oh q => kk o W' Γ' p ho (s1.trans s') R' hp oh q⟩
end
end Dk

namespace Dk
open PySem PySem.Spec PyProof.Rows L2
/-! ### items -/
def odL : OD → Option (List PyData)
  | .lst ds => some ds
  | _ => none
def lstOf (Γ : G) : RV → Option (List PyData)
  | .sh (.list ds) => some ds
  | .ar (.list ds) => some ds
  | .own i => match Γ[i]? with
    | some (.ow (.lst ds)) => some ds
    | some (.rf (.lst ds)) => some ds
    | some (.sh (.list ds)) => some ds
    | _ => none
  | .fld i path => match Γ[i]? with
    | some s => s.ins?.bind fun o => (o.at_ path).bind odL
    | _ => none
  | _ => none
def tupOf (Γ : G) : RV → Option (List PyData)
  | .sh (.tuple ds) => some ds
  | .ar (.tuple ds) => some ds
  | .own i => match Γ[i]? with
    | some (.sh (.tuple ds)) => some ds
    | _ => none
  | _ => none
section
variable {K : Fg} {F : Fx K} {W : Wd} {σ : L2.St} {Γ : G} {v : V} {x : RV} {ds : List PyData}
theorem lstOf_ok (R : Rel F W σ Γ) (o : VOk F W σ Γ v x) (e : lstOf Γ x = some ds) : ∃ (a : Addr) (xs : List V), v = .ref a ∧ W.H a = some (.lst xs) ∧ Paired (fun v d => VOk F W σ Γ v (itK x d)) xs ds ∧ DqAll K W.H xs ds := by
  cases x with
  | sh d =>
    cases d with
    | list ds' =>
      cases e
      cases (show Dq K (W.S F) v (.list ds) from o) with
      | lst h1 h2 => exact ⟨_, _, rfl, less_same _ _ h1, Paired.mapP (paired_of h2) fun _ _ z => z, h2.same less_same⟩
    | _ => cases e
  | ar d =>
    cases d with
    | list ds' =>
      cases e
      cases (show Dq K (less F.H0 F.rf) v (.list ds) from o) with
      | lst h1 h2 => exact ⟨_, _, rfl, R.ar_same _ _ h1, Paired.mapP (paired_of h2) fun _ _ z => z, h2.same R.ar_same⟩
    | _ => cases e
  | own i =>
    obtain ⟨s, h1, h2, h3⟩ := o
    simp only [lstOf, h1] at e
    cases s with
    | no => cases e
    | ar d => cases e
    | sh d =>
      cases d with
      | list ds' =>
        cases e
        obtain ⟨v', q1, q2⟩ := R.slot i _ h1
        rw [h3] at q1
        cases q1
        cases q2 with
        | lst g1 g2 => exact ⟨_, _, rfl, less_same _ _ g1, Paired.mapP (paired_of g2) fun _ _ z => z, g2.same less_same⟩
      | _ => cases e
    | ow o =>
      cases o with
      | lst ds' =>
        cases e
        obtain ⟨p, q1, _, _, vs, q2, q3⟩ := R.slot i _ h1
        rw [h3] at q1
        cases q1
        exact ⟨_, _, rfl, q2, Paired.mapP (paired_of q3) fun _ _ z => z, q3.same less_same⟩
      | _ => cases e
    | rf o =>
      cases o with
      | lst ds' =>
        cases e
        obtain ⟨p, _, q1, _, _, vs, q2, q3⟩ := R.slot i _ h1
        rw [h3] at q1
        cases q1
        exact ⟨_, _, rfl, q2, Paired.mapP (paired_of q3) fun _ _ z => z, q3.same less_same⟩
      | _ => cases e
    | ro o => cases e
  | fld i path =>
    obtain ⟨s, p, o, h1, h2, h3, h4⟩ := o
    simp only [lstOf, h1, h2, Option.bind_some] at e
    obtain ⟨o', e1, e2⟩ := Option.bind_eq_some_iff.mp e
    obtain ⟨p', f, g1, g2, _⟩ := R.insOk h1 h2
    rw [h3] at g1
    cases g1
    obtain ⟨q, F', rfl, _, hO⟩ := g2.path e1 h4
    cases o' with
    | lst ds' =>
      cases e2
      simp only [OwnO] at hO
      obtain ⟨_, vs, q2, q3⟩ := hO
      exact ⟨_, _, rfl, q2, Paired.mapP (paired_of q3) fun _ _ z => z, q3.same less_same⟩
    | _ => cases e2
theorem tupOf_ok (R : Rel F W σ Γ) (o : VOk F W σ Γ v x) (e : tupOf Γ x = some ds) : ∃ (a : Addr) (xs : List V), v = .ref a ∧ Tq K W.H a xs ∧ Paired (fun v d => VOk F W σ Γ v (itK x d)) xs ds ∧ DqAll K W.H xs ds := by
  cases x with
  | fld _ _ => cases e
  | sh d =>
    cases d with
    | tuple ds' =>
      cases e
      cases (show Dq K (W.S F) v (.tuple ds) from o) with
      | tup h1 h2 => exact ⟨_, _, rfl, h1.same less_same, Paired.mapP (paired_of h2) fun _ _ z => z, h2.same less_same⟩
    | _ => cases e
  | ar d =>
    cases d with
    | tuple ds' =>
      cases e
      cases (show Dq K (less F.H0 F.rf) v (.tuple ds) from o) with
      | tup h1 h2 => exact ⟨_, _, rfl, h1.same R.ar_same, Paired.mapP (paired_of h2) fun _ _ z => z, h2.same R.ar_same⟩
    | _ => cases e
  | own i =>
    obtain ⟨s, h1, h2, h3⟩ := o
    simp only [tupOf, h1] at e
    cases s with
    | no => cases e
    | ar d => cases e
    | ow o => cases e
    | rf o => cases e
    | ro o => cases e
    | sh d =>
      cases d with
      | tuple ds' =>
        cases e
        obtain ⟨v', q1, q2⟩ := R.slot i _ h1
        rw [h3] at q1
        cases q1
        cases q2 with
        | tup g1 g2 => exact ⟨_, _, rfl, g1.same less_same, Paired.mapP (paired_of g2) fun _ _ z => z, g2.same less_same⟩
      | _ => cases e
theorem paired_get' {α β : Type} {P : α → β → Prop} : ∀ {xs : List α} {ys : List β} {i : Nat} {y : β}, Paired P xs ys → ys[i]? = some y → ∃ x, xs[i]? = some x ∧ P x y
  | _, _, _, _, .nil, e => by simp at e
  | _, _, 0, _, .cons r _, e => by simp at e; subst e; exact ⟨_, rfl, r⟩
  | _, _, i + 1, _, .cons _ t, e => by
    obtain ⟨y, h1, h2⟩ := paired_get' (i := i) t (by simpa using e)
    exact ⟨y, by simpa using h1, h2⟩
theorem paired_atI {P : V → PyData → Prop} {xs : List V} {ys : List PyData} {i : Int} {y : PyData} (h : Paired P xs ys) (e : atI ys i = some y) : ∃ x, atI xs i = some x ∧ P x y := by
  unfold atI at e ⊢
  rw [Paired.length h]
  obtain ⟨j, e1, e2⟩ := Option.bind_eq_some_iff.mp e
  obtain ⟨x, h1, h2⟩ := paired_get' h e2
  exact ⟨x, by rw [e1]; exact h1, h2⟩
end
section
variable {K : Fg} {ta tb : TE} {da db : TEd}
def dIx (sq : G → RV → Option (List PyData)) (da db : TEd) : TEd := fun Γ Q => da Γ fun x Γ1 => db Γ1 fun y Γ2 => ∃ i ds d, dat Γ2 y = some (.int i) ∧ sq Γ2 x = some ds ∧ atI ds i = some d ∧ Q (itK x d) Γ2
instance se_ixL [SE K ta da] [SE K tb db] : SE K (tOp (rIxL K) ta tb) (dIx lstOf da db) := ⟨fun F W σ Γ Q Qd R q k => two R q fun x y W' Γ' u v s' R' o1 o2 ⟨i, ds, d, e1, e2, e3, q⟩ => by
  obtain ⟨a, xs, rfl, h1, h2, _⟩ := lstOf_ok R' o1 e2
  obtain ⟨z, g1, g2⟩ := paired_atI h2 e3
  exact ⟨a, xs, i, z, rfl, int_of (o2.full R' e1), SqL.of h1, g1, k _ W' Γ' _ s' R' g2 q⟩⟩
instance se_ixT [SE K ta da] [SE K tb db] : SE K (tOp (rIxT K) ta tb) (dIx tupOf da db) := ⟨fun F W σ Γ Q Qd R q k => two R q fun x y W' Γ' u v s' R' o1 o2 ⟨i, ds, d, e1, e2, e3, q⟩ => by
  obtain ⟨a, xs, rfl, h1, h2, _⟩ := tupOf_ok R' o1 e2
  obtain ⟨z, g1, g2⟩ := paired_atI h2 e3
  exact ⟨a, xs, i, z, rfl, int_of (o2.full R' e1), h1.sq, g1, k _ W' Γ' _ s' R' g2 q⟩⟩
/-! ### slices -/
class SO (K : Fg) (t : TO) (d : outParam (G → (Option Int → G → Prop) → Prop)) : Prop where
  run : ∀ (F : Fx K) (W : Wd) (σ : L2.St) (Γ : G) (Q : Option Int → Hp → Prop) (Qd : Option Int → G → Prop), Rel F W σ Γ → d Γ Qd →
    (∀ (b : Option Int) (W' : Wd) (Γ' : G), Stp F W Γ W' Γ' → Rel F W' σ Γ' → Qd b Γ' → Q b W'.H) → t σ W.H Q
def dNoPart : G → (Option Int → G → Prop) → Prop := fun Γ Q => Q none Γ
def dPart (da : TEd) : G → (Option Int → G → Prop) → Prop := fun Γ Q => da Γ fun x Γ1 => ∃ i, dat Γ1 x = some (.int i) ∧ Q (some i) Γ1
instance so_none : SO K tNoPart dNoPart := ⟨fun F W σ Γ Q Qd R q k => k none W Γ (Stp.refl ..) R q⟩
instance so_some [A : SE K ta da] : SO K (tPart ta) (dPart da) := ⟨fun F W σ Γ Q Qd R q k => A.run F W σ Γ _ _ R q fun x W' Γ' v s' R' o1 ⟨i, e1, q⟩ => ⟨i, int_of (o1.full R' e1), k _ W' Γ' s' R' q⟩⟩
def cutD (xs : List PyData) (lo hi : Option Int) : List PyData := (xs.drop (HT.sIx xs.length 0 lo)).take (HT.sIx xs.length xs.length hi - HT.sIx xs.length 0 lo)
/-- the items may be kept -/
def keepable (x : RV) (ds : List PyData) : Prop := match x with
  | .ar _ => tupOs ds = true
  | _ => True
theorem DqAll.ofPaired {H : Hp} : ∀ {vs : List V} {ds : List PyData}, Paired (fun v d => Dq K H v d) vs ds → DqAll K H vs ds
  | _, _, .nil => .nil
  | _, _, .cons a b => .cons a (DqAll.ofPaired b)
theorem keep_ok {F : Fx K} {W : Wd} {σ : L2.St} {Γ : G} {x : RV} {xs : List V} {ds : List PyData} (R : Rel F W σ Γ) (h : Paired (fun v d => VOk F W σ Γ v (itK x d)) xs ds) (hk : keepable x ds) : DqAll K (W.S F) xs ds := by
  cases x with
  | sh d => exact DqAll.ofPaired h
  | own i => exact DqAll.ofPaired h
  | fld i p => exact DqAll.ofPaired h
  | ar d =>
    have q : DqAll K (less F.H0 F.rf) xs ds := DqAll.ofPaired h
    exact DqAll.tupO_less (H' := W.H) (fun a z => R.exmo z) _ _ hk (q.same R.ar_same)
def dSl (da : TEd) (dl dh : G → (Option Int → G → Prop) → Prop) : TFd := fun Γ Q => da Γ fun x Γ1 => dl Γ1 fun lo Γ2 => dh Γ2 fun hi Γ3 => ∃ ds, lstOf Γ3 x = some ds ∧ keepable x ds ∧ Q (.lst (cutD ds lo hi)) Γ3
instance sf_slice {tl th : TO} {dl dh : G → (Option Int → G → Prop) → Prop} [A : SE K ta da] [L : SO K tl dl] [U : SO K th dh] : SEF K (L2.tSl (rSlL K) ta tl th) (dSl da dl dh) := ⟨fun F W σ Γ Q Qd R q k => A.run F W σ Γ _ _ R q fun x W1 Γ1 v s1 R1 o1 q => L.run F W1 σ Γ1 _ _ R1 q fun lo W2 Γ2 s2 R2 q => U.run F W2 σ Γ2 _ _ R2 q fun hi W3 Γ3 s3 R3 ⟨ds, e, hk, q⟩ => by
  obtain ⟨a, xs, rfl, h1, h2, _⟩ := lstOf_ok R3 (o1.stp (s2.trans s3)) e
  have hd := keep_ok R3 h2 hk
  refine ⟨a, xs, rfl, SqL.of h1, fun p hp => k (.lst (cutD ds lo hi)) W3 Γ3 p _ (s1.trans (s2.trans s3)) R3 hp ⟨_, rfl, ?_⟩ q⟩
  unfold cutV cutD
  rw [hd.length]
  exact (hd.drop _).take _⟩
/-! ### lists put together -/
def dCat (da db : TEd) : TFd := fun Γ Q => da Γ fun x Γ1 => db Γ1 fun y Γ2 => ∃ ds es, lstOf Γ2 x = some ds ∧ lstOf Γ2 y = some es ∧ keepable x ds ∧ keepable y es ∧ ds.length + es.length ≤ sizeLine ∧ Q (.lst (ds ++ es)) Γ2
instance sf_cat [SE K ta da] [SE K tb db] : SEF K (tOp rCat ta tb) (dCat da db) := ⟨fun F W σ Γ Q Qd R q k => two R q fun x y W' Γ' u v s' R' o1 o2 ⟨ds, es, e1, e2, k1, k2, hl, q⟩ => by
  obtain ⟨a, xs, rfl, h1, h2, _⟩ := lstOf_ok R' o1 e1
  obtain ⟨b, ys, rfl, g1, g2, _⟩ := lstOf_ok R' o2 e2
  have hd := keep_ok R' h2 k1
  have he := keep_ok R' g2 k2
  exact ⟨a, b, xs, ys, rfl, rfl, h1, g1, by rw [hd.length, he.length]; exact hl, fun p hp => k (.lst (ds ++ es)) W' Γ' p _ s' R' hp ⟨_, rfl, hd.app he⟩ q⟩⟩
def repD (ds : List PyData) (n : Nat) : List PyData := (List.replicate n ds).flatten
/-! ### calls of what is built in -/
def rLen (K : Fg) : List V → Hp → VK → Prop := fun xs H Q => ∃ p ys, xs = [.ref p] ∧ (SqL K H p ys ∨ SqT K H p ys) ∧ Q (.int ys.length) H
theorem b_len {X : Cx} : CallR X (.builtin "len") (rLen X.K) := call_len_seq
def rListOf (K : Fg) : List V → Hp → VK → Prop := fun xs H Q => ∃ p ys, xs = [.ref p] ∧ (SqL K H p ys ∨ SqT K H p ys) ∧ ∀ l, H l = none → Q (.ref l) (upd H l (.lst ys))
theorem b_list {X : Cx} : CallR X (.type "list") (rListOf X.K) := call_list_of
def rTupOf (K : Fg) : List V → Hp → VK → Prop := fun xs H Q => ∃ p ys, xs = [.ref p] ∧ ((SqL K H p ys ∧ ∀ l, H l = none → Q (.ref l) (upd H l (.tup ys))) ∨ (SqT K H p ys ∧ Q (.ref p) H))
theorem b_tuple {X : Cx} : CallR X (.type "tuple") (rTupOf X.K) := call_tuple_of
def rAbs : List V → Hp → VK → Prop := fun xs H Q => ∃ i, xs = [.int i] ∧ Q (.int (if i < 0 then -i else i)) H
theorem b_abs {X : Cx} : CallR X (.builtin "abs") rAbs := call_abs
def rMx2 : List V → Hp → VK → Prop := fun xs H Q => ∃ i j, xs = [.int i, .int j] ∧ Q (.int (if j > i then j else i)) H
theorem b_max2 {X : Cx} (hc : X.calm = true) : CallR X (.builtin "max") rMx2 := call_max2 hc
def rMn2 : List V → Hp → VK → Prop := fun xs H Q => ∃ i j, xs = [.int i, .int j] ∧ Q (.int (if j < i then j else i)) H
theorem b_min2 {X : Cx} (hc : X.calm = true) : CallR X (.builtin "min") rMn2 := call_min2 hc
def seqOf (Γ : G) (x : RV) : Option (List PyData) := match lstOf Γ x with
  | some ds => some ds
  | none => tupOf Γ x
theorem seqOf_ok {F : Fx K} {W : Wd} {σ : L2.St} {Γ : G} {v : V} {x : RV} {ds : List PyData} (R : Rel F W σ Γ) (o : VOk F W σ Γ v x) (e : seqOf Γ x = some ds) : ∃ (a : Addr) (xs : List V), v = .ref a ∧ (W.H a = some (.lst xs) ∨ Tq K W.H a xs) ∧ Paired (fun v d => VOk F W σ Γ v (itK x d)) xs ds ∧ DqAll K W.H xs ds := by
  unfold seqOf at e
  split at e
  · rename_i ds' h
    cases e
    obtain ⟨a, xs, h1, h2, h3⟩ := lstOf_ok R o h
    exact ⟨a, xs, h1, .inl h2, h3⟩
  · obtain ⟨a, xs, h1, h2, h3⟩ := tupOf_ok R o e
    exact ⟨a, xs, h1, .inr h2, h3⟩
theorem sq_or {H : Hp} {a : Addr} {xs : List V} (h : H a = some (.lst xs) ∨ Tq K H a xs) : SqL K H a xs ∨ SqT K H a xs := h.imp (fun z => SqL.of z) fun z => z.sq
/-- one argument -/
theorem one {F : Fx K} {W : Wd} {σ : L2.St} {Γ : G} {Qd : RV → G → Prop} {Q : List V → Hp → Prop} [A : SE K ta da] (R : Rel F W σ Γ) (h : da Γ Qd) (k : ∀ (x : RV) (W' : Wd) (Γ' : G) (v : V), Stp F W Γ W' Γ' → Rel F W' σ Γ' → VOk F W' σ Γ' v x → Qd x Γ' → Q [v] W'.H) : tCons ta tNil σ W.H Q :=
  A.run F W σ Γ _ _ R h fun x W' Γ' v s' R' o q => k x W' Γ' v s' R' o q
def dLen (da : TEd) : TEd := fun Γ Q => da Γ fun x Γ1 => ∃ ds, seqOf Γ1 x = some ds ∧ Q (.sh (.int ds.length)) Γ1
instance se_len [SE K ta da] : SE K (tCB (rLen K) (tCons ta tNil)) (dLen da) := ⟨fun F W σ Γ Q Qd R q k => one (ta := ta) (da := da) R q fun x W' Γ' v s' R' o ⟨ds, e, q⟩ => by
  obtain ⟨a, xs, rfl, h1, h2, h3⟩ := seqOf_ok R' o e
  refine ⟨a, xs, rfl, sq_or h1, ?_⟩
  rw [h3.length]
  exact k _ W' Γ' _ s' R' (.int _) q⟩
def dListOf (da : TEd) : TFd := fun Γ Q => da Γ fun x Γ1 => ∃ ds, seqOf Γ1 x = some ds ∧ keepable x ds ∧ Q (.lst ds) Γ1
instance sf_listOf [SE K ta da] : SEF K (tCB (rListOf K) (tCons ta tNil)) (dListOf da) := ⟨fun F W σ Γ Q Qd R q k => one (ta := ta) (da := da) R q fun x W' Γ' v s' R' o ⟨ds, e, hk, q⟩ => by
  obtain ⟨a, xs, rfl, h1, h2, h3⟩ := seqOf_ok R' o e
  exact ⟨a, xs, rfl, sq_or h1, fun l hl => k (.lst ds) W' Γ' l _ s' R' hl ⟨xs, rfl, keep_ok R' h2 hk⟩ q⟩⟩
def dTupOf (da : TEd) : TEd := fun Γ Q => da Γ fun x Γ1 => ∃ ds, lstOf Γ1 x = some ds ∧ keepable x ds ∧ Q (.sh (.tuple ds)) Γ1
instance se_tupOf [SE K ta da] : SE K (tCB (rTupOf K) (tCons ta tNil)) (dTupOf da) := ⟨fun F W σ Γ Q Qd R q k => one (ta := ta) (da := da) R q fun x W' Γ' v s' R' o ⟨ds, e, hk, q⟩ => by
  obtain ⟨a, xs, rfl, h1, h2, h3⟩ := lstOf_ok R' o e
  have hd := keep_ok R' h2 hk
  refine ⟨a, xs, rfl, .inl ⟨SqL.of h1, fun p hp => ?_⟩⟩
  have hS := same_new (o := .tup xs) hp
  refine k (.sh (.tuple ds)) { W' with H := upd W'.H p (.tup xs) } Γ' (.ref p) (s'.trans (Stp.grow R' hS)) (R'.grow hS).1 ?_ q
  exact .tup (.inl (S_of (W := { W' with H := upd W'.H p (.tup xs) }) (R'.free hp) upd_same)) (hd.same (R'.grow hS).2)⟩
def absI (i : Int) : Int := if i < 0 then -i else i
def dAbs (da : TEd) : TEd := fun Γ Q => da Γ fun x Γ1 => ∃ i, dat Γ1 x = some (.int i) ∧ Q (.sh (.int (absI i))) Γ1
instance se_abs [SE K ta da] : SE K (tCB rAbs (tCons ta tNil)) (dAbs da) := ⟨fun F W σ Γ Q Qd R q k => one (ta := ta) (da := da) R q fun x W' Γ' v s' R' o ⟨i, e, q⟩ => ⟨i, by rw [int_of (o.full R' e)], k _ W' Γ' _ s' R' (.int _) q⟩⟩
def d2I (h : Int → Int → Int) (da : TAd) : TEd := fun Γ Q => da Γ fun xs Γ1 => ∃ i j, dats Γ1 xs = some [.int i, .int j] ∧ Q (.sh (.int (h i j))) Γ1
def maxI (i j : Int) : Int := if j > i then j else i
def minI (i j : Int) : Int := if j < i then j else i
instance se_max2 {t : TA} {d : TAd} [A : SA K t d] : SE K (tCB rMx2 t) (d2I maxI d) := ⟨fun F W σ Γ Q Qd R q k => A.run F W σ Γ _ _ R q fun xs W' Γ' vs s' R' o ⟨i, j, e, q⟩ => ⟨i, j, ints2 (o.full R' e), k _ W' Γ' _ s' R' (.int _) q⟩⟩
instance se_min2 {t : TA} {d : TAd} [A : SA K t d] : SE K (tCB rMn2 t) (d2I minI d) := ⟨fun F W σ Γ Q Qd R q k => A.run F W σ Γ _ _ R q fun xs W' Γ' vs s' R' o ⟨i, j, e, q⟩ => ⟨i, j, ints2 (o.full R' e), k _ W' Γ' _ s' R' (.int _) q⟩⟩
/-- a list of numbers -/
def dSum (da : TEd) : TEd := fun Γ Q => da Γ fun x Γ1 => ∃ ns : List Int, lstOf Γ1 x = some (ns.map .int) ∧ Q (.sh (.int ns.sum)) Γ1
instance se_sum [SE K ta da] : SE K (tCB (rSum K) (tCons ta tNil)) (dSum da) := ⟨fun F W σ Γ Q Qd R q k => one (ta := ta) (da := da) R q fun x W' Γ' v s' R' o ⟨ns, e, q⟩ => by
  obtain ⟨a, xs, rfl, h1, h2, h3⟩ := lstOf_ok R' o e
  exact ⟨a, ns, rfl, SqL.of (h3.ints ▸ h1), k _ W' Γ' _ s' R' (.int _) q⟩⟩
def dMaxL (da : TEd) : TEd := fun Γ Q => da Γ fun x Γ1 => ∃ ns : List Int, lstOf Γ1 x = some (ns.map .int) ∧ 0 < ns.length ∧ ∀ m, m ∈ ns → (∀ y, y ∈ ns → y ≤ m) → Q (.sh (.int m)) Γ1
instance se_maxL [SE K ta da] : SE K (tCB (rMax K) (tCons ta tNil)) (dMaxL da) := ⟨fun F W σ Γ Q Qd R q k => one (ta := ta) (da := da) R q fun x W' Γ' v s' R' o ⟨ns, e, hl, q⟩ => by
  obtain ⟨a, xs, rfl, h1, h2, h3⟩ := lstOf_ok R' o e
  exact ⟨a, ns, rfl, SqL.of (h3.ints ▸ h1), hl, fun m hm hy => k _ W' Γ' _ s' R' (.int _) (q m hm hy)⟩⟩
def dMinL (da : TEd) : TEd := fun Γ Q => da Γ fun x Γ1 => ∃ ns : List Int, lstOf Γ1 x = some (ns.map .int) ∧ 0 < ns.length ∧ ∀ m, m ∈ ns → (∀ y, y ∈ ns → m ≤ y) → Q (.sh (.int m)) Γ1
instance se_minL [SE K ta da] : SE K (tCB (rMin K) (tCons ta tNil)) (dMinL da) := ⟨fun F W σ Γ Q Qd R q k => one (ta := ta) (da := da) R q fun x W' Γ' v s' R' o ⟨ns, e, hl, q⟩ => by
  obtain ⟨a, xs, rfl, h1, h2, h3⟩ := lstOf_ok R' o e
  exact ⟨a, ns, rfl, SqL.of (h3.ints ▸ h1), hl, fun m hm hy => k _ W' Γ' _ s' R' (.int _) (q m hm hy)⟩⟩
def dAnyAll (f : List Bool → Bool) (da : TEd) : TEd := fun Γ Q => da Γ fun x Γ1 => ∃ bs : List Bool, lstOf Γ1 x = some (bs.map .bool) ∧ Q (.sh (.bool (f bs))) Γ1
instance se_any [SE K ta da] : SE K (tCB (rAny K) (tCons ta tNil)) (dAnyAll (fun bs => bs.any id) da) := ⟨fun F W σ Γ Q Qd R q k => one (ta := ta) (da := da) R q fun x W' Γ' v s' R' o ⟨ns, e, q⟩ => by
  obtain ⟨a, xs, rfl, h1, h2, h3⟩ := lstOf_ok R' o e
  exact ⟨a, ns, rfl, SqL.of (h3.bools ▸ h1), k _ W' Γ' _ s' R' (.bl _) q⟩⟩
instance se_all [SE K ta da] : SE K (tCB (rAll K) (tCons ta tNil)) (dAnyAll (fun bs => bs.all id) da) := ⟨fun F W σ Γ Q Qd R q k => one (ta := ta) (da := da) R q fun x W' Γ' v s' R' o ⟨ns, e, q⟩ => by
  obtain ⟨a, xs, rfl, h1, h2, h3⟩ := lstOf_ok R' o e
  exact ⟨a, ns, rfl, SqL.of (h3.bools ▸ h1), k _ W' Γ' _ s' R' (.bl _) q⟩⟩
/-- sorted: numbers -/
def dSortI (da : TEd) : TFd := fun Γ Q => da Γ fun x Γ1 => ∃ ns : List Int, lstOf Γ1 x = some (ns.map .int) ∧ ∀ ms : List Int, ms.Perm ns → ms.Pairwise (· ≤ ·) → Q (.lst (ms.map .int)) Γ1
instance sf_sortI [SE K ta da] : SEF K (tCB (rSortedI K) (tCons ta tNil)) (dSortI da) := ⟨fun F W σ Γ Q Qd R q k => one (ta := ta) (da := da) R q fun x W' Γ' v s' R' o ⟨ns, e, q⟩ => by
  obtain ⟨a, xs, rfl, h1, h2, h3⟩ := lstOf_ok R' o e
  exact ⟨a, ns, rfl, SqL.of (h3.ints ▸ h1), fun ms p hp hs hn => k (.lst (ms.map .int)) W' Γ' p _ s' R' hn ⟨_, rfl, DqAll.ofInts ms⟩ (q ms hp hs)⟩⟩
/-- isinstance(x, T) -/
def tyD : PyData → String
  | .none => "NoneType"
  | .bool _ => "bool"
  | .int _ => "int"
  | .str _ => "str"
  | .list _ => "list"
  | .tuple _ => "tuple"
  | .dict _ => "dict"
def kitD (d : PyData) (n : String) : Option Bool := match d with
  | .dict _ => none
  | d => kitB (tyD d) n
theorem ty_of {H : Hp} {v : V} {d : PyData} {n : String} {b : Bool} (h : Dq K H v d) (e : kitD d n = some b) : TyX K H v (.type (tyD d)) ∧ kitB (tyD d) n = some b := by
  cases d with
  | none => cases h; exact ⟨.base .non, e⟩
  | bool b => cases h; exact ⟨.base (.bl _), e⟩
  | int b => cases h; exact ⟨.base (.int _), e⟩
  | str b => cases h; exact ⟨.base (.str _), e⟩
  | list b =>
    cases h with
    | lst a b => exact ⟨.base (.lst a), e⟩
  | tuple b =>
    cases h with
    | tup a b =>
      rcases a with a | ⟨_, o, _, _, e', c, _⟩
      · exact ⟨.base (.tup a), e⟩
      · exact ⟨.kTuple e' c, e⟩
  | dict b => cases e
def dIsi (n : String) (da : TEd) : TEd := fun Γ Q => da Γ fun x Γ1 => ∃ d b, dat Γ1 x = some d ∧ kitD d n = some b ∧ Q (.sh (.bool b)) Γ1
instance se_isi {n : String} [A : SE K ta da] : SE K (tCB (rIsi K) (tCons ta (tCons (tC (.ty n)) tNil))) (dIsi n da) := ⟨fun F W σ Γ Q Qd R q k => A.run F W σ Γ _ _ R q fun x W' Γ' v s' R' o ⟨d, b, e, h, q⟩ =>
  ⟨v, .ty n, _, _, b, rfl, .ty n, (ty_of (o.full R' e) h).1, kit_ty (ty_of (o.full R' e) h).2, k _ W' Γ' _ s' R' (.bl _) q⟩⟩
/-- x in xs, flat things -/
def scV : PyData → Option V
  | .int i => some (.int i)
  | .str i => some (.str i)
  | .bool i => some (.bl i)
  | .none => some .non
  | _ => none
def scVs : List PyData → Option (List V)
  | [] => some []
  | x :: xs => match scV x, scVs xs with
    | some v, some vs => some (v :: vs)
    | _, _ => none
theorem scV_ok {H : Hp} {v u : V} {d : PyData} (h : Dq K H v d) (e : scV d = some u) : v = u ∧ flatV v = true := by
  cases d with
  | none => cases h; cases e; exact ⟨rfl, rfl⟩
  | bool b => cases h; cases e; exact ⟨rfl, rfl⟩
  | int b => cases h; cases e; exact ⟨rfl, rfl⟩
  | str b => cases h; cases e; exact ⟨rfl, rfl⟩
  | list b => cases e
  | tuple b => cases e
  | dict b => cases e
theorem scVs_ok {H : Hp} : ∀ {vs us : List V} {ds : List PyData}, DqAll K H vs ds → scVs ds = some us → vs = us ∧ vs.all flatV = true
  | _, _, [], h, e => by cases h; cases e; exact ⟨rfl, rfl⟩
  | _, _, d :: ds, h, e => by
    cases h with
    | cons a b =>
      simp only [scVs] at e
      split at e
      · rename_i v vs e1 e2
        cases e
        obtain ⟨r1, r2⟩ := scV_ok a e1
        obtain ⟨q1, q2⟩ := scVs_ok b e2
        subst r1 q1
        exact ⟨rfl, by simp [r2, q2]⟩
      · cases e
def dIn (neg : Bool) (da db : TEd) : TEd := fun Γ Q => da Γ fun x Γ1 => db Γ1 fun y Γ2 => ∃ d ds u us, dat Γ2 x = some d ∧ seqOf Γ2 y = some ds ∧ scV d = some u ∧ scVs ds = some us ∧ Q (.sh (.bool (if neg then !inV u us else inV u us))) Γ2
instance se_in {neg : Bool} [SE K ta da] [SE K tb db] : SE K (tOp (rIn K neg) ta tb) (dIn neg da db) := ⟨fun F W σ Γ Q Qd R q k => two R q fun x y W' Γ' u v s' R' o1 o2 ⟨d, ds, w, ws, e1, e2, e3, e4, q⟩ => by
  obtain ⟨b, ys, rfl, g1, g2, g3⟩ := seqOf_ok R' o2 e2
  obtain ⟨r1, r2⟩ := scV_ok (o1.full R' e1) e3
  obtain ⟨q1, q2⟩ := scVs_ok g3 e4
  subst r1 q1
  exact ⟨b, ys, rfl, sq_or g1, r2, q2, k _ W' Γ' _ s' R' (.bl _) q⟩⟩
theorem inV_ints (i : Int) (ns : List Int) : inV (.int i) (ns.map V.int) = decide (i ∈ ns) := by
  induction ns with
  | nil => rfl
  | cons n ns ih =>
    have e : inV (.int i) ((n :: ns).map V.int) = (eqV (.int n) (.int i) || inV (.int i) (ns.map V.int)) := rfl
    rw [e, ih]
    by_cases h : i = n
    · subst h
      simp [eqV]
    · have h' : n ≠ i := fun z => h z.symm
      simp [eqV, h, h']
theorem scVs_ints (ns : List Int) : scVs (ns.map .int) = some (ns.map V.int) := by
  induction ns with
  | nil => rfl
  | cons n ns ih => simp [scVs, scV, ih]
end
/-! ### the rules by the written part itself -/
section
variable {X : Cx}
theorem kixL (K : Fg) (h : X.K = K := by rfl) : IxR X (rIxL K) := h ▸ ix_list
theorem kixT (K : Fg) (h : X.K = K := by rfl) : IxR X (rIxT K) := h ▸ ix_tup
theorem kslL (K : Fg) (h : X.K = K := by rfl) : SlR X (rSlL K) := h ▸ sl_list
theorem klen (K : Fg) (h : X.K = K := by rfl) : CallR X (.builtin "len") (rLen K) := h ▸ b_len
theorem klist (K : Fg) (h : X.K = K := by rfl) : CallR X (.type "list") (rListOf K) := h ▸ b_list
theorem ktuple (K : Fg) (h : X.K = K := by rfl) : CallR X (.type "tuple") (rTupOf K) := h ▸ b_tuple
theorem ksum (K : Fg) (hc : X.calm = true) (h : X.K = K := by rfl) : CallR X (.builtin "sum") (rSum K) := h ▸ cr_sum hc
theorem kmax (K : Fg) (hc : X.calm = true) (h : X.K = K := by rfl) : CallR X (.builtin "max") (rMax K) := h ▸ cr_max hc
theorem kmin (K : Fg) (hc : X.calm = true) (h : X.K = K := by rfl) : CallR X (.builtin "min") (rMin K) := h ▸ cr_min hc
theorem kany (K : Fg) (hc : X.calm = true) (h : X.K = K := by rfl) : CallR X (.builtin "any") (rAny K) := h ▸ cr_any hc
theorem kall (K : Fg) (hc : X.calm = true) (h : X.K = K := by rfl) : CallR X (.builtin "all") (rAll K) := h ▸ cr_all hc
theorem kisi (K : Fg) (h : X.K = K := by rfl) : CallR X (.builtin "isinstance") (rIsi K) := h ▸ call_isi
theorem ksortI (K : Fg) (h : X.K = K := by rfl) : CallR X (.builtin "sorted") (rSortedI K) := h ▸ cr_sortedI
theorem kin (K : Fg) (h : X.K = K := by rfl) : OpR X (compareOp .In) (rIn K false) := h ▸ op_in_seq
theorem knotin (K : Fg) (h : X.K = K := by rfl) : OpR X (compareOp .NotIn) (rIn K true) := h ▸ op_notIn_seq
theorem keqD (K : Fg) (hu : X.A.units + 64 < cLine) (h : X.K = K := by rfl) : OpR X (compareOp .Eq) (rEqD K) := h ▸ op_eqD hu
theorem kneD (K : Fg) (hu : X.A.units + 64 < cLine) (h : X.K = K := by rfl) : OpR X (compareOp .NotEq) (rNeD K) := h ▸ op_neD hu
theorem kcatT (K : Fg) (h : X.K = K := by rfl) : OpR X (binaryOp .Add) (rCatT K) := h ▸ op_catT
theorem kpil (K : Fg) {tg l : Expr} {tl : TE} (hl : PE X l tl) (h : X.K = K := by rfl) : PI X tg l (iList K tl) := h ▸ pi_list hl
theorem kpit (K : Fg) {tg l : Expr} {tl : TE} (hl : PE X l tl) (h : X.K = K := by rfl) : PI X tg l (iTup K tl) := h ▸ pi_tup hl
theorem kpg (K : Fg) (n : Nat) {es : List Expr} {k : Nat} {pos : Pos} {t : TGs} (hc : X.calm = true) (hg : PGs X es t) (h : X.K = K := by rfl) (hn : (assignEach es X.env).length = n := by rfl) (hst : (assignEach es X.env).findIdx? (·.1) = none := by rfl) : PG X (.Tuple es k pos) (gTup K n t) := h ▸ pg_tup hc hg hn hst
theorem kbm (K : Fg) {T : String} {name : Str} {id : String} {o e : Expr} {es : List Expr} {to : TE} {t : TA} {r : V → List V → Hp → VK → Prop} {apos cpos : Pos} (pa : PlainAttrs T) (slot : Slot T name id) (hty : typeOf (.builtin id) = pure (.type "method_descriptor")) (hm : MtR X id r) (ho : PE X o to) (ha : PA X (e :: es) t) (h : X.K = K := by rfl)
    (hbase : attributeBase o name X.env (eval o X.env) = eval o X.env := by rfl)
    (hfew : ((backTo cpos (starEach (e :: es) X.env)).all (fun x => !x.1) && (backToKw cpos (keywordEach [] X.env)).all (fun x => x.1.isSome)
      && decide ((e :: es).length + ([] : List Keyword).length + (if ([] : List Keyword).isEmpty then 0 else 1) < 30)) = true := by rfl)
    (hline : (apos.endLine == cpos.line) = true := by rfl) (hs : starEach (e :: es) X.env = (false, eval e X.env) :: starEach es X.env := by rfl) (hplain : (backTo cpos (starEach es X.env)).any (·.1) = false := by rfl) :
    PE X (.Call (.Attribute o name apos) (e :: es) [] cpos) (tBM K T r to t) := h ▸ pe_bm pa slot hty hm ho ha hbase hfew hline hs hplain
theorem kbm0 (K : Fg) {T : String} {name : Str} {id : String} {o : Expr} {to : TE} {r : V → List V → Hp → VK → Prop} {apos cpos : Pos} (pa : PlainAttrs T) (slot : Slot T name id) (hty : typeOf (.builtin id) = pure (.type "method_descriptor")) (hm : MtR X id r) (ho : PE X o to) (h : X.K = K := by rfl)
    (hbase : attributeBase o name X.env (eval o X.env) = eval o X.env := by rfl) (hline : (apos.endLine == cpos.line) = true := by rfl) : PE X (.Call (.Attribute o name apos) [] [] cpos) (tBM0 K T r to) := h ▸ pe_bm0 pa slot hty hm ho hbase hline
end
end Dk

namespace Dk
open PySem PySem.Spec PyProof.Rows L2
/-! ### lists that are changed -/
section
variable {K : Fg} {te ti : TE} {de di : TEd}
theorem own_lst {F : Fx K} {W : Wd} {σ : L2.St} {Γ : G} {i : Nat} {s : Sl} {ds : List PyData} {p : Addr} (R : Rel F W σ Γ) (h1 : Γ[i]? = some s) (h2 : s.own? = some (.lst ds)) (h3 : σ[i]? = some (some (.ref p))) : ∃ vs, W.H p = some (.lst vs) ∧ DqAll K (W.S F) vs ds := by
  have q := R.slot i s h1
  cases s with
  | no => cases h2
  | sh _ => cases h2
  | ar _ => cases h2
  | ro _ => cases h2
  | ow o =>
    cases h2
    obtain ⟨p', e1, _, _, vs, e2, e3⟩ := q
    rw [h3] at e1
    cases e1
    exact ⟨vs, e2, e3⟩
  | rf o =>
    cases h2
    obtain ⟨p', _, e1, _, _, vs, e2, e3⟩ := q
    rw [h3] at e1
    cases e1
    exact ⟨vs, e2, e3⟩
theorem own_ref {F : Fx K} {W : Wd} {σ : L2.St} {Γ : G} {i : Nat} {s : Sl} {o : OD} (R : Rel F W σ Γ) (h1 : Γ[i]? = some s) (h2 : s.own? = some o) : ∃ p, σ[i]? = some (some (.ref p)) := by
  have q := R.slot i s h1
  cases s with
  | no => cases h2
  | sh _ => cases h2
  | ar _ => cases h2
  | ro _ => cases h2
  | ow o => obtain ⟨p', e1, _⟩ := q; exact ⟨p', e1⟩
  | rf o => obtain ⟨p', _, e1, _⟩ := q; exact ⟨p', e1⟩
def ownL (Γ : G) (i : Nat) : Option (List PyData) := match Γ[i]? with
  | some (.ow (.lst ds)) => some ds
  | some (.rf (.lst ds)) => some ds
  | _ => none
def putL (Γ : G) (i : Nat) (ds : List PyData) : G := match Γ[i]? with
  | some s => Γ.set i (setOwn s (.lst ds))
  | none => Γ
theorem ownL_of {Γ : G} {i : Nat} {ds : List PyData} (h : ownL Γ i = some ds) : ∃ s, Γ[i]? = some s ∧ s.own? = some (.lst ds) ∧ ∀ es, putL Γ i es = Γ.set i (setOwn s (.lst es)) := by
  unfold ownL at h
  split at h
  · rename_i ds' e
    cases h
    exact ⟨_, e, rfl, fun es => by simp [putL, e]⟩
  · rename_i ds' e
    cases h
    exact ⟨_, e, rfl, fun es => by simp [putL, e]⟩
  · cases h
def dAppend (i : Nat) (de : TEd) : TEd := fun Γ Q => (ownL Γ i).isSome = true ∧ de Γ fun x Γ1 => ∃ ds d, ownL Γ1 i = some ds ∧ shOf x = some d ∧ ds.length < sizeLine ∧ Q (.sh .none) (putL Γ1 i (ds ++ [d]))
instance se_append {i : Nat} [A : SE K te de] : SE K (tBM K "list" rAppend (tVar i) (tCons te tNil)) (dAppend i de) := ⟨fun F W σ Γ Q Qd R ⟨h0, q⟩ k => by
  obtain ⟨ds0, h0⟩ := Option.isSome_iff_exists.mp h0
  obtain ⟨s0, a1, a2, _⟩ := ownL_of h0
  obtain ⟨p, e0⟩ := own_ref R a1 a2
  obtain ⟨vs0, b1, b2⟩ := own_lst R a1 a2 e0
  refine ⟨.ref p, e0, .inl ⟨rfl, _, SqL.of b1⟩, ?_⟩
  refine A.run F W σ Γ _ _ R q fun x W' Γ' v s' R' o ⟨ds, d, h1, e2, hl, q⟩ => ?_
  obtain ⟨s, c1, c2, c3⟩ := ownL_of h1
  obtain ⟨vs, b1, b2⟩ := own_lst R' c1 c2 e0
  have hh : OwnH K (W'.S F) (.lst (vs ++ [v])) (.lst (ds ++ [d])) := ⟨_, rfl, b2.app (.cons (o.sh R' e2) .nil)⟩
  refine ⟨p, vs, v, rfl, rfl, b1, by rw [b2.length]; exact hl, ?_⟩
  rw [c3] at q
  exact k _ { W' with H := upd W'.H p (.lst (vs ++ [v])) } _ _ (s'.trans (Stp.put R' c1 c2 rfl e0 hh)) (R'.put c1 c2 rfl e0 hh).1 .non q⟩
def dExtend (i : Nat) (de : TEd) : TEd := fun Γ Q => (ownL Γ i).isSome = true ∧ de Γ fun x Γ1 => ∃ ds es, ownL Γ1 i = some ds ∧ lstOf Γ1 x = some es ∧ keepable x es ∧ ds.length + es.length ≤ sizeLine ∧ Q (.sh .none) (putL Γ1 i (ds ++ es))
instance se_extend {i : Nat} [A : SE K te de] : SE K (tBM K "list" rExtend (tVar i) (tCons te tNil)) (dExtend i de) := ⟨fun F W σ Γ Q Qd R ⟨h0, q⟩ k => by
  obtain ⟨ds0, h0⟩ := Option.isSome_iff_exists.mp h0
  obtain ⟨s0, a1, a2, _⟩ := ownL_of h0
  obtain ⟨p, e0⟩ := own_ref R a1 a2
  obtain ⟨vs0, b1, b2⟩ := own_lst R a1 a2 e0
  refine ⟨.ref p, e0, .inl ⟨rfl, _, SqL.of b1⟩, ?_⟩
  refine A.run F W σ Γ _ _ R q fun x W' Γ' v s' R' o ⟨ds, es, h1, e2, hk, hl, q⟩ => ?_
  obtain ⟨s, c1, c2, c3⟩ := ownL_of h1
  obtain ⟨vs, b1, b2⟩ := own_lst R' c1 c2 e0
  obtain ⟨b, ys, rfl, g1, g2, g3⟩ := lstOf_ok R' o e2
  have he := keep_ok R' g2 hk
  have hh : OwnH K (W'.S F) (.lst (vs ++ ys)) (.lst (ds ++ es)) := ⟨_, rfl, b2.app he⟩
  refine ⟨p, b, vs, ys, rfl, rfl, b1, g1, by rw [b2.length, he.length]; exact hl, ?_⟩
  rw [c3] at q
  exact k _ { W' with H := upd W'.H p (.lst (vs ++ ys)) } _ _ (s'.trans (Stp.put R' c1 c2 rfl e0 hh)) (R'.put c1 c2 rfl e0 hh).1 .non q⟩
def dPop (i : Nat) : TEd := fun Γ Q => ∃ ds d, ownL Γ i = some ds ∧ ds[ds.length - 1]? = some d ∧ Q (.sh d) (putL Γ i ds.dropLast)
instance se_pop {i : Nat} : SE K (tBM0 K "list" rPop (tVar i)) (dPop i) := ⟨fun F W σ Γ Q Qd R ⟨ds, d, h0, e, q⟩ k => by
  obtain ⟨s, c1, c2, c3⟩ := ownL_of h0
  obtain ⟨p, e0⟩ := own_ref R c1 c2
  obtain ⟨vs, b1, b2⟩ := own_lst R c1 c2 e0
  obtain ⟨v, g1, g2⟩ := b2.get e
  have hh : OwnH K (W.S F) (.lst vs.dropLast) (.lst ds.dropLast) := ⟨_, rfl, b2.dropLast⟩
  refine ⟨.ref p, e0, .inl ⟨rfl, _, SqL.of b1⟩, p, vs, v, rfl, rfl, b1, by rw [b2.length]; exact g1, ?_⟩
  rw [c3] at q
  refine k _ { W with H := upd W.H p (.lst vs.dropLast) } _ _ (Stp.put R c1 c2 rfl e0 hh) (R.put c1 c2 rfl e0 hh).1 (.ofSh ?_) q
  rw [(R.put c1 c2 rfl e0 hh).2]
  exact g2⟩
/-- xs[i] = .. -/
def dSubL (i : Nat) (di : TEd) : TGd := fun x Γ Q => (ownL Γ i).isSome = true ∧ di Γ fun y Γ1 => ∃ k j ds d, dat Γ1 y = some (.int k) ∧ ownL Γ1 i = some ds ∧ ixN ds.length k = some j ∧ shOf x = some d ∧ Q (putL Γ1 i (ds.set j d))
theorem Fm.ofStp {F : Fx K} {W W' : Wd} {Γ Γ' : G} {σ : L2.St} {ix : List Nat} (s : Stp F W Γ W' Γ') : Fm ix σ Γ σ Γ' := ⟨fun _ _ => rfl, fun j _ t e => s.kin j t e, rfl, s.len⟩
instance sg_subL {i : Nat} [A : SE K ti di] : SG K (gSub (tVar i) ti rSetL) (dSubL i di) [i] := ⟨fun F W σ Γ v x Q Qd R o ⟨h0, q⟩ kk => by
  obtain ⟨ds0, h0⟩ := Option.isSome_iff_exists.mp h0
  obtain ⟨s0, a1, a2, _⟩ := ownL_of h0
  obtain ⟨p, e0⟩ := own_ref R a1 a2
  refine ⟨.ref p, e0, A.run F W σ Γ _ _ R q fun y W' Γ' u s' R' o' ⟨k, j, ds, d, e1, h1, e2, e3, q⟩ => ?_⟩
  obtain ⟨s, c1, c2, c3⟩ := ownL_of h1
  obtain ⟨vs, b1, b2⟩ := own_lst R' c1 c2 e0
  have hh : OwnH K (W'.S F) (.lst (vs.set j v)) (.lst (ds.set j d)) := ⟨_, rfl, b2.setAt ((o.stp s').sh R' e3)⟩
  refine ⟨p, vs, k, j, rfl, int_of (o'.full R' e1), b1, by rw [b2.length]; exact e2, ?_⟩
  rw [c3] at q
  have st := s'.trans (Stp.put R' c1 c2 rfl e0 hh)
  exact kk { W' with H := upd W'.H p (.lst (vs.set j v)) } σ _ st.toKp (Fm.ofStp st) (R'.put c1 c2 rfl e0 hh).1 q⟩
end
/-! ### dicts -/
section
variable {κ : Type} [DecidableEq κ]
def valD (kvs : List (κ × PyData)) (k : κ) : Option PyData := (kvs.find? fun kv => decide (kv.1 = k)).map (·.2)
def putD (kvs : List (κ × PyData)) (k : κ) (v : PyData) : List (κ × PyData) :=
  if (kvs.any fun kv => decide (kv.1 = k)) = true then kvs.map (fun kv => if kv.1 = k then (kv.1, v) else kv) else kvs ++ [(k, v)]
variable {K : Fg} {S : Hp}
theorem KvOk.val {us : List (κ × V)} {kvs : List (κ × PyData)} (h : KvOk K S us kvs) (k : κ) : (valD kvs k = none → valV us k = none) ∧ ∀ d, valD kvs k = some d → ∃ v, valV us k = some v ∧ Dq K S v d := by
  unfold KvOk at h
  induction h with
  | nil => exact ⟨fun _ => rfl, fun d e => by cases e⟩
  | @cons p q ps qs h t ih =>
    obtain ⟨h1, h2⟩ := h
    by_cases e : q.1 = k
    · have e' : p.1 = k := h1.trans e
      refine ⟨fun z => by simp [valD, List.find?_cons, e] at z, fun d z => ⟨p.2, valV_pos e', ?_⟩⟩
      simp [valD, List.find?_cons, e] at z
      rw [← z]
      exact h2
    · have e' : ¬ p.1 = k := fun z => e (h1.symm.trans z)
      have r : valD (q :: qs) k = valD qs k := by simp [valD, List.find?_cons, e]
      rw [r, valV_neg e']
      exact ih
theorem KvOk.any {us : List (κ × V)} {kvs : List (κ × PyData)} (h : KvOk K S us kvs) (k : κ) : (us.any fun kv => decide (kv.1 = k)) = (kvs.any fun kv => decide (kv.1 = k)) := by
  unfold KvOk at h
  induction h with
  | nil => rfl
  | @cons p q ps qs h t ih => rw [List.any_cons, List.any_cons, ih, h.1]
theorem KvOk.put {us : List (κ × V)} {kvs : List (κ × PyData)} (h : KvOk K S us kvs) (k : κ) {v : V} {d : PyData} (hv : Dq K S v d) : KvOk K S (putK us k v) (putD kvs k d) := by
  unfold putK putD
  rw [h.any k]
  split
  · unfold KvOk at h ⊢
    rename_i hsp
    clear hsp
    induction h with
    | nil => exact .nil
    | @cons p q ps qs h t ih =>
      refine .cons ?_ ih
      by_cases e : q.1 = k
      · have e' : p.1 = k := h.1.trans e
        simp [e, e', hv]
      · have e' : ¬ p.1 = k := fun z => e (h.1.symm.trans z)
        simp [e, e', h]
  · unfold KvOk at h ⊢
    rename_i hsp
    clear hsp
    induction h with
    | nil => exact .cons ⟨rfl, hv⟩ .nil
    | @cons p q ps qs h t ih => exact .cons h ih
theorem KvOk.length {us : List (κ × V)} {kvs : List (κ × PyData)} (h : KvOk K S us kvs) : us.length = kvs.length := Paired.length h
theorem KvOk.keys {us : List (κ × V)} {kvs : List (κ × PyData)} (h : KvOk K S us kvs) : us.map (·.1) = kvs.map (·.1) := by
  unfold KvOk at h
  induction h with
  | nil => rfl
  | @cons p q ps qs h t ih => rw [List.map_cons, List.map_cons, ih, h.1]
end
def keyD : PyData → Option Key
  | .int i => some (.inl i)
  | .str i => some (.inr i)
  | _ => none
def keysD : List PyData → Option (List Key)
  | [] => some []
  | x :: xs => match keyD x, keysD xs with
    | some v, some vs => some (v :: vs)
    | _, _ => none
section
variable {K : Fg} {te td ty tv : TE} {de dy dv : TEd}
theorem keyD_ok {H : Hp} {v : V} {d : PyData} {k : Key} (h : Dq K H v d) (e : keyD d = some k) : v = kV k := by
  cases d with
  | int b => cases h; cases e; rfl
  | str b => cases h; cases e; rfl
  | _ => cases e
theorem keysD_ok {H : Hp} : ∀ {vs : List V} {ds : List PyData} {ks : List Key}, DqAll K H vs ds → keysD ds = some ks → vs = ks.map kV
  | _, [], _, h, e => by cases h; cases e; rfl
  | _, d :: ds, _, h, e => by
    cases h with
    | cons a b =>
      simp only [keysD] at e
      split at e
      · rename_i v vs e1 e2
        cases e
        rw [keyD_ok a e1, keysD_ok b e2]
        rfl
      · cases e
/-- a dict that is data -/
def valP : List (PyData × PyData) → Key → Option PyData
  | [], _ => none
  | (e, d) :: r, k => if keyD e = some k then some d else valP r k
theorem keyD_kD (k : Key) : keyD (kD k) = some k := by cases k <;> rfl
theorem DqKv.val {H : Hp} {k : Key} : ∀ {us : List (Key × V)} {kvs : List (PyData × PyData)}, DqKv K H us kvs → (valP kvs k = none → valV us k = none) ∧ ∀ d, valP kvs k = some d → ∃ v, valV us k = some v ∧ Dq K H v d
  | _, _, .nil => ⟨fun _ => rfl, fun d e => by cases e⟩
  | (k0, v0) :: us, (e, d) :: kvs, .cons he hv hr => by
    subst he
    have ih := DqKv.val (k := k) hr
    by_cases c : k0 = k
    · have e1 : valP ((kD k0, d) :: kvs) k = some d := by simp [valP, keyD_kD, c]
      rw [e1]
      exact ⟨(fun z => nomatch z), fun d' z => by cases z; exact ⟨v0, valV_pos c, hv⟩⟩
    · have e1 : valP ((kD k0, d) :: kvs) k = valP kvs k := by simp [valP, keyD_kD, c]
      rw [e1, valV_neg c]
      exact ih
theorem valP_map (kvs : List (Key × PyData)) (k : Key) : valP (kvs.map fun p => (kD p.1, p.2)) k = valD kvs k := by
  induction kvs with
  | nil => rfl
  | cons p r ih =>
    by_cases c : p.1 = k
    · simp [valP, keyD_kD, c, valD, List.find?_cons]
    · have : valD (p :: r) k = valD r k := by simp [valD, List.find?_cons, c]
      rw [this, ← ih]
      simp [valP, keyD_kD, c]
/-- .. of which no more is asked than what may be kept -/
def valA (kvs : List (PyData × PyData)) (k : Key) : Option (Option PyData) := match valP kvs k with
  | none => some none
  | some d => if tupO d = true then some (some d) else none
/-- a dict of a name, as far as one asks: what stands at a key -/
def dictAt (Γ : G) (i : Nat) (key : PyData) : Option (Option PyData) := match Γ[i]? with
  | some (.ow (.dK kvs)) => (keyD key).map fun k => valD kvs k
  | some (.rf (.dK kvs)) => (keyD key).map fun k => valD kvs k
  | some (.ow (.dT kvs)) => match key with
    | .tuple ds => if KT = true then none else (keysD ds).map fun k => valD kvs k
    | _ => none
  | some (.rf (.dT kvs)) => match key with
    | .tuple ds => if KT = true then none else (keysD ds).map fun k => valD kvs k
    | _ => none
  | some (.sh (.dict kvs)) => (keyD key).map fun k => valP kvs k
  | some (.ar (.dict kvs)) => (keyD key).bind fun k => valA kvs k
  | _ => none
def isDict (Γ : G) (i : Nat) : Bool := match Γ[i]? with
  | some (.ow (.dK _)) => true
  | some (.rf (.dK _)) => true
  | some (.ow (.dT _)) => true
  | some (.rf (.dT _)) => true
  | some (.sh (.dict _)) => true
  | some (.ar (.dict _)) => true
  | _ => false
def dictPut (Γ : G) (i : Nat) (key v : PyData) : Option (G × Nat) := match Γ[i]? with
  | some (.ow (.dK kvs)) => (keyD key).map fun k => (Γ.set i (.ow (.dK (putD kvs k v))), kvs.length)
  | some (.rf (.dK kvs)) => (keyD key).map fun k => (Γ.set i (.rf (.dK (putD kvs k v))), kvs.length)
  | some (.ow (.dT kvs)) => match key with
    | .tuple ds => if KT = true then none else (keysD ds).map fun k => (Γ.set i (.ow (.dT (putD kvs k v))), kvs.length)
    | _ => none
  | some (.rf (.dT kvs)) => match key with
    | .tuple ds => if KT = true then none else (keysD ds).map fun k => (Γ.set i (.rf (.dT (putD kvs k v))), kvs.length)
    | _ => none
  | _ => none
theorem own_dK {F : Fx K} {W : Wd} {σ : L2.St} {Γ : G} {i : Nat} {s : Sl} {kvs : List (Key × PyData)} (R : Rel F W σ Γ) (h1 : Γ[i]? = some s) (h2 : s.own? = some (.dK kvs)) : ∃ p us, σ[i]? = some (some (.ref p)) ∧ W.H p = some (.dK us) ∧ KvOk K (W.S F) us kvs := by
  have q := R.slot i s h1
  cases s with
  | no => cases h2
  | sh _ => cases h2
  | ar _ => cases h2
  | ro _ => cases h2
  | ow o =>
    cases h2
    obtain ⟨p', e1, _, _, vs, e2, e3⟩ := q
    exact ⟨p', vs, e1, e2, e3⟩
  | rf o =>
    cases h2
    obtain ⟨p', _, e1, _, _, vs, e2, e3⟩ := q
    exact ⟨p', vs, e1, e2, e3⟩
theorem own_dT {F : Fx K} {W : Wd} {σ : L2.St} {Γ : G} {i : Nat} {s : Sl} {kvs : List (List Key × PyData)} (R : Rel F W σ Γ) (h1 : Γ[i]? = some s) (h2 : s.own? = some (.dT kvs)) : ∃ p us, σ[i]? = some (some (.ref p)) ∧ W.H p = some (.dT us) ∧ KvOk K (W.S F) us kvs := by
  have q := R.slot i s h1
  cases s with
  | no => cases h2
  | sh _ => cases h2
  | ar _ => cases h2
  | ro _ => cases h2
  | ow o =>
    cases h2
    obtain ⟨p', e1, _, _, vs, e2, e3⟩ := q
    exact ⟨p', vs, e1, e2, e3⟩
  | rf o =>
    cases h2
    obtain ⟨p', _, e1, _, _, vs, e2, e3⟩ := q
    exact ⟨p', vs, e1, e2, e3⟩
theorem tup_ref {H : Hp} {v : V} {ds : List PyData} (kt : ¬ KT = true) (h : Dq K H v (.tuple ds)) : ∃ b vs, v = .ref b ∧ H b = some (.tup vs) ∧ DqAll K H vs ds := by
  cases h with
  | tup a b => exact ⟨_, _, rfl, a.resolve_right fun z => kt z.1, b⟩
theorem isDict_ref {F : Fx K} {W : Wd} {σ : L2.St} {Γ : G} {i : Nat} (R : Rel F W σ Γ) (h : isDict Γ i = true) : ∃ p, σ[i]? = some (some (.ref p)) ∧ IsD W.H p := by
  unfold isDict at h
  split at h
  · rename_i kvs e
    obtain ⟨p, us, e1, e2, e3⟩ := own_dK R e rfl
    exact ⟨p, e1, .inl ⟨us, .inl e2⟩⟩
  · rename_i kvs e
    obtain ⟨p, us, e1, e2, e3⟩ := own_dK R e rfl
    exact ⟨p, e1, .inl ⟨us, .inl e2⟩⟩
  · rename_i kvs e
    obtain ⟨p, us, e1, e2, e3⟩ := own_dT R e rfl
    exact ⟨p, e1, .inr ⟨us, .inl e2⟩⟩
  · rename_i kvs e
    obtain ⟨p, us, e1, e2, e3⟩ := own_dT R e rfl
    exact ⟨p, e1, .inr ⟨us, .inl e2⟩⟩
  · rename_i kvs e
    obtain ⟨v, q1, q2⟩ := R.slot i _ e
    cases q2 with
    | dct a b => exact ⟨_, q1, .inl ⟨_, L2.Same.rd less_same a⟩⟩
  · rename_i kvs e
    obtain ⟨v, q1, q2⟩ := R.slot i _ e
    cases q2 with
    | dct a b => exact ⟨_, q1, .inl ⟨_, L2.Same.rd R.ar_same a⟩⟩
  · cases h
theorem _root_.L2.DGet.kr {H : Hp} {a : Addr} {kvs : List (Key × V)} {k : Key} (e : L2.Rd H a (.dK kvs)) : DGet H a (kV k) (valV kvs k) := .inl ⟨kvs, k, e, rfl, rfl⟩
/-- what is looked up -/
theorem dictAt_ok {F : Fx K} {W : Wd} {σ : L2.St} {Γ : G} {i : Nat} {key : PyData} {r : Option PyData} {y : V} {p : Addr} (R : Rel F W σ Γ) (hy : Dq K W.H y key) (e0 : σ[i]? = some (some (.ref p))) (h : dictAt Γ i key = some r) :
    ∃ o, DGet W.H p y o ∧ (r = none → o = none) ∧ ∀ d, r = some d → ∃ v, o = some v ∧ Dq K (W.S F) v d := by
  have useK : ∀ {s : Sl} {kvs : List (Key × PyData)}, Γ[i]? = some s → s.own? = some (.dK kvs) → (keyD key).map (fun k => valD kvs k) = some r → ∃ o, DGet W.H p y o ∧ (r = none → o = none) ∧ ∀ d, r = some d → ∃ v, o = some v ∧ Dq K (W.S F) v d := fun {s kvs} h1 h2 h3 => by
    obtain ⟨p', us, e1, e2, e3⟩ := own_dK R h1 h2
    rw [e0] at e1
    cases e1
    obtain ⟨k, g1, g2⟩ := Option.map_eq_some_iff.mp h3
    rw [keyD_ok hy g1, ← g2]
    exact ⟨_, DGet.k e2, fun z => (e3.val k).1 z, fun d z => (e3.val k).2 d z⟩
  have useT : ∀ (kt : ¬ KT = true) {s : Sl} {kvs : List (List Key × PyData)} {ds : List PyData}, key = .tuple ds → Γ[i]? = some s → s.own? = some (.dT kvs) → (keysD ds).map (fun k => valD kvs k) = some r → ∃ o, DGet W.H p y o ∧ (r = none → o = none) ∧ ∀ d, r = some d → ∃ v, o = some v ∧ Dq K (W.S F) v d := fun kt {s kvs ds} hk h1 h2 h3 => by
    obtain ⟨p', us, e1, e2, e3⟩ := own_dT R h1 h2
    rw [e0] at e1
    cases e1
    obtain ⟨k, g1, g2⟩ := Option.map_eq_some_iff.mp h3
    subst hk
    obtain ⟨b, vs, rfl, t1, t2⟩ := tup_ref kt hy
    rw [keysD_ok t2 g1] at t1
    rw [← g2]
    exact ⟨_, DGet.t e2 t1, fun z => (e3.val k).1 z, fun d z => (e3.val k).2 d z⟩
  unfold dictAt at h
  split at h
  · rename_i kvs e
    exact useK e rfl h
  · rename_i kvs e
    exact useK e rfl h
  · rename_i kvs e
    cases key with
    | tuple ds =>
      by_cases kt : KT = true
      · dsimp only at h; rw [if_pos kt] at h; cases h
      · dsimp only at h; rw [if_neg kt] at h; exact useT kt rfl e rfl h
    | _ => cases h
  · rename_i kvs e
    cases key with
    | tuple ds =>
      by_cases kt : KT = true
      · dsimp only at h; rw [if_pos kt] at h; cases h
      · dsimp only at h; rw [if_neg kt] at h; exact useT kt rfl e rfl h
    | _ => cases h
  · rename_i kvs e
    obtain ⟨v, q1, q2⟩ := R.slot i _ e
    rw [e0] at q1
    cases q1
    obtain ⟨k, g1, g2⟩ := Option.map_eq_some_iff.mp h
    cases q2 with
    | dct a b =>
      rw [keyD_ok hy g1, ← g2]
      exact ⟨_, DGet.kr (L2.Same.rd less_same a), fun z => (b.val (k := k)).1 z, fun d z => (b.val (k := k)).2 d z⟩
  · rename_i kvs e
    obtain ⟨v, q1, q2⟩ := R.slot i _ e
    rw [e0] at q1
    cases q1
    obtain ⟨k, g1, g2⟩ := Option.bind_eq_some_iff.mp h
    cases q2 with
    | dct a b =>
      rw [keyD_ok hy g1]
      refine ⟨_, DGet.kr (L2.Same.rd R.ar_same a), fun z => ?_, fun d z => ?_⟩
      · subst z
        unfold valA at g2
        split at g2
        · rename_i e2
          exact (b.val (k := k)).1 e2
        · split at g2 <;> cases g2
      · subst z
        unfold valA at g2
        split at g2
        · cases g2
        · rename_i d' e2
          split at g2
          · rename_i t
            cases g2
            obtain ⟨w, w1, w2⟩ := (b.val (k := k)).2 d e2
            exact ⟨w, w1, VOk.sh (rv := .ar d) (σ := σ) (Γ := Γ) R w2 (by simp [shOf, t])⟩
          · cases g2
  · cases h
def dDGet2 (i : Nat) (dy dv : TEd) : TEd := fun Γ Q => isDict Γ i = true ∧ dy Γ fun y Γ1 => dv Γ1 fun z Γ2 => ∃ key r, dat Γ2 y = some key ∧ dictAt Γ2 i key = some r ∧ (r = none → Q z Γ2) ∧ ∀ d, r = some d → Q (.sh d) Γ2
instance se_dget2 {i : Nat} [SE K ty dy] [SE K tv dv] : SE K (tDGet2 (tVar i) ty tv) (dDGet2 i dy dv) := ⟨fun F W σ Γ Q Qd R ⟨h0, q⟩ k => by
  obtain ⟨p, e0, hd⟩ := isDict_ref R h0
  refine ⟨.ref p, e0, p, rfl, hd, ?_⟩
  refine two (ta := ty) (tb := tv) (da := dy) (db := dv) R q fun y z W' Γ' u v s' R' o1 o2 ⟨key, r, e1, e2, q1, q2⟩ => ?_
  obtain ⟨o, g1, g2, g3⟩ := dictAt_ok R' (o1.full R' e1) e0 e2
  refine ⟨o, g1, ?_⟩
  cases r with
  | none => rw [g2 rfl]; exact k _ W' Γ' _ s' R' o2 (q1 rfl)
  | some d =>
    obtain ⟨w, rfl, hw⟩ := g3 d rfl
    exact k _ W' Γ' _ s' R' (.ofSh hw) (q2 d rfl)⟩
def dDGet (i : Nat) (dy : TEd) : TEd := fun Γ Q => isDict Γ i = true ∧ dy Γ fun y Γ2 => ∃ key d, dat Γ2 y = some key ∧ dictAt Γ2 i key = some (some d) ∧ Q (.sh d) Γ2
instance se_dget {i : Nat} [A : SE K ty dy] : SE K (tDGet (tVar i) ty) (dDGet i dy) := ⟨fun F W σ Γ Q Qd R ⟨h0, q⟩ k => by
  obtain ⟨p, e0, hd⟩ := isDict_ref R h0
  refine ⟨.ref p, e0, A.run F W σ Γ _ _ R q fun y W' Γ' u s' R' o1 ⟨key, d, e1, e2, q⟩ => ?_⟩
  obtain ⟨o, g1, g2, g3⟩ := dictAt_ok R' (o1.full R' e1) e0 e2
  obtain ⟨w, rfl, hw⟩ := g3 d rfl
  exact ⟨p, w, rfl, g1, k _ W' Γ' _ s' R' (.ofSh hw) q⟩⟩
def dDIn (f : Bool → Bool) (i : Nat) (dy : TEd) : TEd := fun Γ Q => dy Γ fun y Γ2 => ∃ key r, dat Γ2 y = some key ∧ isDict Γ2 i = true ∧ dictAt Γ2 i key = some r ∧ Q (.sh (.bool (f r.isSome))) Γ2
instance se_din {i : Nat} [A : SE K ty dy] : SE K (tDIn ty (tVar i)) (dDIn id i dy) := ⟨fun F W σ Γ Q Qd R q k => A.run F W σ Γ _ _ R q fun y W' Γ' u s' R' o1 ⟨key, r, e1, h0, e2, q⟩ => by
  obtain ⟨p, e0, hd⟩ := isDict_ref R' h0
  obtain ⟨o, g1, g2, g3⟩ := dictAt_ok R' (o1.full R' e1) e0 e2
  refine ⟨.ref p, e0, p, o, rfl, g1, ?_⟩
  cases r with
  | none => rw [g2 rfl]; exact k _ W' Γ' _ s' R' (.bl _) q
  | some d =>
    obtain ⟨w, rfl, hw⟩ := g3 d rfl
    exact k _ W' Γ' _ s' R' (.bl _) q⟩
instance se_dnotin {i : Nat} [A : SE K ty dy] : SE K (tDNotIn ty (tVar i)) (dDIn not i dy) := ⟨fun F W σ Γ Q Qd R q k => A.run F W σ Γ _ _ R q fun y W' Γ' u s' R' o1 ⟨key, r, e1, h0, e2, q⟩ => by
  obtain ⟨p, e0, hd⟩ := isDict_ref R' h0
  obtain ⟨o, g1, g2, g3⟩ := dictAt_ok R' (o1.full R' e1) e0 e2
  refine ⟨.ref p, e0, p, o, rfl, g1, ?_⟩
  cases r with
  | none => rw [g2 rfl]; exact k _ W' Γ' _ s' R' (.bl _) q
  | some d =>
    obtain ⟨w, rfl, hw⟩ := g3 d rfl
    exact k _ W' Γ' _ s' R' (.bl _) q⟩
def dDPut (i : Nat) (dy dv : TEd) : TSd := fun E Γ => dv Γ fun z Γ1 => isDict Γ1 i = true ∧ dy Γ1 fun y Γ2 => ∃ key d Γ3 n, dat Γ2 y = some key ∧ shOf z = some d ∧ dictPut Γ2 i key d = some (Γ3, n) ∧ n < sizeLine ∧ E.nx Γ3
instance ss_dput {Xw : WX} {i : Nat} [A : SE K ty dy] [B : SE K tv dv] : SS K Xw (sDPut (tVar i) ty tv) (dDPut i dy dv) := ⟨fun F W σ Γ D E R q L => B.run F W σ Γ _ _ R q fun z W1 Γ1 w s1 R1 o1 ⟨h0, q⟩ => by
  obtain ⟨p, e0, hd⟩ := isDict_ref R1 h0
  refine ⟨.ref p, e0, A.run F W1 σ Γ1 _ _ R1 q fun y W' Γ' u s' R' o2 ⟨key, d, Γ3, n, e1, e2, e3, hn, q⟩ => ?_⟩
  have hw := (o1.stp s').sh R' e2
  have hy := o2.full R' e1
  have useK : ∀ {s : Sl} {kvs : List (Key × PyData)}, Γ'[i]? = some s → s.own? = some (.dK kvs) → (keyD key).map (fun k => (Γ'.set i (setOwn s (.dK (putD kvs k d))), kvs.length)) = some (Γ3, n) → ∃ a H4, V.ref p = .ref a ∧ DPut W'.H a u w H4 ∧ D.nx σ H4 := fun {s kvs} h1 h2 h3 => by
    obtain ⟨p', us, g1, g2, g3⟩ := own_dK R' h1 h2
    rw [e0] at g1
    cases g1
    obtain ⟨k, f1, f2⟩ := Option.map_eq_some_iff.mp h3
    cases f2
    have hh : OwnH K (W'.S F) (.dK (putK us k w)) (.dK (putD kvs k d)) := ⟨_, rfl, g3.put k hw⟩
    refine ⟨p, _, rfl, keyD_ok hy f1 ▸ DPut.k g2 (by rw [g3.length]; exact hn), ?_⟩
    exact L.nx { W' with H := upd W'.H p (.dK (putK us k w)) } σ _ (s1.sh.trans (s'.sh.trans (Stp.put R' h1 h2 rfl e0 hh).sh)) (R'.put h1 h2 rfl e0 hh).1 q
  have useT : ∀ (kt : ¬ KT = true) {s : Sl} {kvs : List (List Key × PyData)} {ds : List PyData}, key = .tuple ds → Γ'[i]? = some s → s.own? = some (.dT kvs) → (keysD ds).map (fun k => (Γ'.set i (setOwn s (.dT (putD kvs k d))), kvs.length)) = some (Γ3, n) → ∃ a H4, V.ref p = .ref a ∧ DPut W'.H a u w H4 ∧ D.nx σ H4 := fun kt {s kvs ds} hk h1 h2 h3 => by
    obtain ⟨p', us, g1, g2, g3⟩ := own_dT R' h1 h2
    rw [e0] at g1
    cases g1
    obtain ⟨k, f1, f2⟩ := Option.map_eq_some_iff.mp h3
    cases f2
    subst hk
    obtain ⟨b, vs, rfl, t1, t2⟩ := tup_ref kt hy
    rw [keysD_ok t2 f1] at t1
    have hh : OwnH K (W'.S F) (.dT (putK us k w)) (.dT (putD kvs k d)) := ⟨_, rfl, g3.put k hw⟩
    refine ⟨p, _, rfl, DPut.t g2 t1 (by rw [g3.length]; exact hn), ?_⟩
    exact L.nx { W' with H := upd W'.H p (.dT (putK us k w)) } σ _ (s1.sh.trans (s'.sh.trans (Stp.put R' h1 h2 rfl e0 hh).sh)) (R'.put h1 h2 rfl e0 hh).1 q
  unfold dictPut at e3
  split at e3
  · rename_i kvs e
    exact useK e rfl e3
  · rename_i kvs e
    exact useK e rfl e3
  · rename_i kvs e
    cases key with
    | tuple ds =>
      by_cases kt : KT = true
      · dsimp only at e3; rw [if_pos kt] at e3; cases e3
      · dsimp only at e3; rw [if_neg kt] at e3; exact useT kt rfl e rfl e3
    | _ => cases e3
  · rename_i kvs e
    cases key with
    | tuple ds =>
      by_cases kt : KT = true
      · dsimp only at e3; rw [if_pos kt] at e3; cases e3
      · dsimp only at e3; rw [if_neg kt] at e3; exact useT kt rfl e rfl e3
    | _ => cases e3
  · cases e3⟩
def dDNewK : TFd := fun Γ Q => Q (.dK []) Γ
def dDNewT : TFd := fun Γ Q => Q (.dT []) Γ
instance sf_dnewK : SEF K tDNewK dDNewK := ⟨fun F W σ Γ Q Qd R q k => fun p hp => k (.dK []) W Γ p _ (Stp.refl ..) R hp ⟨[], rfl, .nil⟩ q⟩
instance sf_dnewT : SEF K tDNewT dDNewT := ⟨fun F W σ Γ Q Qd R q k => fun p hp => k (.dT []) W Γ p _ (Stp.refl ..) R hp ⟨[], rfl, .nil⟩ q⟩
/-- sorted(d), keys whole numbers -/
def rSortDI : List V → Hp → VK → Prop := fun xs H Q => ∃ (a : Addr) (kvs : List (Key × V)) (ks : List Int), xs = [.ref a] ∧ Rd H a (.dK kvs) ∧ kvs.map (·.1) = ks.map Sum.inl ∧ ks.length ≤ sizeLine ∧ ∀ (ys : List Int) (p : Addr), ys.Perm ks → ys.Pairwise (· ≤ ·) → H p = none → Q (.ref p) (upd H p (.lst (ys.map V.int)))
/-- whole numbers, place by place -/
theorem ints_by_place : ∀ (us : List Value) (ks : List Int), us.length = ks.length → (∀ (j : Nat) (n : Int), ks[j]? = some n → ∃ t, us[j]? = some (.int n t)) → IntsAre us ks
  | [], [], _, _ => .nil
  | u :: us, n :: ks, el, q => by
    obtain ⟨t, e⟩ := q 0 n rfl
    cases e
    exact .cons n t (ints_by_place us ks (Nat.succ.inj el) fun j m e => q (j + 1) m e)
/-- what a walk over a dict's keys gathers, where all keys are whole numbers -/
theorem gathered_ints {ents : List (Key × Value)} {ks : List Int} {got : Array Value} (hk : ents.map Prod.fst = ks.map Sum.inl) (hn : got.size = ents.length) (hg : ∀ (j : Nat) (v : Value), got[j]? = some v → ∃ (key : Key) (x : Value), ents[j]? = some (key, x) ∧ keyIs key v = true) : IntsAre got.toList ks := by
  have len : ents.length = ks.length := by simpa using congrArg List.length hk
  refine ints_by_place _ _ (by rw [Array.length_toList, hn, len]) fun j n e => ?_
  have jl : j < got.size := by
    have := (List.getElem?_eq_some_iff.mp e).1
    omega
  obtain ⟨key, x, e1, e2⟩ := hg j got[j] (Array.getElem?_eq_getElem jl)
  have e3 : some key = some (Sum.inl n) := by
    have := congrArg (fun l : List Key => l[j]?) hk
    simpa [List.getElem?_map, e1, e] using this
  cases e3
  have e4 : got.toList[j]? = some got[j] := by rw [Array.getElem?_toList]; exact Array.getElem?_eq_getElem jl
  rcases keyIs_shape e2 with ⟨_, t, c, ev⟩ | ⟨_, _, c, _⟩
  · cases c
    exact ⟨t, e4.trans (congrArg some ev)⟩
  · cases c
/-- list.sort on a list of whole numbers that lies on the heap -/
theorem sort_ints_at {prog : Program} {w : World} {A : Around} {Ex : Value → Shared → Prop} {st : Shared} {L : Addr} {us : List Value} {n : Nat} {ks : List Int} {R : PySem.Fin → Shared → Prop} (o : st.heap.get? L = some (seqObj "list" us.toArray n)) (fit : us.length ≤ sizeLine) (hI : IntsAre us ks)
    (go : ∀ (out : List Value) (ms : List Int), IntsAre out ms → ms.Perm ks → ms.Pairwise (· ≤ ·) → R (.done (.ret .none)) { st with heap := sortedHeap st.heap L us out.toArray }) : wpAny (model prog w) A (Builtin.«list.sort» ⟨[.ref L], []⟩) R Ex st :=
  SrtO.list_sort_ord SrtO.swo_int o fit (fun two => SrtO.ints_sortable hI two) fun out a b => go out _ (SrtO.ints_out hI a b).1 (SrtO.ints_out hI a b).2.1 (SrtO.ints_out hI a b).2.2
theorem b_sortDI {X : Cx} (calm : X.calm = true) : CallR X (.builtin "sorted") rSortDI := fun pn st σ H as vals Q J rv ⟨a, kv, ks, ea, rd, hk, fit, go⟩ => by
  cases ea
  obtain ⟨u, rfl, ru⟩ := vals1 rv
  cases ru
  obtain ⟨_, lay, ents, same, dob⟩ := dk_rd J.hok rd
  obtain ⟨_, dAt⟩ := dob.dictAt
  have hk' : ents.map Prod.fst = ks.map Sum.inl := same.keys.symm.trans hk
  have len : ents.length = ks.length := by simpa using congrArg List.length hk'
  apply Calls.call_function_entry kind_sorted plain_sorted entry_sorted (args_sorted1 _)
  unfold Builtin.«sorted»
  apply wpAny_bind (m := checkCount "sorted" 1 1 _)
  apply wpAny_pure
  apply wpAny_bind
  refine PySem.W.kdu_collect (A := X.A.in1) (PySem.W.kdl_dict (knd := mixKind X.prog X.w) lay) (J.ok.hd calm) dAt (len ▸ fit) fun hp tk got keep gath => ?_
  have hI := gathered_ints hk' gath.1 gath.2
  have gl : got.toList.length ≤ sizeLine := by rw [Array.length_toList, gath.1, len]; exact fit
  have J' : Inv X pn σ H { st with heap := hp, toks := tk } := J.kept keep
  apply wpAny_bind
  refine wpAny_newList ?_ gl
  let st2 : Shared := { st with heap := hp.push (seqObj "list" got.toList.toArray 0), toks := tk }
  have atL : st2.heap.get? hp.objs.size = some (seqObj "list" got.toList.toArray 0) := Heap.get?_push_size _ rfl
  show wpAny _ _ _ _ _ st2
  apply wpAny_bind
  apply wpAny_holding
  refine wpAny_call_entry slot_list_sort ⟨_, atL, rfl⟩ entry_list_sort (sort_ints_at atL gl hI fun out ms i1 i2 i3 => ⟨_, rfl, ?_⟩) (args_list_sort _)
  obtain ⟨_, atE⟩ := sortedHeap_at (vs := got.toList) (out := out.toArray) atL
  have ml : (ms.map V.int).length ≤ sizeLine := by rw [List.length_map, i2.length_eq]; exact fit
  apply wpAny_pure
  refine ⟨_, rfl, .ref hp.objs.size, _, J'.laid (o := .lst (ms.map V.int)) (t' := tk) (fun b u e => ?_) (Nat.le_refl _) ⟨ml, out, _, vals_of_ints i1, atE⟩, rfl, go ms _ i2 i3 (J'.hok.fresh (Nat.le_refl _))⟩
  have lt : b < hp.objs.size := Heap.lt_size e
  exact (sortedHeap_old (Nat.ne_of_lt lt) (by show b < (hp.push _).objs.size; rw [size_push']; exact Nat.lt_succ_of_lt lt)).trans (Heap.get?_push_of_some _ e)
def dictKs (Γ : G) (i : Nat) : Option (List Key) := match Γ[i]? with
  | some (.ow (.dK kvs)) => some (kvs.map (·.1))
  | some (.rf (.dK kvs)) => some (kvs.map (·.1))
  | _ => none
def dSortDI (i : Nat) : TFd := fun Γ Q => ∃ ks : List Int, dictKs Γ i = some (ks.map Sum.inl) ∧ ks.length ≤ sizeLine ∧ ∀ ys : List Int, ys.Perm ks → ys.Pairwise (· ≤ ·) → Q (.lst (ys.map .int)) Γ
instance sf_sortDI {i : Nat} : SEF K (tCB rSortDI (tCons (tVar i) tNil)) (dSortDI i) := ⟨fun F W σ Γ Q Qd R ⟨ks, e, hl, q⟩ k => by
  have use : ∀ {s : Sl} {kvs : List (Key × PyData)}, Γ[i]? = some s → s.own? = some (.dK kvs) → kvs.map (·.1) = ks.map Sum.inl → tCB rSortDI (tCons (tVar i) tNil) σ W.H Q := fun {s kvs} h1 h2 h3 => by
    obtain ⟨p, us, g1, g2, g3⟩ := own_dK R h1 h2
    exact ⟨.ref p, g1, p, us, ks, rfl, .inl g2, by rw [g3.keys, h3], hl, fun ys p' hp hs hn => k (.lst (ys.map .int)) W Γ p' _ (Stp.refl ..) R hn ⟨_, rfl, DqAll.ofInts ys⟩ (q ys hp hs)⟩
  unfold dictKs at e
  split at e
  · rename_i kvs h
    exact use h rfl (Option.some.inj e)
  · rename_i kvs h
    exact use h rfl (Option.some.inj e)
  · cases e⟩
end
end Dk

namespace Dk
open PySem PySem.Spec PyProof.Rows L2
/-! ### objects that are told by a word of their own -/
class AbI (I : Hp → Addr → List Addr → Prop) : Prop where
  mem : ∀ {H : Hp} {p : Addr} {f : List Addr}, I H p f → p ∈ f
  mo : ∀ {H : Hp} {p : Addr} {f : List Addr}, I H p f → ∀ a ∈ f, Mo (H a) ∧ notIns (H a)
  st : ∀ {H H' : Hp} {p : Addr} {f : List Addr}, I H p f → (∀ a ∈ f, H' a = H a) → Tx H H' → I H' p f
/-- the first argument's object may be changed, its word stays -/
def RefSp (K : Fg) (I : Hp → Addr → List Addr → Prop) (C : List PyData → (PyData → Prop) → Prop) : Sp := fun vs H Q _ => ∃ (p : Addr) (f : List Addr) (us : List V) (ds : List PyData) (Qd : PyData → Prop), vs = .ref p :: us ∧ I H p f ∧ DqAll K (less H fun a => a ∈ f) us ds ∧ C ds Qd ∧
  ∀ (v : V) (H' : Hp) (d : PyData), (∀ a o, a ∉ f → H a = some o → H' a = some o) → I H' p f → Dq K (less H' fun a => Mo (H a)) v d → Qd d → Q v H'
def RefFreshSp (K : Fg) (I : Hp → Addr → List Addr → Prop) (C : List PyData → (OD → Prop) → Prop) : Sp := fun vs H Q _ => ∃ (p : Addr) (f : List Addr) (us : List V) (ds : List PyData) (Qd : OD → Prop), vs = .ref p :: us ∧ I H p f ∧ DqAll K (less H fun a => a ∈ f) us ds ∧ C ds Qd ∧
  ∀ (q : Addr) (ho : HO) (H' : Hp) (o : OD), (∀ a o, a ∉ f → H a = some o → H' a = some o) → I H' p f → H' q = none → OwnH K (less H' fun a => Mo (H a)) ho o → Qd o → Q (.ref q) (upd H' q ho)
def isAb (I : Hp → Addr → List Addr → Prop) (Γ : G) (i : Nat) : Prop := Γ[i]? = some (.ow (.ab I)) ∨ Γ[i]? = some (.rf (.ab I))
section
variable {K : Fg} {F : Fx K} {W : Wd} {σ : L2.St} {Γ : G} {I : Hp → Addr → List Addr → Prop} {i : Nat}
theorem isAb.slot (R : Rel F W σ Γ) (h : isAb I Γ i) : ∃ s p, Γ[i]? = some s ∧ s.own? = some (.ab I) ∧ σ[i]? = some (some (.ref p)) ∧ (∀ a ∈ W.ft i, W.O a) ∧ I W.H p (W.ft i) := by
  rcases h with h | h
  · obtain ⟨p, e1, e2, e3⟩ := R.slot i _ h
    exact ⟨_, p, h, rfl, e1, fun a ha => (e2 a ha).1, e3.2.1⟩
  · obtain ⟨p, _, e1, e2, e3⟩ := R.slot i _ h
    exact ⟨_, p, h, rfl, e1, e2, e3.2.1⟩
theorem Rel.ref [A : AbI I] (R : Rel F W σ Γ) (h : isAb I Γ i) {p : Addr} {H' : Hp} (e0 : σ[i]? = some (some (.ref p))) (fr : ∀ a o, a ∉ W.ft i → W.H a = some o → H' a = some o) (hI : I H' p (W.ft i)) :
    Rel F { W with H := H' } σ Γ ∧ Stp F W Γ { W with H := H' } Γ := by
  obtain ⟨s, p', h1, h2, h3, h4, h5⟩ := h.slot R
  rw [e0] at h3
  cases h3
  have hs : Same (W.S F) (({ W with H := H' } : Wd).S F) := same_less fun a o nx e => ⟨nx, fr a o (fun z => nx (.inr (h4 a z))) e⟩
  have tx : Tx W.H H' := fun a o nm e => fr a o (fun z => nm (by have m := (A.mo h5 a z).1; rw [e] at m; exact m)) e
  have keep : ∀ a, a ∉ W.ft i → W.O a → H' a = W.H a := fun a na ha => by
    obtain ⟨o, q⟩ := mo_some (R.mu a ha)
    rw [fr a o na q, q]
  refine ⟨⟨fun a o e nr => ?_, R.new, fun a ha => ?_, R.rfo, R.len, fun j t e => ?_, R.dis⟩, ⟨⟨⟨hs, fun q t => ⟨t, keep q (t.2 i s _ h1 h2) t.1⟩⟩, fun a C dx vs e => fr a _ (fun z => by have m := (A.mo h5 a z).2; rw [e] at m; exact m) e⟩, fun j t e => ⟨t, e, Kn.refl t⟩, rfl⟩⟩
  · refine fr a o (fun z => ?_) (R.base a o e nr)
    rcases R.new a (h4 a z) with q | q
    · rw [q] at e; cases e
    · exact nr q
  · by_cases z : a ∈ W.ft i
    · exact (A.mo hI a z).1
    · show Mo (H' a)
      rw [keep a z ha]
      exact R.mu a ha
  · by_cases q : j = i
    · subst q
      rw [h1] at e
      cases e
      have ok : OwnOk K (({ W with H := H' } : Wd).S F) H' p (W.ft j) (.ab I) := ⟨A.mem hI, hI, (fun H'' hk ht => A.st hI hk ht), fun a ha => A.mo hI a ha⟩
      have z := R.slot j s h1
      cases s with
      | no => cases h2
      | sh _ => cases h2
      | ar _ => cases h2
      | ro _ => cases h2
      | ow o =>
        cases h2
        obtain ⟨p', a1, a2, a3⟩ := z
        rw [e0] at a1
        cases a1
        exact ⟨p, e0, a2, ok⟩
      | rf o =>
        cases h2
        obtain ⟨p', a0, a1, a2, a3⟩ := z
        rw [e0] at a1
        cases a1
        exact ⟨p, a0, e0, a2, ok⟩
    · have z := R.slot j t e
      refine z.keep (W' := { W with H := H' }) rfl hs (fun _ _ q => q) (fun a ha so => ?_) tx
      obtain ⟨oj, so⟩ := Option.isSome_iff_exists.mp so
      exact keep a (R.dis j i t s oj _ a q e h1 so h2 ha) (slot_O z so a ha)
theorem VOk.apart (R : Rel F W σ Γ) (h : isAb I Γ i) {v : V} {x : RV} {d : PyData} (o : VOk F W σ Γ v x) (e : dat Γ x = some d) : Dq K (less W.H fun a => a ∈ W.ft i) v d := by
  obtain ⟨s, p, h1, h2, h3, h4, h5⟩ := h.slot R
  have sS : Same (W.S F) (less W.H fun a => a ∈ W.ft i) := same_less fun a o nx e => ⟨fun z => nx (.inr (h4 a z)), e⟩
  have sA : Same (less F.H0 F.rf) (less W.H fun a => a ∈ W.ft i) := same_less fun a o nx e => ⟨fun z => by
    rcases R.new a (h4 a z) with q | q
    · rw [q] at e; cases e
    · exact nx q, R.base a o e nx⟩
  cases x with
  | sh d' => cases e; exact Dq.same sS o
  | ar d' => cases e; exact Dq.same sA o
  | own j =>
    obtain ⟨t, g1, g2, g3⟩ := o
    have q := R.slot j t g1
    simp only [dat, g1] at e
    have lst : ∀ {ds : List PyData} {q : Addr} {vs : List V}, t.own? = some (.lst ds) → q ∈ W.ft j → W.H q = some (.lst vs) → DqAll K (W.S F) vs ds → Dq K (less W.H fun a => a ∈ W.ft i) (.ref q) (.list ds) := fun {ds q vs} b1 b2 b3 b4 => by
      refine .lst (less_some.mpr ⟨fun z => ?_, b3⟩) (b4.same sS)
      have ne : j ≠ i := fun w => by
        subst w
        rw [h1] at g1
        cases g1
        rw [h2] at b1
        cases b1
      exact R.dis j i t s _ _ q ne g1 h1 b1 h2 b2 z
    have dct : ∀ {kvs : List (Key × PyData)} {q : Addr} {vs : List (Key × V)}, t.own? = some (.dK kvs) → q ∈ W.ft j → W.H q = some (.dK vs) → KvOk K (W.S F) vs kvs → Dq K (less W.H fun a => a ∈ W.ft i) (.ref q) (.dict (kvs.map fun p => (kD p.1, p.2))) := fun {kvs q vs} b1 b2 b3 b4 => by
      refine .dct (.inl (less_some.mpr ⟨fun z => ?_, b3⟩)) ((kvOk_dq b4).same sS)
      have ne : j ≠ i := fun w => by
        subst w
        rw [h1] at g1
        cases g1
        rw [h2] at b1
        cases b1
      exact R.dis j i t s _ _ q ne g1 h1 b1 h2 b2 z
    cases t with
    | no => cases g2
    | sh d' =>
      cases e
      obtain ⟨v', e1, e2⟩ := q
      rw [g3] at e1
      cases e1
      exact Dq.same sS e2
    | ar d' =>
      cases e
      obtain ⟨v', e1, e2⟩ := q
      rw [g3] at e1
      cases e1
      exact Dq.same sA e2
    | ow o' =>
      cases o' with
      | lst ds =>
        cases e
        obtain ⟨p, e1, _, hf, vs, e2, e3⟩ := q
        rw [g3] at e1
        cases e1
        exact lst rfl (by rw [hf]; simp) e2 e3
      | dK kvs =>
        cases e
        obtain ⟨p, e1, _, hf, vs, e2, e3⟩ := q
        rw [g3] at e1
        cases e1
        exact dct rfl (by rw [hf]; simp) e2 e3
      | dT _ => cases e
      | ab _ => cases e
      | ins _ _ => cases e
    | rf o' =>
      cases o' with
      | lst ds =>
        cases e
        obtain ⟨p, _, e1, _, hf, vs, e2, e3⟩ := q
        rw [g3] at e1
        cases e1
        exact lst rfl (by rw [hf]; simp) e2 e3
      | dK kvs =>
        cases e
        obtain ⟨p, _, e1, _, hf, vs, e2, e3⟩ := q
        rw [g3] at e1
        cases e1
        exact dct rfl (by rw [hf]; simp) e2 e3
      | dT _ => cases e
      | ab _ => cases e
      | ins _ _ => cases e
    | ro o' => cases e
  | fld j path =>
    obtain ⟨t, p2, o2, g1, g2, g3, g4⟩ := o
    simp only [dat, g1, g2, Option.bind_some] at e
    obtain ⟨o', e1, e2⟩ := Option.bind_eq_some_iff.mp e
    obtain ⟨p', f, k1, k2, k3⟩ := R.insOk g1 g2
    rw [g3] at k1
    cases k1
    obtain ⟨q, F', rfl, hF, hO⟩ := k2.path e1 g4
    have na : ∀ a ∈ F', a ∉ W.ft i := fun a ha z => by
      obtain ⟨b1, b2⟩ := k3 a (hF a ha) (h4 a z)
      have ne : j ≠ i := fun w => by
        subst w
        rw [h1] at g1
        cases g1
        rw [h2] at b2
        cases b2
        cases s with
        | ow q => cases h2; have := (insO_eq g2).2; cases this
        | rf q => cases h2; have := (insO_eq g2).2; cases this
        | _ => cases h2
      exact R.dis j i t s _ _ a ne g1 h1 b2 h2 b1 z
    cases o' with
    | lst ds =>
      cases e2
      simp only [OwnO] at hO
      obtain ⟨rfl, vs, q1, q2⟩ := hO
      exact .lst (less_some.mpr ⟨na q (by simp), q1⟩) (q2.same sS)
    | dK kvs =>
      cases e2
      simp only [OwnO] at hO
      obtain ⟨rfl, vs, q1, q2⟩ := hO
      exact .dct (.inl (less_some.mpr ⟨na q (by simp), q1⟩)) ((kvOk_dq q2).same sS)
    | _ => cases e2
theorem VOks.apart (R : Rel F W σ Γ) (h : isAb I Γ i) : ∀ {xs : List RV} {vs : List V} {ds : List PyData}, VOks F W σ Γ vs xs → dats Γ xs = some ds → DqAll K (less W.H fun a => a ∈ W.ft i) vs ds
  | [], _, _, o, e => by cases o; cases e; exact .nil
  | x :: xs, _, _, o, e => by
    cases o with
    | cons a b =>
      simp only [dats] at e
      split at e
      · rename_i d ds h1 h2
        cases e
        exact .cons (a.apart R h h1) (VOks.apart R h b h2)
      · cases e
end
section
variable {K : Fg} {I : Hp → Addr → List Addr → Prop} {i : Nat} {t : TA} {d : TAd} {E : XK}
def dCallR (I : Hp → Addr → List Addr → Prop) (i : Nat) (C : List PyData → (PyData → Prop) → Prop) (d : TAd) : TEd := fun Γ Q => isAb I Γ i ∧ d Γ fun xs Γ1 => ∃ ds, isAb I Γ1 i ∧ dats Γ1 xs = some ds ∧ C ds fun r => Q (.sh r) Γ1
instance se_callR [AbI I] {C : List PyData → (PyData → Prop) → Prop} [A : SA K t d] : SE K (tCall (RefSp K I C) [] E (tCons (tVar i) t)) (dCallR I i C d) := ⟨fun F W σ Γ Q Qd R ⟨h0, q⟩ k => by
  obtain ⟨_, p, _, _, e0, _, _⟩ := h0.slot R
  refine ⟨.ref p, e0, A.run F W σ Γ _ _ R q fun xs W' Γ' vs s' R' o1 ⟨ds, h1, e1, q⟩ => ?_⟩
  obtain ⟨s, p', g1, g2, g3, g4, g5⟩ := h1.slot R'
  rw [e0] at g3
  cases g3
  rw [List.append_nil]
  refine ⟨p, W'.ft i, vs, ds, _, rfl, g5, o1.apart R' h1 e1, q, fun v H' r fr hI hv hq => ?_⟩
  obtain ⟨R2, s2⟩ := R'.ref h1 e0 fr hI
  refine k (.sh r) { W' with H := H' } Γ' v (s'.trans s2) R2 (.ofSh ?_) hq
  exact hv.same (same_less fun a o nx e => ⟨fun z => nx (R'.exmo z), e⟩)⟩
def dCallRF (I : Hp → Addr → List Addr → Prop) (i : Nat) (C : List PyData → (OD → Prop) → Prop) (d : TAd) : TFd := fun Γ Q => isAb I Γ i ∧ d Γ fun xs Γ1 => ∃ ds, isAb I Γ1 i ∧ dats Γ1 xs = some ds ∧ C ds fun r => Q r Γ1
instance sf_callR [AbI I] {C : List PyData → (OD → Prop) → Prop} [A : SA K t d] : SEF K (tCall (RefFreshSp K I C) [] E (tCons (tVar i) t)) (dCallRF I i C d) := ⟨fun F W σ Γ Q Qd R ⟨h0, q⟩ k => by
  obtain ⟨_, p, _, _, e0, _, _⟩ := h0.slot R
  refine ⟨.ref p, e0, A.run F W σ Γ _ _ R q fun xs W' Γ' vs s' R' o1 ⟨ds, h1, e1, q⟩ => ?_⟩
  obtain ⟨s, p', g1, g2, g3, g4, g5⟩ := h1.slot R'
  rw [e0] at g3
  cases g3
  rw [List.append_nil]
  refine ⟨p, W'.ft i, vs, ds, _, rfl, g5, o1.apart R' h1 e1, q, fun l ho H' r fr hI hl hv hq => ?_⟩
  obtain ⟨R2, s2⟩ := R'.ref h1 e0 fr hI
  refine k r { W' with H := H' } Γ' l ho (s'.trans s2) R2 hl ?_ hq
  exact hv.same (same_less fun a o nx e => ⟨fun z => nx (R'.exmo z), e⟩)⟩
end
/-! ### defs -/
def startG (N : List Str) (sl : List Sl) : G := sl ++ List.replicate (N.length - sl.length) .no
def argOk (s : Sl) (d : PyData) : Prop := s = .ar d ∨ (s = .sh d ∧ tupO d = true)
def retOf (Γ : G) : RV → Option PyData
  | .own i => match Γ[i]? with
    | some (.ow (.lst ds)) => some (.list ds)
    | some (.sh d) => some d
    | _ => none
  | x => shOf x
def retFresh (Γ : G) : RV → Option OD
  | .own i => match Γ[i]? with
    | some (.ow (.lst ds)) => some (.lst ds)
    | some (.ow (.dK ds)) => some (.dK ds)
    | some (.ow (.dT ds)) => some (.dT ds)
    | _ => none
  | _ => none
section
variable {K : Fg} {F : Fx K} {W : Wd} {σ : L2.St} {Γ : G}
theorem ret_ok {v : V} {x : RV} {d : PyData} (R : Rel F W σ Γ) (o : VOk F W σ Γ v x) (e : retOf Γ x = some d) : Dq K (less W.H F.ex) v d := by
  have sS : Same (W.S F) (less W.H F.ex) := same_less fun a o nx e => ⟨fun z => nx (.inl z), e⟩
  cases x with
  | fld _ _ => cases e
  | sh d' => cases e; exact Dq.same sS o
  | ar d' => exact (VOk.sh R o e).same sS
  | own i =>
    obtain ⟨s, h1, h2, h3⟩ := o
    simp only [retOf, h1] at e
    cases s with
    | no => cases e
    | ar d => cases e
    | rf o => cases e
    | ro o => cases e
    | sh d' =>
      cases e
      obtain ⟨v', e1, e2⟩ := R.slot i _ h1
      rw [h3] at e1
      cases e1
      exact e2.same sS
    | ow o =>
      cases o with
      | lst ds =>
        cases e
        obtain ⟨p, e1, hO, hf, vs, e2, e3⟩ := R.slot i _ h1
        rw [h3] at e1
        cases e1
        have hp : p ∈ W.ft i := by rw [hf]; simp
        have h0 : F.H0 p = none := (R.new p (hO p hp).1).resolve_right (hO p hp).2
        exact .lst (less_some.mpr ⟨fun z => by have m := F.xm p z; rw [h0] at m; exact m, e2⟩) (e3.same sS)
      | dK _ => cases e
      | dT _ => cases e
      | ab _ => cases e
      | ins _ _ => cases e
open Classical in
noncomputable def dropH (H : Hp) (p : Addr) : Hp := fun a => if a = p then none else H a
theorem dropH_at {H : Hp} {p : Addr} : dropH H p p = none := if_pos rfl
theorem dropH_ne {H : Hp} {p a : Addr} (h : a ≠ p) : dropH H p a = H a := if_neg h
theorem dropH_upd {H : Hp} {p : Addr} {ho : HO} (h : H p = some ho) : upd (dropH H p) p ho = H := by
  funext a
  by_cases e : a = p
  · subst e
    rw [upd_same, h]
  · rw [upd_ne e, dropH_ne e]
theorem retFresh_ok {v : V} {x : RV} {od : OD} (R : Rel F W σ Γ) (o : VOk F W σ Γ v x) (e : retFresh Γ x = some od) : ∃ p ho, v = .ref p ∧ W.H p = some ho ∧ F.H0 p = none ∧ ¬ F.rf p ∧ OwnH K (less (dropH W.H p) F.ex) ho od := by
  cases x with
  | fld _ _ => cases e
  | sh d' => cases e
  | ar d' => cases e
  | own i =>
    obtain ⟨s, h1, h2, h3⟩ := o
    simp only [retFresh, h1] at e
    have key : ∀ {p : Addr} {ho : HO}, (∀ a ∈ W.ft i, W.O a ∧ ¬ F.rf a) → W.ft i = [p] → W.H p = some ho → F.H0 p = none ∧ ¬ F.rf p ∧ Same (W.S F) (less (dropH W.H p) F.ex) := fun {p ho} hO hf e2 => by
      have hp : p ∈ W.ft i := by rw [hf]; simp
      refine ⟨(R.new p (hO p hp).1).resolve_right (hO p hp).2, (hO p hp).2, same_less fun a o nx e => ⟨fun z => nx (.inl z), ?_⟩⟩
      rw [dropH_ne]
      · exact e
      · intro z
        subst z
        exact nx (.inr (hO a hp).1)
    cases s with
    | no => cases e
    | ar d => cases e
    | rf o => cases e
    | ro o => cases e
    | sh d' => cases e
    | ow o =>
      cases o with
      | lst ds =>
        cases e
        obtain ⟨p, e1, hO, hf, vs, e2, e3⟩ := R.slot i _ h1
        rw [h3] at e1
        cases e1
        obtain ⟨k1, k2, k3⟩ := key hO hf e2
        exact ⟨p, _, rfl, e2, k1, k2, vs, rfl, e3.same k3⟩
      | dK _ =>
        cases e
        obtain ⟨p, e1, hO, hf, vs, e2, e3⟩ := R.slot i _ h1
        rw [h3] at e1
        cases e1
        obtain ⟨k1, k2, k3⟩ := key hO hf e2
        exact ⟨p, _, rfl, e2, k1, k2, vs, rfl, Paired.mapP e3 fun _ _ z => ⟨z.1, z.2.same k3⟩⟩
      | dT _ =>
        cases e
        obtain ⟨p, e1, hO, hf, vs, e2, e3⟩ := R.slot i _ h1
        rw [h3] at e1
        cases e1
        obtain ⟨k1, k2, k3⟩ := key hO hf e2
        exact ⟨p, _, rfl, e2, k1, k2, vs, rfl, Paired.mapP e3 fun _ _ z => ⟨z.1, z.2.same k3⟩⟩
      | ab _ => cases e
      | ins _ _ => cases e
theorem start_get {N : List Str} {vs : List V} {i : Nat} {v : V} (h : vs[i]? = some v) : (start N vs)[i]? = some (some v) := by
  have hi := lt_of_get h
  unfold L2.start
  rw [List.getElem?_append_left (by simpa using hi), List.getElem?_map, h]
  rfl
theorem startG_get {N : List Str} {sl : List Sl} {i : Nat} {s : Sl} (h : (startG N sl)[i]? = some s) : sl[i]? = some s ∨ s = .no := by
  unfold startG at h
  by_cases hi : i < sl.length
  · rw [List.getElem?_append_left hi] at h
    exact .inl h
  · rw [List.getElem?_append_right (by omega), List.getElem?_replicate] at h
    split at h
    · cases h; exact .inr rfl
    · cases h
abbrev F0 (K : Fg) (H : Hp) : Fx K := { H0 := H, rf := fun _ => False, rp := fun _ => none }
theorem rel_start {H : Hp} {N : List Str} {vs : List V} {ds : List PyData} {sl : List Sl} (h : DqAll K H vs ds) (ha : Paired argOk sl ds) : Rel (F0 K H) ⟨fun _ => False, fun _ => [], H⟩ (start N vs) (startG N sl) := by
  have hl : vs.length = sl.length := by rw [h.length, Paired.length ha]
  refine ⟨fun a o e _ => e, fun a z => z.elim, fun a z => z.elim, fun a z => z, by simp [L2.start, startG, hl], fun i s e => ?_, fun i j s t oi oj a ne e1 e2 g1 g2 => ?_⟩
  · rcases startG_get e with e | e
    · obtain ⟨d, e1, e2⟩ := paired_get ha e
      obtain ⟨v, g1, g2⟩ := h.get e1
      rcases e2 with rfl | ⟨rfl, ht⟩
      · exact ⟨v, start_get g1, g2.same fun a o q => less_some.mpr ⟨fun z => z, q⟩⟩
      · exact ⟨v, start_get g1, Dq.tupO_less (H' := H) (fun a z => by
          rcases z with z | z
          · exact z
          · exact z.elim) _ _ ht g2⟩
    · subst e
      trivial
  · rcases startG_get e1 with e1 | e1
    · obtain ⟨d, q1, q2⟩ := paired_get ha e1
      rcases q2 with rfl | ⟨rfl, _⟩ <;> cases g1
    · subst e1
      cases g1
end
section
variable {P : Program} {w : World} {K : Fg} {mg : Str → Option Value} {base : Heap}
abbrev PEnds (Qd : PyData → Prop) : DE := { nx := fun _ => Qd .none, rt := fun x Γ => ∃ r, retOf Γ x = some r ∧ Qd r, rn := fun o _ => ∃ xs, o = .lst xs ∧ Qd (.list xs) }
/-- a def that changes nothing, in data -/
theorem pure_ok {x qual : Str} {st : Stmt} {f : Addr} {fd : FuncData} {N ps : List Str} {k : Nat} {C : List PyData → (PyData → Prop) → Prop} (Fn : L2.Fun K x qual st f fd) (S : FnScope N ps (defScope st)) (hl : ∀ ds Qd, C ds Qd → ds.length = ps.length)
    (hbody : ∀ (cdv : Value) (A : Around) (outer : List Env) (s : Shared) (H : Hp) (E : XK), Room k (A.deeper (envOfC qual (defScope st) s.heap.objs.size f cdv)) →
      ∃ t, PSs (cxOf CX0 P w K mg base N qual (defScope st) f cdv A outer s H E).nox (defBody st) t ∧ ∃ d, SS K X0 t d ∧ ∀ ds Qd, C ds Qd → ∃ sl, Paired argOk sl ds ∧ d (PEnds Qd) (startG N sl)) : FnOk P w K mg base CX0 (k + 1) f fd ps (PureSp K C) := by
  refine Fn.ok S (fun vs H Q E h => ?_) (fun cdv A outer s H vs Q E hr h => ?_)
  · obtain ⟨ds, Qd, h1, h2, _⟩ := h
    rw [h1.length]
    exact hl ds Qd h2
  · obtain ⟨ds, Qd, h1, h2, q⟩ := h
    obtain ⟨t, ht, d, hs, hd⟩ := hbody cdv A outer s H E hr
    obtain ⟨sl, ha, hd⟩ := hd ds Qd h2
    refine ⟨t, ht, hs.run (F0 K H) ⟨fun _ => False, fun _ => [], H⟩ (start N vs) (startG N sl) _ _ (rel_start h1 ha) hd ⟨fun W σ Γ _ R e => ?_, fun W σ Γ y v _ R o ⟨r, e, z⟩ => ?_, fun W σ Γ o p ho _ R hp oh ⟨xs, e, z⟩ => ?_, fun W σ Γ _ R e => e, fun W σ Γ _ R e => e, fun W σ Γ c _ R e => e⟩⟩
    · exact q .non W.H .none (fun a o e => R.base a o e fun z => z) .non e
    · exact q v W.H r (fun a o e => R.base a o e fun z => z) (ret_ok R o e) z
    · subst e
      obtain ⟨us, rfl, hu⟩ := oh
      have h0 : H p = none := by
        cases e : H p with
        | none => rfl
        | some o => have := R.base p o e (fun z => z); rw [hp] at this; cases this
      refine q (.ref p) _ (.list xs) (fun a o e => ?_) (.lst (less_some.mpr ⟨by rw [h0]; exact fun z => z, upd_same⟩) (hu.same (same_less fun a o nx e => ⟨fun z => nx (.inl z), ?_⟩))) z
      · have b := R.base a o e (fun z => z)
        rw [upd_ne (ne_of_none b hp)]
        exact b
      · rw [upd_ne (ne_of_none e hp)]
        exact e
abbrev FEnds (Qd : OD → Prop) : DE := { nx := fun _ => False, rt := fun x Γ => ∃ r, retFresh Γ x = some r ∧ Qd r, rn := fun o _ => Qd o }
theorem fresh_ok {x qual : Str} {st : Stmt} {f : Addr} {fd : FuncData} {N ps : List Str} {k : Nat} {C : List PyData → (OD → Prop) → Prop} (Fn : L2.Fun K x qual st f fd) (S : FnScope N ps (defScope st)) (hl : ∀ ds Qd, C ds Qd → ds.length = ps.length)
    (hbody : ∀ (cdv : Value) (A : Around) (outer : List Env) (s : Shared) (H : Hp) (E : XK), Room k (A.deeper (envOfC qual (defScope st) s.heap.objs.size f cdv)) →
      ∃ t, PSs (cxOf CX0 P w K mg base N qual (defScope st) f cdv A outer s H E).nox (defBody st) t ∧ ∃ d, SS K X0 t d ∧ ∀ ds Qd, C ds Qd → ∃ sl, Paired argOk sl ds ∧ d (FEnds Qd) (startG N sl)) : FnOk P w K mg base CX0 (k + 1) f fd ps (FreshSp K C) := by
  refine Fn.ok S (fun vs H Q E h => ?_) (fun cdv A outer s H vs Q E hr h => ?_)
  · obtain ⟨ds, Qd, h1, h2, _⟩ := h
    rw [h1.length]
    exact hl ds Qd h2
  · obtain ⟨ds, Qd, h1, h2, q⟩ := h
    obtain ⟨t, ht, d, hs, hd⟩ := hbody cdv A outer s H E hr
    obtain ⟨sl, ha, hd⟩ := hd ds Qd h2
    refine ⟨t, ht, hs.run (F0 K H) ⟨fun _ => False, fun _ => [], H⟩ (start N vs) (startG N sl) _ _ (rel_start h1 ha) hd ⟨fun W σ Γ _ R e => e.elim, fun W σ Γ y v _ R o ⟨r, e, z⟩ => ?_, fun W σ Γ o p ho _ R hp oh z => ?_, fun W σ Γ _ R e => e, fun W σ Γ _ R e => e, fun W σ Γ c _ R e => e⟩⟩
    · obtain ⟨p, ho, rfl, g1, g2, g3, g4⟩ := retFresh_ok R o e
      have := q p ho (dropH W.H p) r (fun a o e => ?_) dropH_at g4 z
      · rw [dropH_upd g1] at this
        exact this
      · rw [dropH_ne]
        · exact R.base a o e fun z => z
        · intro z
          have e' : H p = some o := z ▸ e
          rw [show H p = none from g2] at e'
          cases e'
    · exact q p ho W.H o (fun a o e => R.base a o e fun z => z) hp (oh.same (same_less fun a o nx e => ⟨fun z => nx (.inl z), e⟩)) z
end
end Dk

namespace Dk
open PySem PySem.Spec PyProof.Rows L2
/-! ### defs whose first argument is changed -/
section
variable {P : Program} {w : World} {K : Fg} {mg : Str → Option Value} {base : Heap} {I : Hp → Addr → List Addr → Prop}
noncomputable abbrev Fr (K : Fg) (H : Hp) (p : Addr) (f : List Addr) (hm : ∀ a ∈ f, Mo (H a)) : Fx K := { H0 := H, rf := fun a => a ∈ f, rp := fun i => if i = 0 then some (p, f) else none, rm := hm }
noncomputable abbrev Wr (H : Hp) (f : List Addr) : Wd := ⟨fun a => a ∈ f, fun i => if i = 0 then f else [], H⟩
theorem rel_startR [A : AbI I] {H : Hp} {N : List Str} {p : Addr} {f : List Addr} {vs : List V} {ds : List PyData} {sl : List Sl} (hI : I H p f) (h : DqAll K (less H fun a => a ∈ f) vs ds) (ha : Paired argOk sl ds) :
    Rel (Fr K H p f fun a z => (A.mo hI a z).1) (Wr H f) (L2.start N (.ref p :: vs)) (startG N (.rf (.ab I) :: sl)) := by
  have hl : vs.length = sl.length := by rw [h.length, Paired.length ha]
  have own : ∀ (i : Nat) (s : Sl) (o : OD), (startG N (.rf (.ab I) :: sl))[i]? = some s → s.own? = some o → i = 0 := fun i s o e g => by
    rcases startG_get e with e | e
    · cases i with
      | zero => rfl
      | succ i =>
        obtain ⟨d, q1, q2⟩ := paired_get ha (by simpa using e)
        rcases q2 with rfl | ⟨rfl, _⟩ <;> cases g
    · subst e
      cases g
  refine ⟨fun a o e _ => e, fun a z => .inr z, fun a z => (A.mo hI a z).1, fun a z => z, by simp [L2.start, startG, hl], fun i s e => ?_, fun i j s t oi oj a ne e1 e2 g1 g2 => ?_⟩
  · rcases startG_get e with e | e
    · cases i with
      | zero =>
        cases e
        exact ⟨p, ⟨f, rfl, fun _ => rfl⟩, start_get rfl, fun a ha => ha, A.mem hI, hI, (fun H' hk ht => A.st hI hk ht), fun a ha => A.mo hI a ha⟩
      | succ i =>
        obtain ⟨d, e1, e2⟩ := paired_get ha (by simpa using e)
        obtain ⟨v, g1, g2⟩ := h.get e1
        have g1' : (V.ref p :: vs)[i + 1]? = some v := by simpa using g1
        rcases e2 with rfl | ⟨rfl, ht⟩
        · exact ⟨v, start_get g1', g2⟩
        · refine ⟨v, start_get g1', Dq.tupO_less (H' := H) (fun a z => ?_) _ _ ht (g2.same less_same)⟩
          rcases z with z | z
          · exact z
          · exact (A.mo hI a z).1
    · subst e
      trivial
  · exact absurd ((own i s oi e1 g1).trans (own j t oj e2 g2).symm) ne
theorem rf_end [A : AbI I] {H : Hp} {p : Addr} {f : List Addr} {W : Wd} {σ : L2.St} {Γ : G} {hm : ∀ a ∈ f, Mo (H a)} (R : Rel (Fr K H p f hm) W σ Γ) (h : Γ[0]? = some (.rf (.ab I))) : I W.H p f := by
  obtain ⟨p', ⟨f0, e0, ef⟩, e1, e2, e3⟩ := R.slot 0 _ h
  have e0' : some (p, f) = some (p', f0) := e0
  cases e0'
  cases ef rfl
  exact e3.2.1
abbrev REnds (I : Hp → Addr → List Addr → Prop) (Qd : PyData → Prop) : DE := { nx := fun Γ => Γ[0]? = some (.rf (.ab I)) ∧ Qd .none, rt := fun x Γ => Γ[0]? = some (.rf (.ab I)) ∧ ∃ r, retOf Γ x = some r ∧ Qd r, rn := fun o Γ => Γ[0]? = some (.rf (.ab I)) ∧ ∃ xs, o = .lst xs ∧ Qd (.list xs) }
theorem ref_ok [A1 : AbI I] {x qual : Str} {st : Stmt} {f : Addr} {fd : FuncData} {N ps : List Str} {k : Nat} {C : List PyData → (PyData → Prop) → Prop} (Fn : L2.Fun K x qual st f fd) (S : FnScope N ps (defScope st)) (hl : ∀ ds Qd, C ds Qd → ds.length + 1 = ps.length)
    (hbody : ∀ (cdv : Value) (A : Around) (outer : List Env) (s : Shared) (H : Hp) (E : XK), Room k (A.deeper (envOfC qual (defScope st) s.heap.objs.size f cdv)) →
      ∃ t, PSs (cxOf CX0 P w K mg base N qual (defScope st) f cdv A outer s H E).nox (defBody st) t ∧ ∃ d, SS K X0 t d ∧ ∀ ds Qd, C ds Qd → ∃ sl, Paired argOk sl ds ∧ d (REnds I Qd) (startG N (.rf (.ab I) :: sl))) : FnOk P w K mg base CX0 (k + 1) f fd ps (RefSp K I C) := by
  refine Fn.ok S (fun vs H Q E h => ?_) (fun cdv A outer s H vs Q E hr h => ?_)
  · obtain ⟨p, g, us, ds, Qd, rfl, h0, h1, h2, _⟩ := h
    rw [List.length_cons, h1.length]
    exact hl ds Qd h2
  · obtain ⟨p, g, us, ds, Qd, rfl, h0, h1, h2, q⟩ := h
    obtain ⟨t, ht, d, hs, hd⟩ := hbody cdv A outer s H E hr
    obtain ⟨sl, ha, hd⟩ := hd ds Qd h2
    refine ⟨t, ht, hs.run (Fr K H p g fun a z => (A1.mo h0 a z).1) (Wr H g) _ _ _ _ (rel_startR h0 h1 ha) hd ⟨fun W σ Γ _ R ⟨e0, e⟩ => ?_, fun W σ Γ y v _ R o ⟨e0, r, e, z⟩ => ?_, fun W σ Γ o l ho _ R hp oh ⟨e0, xs, e, z⟩ => ?_, fun W σ Γ _ R e => e, fun W σ Γ _ R e => e, fun W σ Γ c _ R e => e⟩⟩
    · exact q .non W.H .none (fun a o n e => R.base a o e n) (rf_end R e0) .non e
    · exact q v W.H r (fun a o n e => R.base a o e n) (rf_end R e0) (ret_ok R o e) z
    · subst e
      obtain ⟨us', rfl, hu⟩ := oh
      have nl := R.free hp
      have ng : l ∉ g := fun z => nl (.inr (R.rfo l z))
      have h0' : H l = none := by
        cases e : H l with
        | none => rfl
        | some o => have := R.base l o e ng; rw [hp] at this; cases this
      have hS : ∀ a o, W.H a = some o → (upd W.H l (.lst us')) a = some o := fun a o e => by
        rw [upd_ne (ne_of_none e hp)]
        exact e
      refine q (.ref l) _ (.list xs) (fun a o n e => hS a o (R.base a o e n)) ?_ (.lst (less_some.mpr ⟨by rw [h0']; exact fun z => z, upd_same⟩) (hu.same (same_less fun a o nx e => ⟨fun z => nx (.inl z), hS a o e⟩))) z
      refine AbI.st (rf_end R e0) (fun a ha => ?_) fun a o nm e => hS a o e
      rw [upd_ne]
      intro z
      exact ng (z ▸ ha)
abbrev RFEnds (I : Hp → Addr → List Addr → Prop) (Qd : OD → Prop) : DE := { nx := fun _ => False, rt := fun x Γ => Γ[0]? = some (.rf (.ab I)) ∧ ∃ r, retFresh Γ x = some r ∧ Qd r, rn := fun o Γ => Γ[0]? = some (.rf (.ab I)) ∧ Qd o }
theorem refFresh_ok [A1 : AbI I] {x qual : Str} {st : Stmt} {f : Addr} {fd : FuncData} {N ps : List Str} {k : Nat} {C : List PyData → (OD → Prop) → Prop} (Fn : L2.Fun K x qual st f fd) (S : FnScope N ps (defScope st)) (hl : ∀ ds Qd, C ds Qd → ds.length + 1 = ps.length)
    (hbody : ∀ (cdv : Value) (A : Around) (outer : List Env) (s : Shared) (H : Hp) (E : XK), Room k (A.deeper (envOfC qual (defScope st) s.heap.objs.size f cdv)) →
      ∃ t, PSs (cxOf CX0 P w K mg base N qual (defScope st) f cdv A outer s H E).nox (defBody st) t ∧ ∃ d, SS K X0 t d ∧ ∀ ds Qd, C ds Qd → ∃ sl, Paired argOk sl ds ∧ d (RFEnds I Qd) (startG N (.rf (.ab I) :: sl))) : FnOk P w K mg base CX0 (k + 1) f fd ps (RefFreshSp K I C) := by
  refine Fn.ok S (fun vs H Q E h => ?_) (fun cdv A outer s H vs Q E hr h => ?_)
  · obtain ⟨p, g, us, ds, Qd, rfl, h0, h1, h2, _⟩ := h
    rw [List.length_cons, h1.length]
    exact hl ds Qd h2
  · obtain ⟨p, g, us, ds, Qd, rfl, h0, h1, h2, q⟩ := h
    obtain ⟨t, ht, d, hs, hd⟩ := hbody cdv A outer s H E hr
    obtain ⟨sl, ha, hd⟩ := hd ds Qd h2
    refine ⟨t, ht, hs.run (Fr K H p g fun a z => (A1.mo h0 a z).1) (Wr H g) _ _ _ _ (rel_startR h0 h1 ha) hd ⟨fun W σ Γ _ R e => e.elim, fun W σ Γ y v _ R o ⟨e0, r, e, z⟩ => ?_, fun W σ Γ o l ho _ R hp oh ⟨e0, z⟩ => ?_, fun W σ Γ _ R e => e, fun W σ Γ _ R e => e, fun W σ Γ c _ R e => e⟩⟩
    · obtain ⟨l, ho, rfl, g1, g2, g3, g4⟩ := retFresh_ok R o e
      have ne : ∀ a o, H a = some o → a ≠ l := fun a o e z => by
        rw [z] at e
        rw [show H l = none from g2] at e
        cases e
      have := q l ho (dropH W.H l) r (fun a o n e => ?_) ?_ dropH_at g4 z
      · rw [dropH_upd g1] at this
        exact this
      · rw [dropH_ne (ne a o e)]
        exact R.base a o e n
      · have i1 := rf_end R e0
        have nl : l ∉ g := g3
        refine AbI.st i1 (fun a ha => dropH_ne fun z => nl (z ▸ ha)) fun a u nm eu => ?_
        have i0 : a ≠ l := fun z => by
          rw [z, g1] at eu
          cases eu
          exact nm (mo_ownH g4)
        rw [dropH_ne i0]
        exact eu
    · exact q l ho W.H o (fun a o n e => R.base a o e n) (rf_end R e0) hp (oh.same (same_less fun a o nx e => ⟨fun z => nx (.inl z), e⟩)) z
end
/-! isinstance: the kinds of data -/
theorem kb_NoneType_int : kitB "NoneType" "int" = some false := by decide +kernel
theorem kb_NoneType_bool : kitB "NoneType" "bool" = some false := by decide +kernel
theorem kb_NoneType_str : kitB "NoneType" "str" = some false := by decide +kernel
theorem kb_NoneType_list : kitB "NoneType" "list" = some false := by decide +kernel
theorem kb_NoneType_tuple : kitB "NoneType" "tuple" = some false := by decide +kernel
theorem kb_bool_int : kitB "bool" "int" = some true := by decide +kernel
theorem kb_bool_bool : kitB "bool" "bool" = some true := by decide +kernel
theorem kb_bool_str : kitB "bool" "str" = some false := by decide +kernel
theorem kb_bool_list : kitB "bool" "list" = some false := by decide +kernel
theorem kb_bool_tuple : kitB "bool" "tuple" = some false := by decide +kernel
theorem kb_int_int : kitB "int" "int" = some true := by decide +kernel
theorem kb_int_bool : kitB "int" "bool" = some false := by decide +kernel
theorem kb_int_str : kitB "int" "str" = some false := by decide +kernel
theorem kb_int_list : kitB "int" "list" = some false := by decide +kernel
theorem kb_int_tuple : kitB "int" "tuple" = some false := by decide +kernel
theorem kb_str_int : kitB "str" "int" = some false := by decide +kernel
theorem kb_str_bool : kitB "str" "bool" = some false := by decide +kernel
theorem kb_str_str : kitB "str" "str" = some true := by decide +kernel
theorem kb_str_list : kitB "str" "list" = some false := by decide +kernel
theorem kb_str_tuple : kitB "str" "tuple" = some false := by decide +kernel
theorem kb_list_int : kitB "list" "int" = some false := by decide +kernel
theorem kb_list_bool : kitB "list" "bool" = some false := by decide +kernel
theorem kb_list_str : kitB "list" "str" = some false := by decide +kernel
theorem kb_list_list : kitB "list" "list" = some true := by decide +kernel
theorem kb_list_tuple : kitB "list" "tuple" = some false := by decide +kernel
theorem kb_tuple_int : kitB "tuple" "int" = some false := by decide +kernel
theorem kb_tuple_bool : kitB "tuple" "bool" = some false := by decide +kernel
theorem kb_tuple_str : kitB "tuple" "str" = some false := by decide +kernel
theorem kb_tuple_list : kitB "tuple" "list" = some false := by decide +kernel
theorem kb_tuple_tuple : kitB "tuple" "tuple" = some true := by decide +kernel
theorem iteFb {b : Bool} {A B : Prop} (h : b = false) (q : B) : if b = true then A else B := by subst h; exact iteF q
theorem iteTb {b : Bool} {A B : Prop} (h : b = true) (q : A) : if b = true then A else B := by subst h; exact iteT q
theorem ite2b {b : Bool} {A B : Prop} (h1 : b = true → A) (h2 : b = false → B) : if b = true then A else B := by cases b with
  | true => exact iteT (h1 rfl)
  | false => exact iteF (h2 rfl)
/-! ### loops by the part that is gone through -/
theorem take_snoc {α : Type} {xs : List α} {k : Nat} {x : α} (h : xs[k]? = some x) : xs.take (k + 1) = xs.take k ++ [x] := by
  rw [List.take_add_one, h]
  rfl
theorem map_get {α : Type} {f : α → PyData} {xs : List α} {k : Nat} {d : PyData} (h : (xs.map f)[k]? = some d) : ∃ x, xs[k]? = some x ∧ d = f x := by
  rw [List.getElem?_map] at h
  obtain ⟨x, h1, h2⟩ := Option.map_eq_some_iff.mp h
  exact ⟨x, h1, h2.symm⟩
theorem cut_at {α : Type} {xs : List α} {k : Nat} {x : α} (h : xs[k]? = some x) : xs = xs.take k ++ x :: xs.drop (k + 1) := by
  have hk := lt_of_get h
  have e : xs[k] = x := by
    rw [List.getElem?_eq_getElem hk] at h
    exact Option.some.inj h
  rw [← e, List.getElem_cons_drop, List.take_append_drop]
section
variable {α : Type} {xs : List α} {f : α → PyData} {dg : TGd} {db : TSd} {E : DE} {Γ2 : G} {kd : PyData → RV}
/-- for x in xs: what holds between two turns, by the part that is gone through -/
theorem for_pre (I : List α → G → Prop) (h0 : I [] Γ2) (step : ∀ (pre : List α) (x : α) (post : List α) (Γ' : G), xs = pre ++ x :: post → I pre Γ' → dg (kd (f x)) Γ' fun Γ3 => db (E.lp (I (pre ++ [x]))) Γ3) (done : ∀ Γ', I xs Γ' → E.nx Γ') :
    ∃ J : Nat → G → Prop, J 0 Γ2 ∧ (∀ k d Γ', (xs.map f)[k]? = some d → J k Γ' → dg (kd d) Γ' fun Γ3 => db (E.lp (J (k + 1))) Γ3) ∧ ∀ Γ', J (xs.map f).length Γ' → E.nx Γ' := by
  refine ⟨fun k Γ => I (xs.take k) Γ, by simpa using h0, fun k d Γ' hd hi => ?_, fun Γ' hi => ?_⟩
  · obtain ⟨x, hx, rfl⟩ := map_get hd
    have e := take_snoc hx
    have s := step (xs.take k) x (xs.drop (k + 1)) Γ' (cut_at hx) hi
    rw [← e] at s
    exact s
  · rw [List.length_map, List.take_length] at hi
    exact done Γ' hi
end
section
variable {α : Type} {xs : List α} {f : α → PyData} {dg : TGd} {dt : TTd} {de : TEd} {vs : List Nat} {Γ2 : G} {kd : PyData → RV} {Q : OD → G → Prop}
/-- a comprehension by the part that is gone through -/
theorem lc_pre {R : List PyData → G → Prop} (I : List α → List PyData → G → Prop) (h0 : I [] [] (wipeG Γ2 vs)) (step : ∀ (pre : List α) (x : α) (post : List α) (acc : List PyData) (Γ' : G), xs = pre ++ x :: post → I pre acc Γ' → LcTurn dg dt de vs (kd (f x)) Γ' fun o Γ5 => I (pre ++ [x]) (acc ++ o.toList) Γ5) (done : ∀ acc Γ', I xs acc Γ' → R acc Γ') :
    ∃ J : Nat → List PyData → G → Prop, J 0 [] (wipeG Γ2 vs) ∧ (∀ k d acc Γ', (xs.map f)[k]? = some d → J k acc Γ' → LcTurn dg dt de vs (kd d) Γ' fun o Γ5 => J (k + 1) (acc ++ o.toList) Γ5) ∧ ∀ acc Γ', J (xs.map f).length acc Γ' → R acc Γ' := by
  refine ⟨fun k acc Γ => I (xs.take k) acc Γ, by simpa using h0, fun k d acc Γ' hd hi => ?_, fun acc Γ' hi => ?_⟩
  · obtain ⟨x, hx, rfl⟩ := map_get hd
    have e := take_snoc hx
    have s := step (xs.take k) x (xs.drop (k + 1)) acc Γ' (cut_at hx) hi
    rw [← e] at s
    exact s
  · rw [List.length_map, List.take_length] at hi
    exact done acc Γ' hi
/-- .. whose items are told one by one, and nothing else is changed -/
theorem lc_map {R : List PyData → G → Prop} (h : α → Option PyData) (step : ∀ (x : α), x ∈ xs → ∀ P : Option PyData → G → Prop, P (h x) (wipeG Γ2 vs) → LcTurn dg dt de vs (kd (f x)) (wipeG Γ2 vs) P) (done : R (xs.filterMap h) (wipeG Γ2 vs)) :
    ∃ J : Nat → List PyData → G → Prop, J 0 [] (wipeG Γ2 vs) ∧ (∀ k d acc Γ', (xs.map f)[k]? = some d → J k acc Γ' → LcTurn dg dt de vs (kd d) Γ' fun o Γ5 => J (k + 1) (acc ++ o.toList) Γ5) ∧ ∀ acc Γ', J (xs.map f).length acc Γ' → R acc Γ' := by
  refine lc_pre (fun pre acc Γ => acc = pre.filterMap h ∧ Γ = wipeG Γ2 vs) ⟨rfl, rfl⟩ (fun pre x post acc Γ' e hi => ?_) fun acc Γ' hi => ?_
  · obtain ⟨rfl, rfl⟩ := hi
    refine step x (by rw [e]; simp) _ ⟨?_, rfl⟩
    rw [List.filterMap_append]
    cases e' : h x <;> simp [e']
  · obtain ⟨rfl, rfl⟩ := hi
    exact done
/-- .. over a range -/
theorem lcR_map {R : List PyData → G → Prop} {n : Nat} {lo : Int} (h : Nat → Option PyData) (step : ∀ (k : Nat), k < n → ∀ P : Option PyData → G → Prop, P (h k) (wipeG Γ2 vs) → LcTurn dg dt de vs (.sh (.int (lo + k))) (wipeG Γ2 vs) P) (done : R ((List.range n).filterMap h) (wipeG Γ2 vs)) :
    ∃ J : Nat → List PyData → G → Prop, J 0 [] (wipeG Γ2 vs) ∧ (∀ k acc Γ', k < n → J k acc Γ' → LcTurn dg dt de vs (.sh (.int (lo + k))) Γ' fun o Γ5 => J (k + 1) (acc ++ o.toList) Γ5) ∧ ∀ acc Γ', J n acc Γ' → R acc Γ' := by
  refine ⟨fun k acc Γ => acc = (List.range k).filterMap h ∧ Γ = wipeG Γ2 vs, ⟨rfl, rfl⟩, fun k acc Γ' hk hi => ?_, fun acc Γ' hi => ?_⟩
  · obtain ⟨rfl, rfl⟩ := hi
    refine step k hk _ ⟨?_, rfl⟩
    rw [List.range_succ, List.filterMap_append]
    cases e' : h k <;> simp [e']
  · obtain ⟨rfl, rfl⟩ := hi
    exact done
end
end Dk

namespace Dk
open PySem PySem.Spec PyProof.Rows L2
section
variable {K : Fg} {ta tb : TE} {da db : TEd}
/-- a list times a number -/
def dRep (da db : TEd) : TFd := fun Γ Q => da Γ fun x Γ1 => db Γ1 fun y Γ2 => ∃ ds k, lstOf Γ2 x = some ds ∧ dat Γ2 y = some (.int k) ∧ keepable x ds ∧ -(2 ^ 63) ≤ k ∧ k < 2 ^ 63 ∧ ds.length * k.toNat ≤ sizeLine ∧ Q (.lst (repD ds k.toNat)) Γ2
theorem DqAll.rep {H : Hp} {vs : List V} {ds : List PyData} (h : DqAll K H vs ds) : ∀ n : Nat, DqAll K H (List.replicate n vs).flatten (repD ds n)
  | 0 => .nil
  | n + 1 => by
    unfold repD
    rw [List.replicate_succ, List.replicate_succ, List.flatten_cons, List.flatten_cons]
    exact h.app (DqAll.rep h n)
instance sf_rep [SE K ta da] [SE K tb db] : SEF K (tOp rRep ta tb) (dRep da db) := ⟨fun F W σ Γ Q Qd R q k => two R q fun x y W' Γ' u v s' R' o1 o2 ⟨ds, n, e1, e2, k1, h1, h2, hl, q⟩ => by
  obtain ⟨a, xs, rfl, g1, g2, _⟩ := lstOf_ok R' o1 e1
  have hd := keep_ok R' g2 k1
  have hv := int_of (o2.full R' e2)
  subst hv
  exact ⟨a, n, xs, rfl, rfl, g1, h1, h2, by rw [hd.length]; exact hl, fun p hp => k (.lst (repD ds n.toNat)) W' Γ' p _ s' R' hp ⟨_, rfl, DqAll.rep hd _⟩ q⟩⟩
/-- a statement that is never come to -/
def tDead : TS := fun _ _ _ => False
def dDead : TSd := fun _ _ => False
theorem ps_dead {X : Cx} {st : Stmt} : PS X st tDead := ⟨fun _ _ _ _ _ _ h => h.elim⟩
instance ss_dead {Xw : WX} : SS K Xw tDead dDead := ⟨fun _ _ _ _ _ _ _ h _ => h.elim⟩
/-- list.extend by a tuple, whatever else the tuple's object has -/
theorem extT_meets (l b : Addr) (xs ys : Array Value) (n m : Nat) (dd : Option Addr) (sl : Array (Option Value)) (h0 : ¬(!xs.isEmpty && Builtin.List.listTooLong (xs.size + ys.size)) = true) (h1 : xs.size ≤ sizeLine) (h2 : xs.size + ys.size ≤ sizeLine + 1) :
    Meets (Builtin.«list.extend» ⟨[.ref l, .ref b], []⟩) (fun _ R st => st.heap.get? l = some { cls := .type "list", dict := none, data := .seq xs n, slots := #[] } ∧ st.heap.get? b = some { cls := .type "tuple", dict := dd, data := .seq ys m, slots := sl } ∧ R (.ok (.ret Value.none)) { st with heap := st.heap.update l (Obj.mapSeq fun x => x ++ ys), toks := st.toks }) :=
  .of_wp fun prog w A R st h => by
    obtain ⟨hp, gn, dr, tk, os⟩ := st
    obtain ⟨at1, at2, h⟩ := h
    have t1 := PySem.AutoSeq1.sub_tuple_tuple
    have t2 := PySem.AutoSeq1.sub_list_list
    have t3 := PySem.AutoSeq1.sub_tuple_list
    have t4 := PySem.AutoSeq1.sub_list_tuple
    have hz : (xs ++ ys).size ≤ sizeLine + 1 := by rw [Array.size_append]; exact h2
    wp_walk using (wpAny_updateSeq at1 rfl (hz := h1) (_hz' := hz)), PySem.AutoSeq1.wpAny_loadPart' at1, PySem.AutoSeq1.wpAny_loadPart' at2
    exact ⟨_, rfl, h⟩
def rExtT (K : Fg) : V → List V → Hp → VK → Prop := fun x vs H Q => ∃ l b xs zs, x = .ref l ∧ vs = [.ref b] ∧ H l = some (.lst xs) ∧ SqT K H b zs ∧ xs.length + zs.length ≤ sizeLine ∧ Q .non (upd H l (.lst (xs ++ zs)))
theorem mt_extT {X : Cx} : MtR X "list.extend" (rExtT X.K) := by
  intro pn st σ H x vs v us Q J rx rv ⟨l, b, xs, zs, e1, e2, hl, hb, fit, q⟩
  subst e1 e2
  cases rx
  obtain ⟨u, rfl, ru⟩ := rv.one
  cases ru
  obtain ⟨_, its, n, r1, len1, at1⟩ := J.lstM hl
  obtain ⟨its2, r2, ⟨⟨cls, dd, data, sl⟩, at2, hc, m, hd⟩, _⟩ := J.tuple hb
  simp only at hc hd
  subst hc hd
  have s1 : its.toArray.size = xs.length := by rw [List.size_toArray, len1]
  have s2 : its2.toArray.size = zs.length := by rw [List.size_toArray, ← r2.length]
  have nl : ¬(!its.toArray.isEmpty && Builtin.List.listTooLong (its.toArray.size + its2.toArray.size)) = true := by
    rw [notLongL (by omega), Bool.and_false]
    exact Bool.false_ne_true
  refine call_meets F.slot_list_extend ⟨_, at1, rfl⟩ F.entry_list_extend (F.args_list_extend_2 _ _) (extT_meets l b its.toArray its2.toArray n m dd sl nl (by omega) (by omega)) ⟨at1, at2, ?_⟩
  exact ⟨.non, _, J.lset (its' := its ++ its2) hl at1 (by simp) (r1.append r2) (by rw [List.length_append]; omega), rfl, q⟩
theorem kextT {X : Cx} (K : Fg) (h : X.K = K := by rfl) : MtR X "list.extend" (rExtT K) := h ▸ mt_extT
variable {te : TE} {de : TEd}
def dExtT (i : Nat) (de : TEd) : TEd := fun Γ Q => (ownL Γ i).isSome = true ∧ de Γ fun x Γ1 => ∃ ds es, ownL Γ1 i = some ds ∧ tupOf Γ1 x = some es ∧ keepable x es ∧ ds.length + es.length ≤ sizeLine ∧ Q (.sh .none) (putL Γ1 i (ds ++ es))
instance se_extT {i : Nat} [A : SE K te de] : SE K (tBM K "list" (rExtT K) (tVar i) (tCons te tNil)) (dExtT i de) := ⟨fun F W σ Γ Q Qd R ⟨h0, q⟩ k => by
  obtain ⟨ds0, h0⟩ := Option.isSome_iff_exists.mp h0
  obtain ⟨s0, a1, a2, _⟩ := ownL_of h0
  obtain ⟨p, e0⟩ := own_ref R a1 a2
  obtain ⟨vs0, b1, b2⟩ := own_lst R a1 a2 e0
  refine ⟨.ref p, e0, .inl ⟨rfl, _, SqL.of b1⟩, ?_⟩
  refine A.run F W σ Γ _ _ R q fun x W' Γ' v s' R' o ⟨ds, es, h1, e2, hk, hl, q⟩ => ?_
  obtain ⟨s, c1, c2, c3⟩ := ownL_of h1
  obtain ⟨vs, b1, b2⟩ := own_lst R' c1 c2 e0
  obtain ⟨b, ys, rfl, g1, g2, g3⟩ := tupOf_ok R' o e2
  have he := keep_ok R' g2 hk
  have hh : OwnH K (W'.S F) (.lst (vs ++ ys)) (.lst (ds ++ es)) := ⟨_, rfl, b2.app he⟩
  refine ⟨p, b, vs, ys, rfl, rfl, b1, g1.sq, by rw [b2.length, he.length]; exact hl, ?_⟩
  rw [c3] at q
  exact k _ { W' with H := upd W'.H p (.lst (vs ++ ys)) } _ _ (s'.trans (Stp.put R' c1 c2 rfl e0 hh)) (R'.put c1 c2 rfl e0 hh).1 .non q⟩
/-- int(x) of a number or of a truth -/
def rInt1 : List V → Hp → VK → Prop := fun xs H Q => (∃ i, xs = [.int i] ∧ Q (.int i) H) ∨ ∃ k, xs = [.bl k] ∧ Q (.int (if k then 1 else 0)) H
theorem b_int {X : Cx} : CallR X (.type "int") rInt1 := call_int1
def numD : PyData → Option Int
  | .int i => some i
  | .bool b => some (if b then 1 else 0)
  | _ => none
def dInt1 (da : TEd) : TEd := fun Γ Q => da Γ fun x Γ1 => ∃ d i, dat Γ1 x = some d ∧ numD d = some i ∧ Q (.sh (.int i)) Γ1
instance se_int1 [SE K ta da] : SE K (tCB rInt1 (tCons ta tNil)) (dInt1 da) := ⟨fun F W σ Γ Q Qd R q k => one (ta := ta) (da := da) R q fun x W' Γ' v s' R' o ⟨d, i, e, e2, q⟩ => by
  cases d with
  | int j =>
    cases e2
    exact .inl ⟨_, by rw [int_of (o.full R' e)], k _ W' Γ' _ s' R' (.int _) q⟩
  | bool b =>
    cases e2
    exact .inr ⟨_, by rw [bl_of (o.full R' e)], k _ W' Γ' _ s' R' (.int _) q⟩
  | _ => cases e2⟩
end
end Dk

namespace Dk
open PySem PySem.Spec PyProof.Rows L2
/-! ### xs[i] += e -/
theorem get_listP {X : Cx} : PGet X (rIxL X.K) := by
  intro pins s σ H o i ov iv Q I rx ry h
  obtain ⟨p, xs, k, z, rfl, rfl, hq, he, q⟩ := h
  cases rx
  obtain ⟨t, rfl⟩ := ry
  obtain ⟨its, r, pl, hz⟩ := I.list hq
  obtain ⟨j, h1, h2, h3, h4, h5⟩ := atI_get he
  obtain ⟨w, ew, rw'⟩ := r.get h2
  have hl := r.length
  have hn := line63
  have fin : EP X pins σ Q w s := ⟨z, H, I, rw', q⟩
  by_cases h0 : 0 ≤ k
  · have hj : k.toNat = j := by
      rw [seqIndex_of h0 h5] at h1
      exact Option.some.inj h1
    exact wpAny_getItem_list pl.isList h0 (by omega) (by rw [hj]; simpa using ew) fin
  · have hj : (k + (its.toArray.size : Int)).toNat = j := by
      rw [seqIndex_neg (by omega) h4] at h1
      rw [List.size_toArray, ← hl]
      exact Option.some.inj h1
    exact wpAny_getItem_list_neg pl.isList (by omega) (by rw [List.size_toArray] <;> omega) (by omega) (by rw [hj]; simpa using ew) fin
theorem kgetL {X : Cx} (K : Fg) (h : X.K = K := by rfl) : PGet X (rIxL K) := h ▸ get_listP
section
variable {K : Fg} {ti te : TE} {di de : TEd}
def dAugL (i : Nat) (h : Int → Int → Int) (di de : TEd) : TSd := fun E Γ => (ownL Γ i).isSome = true ∧ di Γ fun y Γ1 => ∃ k j ds a, dat Γ1 y = some (.int k) ∧ ownL Γ1 i = some ds ∧ atI ds k = some (.int a) ∧
  de Γ1 fun z Γ2 => ∃ b ds2, dat Γ2 z = some (.int b) ∧ ownL Γ2 i = some ds2 ∧ ixN ds2.length k = some j ∧ E.nx (putL Γ2 i (ds2.set j (.int (h a b))))
instance ss_augL {Xw : WX} {i : Nat} {h : Int → Int → Int} [A : SE K ti di] [B : SE K te de] : SS K Xw (tAugS (tVar i) ti te (rIxL K) (ipI h) rSetL) (dAugL i h di de) := ⟨fun F W σ Γ D E R ⟨h0, q⟩ L => by
  obtain ⟨ds0, h0⟩ := Option.isSome_iff_exists.mp h0
  obtain ⟨s0, a1, a2, _⟩ := ownL_of h0
  obtain ⟨p, e0⟩ := own_ref R a1 a2
  refine ⟨.ref p, e0, A.run F W σ Γ _ _ R q fun y W1 Γ1 u s1 R1 o1 ⟨k, j, ds, a, e1, h1, e2, q⟩ => ?_⟩
  obtain ⟨s, c1, c2, c3⟩ := ownL_of h1
  obtain ⟨vs, b1, b2⟩ := own_lst R1 c1 c2 e0
  obtain ⟨z, g1, g2⟩ := paired_atI (paired_of b2) e2
  refine ⟨p, vs, k, z, rfl, int_of (o1.full R1 e1), SqL.of b1, g1, ?_⟩
  refine B.run F W1 σ Γ1 _ _ R1 q fun y2 W2 Γ2 u2 s2 R2 o2 ⟨b, ds2, e3, h2, e4, q⟩ => ?_
  refine ⟨a, b, int_of g2, int_of (o2.full R2 e3), ?_⟩
  obtain ⟨s', d1, d2, d3⟩ := ownL_of h2
  obtain ⟨vs2, b1', b2'⟩ := own_lst R2 d1 d2 e0
  have hh : OwnH K (W2.S F) (.lst (vs2.set j (.int (h a b)))) (.lst (ds2.set j (.int (h a b)))) := ⟨_, rfl, b2'.setAt (.int _)⟩
  refine ⟨p, vs2, k, j, rfl, int_of (o1.full R1 e1), b1', by rw [b2'.length]; exact e4, ?_⟩
  rw [d3] at q
  exact L.nx { W2 with H := upd W2.H p (.lst (vs2.set j (.int (h a b)))) } σ _ (s1.sh.trans (s2.sh.trans (Stp.put R2 d1 d2 rfl e0 hh).sh)) (R2.put d1 d2 rfl e0 hh).1 q⟩
end
end Dk

namespace Dk
open PySem PySem.Spec PyProof.Rows L2
section
variable {K : Fg} {ta tb : TE} {da db : TEd}
/-! ### list(range(a, b)), xs[::-1] -/
def runD (a b : Int) : List PyData := (List.range (b - a).toNat).map fun (i : Nat) => PyData.int (a + (i : Int))
theorem DqAll.ofRun {H : Hp} (a b : Int) : DqAll K H (rgV a b) (runD a b) := by
  unfold rgV runD
  generalize (b - a).toNat = n
  have h := DqAll.ofInts (K := K) (H := H) ((List.range n).map fun (i : Nat) => a + (i : Int))
  rw [List.map_map, List.map_map] at h
  exact h
def dLstRg2 (da db : TEd) : TFd := fun Γ Q => da Γ fun x Γ1 => db Γ1 fun y Γ2 => ∃ i j, dat Γ2 x = some (.int i) ∧ dat Γ2 y = some (.int j) ∧ RgOk i j ∧ Q (.lst (runD i j)) Γ2
instance sf_lstRg2 [SE K ta da] [SE K tb db] : SEF K (tLstRg (tRg2 ta tb)) (dLstRg2 da db) := ⟨fun F W σ Γ Q Qd R q k => two R q fun x y W' Γ' u v s' R' o1 o2 ⟨i, j, e1, e2, h, q⟩ =>
  ⟨i, j, int_of (o1.full R' e1), int_of (o2.full R' e2), h, fun p hp => k (.lst (runD i j)) W' Γ' p _ s' R' hp ⟨_, rfl, DqAll.ofRun i j⟩ q⟩⟩
def dLstRg1 (da : TEd) : TFd := fun Γ Q => da Γ fun x Γ1 => ∃ j, dat Γ1 x = some (.int j) ∧ RgOk 0 j ∧ Q (.lst (runD 0 j)) Γ1
instance sf_lstRg1 [A : SE K ta da] : SEF K (tLstRg (tRg1 ta)) (dLstRg1 da) := ⟨fun F W σ Γ Q Qd R q k => A.run F W σ Γ _ _ R q fun x W' Γ' u s' R' o1 ⟨j, e1, h, q⟩ =>
  ⟨j, int_of (o1.full R' e1), h, fun p hp => k (.lst (runD 0 j)) W' Γ' p _ s' R' hp ⟨_, rfl, DqAll.ofRun 0 j⟩ q⟩⟩
def dRevL (da : TEd) : TFd := fun Γ Q => da Γ fun x Γ1 => ∃ ds, lstOf Γ1 x = some ds ∧ keepable x ds ∧ Q (.lst ds.reverse) Γ1
instance sf_revL [A : SE K ta da] : SEF K (tRevL K ta) (dRevL da) := ⟨fun F W σ Γ Q Qd R q k => A.run F W σ Γ _ _ R q fun x W' Γ' u s' R' o1 ⟨ds, e1, hk, q⟩ => by
  obtain ⟨a, xs, rfl, h1, h2, _⟩ := lstOf_ok R' o1 e1
  exact ⟨a, xs, rfl, SqL.of h1, fun p hp => k (.lst ds.reverse) W' Γ' p _ s' R' hp ⟨_, rfl, (keep_ok R' h2 hk).reverse⟩ q⟩⟩
theorem krevL {X : Cx} (K : Fg) {e : Expr} {te : TE} {k : Nat} {p1 p2 p3 pos : Pos} (he : PE X e te) (h : X.K = K := by rfl) : PE X (.Subscript e (.Slice none none (some (.UnaryOp .USub (.Constant (.int 1) k p1) p2)) p3) pos) (tRevL K te) := h ▸ pe_revL he
end
/-! ### ranges by steps -/
section
variable {K : Fg} {Xw : WX} {ta : TA} {da : TAd} {g : TG} {dg : TGd} {ix vs : List Nat} {tb : TS} {db : TSd} {tt : TT} {dt : TTd} {te : TE} {de : TEd}
theorem ints3 {H : Hp} {vs : List V} {i j k : Int} (h : DqAll K H vs [.int i, .int j, .int k]) : vs = [.int i, .int j, .int k] := DqAll.ints (ns := [i, j, k]) h
def dForC (da : TAd) (dg : TGd) (db : TSd) : TSd := fun E Γ => da Γ fun xs Γ1 => ∃ lo hi c n, dats Γ1 xs = some [.int lo, .int hi, .int c] ∧ RgC lo hi c n ∧ ∃ I : Nat → G → Prop, I 0 Γ1 ∧
  (∀ k Γ', k < n → I k Γ' → dg (.sh (.int (lo + (k : Int) * c))) Γ' fun Γ3 => db (E.lp (I (k + 1))) Γ3) ∧ ∀ Γ', I n Γ' → E.nx Γ'
instance ss_forR3 [A : SA K ta da] [B : SG K g dg ix] [C : SS K Xw tb db] : SS K Xw (tFor (iRng3 ta) g tb) (dForC da dg db) := ⟨fun F W σ Γ D E R q L => A.run F W σ Γ _ _ R q fun xs W1 Γ1 vs s1 R1 o1 ⟨lo, hi, c, n, e, hr, I, i0, step, done⟩ => by
  refine ⟨lo, hi, c, n, ints3 (o1.full R1 e), hr, ?_⟩
  have s12 := s1.sh
  refine for_rangeC (fun k σ' H' => ∃ W' Γ', W'.H = H' ∧ Same (W1.S F) (W'.S F) ∧ Rel F W' σ' Γ' ∧ I k Γ') ⟨W1, Γ1, rfl, Same.refl _, R1, i0⟩ ?_ ?_
  · rintro k σ' H' hk ⟨W', Γ', rfl, s', R', i'⟩
    refine B.run F W' σ' Γ' _ _ _ _ R' (.int _) (step k Γ' hk i') fun W3 σ3 Γ3 k3 f3 R3 q3 => ?_
    refine C.run F W3 σ3 Γ3 _ _ R3 q3 ⟨fun W4 σ4 Γ4 s4 R4 q4 => ⟨W4, Γ4, rfl, (s'.trans k3.sh).trans s4, R4, q4⟩, fun W4 σ4 Γ4 x4 v4 s4 => L.rt W4 σ4 Γ4 x4 v4 (s12.trans ((s'.trans k3.sh).trans s4)), fun W4 σ4 Γ4 o4 p4 h4 s4 => L.rn W4 σ4 Γ4 o4 p4 h4 (s12.trans ((s'.trans k3.sh).trans s4)), fun W4 σ4 Γ4 s4 => L.nx W4 σ4 Γ4 (s12.trans ((s'.trans k3.sh).trans s4)), fun W4 σ4 Γ4 s4 R4 q4 => ⟨W4, Γ4, rfl, (s'.trans k3.sh).trans s4, R4, q4⟩, fun W4 σ4 Γ4 c4 s4 => L.xs W4 σ4 Γ4 c4 (s12.trans ((s'.trans k3.sh).trans s4))⟩
  · rintro σ' H' ⟨W', Γ', rfl, s', R', i'⟩
    exact L.nx W' σ' Γ' (s12.trans s') R' (done Γ' i')⟩
def dLcC (da : TAd) (dg : TGd) (dt : TTd) (de : TEd) (ix vs : List Nat) : TFd := fun Γ Q => da Γ fun xs Γ2 => ∃ lo hi c n, dats Γ2 xs = some [.int lo, .int hi, .int c] ∧ RgC lo hi c n ∧ ownFree Γ2 vs = true ∧ subL ix vs = true ∧ n ≤ sizeLine ∧
  ∃ I : Nat → List PyData → G → Prop, I 0 [] (wipeG Γ2 vs) ∧ (∀ k acc Γ', k < n → I k acc Γ' → LcTurn dg dt de vs (.sh (.int (lo + (k : Int) * c))) Γ' fun o Γ5 => I (k + 1) (acc ++ o.toList) Γ5) ∧ ∀ acc Γ', I n acc Γ' → Q (.lst acc) (backG Γ2 Γ' vs)
instance sf_lcR3 [A : SA K ta da] [B : SG K g dg ix] [T : ST K tt dt] [C : SE K te de] : SEF K (tLc (iRng3 ta) g tt te vs) (dLcC da dg dt de ix vs) := ⟨fun F W σ Γ Q Qd R q kk => A.run F W σ Γ _ _ R q fun xs W2 Γ2 v s1 R2 o1 ⟨lo, hi, c, n, e, hr, hf, hix, hl, I, i0, step, done⟩ => by
  refine ⟨lo, hi, c, n, ints3 (o1.full R2 e), hr, fun D hD => ?_⟩
  obtain ⟨_, _, _, h0, nrf⟩ := R2.temp (ho := .lst []) hD trivial
  refine lc_it walk_rangeC (LcSt F W2 σ Γ2 vs D I) (lc_begin R2 hD i0) (fun _ _ _ _ => trivial) ?_ ?_
  · rintro k x H' H'' hk ⟨W', Γ', acc, us, rfl, R', t', hd', hu, ha, s', tm', kn', ik', i'⟩ y
    obtain ⟨rfl, rfl⟩ := y
    exact lc_turn (x := .sh (.int _)) hix nrf R' t' hd' hu (by omega) ha s' tm' kn' ik' (.int _) (step k acc Γ' hk i')
  · intro H' h
    exact lc_end R2 hD h0 nrf hf h done fun o W' Γ' p ho s' R' hp oh q => kk o W' Γ' p ho (s1.trans s') R' hp oh q⟩
end
end Dk

namespace Dk
open PySem PySem.Spec PyProof.Rows L2
/-! ### is None -/
def nonD : PyData → Bool
  | .none => true
  | _ => false
def dIsN (f : Bool → Bool) (da db : TEd) : TEd := fun Γ Q => da Γ fun x Γ1 => db Γ1 fun y Γ2 => ∃ a, dat Γ2 x = some a ∧ dat Γ2 y = some .none ∧ Q (.sh (.bool (f (nonD a)))) Γ2
theorem nonD_ok {K : Fg} {H : Hp} {v : V} {d : PyData} (h : Dq K H v d) : decide (v = .non) = nonD d := by
  cases d with
  | none => cases h; rfl
  | bool b => cases h; rfl
  | int b => cases h; rfl
  | str b => cases h; rfl
  | list b => cases h; rfl
  | tuple b => cases h; rfl
  | dict b => cases h; rfl
def rNone (f : Bool → Bool) : R2 := fun x y H Q => y = .non ∧ Q (.bl (f (decide (x = .non)))) H
theorem k_isN {X : Cx} : OpR X (compareOp .Is) (rNone id) := op_isN
theorem k_notN {X : Cx} : OpR X (compareOp .IsNot) (rNone not) := op_notN
section
variable {K : Fg} {ta tb : TE} {da db : TEd}
instance se_isN {f : Bool → Bool} [SE K ta da] [SE K tb db] : SE K (tOp (rNone f) ta tb) (dIsN f da db) := ⟨fun F W σ Γ Q Qd R q k => two R q fun x y W' Γ' u v s' R' o1 o2 ⟨a, e1, e2, q⟩ => by
  have h2 := o2.full R' e2
  cases h2
  refine ⟨rfl, ?_⟩
  rw [nonD_ok (o1.full R' e1)]
  exact k _ W' Γ' _ s' R' (.bl _) q⟩
end
theorem ite_and {c b : Bool} {A : Prop} {Q : RV → G → Prop} {Γ : G} (hA : Q (.sh (.bool b)) Γ → A) (h : ∀ x : Bool, x = (c && b) → Q (.sh (.bool x)) Γ) : if c = true then A else Q (.sh (.bool false)) Γ := by
  cases c with
  | true => exact iteT (hA (h b rfl))
  | false => exact iteF (h false rfl)
theorem ixN_at {n j : Nat} (h : j < n) : ixN n (j : Int) = some j := by
  unfold ixN
  rw [if_pos (by omega), if_pos (by omega)]
  congr 1
/-! ### exceptions -/
/-- an own class over ValueError, without own words -/
structure ExcIn (K : Fg) (mg : Str → Option Value) (x : Str) where
  C : Addr
  g : mg x = some (.ref C)
  x : PySem.W.excIn K C [.type "ValueError", .type "Exception", .type "BaseException", .type "object"] "ValueError.__new__" = true
  k : PySem.W.keepIn K (.ref C) = true
  b : PySem.W.subIn K (.ref C) (.type "BaseException") = some true
  t : PySem.W.typeIn K (.ref C) = some (.type "type")
/-- what a caught one is asked -/
structure ToldIn (K : Fg) (D S B : Addr) : Prop where
  c : ExcC K D
  m : PySem.W.exmOne K (.ref D) (.ref D) = some true
  k1 : PySem.W.kitOne K (.ref D) (.ref S) = some true
  k2 : PySem.W.kitOne K (.ref D) (.type "ValueError") = some true
  k3 : PySem.W.kitOne K (.ref D) (.ref B) = some false
def tRaise (Xw : WX) (c : Value) : TS := fun _ σ H => Xw c none σ H
def dRaise (c : Value) : TSd := fun E Γ => E.xs c Γ
theorem ps_raiseD {X : Cx} {W : WX} {mg : Str → Option Value} {x m : Str} {j : Nat} {p p2 pos pos' : Pos} (e : ExcIn X.K mg x) (hc : X.calm = true) (tk : Takes X W) (hg : Gl X x) (hm : X.mg = mg) (hdb : (x == ("__debug__" : Str)) = false := by decide) :
    PS X (.Raise (some (.Call (.Name x p) [.Constant (.str m) j p2] [] pos)) none pos') (tRaise W (.ref e.C)) := by
  subst hm
  exact ps_raise hc tk (pmk_own PySem.F.excBase_ValueError e.x e.g e.k (raises_own e.b e.t) hg hdb)
/-- a promise in data of a def that may raise -/
def PureXSp (K : Fg) (C : List PyData → (PyData → Prop) → (Value → Prop) → Prop) : Sp := fun vs H Q E => ∃ (ds : List PyData) (Qd : PyData → Prop) (Qx : Value → Prop), DqAll K H vs ds ∧ C ds Qd Qx ∧ (∀ (v : V) (H' : Hp) (d : PyData), Same H H' → Dq K (less H' fun a => Mo (H a)) v d → Qd d → Q v H') ∧ ∀ (c : Value) (H' : Hp), Same H H' → Qx c → E c none H'
section
variable {K : Fg} {Xw : WX} {t : TA} {d : TAd} {g : TG} {dg : TGd} {ix : List Nat} {C : List PyData → (PyData → Prop) → (Value → Prop) → Prop}
instance ss_raise {c : Value} : SS K Xw (tRaise Xw c) (dRaise c) := ⟨fun F W σ Γ D E R q L => L.xs W σ Γ c (Same.refl _) R q⟩
theorem callX {F : Fx K} {W : Wd} {σ : L2.St} {Γ : G} {Q : VK} {E : XK} {Qd : PyData → G → Prop} {Qx : Value → G → Prop} [A : SA K t d] (R : Rel F W σ Γ) (q : d Γ fun xs Γ1 => ∃ ds, dats Γ1 xs = some ds ∧ C ds (fun r => Qd r Γ1) fun c => Qx c Γ1)
    (k : ∀ (r : PyData) (W' : Wd) (Γ' : G) (v : V), Stp F W Γ W' Γ' → Rel F W' σ Γ' → VOk F W' σ Γ' v (.sh r) → Qd r Γ' → Q v W'.H) (kx : ∀ (c : Value) (W' : Wd) (Γ' : G), Stp F W Γ W' Γ' → Rel F W' σ Γ' → Qx c Γ' → E c none W'.H) : t σ W.H fun vs H1 => PureXSp K C vs H1 Q E := by
  refine A.run F W σ Γ _ _ R q fun xs W' Γ' vs s' R' o1 ⟨ds, e1, q⟩ => ?_
  refine ⟨ds, _, _, o1.full R' e1, q, fun v H' r hS hv hq => ?_, fun c H' hS hq => ?_⟩
  · refine k r { W' with H := H' } Γ' v (s'.trans (Stp.grow R' hS)) (R'.grow hS).1 (.ofSh ?_) hq
    exact hv.same (same_less fun a o nx e => ⟨fun z => nx (R'.exmo z), e⟩)
  · exact kx c { W' with H := H' } Γ' (s'.trans (Stp.grow R' hS)) (R'.grow hS).1 hq
def dAsgX (C : List PyData → (PyData → Prop) → (Value → Prop) → Prop) (d : TAd) (g : TGd) : TSd := fun E Γ => d Γ fun xs Γ1 => ∃ ds, dats Γ1 xs = some ds ∧ C ds (fun r => g (.sh r) Γ1 E.nx) fun c => E.xs c Γ1
instance ss_asgX [A : SA K t d] [B : SG K g dg ix] : SS K Xw (tAsg (tCallS (PureXSp K C) (WE Xw) t) g) (dAsgX C d dg) := ⟨fun F W σ Γ D E R q L => callX (t := t) (d := d) (C := C) (Qd := fun r Γ1 => dg (.sh r) Γ1 E.nx) (Qx := E.xs) R q (fun r W' Γ' v s R' o q => B.run F W' σ Γ' v _ _ _ R' o q fun W2 σ2 Γ2 s2 _ R2 q => L.nx W2 σ2 Γ2 (s.sh.trans s2.sh) R2 q) fun c W' Γ' s R' q => L.xs W' σ Γ' c s.sh R' q⟩
def dRetX (C : List PyData → (PyData → Prop) → (Value → Prop) → Prop) (d : TAd) : TSd := fun E Γ => d Γ fun xs Γ1 => ∃ ds, dats Γ1 xs = some ds ∧ C ds (fun r => E.rt (.sh r) Γ1) fun c => E.xs c Γ1
instance ss_retX [A : SA K t d] : SS K Xw (tRet (tCallS (PureXSp K C) (WE Xw) t)) (dRetX C d) := ⟨fun F W σ Γ D E R q L => callX (t := t) (d := d) (C := C) (Qd := fun r Γ1 => E.rt (.sh r) Γ1) (Qx := E.xs) R q (fun r W' Γ' v s R' o q => L.rt W' σ Γ' _ v s.sh R' o q) fun c W' Γ' s R' q => L.xs W' σ Γ' c s.sh R' q⟩
def dDropX (C : List PyData → (PyData → Prop) → (Value → Prop) → Prop) (d : TAd) : TSd := fun E Γ => d Γ fun xs Γ1 => ∃ ds, dats Γ1 xs = some ds ∧ C ds (fun _ => E.nx Γ1) fun c => E.xs c Γ1
instance ss_dropX [A : SA K t d] : SS K Xw (tDrop (tCallS (PureXSp K C) (WE Xw) t)) (dDropX C d) := ⟨fun F W σ Γ D E R q L => callX (t := t) (d := d) (C := C) (Qd := fun _ Γ1 => E.nx Γ1) (Qx := E.xs) R q (fun r W' Γ' v s R' o q => L.nx W' σ Γ' s.sh R' q) fun c W' Γ' s R' q => L.xs W' σ Γ' c s.sh R' q⟩
end
/-! a call that raises nothing where it stands: as one that never may -/
def dCallN (C : List PyData → (PyData → Prop) → (Value → Prop) → Prop) (d : TAd) : TEd := fun Γ Q => d Γ fun xs Γ1 => ∃ ds, dats Γ1 xs = some ds ∧ C ds (fun r => Q (.sh r) Γ1) fun _ => False
instance se_callN {K : Fg} {t : TA} {d : TAd} {C : List PyData → (PyData → Prop) → (Value → Prop) → Prop} {E : XK} [A : SA K t d] : SE K (tCall (PureXSp K C) [] E t) (dCallN C d) := ⟨fun F W σ Γ Q Qd R q k => by
  have := callX (t := t) (d := d) (C := C) (Q := Q) (E := E) (Qd := fun r Γ1 => Qd (.sh r) Γ1) (Qx := fun _ _ => False) R q (fun r W' Γ' v s R' o q => k _ W' Γ' v s R' o q) fun c W' Γ' s R' q => q.elim
  simp only [tCall, List.append_nil]
  exact this⟩
/-! ### try: x = f(..) except X as e: y = (isinstance(e, ..), isinstance(e, ..), isinstance(e, ..)) -/
def vOf : V → Option Value
  | .ref a => some (.ref a)
  | .ty n => some (.type n)
  | _ => none
theorem vOf_ok {c : V} {cv u : Value} (h : vOf c = some cv) (r : RelV c u) : u = cv := by
  cases c with
  | ref a => cases h; cases r; rfl
  | ty n => cases h; cases r; rfl
  | _ => cases h
def tIs (D : Addr) (cls : Value) (d : Option Addr) (t : TS) : TS := fun Dn σ H => cls = .ref D ∧ d = none ∧ t Dn σ H
abbrev tAsk (K : Fg) (D a : Addr) (i : Nat) (c : V) : TE := tCB (rIsE K D a) (tCons (tVar i) (tCons (tC c) tNil))
abbrev tTold (K : Fg) (D a : Addr) (i l : Nat) (c1 c2 c3 : V) : TS := tAsg (tTup (tCons (tAsk K D a i c1) (tCons (tAsk K D a i c2) (tCons (tAsk K D a i c3) tNil)))) (gName l)
def tTry (K : Fg) (c : Value) (i : Nat) (tb : WX → TS) (ts : Addr → Value → Option Addr → TS) (Wout : WX) : TS := fun D σ H => tb (wAs K c i ts Wout D) D σ H
theorem ps_tryD {X : Cx} {x n : Str} {c : Value} {i : Nat} {body suite : List Stmt} {b₀ : Stmt} {np pos pos' : Pos} {tb : WX → TS} {D : Addr} {ts : Addr → TS} {Wout : WX} (hs : X.stack = X.env :: X.outer) (hf : X.env.frame = some X.env.locals) (hN : X.N.Nodup) (hi : X.N[i]? = some n) (hln : X.env.kindOf n = some .local) (hc : Names X x c) (tk : Takes X Wout)
    (hb : ∀ (W : WX) (pn : List (Addr × Obj)) (xe : Value → Shared → Prop), Takes (X.tr pn xe) W → PassesOwn (model X.prog X.w) X.A X.env xe → PSs (X.tr pn xe) body (tb W))
    (hsu : ∀ (a : Addr) (oe : Obj) (pn : List (Addr × Obj)), Zc (.ref D) none oe → (∃ vs, oe.data = .fields vs) → PSs (X.suite a ((a, oe) :: pn)) (b₀ :: suite) (ts a)) :
    PS X (.Try body [.ExceptHandler (some (.Name x np)) (some n) (b₀ :: suite) pos'] [] [] pos) (tTry X.K c i tb (fun a cls d => tIs D cls d (ts a)) Wout) :=
  ps_try_as hs hf hN hi hln hc tk hb fun a oe cls d pn hz hv => ⟨fun pins s σ H Dn I h => by
    obtain ⟨rfl, rfl, h⟩ := h
    exact (hsu a oe pn hz hv).run pins s σ H Dn I h⟩
section
variable {K : Fg} {Xw : WX} {t : TA} {d : TAd} {C : List PyData → (PyData → Prop) → (Value → Prop) → Prop}
def dTry (K : Fg) (c : Value) (i j l : Nat) (D : Addr) (c1 c2 c3 : V) (C : List PyData → (PyData → Prop) → (Value → Prop) → Prop) (d : TAd) : TSd := fun E Γ => d Γ fun xs Γ1 => ∃ ds, dats Γ1 xs = some ds ∧ C ds (fun r => E.nx (Γ1.set j (.sh r)))
  fun cx => cx = .ref D ∧ PySem.W.exmOne K (.ref D) c = some true ∧ ∃ v1 v2 v3 b1 b2 b3, vOf c1 = some v1 ∧ vOf c2 = some v2 ∧ vOf c3 = some v3 ∧ PySem.W.kitOne K (.ref D) v1 = some b1 ∧ PySem.W.kitOne K (.ref D) v2 = some b2 ∧ PySem.W.kitOne K (.ref D) v3 = some b3 ∧ i < Γ1.length ∧ i ≠ l ∧ E.nx (((Γ1.set i .no).set l (.sh (.tuple [.bool b1, .bool b2, .bool b3]))).set i .no)
instance ss_try {c : Value} {i j l : Nat} {D : Addr} {c1 c2 c3 : V} [A : SA K t d] : SS K Xw (tTry K c i (fun W => tAsg (tCallS (PureXSp K C) (WE W) t) (gName j)) (fun a cls dd => tIs D cls dd (tTold K D a i l c1 c2 c3)) Xw) (dTry K c i j l D c1 c2 c3 C d) := ⟨fun F W σ Γ Dn E R q L => by
  refine callX (t := t) (d := d) (C := C) (Qd := fun r Γ1 => E.nx (Γ1.set j (.sh r))) R q (fun r W' Γ' v s R' o q => ?_) fun cx W' Γ' s R' q => ?_
  · exact L.nx W' _ _ s.sh (R'.setSh o) q
  · obtain ⟨rfl, hm, v1, v2, v3, b1, b2, b3, w1, w2, w3, k1, k2, k3, hi, ne, q⟩ := q
    refine ⟨true, hm, fun _ a ha => ⟨rfl, rfl, ?_⟩, fun z => nomatch z⟩
    have hl : i < σ.length := by rw [R'.len]; exact hi
    have ei : (σ.set i (some (.ref a)))[i]? = some (some (V.ref a)) := List.getElem?_set_self hl
    refine ⟨_, ei, c1, v1, b1, rfl, fun u r => vOf_ok w1 r, k1, ?_⟩
    refine ⟨_, ei, c2, v2, b2, rfl, fun u r => vOf_ok w2 r, k2, ?_⟩
    refine ⟨_, ei, c3, v3, b3, rfl, fun u r => vOf_ok w3 r, k3, ?_⟩
    refine ⟨by show 3 ≤ sizeLine; decide, fun p hp => ?_⟩
    have hS := same_new (o := .tup [V.bl b1, .bl b2, .bl b3]) hp
    have R2 := (R'.grow hS).1
    have ok : Dq K (({ W' with H := upd W'.H p (.tup [V.bl b1, .bl b2, .bl b3]) } : Wd).S F) (.ref p) (.tuple [.bool b1, .bool b2, .bool b3]) :=
      .tup (.inl (S_of (W := { W' with H := upd W'.H p (.tup [V.bl b1, .bl b2, .bl b3]) }) (R'.free hp) upd_same)) (.cons (.bl _) (.cons (.bl _) (.cons (.bl _) .nil)))
    exact L.nx { W' with H := upd W'.H p (.tup [V.bl b1, .bl b2, .bl b3]) } _ _ (s.sh.trans (R'.grow hS).2) (((R2.setNo).setSh ok).setNo) q⟩
end
/-! ### defs that may raise -/
section
variable {P : Program} {w : World} {K : Fg} {mg : Str → Option Value} {base : Heap}
abbrev PXEnds (Qd : PyData → Prop) (Qx : Value → Prop) : DE := { nx := fun _ => Qd .none, rt := fun x Γ => ∃ r, retOf Γ x = some r ∧ Qd r, rn := fun o _ => ∃ xs, o = .lst xs ∧ Qd (.list xs), xs := fun c _ => Qx c }
theorem pureX_ok {x qual : Str} {st : Stmt} {f : Addr} {fd : FuncData} {N ps : List Str} {k : Nat} {C : List PyData → (PyData → Prop) → (Value → Prop) → Prop} (Fn : L2.Fun K x qual st f fd) (S : FnScope N ps (defScope st)) (hl : ∀ ds Qd Qx, C ds Qd Qx → ds.length = ps.length)
    (hbody : ∀ (cdv : Value) (A : Around) (outer : List Env) (s : Shared) (H : Hp) (E : XK), Room k (A.deeper (envOfC qual (defScope st) s.heap.objs.size f cdv)) →
      ∃ t, PSs (cxOf (L2.CX P w) P w K mg base N qual (defScope st) f cdv A outer s H E) (defBody st) t ∧ ∃ d, SS K (fun cls d _ H => E cls d H) t d ∧ ∀ ds Qd Qx, C ds Qd Qx → ∃ sl, Paired argOk sl ds ∧ d (PXEnds Qd Qx) (startG N sl)) : FnOk P w K mg base (L2.CX P w) (k + 1) f fd ps (PureXSp K C) := by
  refine Fn.okX S (fun vs H Q E h => ?_) (fun cdv A outer s H vs Q E hr h => ?_)
  · obtain ⟨ds, Qd, Qx, h1, h2, _⟩ := h
    rw [h1.length]
    exact hl ds Qd Qx h2
  · obtain ⟨ds, Qd, Qx, h1, h2, q, qx⟩ := h
    obtain ⟨t, ht, d, hs, hd⟩ := hbody cdv A outer s H E hr
    obtain ⟨sl, ha, hd⟩ := hd ds Qd Qx h2
    refine ⟨t, ht, hs.run (F0 K H) ⟨fun _ => False, fun _ => [], H⟩ (start N vs) (startG N sl) _ _ (rel_start h1 ha) hd ⟨fun W σ Γ _ R e => ?_, fun W σ Γ y v _ R o ⟨r, e, z⟩ => ?_, fun W σ Γ o p ho _ R hp oh ⟨xs, e, z⟩ => ?_, fun W σ Γ _ R e => e, fun W σ Γ _ R e => e, fun W σ Γ c _ R e => ?_⟩⟩
    · exact q .non W.H .none (fun a o e => R.base a o e fun z => z) .non e
    · exact q v W.H r (fun a o e => R.base a o e fun z => z) (ret_ok R o e) z
    · subst e
      obtain ⟨us, rfl, hu⟩ := oh
      have h0 : H p = none := by
        cases e : H p with
        | none => rfl
        | some o => have := R.base p o e (fun z => z); rw [hp] at this; cases this
      refine q (.ref p) _ (.list xs) (fun a o e => ?_) (.lst (less_some.mpr ⟨by rw [h0]; exact fun z => z, upd_same⟩) (hu.same (same_less fun a o nx e => ⟨fun z => nx (.inl z), ?_⟩))) z
      · have b := R.base a o e (fun z => z)
        rw [upd_ne (ne_of_none b hp)]
        exact b
      · rw [upd_ne (ne_of_none e hp)]
        exact e
    · exact qx c W.H (fun a o e => R.base a o e fun z => z) e
end
end Dk

namespace Dk
open PySem PySem.Spec PyProof.Rows L2
/-! ### how numbers, pairs, patterns, rounds stand as data -/
/-- plain data of a depth -/
def Shp (n : Nat) (d : PyData) : Prop := d.canLay0 = true ∧ d.depth ≤ n
theorem Shp.int (i : Int) : Shp 0 (.int i) := ⟨by simp [PyData.canLay0], by simp [PyData.depth]⟩
theorem Shp.bool (i : Bool) : Shp 0 (.bool i) := ⟨by simp [PyData.canLay0], by simp [PyData.depth]⟩
theorem Shp.none : Shp 0 .none := ⟨by simp [PyData.canLay0], by simp [PyData.depth]⟩
theorem Shp.mono {n m : Nat} {d : PyData} (h : Shp n d) (l : n ≤ m) : Shp m d := ⟨h.1, Nat.le_trans h.2 l⟩
theorem shp_all {n : Nat} : ∀ {ds : List PyData}, (∀ d ∈ ds, Shp n d) → PyData.canLayAll0 ds = true ∧ PyData.depthAll ds ≤ n
  | [], _ => ⟨by simp [PyData.canLayAll0], by simp [PyData.depthAll]⟩
  | d :: ds, h => by
    obtain ⟨h1, h2⟩ := h d (by simp)
    obtain ⟨h3, h4⟩ := shp_all fun x hx => h x (List.mem_cons_of_mem _ hx)
    refine ⟨by simp [PyData.canLayAll0, h1, h3], ?_⟩
    simp only [PyData.depthAll]
    omega
theorem Shp.tup {n : Nat} {ds : List PyData} (h : ∀ d ∈ ds, Shp n d) : Shp (n + 1) (.tuple ds) := by
  obtain ⟨h1, h2⟩ := shp_all h
  refine ⟨by simpa [PyData.canLay0] using h1, ?_⟩
  simp only [PyData.depth]
  omega
theorem Shp.list {n : Nat} {ds : List PyData} (h : ∀ d ∈ ds, Shp n d) : Shp (n + 1) (.list ds) := by
  obtain ⟨h1, h2⟩ := shp_all h
  refine ⟨by simpa [PyData.canLay0] using h1, ?_⟩
  simp only [PyData.depth]
  omega
theorem Shp.ok {n : Nat} {d : PyData} (h : Shp n d) (l : n ≤ 64 := by decide) : SeqAt.shaped d = true := by
  show (d.canLay0 && decide (d.depth ≤ 64)) = true
  rw [Bool.and_eq_true]
  exact ⟨h.1, decide_eq_true (Nat.le_trans h.2 l)⟩
theorem Shp.refl {n : Nat} {d : PyData} (h : Shp n d) : PyData.eqv d d = true := SeqAt.eqv_refl d h.1
/-- things that are equal just where their data are -/
class EqE {α : Type} [DecidableEq α] (e : α → PyData) : Prop where
  eq : ∀ x y, PyData.eqv (e x) (e y) = decide (x = y)
theorem eqvAll_map {α : Type} [DecidableEq α] {e : α → PyData} [h : EqE e] : ∀ xs ys : List α, PyData.eqvAll (xs.map e) (ys.map e) = decide (xs = ys)
  | [], [] => by simp [PyData.eqvAll]
  | [], _ :: _ => by simp [PyData.eqvAll]
  | _ :: _, [] => by simp [PyData.eqvAll]
  | x :: xs, y :: ys => by
    simp only [List.map_cons, PyData.eqvAll, h.eq, eqvAll_map xs ys]
    by_cases e1 : x = y
    · by_cases e2 : xs = ys <;> simp [e1, e2]
    · simp [e1]
def ePair (x : Int × Int) : PyData := .tuple [.int x.1, .int x.2]
def ePat (xs : Pt.Pat) : PyData := .tuple (xs.map ePair)
def ePairs (xs : Pt.Pat) : PyData := .list (xs.map ePair)
def eRound (r : Int × Pt.Pat) : PyData := .tuple [.int r.1, ePat r.2]
theorem ePair_tupO (x : Int × Int) : tupO (ePair x) = true := rfl
theorem map_tupO {α : Type} {e : α → PyData} (h : ∀ x, tupO (e x) = true) : ∀ xs : List α, tupOs (xs.map e) = true
  | [] => rfl
  | x :: xs => by
    simp only [List.map_cons, tupOs, h x, map_tupO h xs]
    rfl
theorem ePairs_tupO (xs : Pt.Pat) : tupOs (xs.map ePair) = true := map_tupO ePair_tupO xs
theorem ePat_tupO (xs : Pt.Pat) : tupO (ePat xs) = true := ePairs_tupO xs
theorem eRound_tupO (r : Int × Pt.Pat) : tupO (eRound r) = true := by
  show (tupO (.int r.1) && (tupO (ePat r.2) && true)) = true
  rw [ePat_tupO]
  rfl
theorem ePair_shp (x : Int × Int) : Shp 1 (ePair x) := Shp.tup fun d hd => by
  simp only [List.mem_cons, List.not_mem_nil, or_false] at hd
  rcases hd with rfl | rfl <;> exact Shp.int _
theorem ePat_shp (xs : Pt.Pat) : Shp 2 (ePat xs) := Shp.tup fun d hd => by
  obtain ⟨x, _, rfl⟩ := List.mem_map.mp hd
  exact ePair_shp x
theorem ePairs_shp (xs : Pt.Pat) : Shp 2 (ePairs xs) := Shp.list fun d hd => by
  obtain ⟨x, _, rfl⟩ := List.mem_map.mp hd
  exact ePair_shp x
theorem eRound_shp (r : Int × Pt.Pat) : Shp 3 (eRound r) := Shp.tup fun d hd => by
  simp only [List.mem_cons, List.not_mem_nil, or_false] at hd
  rcases hd with rfl | rfl
  · exact (Shp.int _).mono (by decide)
  · exact ePat_shp _
instance eqe_pair : EqE ePair := ⟨fun x y => by
  simp only [ePair, PyData.eqv, PyData.eqvAll, Bool.and_true]
  obtain ⟨a, b⟩ := x
  obtain ⟨c, d⟩ := y
  simp only [Prod.mk.injEq]
  by_cases h1 : a = c <;> by_cases h2 : b = d <;> simp [h1, h2]⟩
instance eqe_pat : EqE ePat := ⟨fun x y => by
  simp only [ePat, PyData.eqv]
  exact eqvAll_map x y⟩
instance eqe_pairs : EqE ePairs := ⟨fun x y => by
  simp only [ePairs, PyData.eqv]
  exact eqvAll_map x y⟩
instance eqe_round : EqE eRound := ⟨fun x y => by
  simp only [eRound, PyData.eqv, PyData.eqvAll, Bool.and_true, eqe_pat.eq]
  obtain ⟨a, b⟩ := x
  obtain ⟨c, d⟩ := y
  simp only [Prod.mk.injEq]
  by_cases h1 : a = c <;> by_cases h2 : b = d <;> simp [h1, h2]⟩
end Dk

namespace Dk
open PySem PySem.Spec PyProof.Rows L2
/-! ### contracts and what they lean on -/
def sumsD (p : Int) (xs : Pt.Pat) : List (Key × PyData) := (Pt.keys xs).map fun k => (Sum.inl k, .int (Pt.sumAt xs k % p))
theorem valD_map (ks : List Int) (f : Int → PyData) (k : Int) : valD (ks.map fun j => ((Sum.inl j : Key), f j)) (Sum.inl k) = if k ∈ ks then some (f k) else none := by
  induction ks with
  | nil => rfl
  | cons j r ih =>
    by_cases e : j = k
    · subst e
      simp [valD, List.find?_cons]
    · have h1 : ¬ (Sum.inl j : Key) = Sum.inl k := fun z => e (Sum.inl.inj z)
      have h2 : valD ((j :: r).map fun j => ((Sum.inl j : Key), f j)) (Sum.inl k) = valD (r.map fun j => ((Sum.inl j : Key), f j)) (Sum.inl k) := by
        simp [valD, List.find?_cons, h1]
      rw [h2, ih]
      simp [Ne.symm e]
theorem putD_map (ks : List Int) (f : Int → PyData) (k : Int) (v : PyData) : putD (ks.map fun j => ((Sum.inl j : Key), f j)) (Sum.inl k) v = (Pt.addK ks k).map fun j => ((Sum.inl j : Key), if j = k then v else f j) := by
  have ha : ((ks.map fun j => ((Sum.inl j : Key), f j)).any fun kv => decide (kv.1 = Sum.inl k)) = decide (k ∈ ks) := by
    rw [Bool.eq_iff_iff]
    simp
  unfold putD Pt.addK
  rw [ha]
  by_cases h : k ∈ ks
  · simp only [h, decide_true, if_true]
    rw [List.map_map]
    refine List.map_congr_left fun j hj => ?_
    simp only [Function.comp]
    by_cases e : j = k
    · subst e
      simp
    · have h1 : ¬ (Sum.inl j : Key) = Sum.inl k := fun z => e (Sum.inl.inj z)
      rw [if_neg h1, if_neg e]
  · simp only [h, decide_false, if_false, Bool.false_eq_true]
    rw [List.map_append]
    congr 1
    · refine List.map_congr_left fun j hj => ?_
      rw [if_neg (fun z : j = k => h (z ▸ hj))]
    · simp
theorem sums_turn {p : Int} (xs : Pt.Pat) (x : Int × Int) : putD (sumsD p xs) (Sum.inl x.1) (.int ((((if x.1 ∈ Pt.keys xs then Pt.sumAt xs x.1 % p else 0) + x.2) % p))) = sumsD p (xs ++ [x]) := by
  unfold sumsD
  rw [putD_map, Pt.keys_snoc]
  refine List.map_congr_left fun j hj => ?_
  rw [Pt.sumAt_app]
  simp only [Pt.sumAt]
  by_cases e : j = x.1
  · subst e
    rw [if_pos rfl, if_pos rfl]
    split
    · rw [Int.emod_add_emod]
      congr 2
      congr 1
      omega
    · rename_i h
      rw [Pt.sumAt_none (fun y hy z => h ((Pt.mem_keys xs x.1).mpr ⟨y, hy, z⟩))]
      congr 2
      congr 1
      omega
  · rw [if_neg e, if_neg (Ne.symm e)]
    congr 2
    congr 1
    omega
theorem ePair_pick (p : Int) (xs : Pt.Pat) (ys : List Int) : ys.filterMap (fun k => (Pt.pick p xs k).map ePair) = (ys.filterMap (Pt.pick p xs)).map ePair := by
  rw [List.map_filterMap]
def cTidy : List PyData → (PyData → Prop) → Prop := fun ds Qd => ∃ (p : Int) (xs : Pt.Pat), ds = [.int p, ePairs xs] ∧ 0 < p ∧ (Pt.keys xs).length ≤ 8000000 ∧ Qd (ePat (Pt.tidy p xs))
/-! the draws: a list of the script's numbers, a place, a number, a seed -/
def IsDraw : Hp → Addr → List Addr → Prop := fun H p f => ∃ (l : Addr) (ns : List Int) (pos left seed : Int), f = [p, l] ∧ p ≠ l ∧ H p = some (.lst [.ref l, .int pos, .int left, .int seed]) ∧ H l = some (.lst (ns.map V.int)) ∧ 0 ≤ pos ∧ 0 ≤ left
instance abDraw : AbI IsDraw where
  mem := fun h => by
    obtain ⟨l, ns, pos, left, seed, rfl, _⟩ := h
    simp
  mo := fun h => by
    obtain ⟨l, ns, pos, left, seed, rfl, ne, h1, h2, _⟩ := h
    intro a ha
    simp only [List.mem_cons, List.not_mem_nil, or_false] at ha
    rcases ha with rfl | rfl
    · rw [h1]; exact ⟨trivial, trivial⟩
    · rw [h2]; exact ⟨trivial, trivial⟩
  st := fun h hk _ => by
    obtain ⟨l, ns, pos, left, seed, rfl, ne, h1, h2, h3⟩ := h
    exact ⟨l, ns, pos, left, seed, rfl, ne, (hk _ (by simp)).trans h1, (hk _ (by simp)).trans h2, h3⟩
def spBegin (K : Fg) : Sp := fun vs H Q _ => ∃ (a : Addr) (ns : List Int), vs = [.ref a] ∧ SqL K H a (ns.map V.int) ∧ ∀ (p : Addr) (f : List Addr) (H' : Hp), Same H H' → (∀ x ∈ f, H x = none) → IsDraw H' p f → Q (.ref p) H'
section
variable {P : Program} {w : World} {K : Fg} {mg : Str → Option Value} {base : Heap}
/-! the law's own def: the first line makes the draws -/
def spLaw (K : Fg) : Sp := fun vs H Q _ => ∃ (a : Addr) (ns : List Int), vs = [.ref a] ∧ SqL K H a (ns.map V.int) ∧ ∀ H', Q (.bl true) H'
abbrev LEnds : DE := { nx := fun _ => False, rt := fun x Γ => dat Γ x = some (.bool true) }
def lawG (N : List Str) : G := .no :: .ow (.ab IsDraw) :: List.replicate (N.length - 2) .no
theorem law_ok {st : Stmt} {f : Addr} {fd : FuncData} {N : List Str} {k : Nat} (Fn : L2.Fun K "law" "law" st f fd) (S : FnScope N ["_law_script"] (defScope st)) (hN : 2 ≤ N.length)
    (hbody : ∀ (cdv : Value) (A : Around) (outer : List Env) (s : Shared) (H : Hp) (E : XK), Room k (A.deeper (envOfC "law" (defScope st) s.heap.objs.size f cdv)) →
      ∃ (E' : XK) (t : TS), PSs (cxOf CX0 P w K mg base N "law" (defScope st) f cdv A outer s H E).nox (defBody st) (tSeq (tAsg (tCall (spBegin K) [] E' (tCons (tVar 0) tNil)) (gName 1)) t) ∧ ∃ d, SS K X0 t d ∧ d LEnds (lawG N)) : FnOk P w K mg base CX0 (k + 1) f fd ["_law_script"] (spLaw K) := by
  refine Fn.ok S (fun vs H Q E h => ?_) (fun cdv A outer s H vs Q E hr h => ?_)
  · obtain ⟨a, ns, rfl, _⟩ := h
    rfl
  · obtain ⟨a, ns, rfl, hS, q⟩ := h
    obtain ⟨E', t, ht, d, hs, hd⟩ := hbody cdv A outer s H E hr
    refine ⟨_, ht, .ref a, start_get rfl, a, ns, rfl, hS, fun p g H' sm nf hI => ?_⟩
    have hl : ((L2.start N [V.ref a]).set 1 (some (.ref p))).length = (lawG N).length := by
      simp [L2.start, lawG]
      omega
    have own : ∀ (i : Nat) (u : Sl) (o : OD), (lawG N)[i]? = some u → u.own? = some o → i = 1 ∧ u = .ow (.ab IsDraw) := fun i u o e1 e2 => by
      match i, e1 with
      | 0, e1 => cases e1; cases e2
      | 1, e1 => cases e1; exact ⟨rfl, rfl⟩
      | i + 2, e1 =>
        simp only [lawG, List.getElem?_cons_succ, List.getElem?_replicate] at e1
        split at e1
        · cases e1; cases e2
        · cases e1
    refine hs.run (F0 K fun _ => none) ⟨fun x => x ∈ g, fun i => if i = 1 then g else [], H'⟩ _ (lawG N) _ LEnds ⟨(fun _ _ e => by cases e), (fun _ _ => .inl rfl), fun x hx => (AbI.mo hI x hx).1, fun _ z => z.elim, hl, fun i u e => ?_, fun i j u v oi oj x ne e1 e2 g1 g2 => ?_⟩ hd ⟨fun W σ Γ _ R e => e.elim, fun W σ Γ x v _ R o e => ?_, fun W σ Γ o p ho _ R hp oh e => e.elim, fun W σ Γ _ R e => e, fun W σ Γ _ R e => e, fun W σ Γ c _ R e => e⟩
    · cases u with
      | no => trivial
      | sh d => 
        exfalso
        match i, e with
        | 0, e => cases e
        | 1, e => cases e
        | i + 2, e =>
          simp only [lawG, List.getElem?_cons_succ, List.getElem?_replicate] at e
          split at e <;> cases e
      | ar d =>
        exfalso
        match i, e with
        | 0, e => cases e
        | 1, e => cases e
        | i + 2, e =>
          simp only [lawG, List.getElem?_cons_succ, List.getElem?_replicate] at e
          split at e <;> cases e
      | ow o =>
        obtain ⟨rfl, e2⟩ := own i _ o e rfl
        cases e2
        refine ⟨p, ?_, fun x hx => ⟨hx, fun z => z⟩, AbI.mem hI, hI, (fun H'' hk ht => AbI.st hI hk ht), fun a ha => AbI.mo hI a ha⟩
        refine List.getElem?_set_self ?_
        simp [L2.start]
        omega
      | rf o =>
        obtain ⟨_, e2⟩ := own i _ o e rfl
        cases e2
      | ro d =>
        exfalso
        match i, e with
        | 0, e => cases e
        | 1, e => cases e
        | i + 2, e =>
          simp only [lawG, List.getElem?_cons_succ, List.getElem?_replicate] at e
          split at e <;> cases e
    · exact absurd ((own i u oi e1 g1).1.trans (own j v oj e2 g2).1.symm) ne
    · rw [bl_of (o.full R e)]
      exact q _
end
def cTake : List PyData → (PyData → Prop) → Prop := fun ds Qd => ∃ m : Int, ds = [.int m] ∧ 0 < m ∧ m < 1073741824 ∧ ∀ r : Int, 0 ≤ r → r < m → Qd (.int r)
def GoodP (p : Int) : Prop := p = 2 ∨ p = 3 ∨ p = 5 ∨ p = 7
theorem GoodP.pos {p : Int} (h : GoodP p) : 0 < p := by unfold GoodP at h; omega
theorem GoodP.le {p : Int} (h : GoodP p) : p ≤ 7 := by unfold GoodP at h; omega
theorem GoodP.two {p : Int} (h : GoodP p) : 2 ≤ p := by unfold GoodP at h; omega
def cP : List PyData → (PyData → Prop) → Prop := fun ds Qd => ds = [] ∧ ∀ p : Int, GoodP p → Qd (.int p)
def cWide : List PyData → (PyData → Prop) → Prop := fun ds Qd => ds = [] ∧ ∀ n : Int, -(10 ^ 22) < n → n < 10 ^ 22 → Qd (.int n)
def cAt : List PyData → (PyData → Prop) → Prop := fun ds Qd => ∃ (xs : Pt.Pat) (k : Int), ds = [ePat xs, .int k] ∧ Qd (.int (Pt.at_ xs k))
theorem at_pre {pre post : Pt.Pat} {x : Int × Int} {k : Int} (h : ∀ y ∈ pre, y.1 ≠ k) : Pt.at_ (pre ++ x :: post) k = if x.1 = k then x.2 else Pt.at_ post k := by
  induction pre with
  | nil => rfl
  | cons y r ih =>
    have h1 := h y (by simp)
    simp only [List.cons_append, Pt.at_, if_neg h1]
    exact ih fun z hz => h z (by simp [hz])
def isIntD : PyData → Bool
  | .int _ => true
  | _ => false
def cInt : List PyData → (PyData → Prop) → Prop := fun ds Qd => ∃ d : PyData, ds = [d] ∧ (∀ kvs, d ≠ .dict kvs) ∧ Qd (.bool (isIntD d))
def cIsPattern : List PyData → (PyData → Prop) → Prop := fun ds Qd => ∃ (p : Int) (xs : Pt.Pat), ds = [.int p, ePat xs] ∧ Pt.IsPat p xs ∧ xs.length < 2 ^ 62 ∧ Qd (.bool true)
theorem fm_ints (xs : Pt.Pat) (h : Int × Int → Option Int) : xs.filterMap (fun x => (h x).map PyData.int) = (xs.filterMap h).map PyData.int := by rw [List.map_filterMap]
theorem fm_fst (xs : Pt.Pat) : xs.filterMap (fun y => some (PyData.int y.1)) = (xs.map (·.1)).map PyData.int := by
  rw [List.map_map, ← List.filterMap_eq_map]
  rfl
theorem fm_sum (xs : Pt.Pat) (k : Int) : (xs.filterMap fun x => if x.1 = k then some x.2 else none).sum = Pt.sumAt xs k := by
  induction xs with
  | nil => rfl
  | cons x r ih =>
    rw [List.filterMap_cons]
    by_cases e : x.1 = k
    · rw [if_pos e]
      simp only [List.sum_cons, Pt.sumAt, if_pos e, ih]
    · rw [if_neg e]
      simp only [Pt.sumAt, if_neg e, ih, Int.zero_add]
def cMoved : List PyData → (PyData → Prop) → Prop := fun ds Qd => ∃ (xs : Pt.Pat) (b : Int), ds = [ePat xs, .int b] ∧ xs.length ≤ 8000000 ∧ Qd (ePat (Pt.moved xs b))
theorem small100000 {n : Nat} (h : n ≤ 16000000) : n < sizeLine := Nat.lt_of_le_of_lt h (by decide)
theorem fm_map {α : Type} (xs : List α) (f : α → PyData) : xs.filterMap (fun x => some (f x)) = xs.map f := by
  rw [← List.filterMap_eq_map]
  rfl
/-- a pattern that is drawn -/
def cPattern : List PyData → (PyData → Prop) → Prop := fun ds Qd => ∃ (p most far : Int), ds = [.int p, .int most, .int far] ∧ GoodP p ∧ 0 ≤ most ∧ most ≤ 63 ∧ 0 ≤ far ∧ far ≤ 100000 ∧ ∀ xs : Pt.Pat, Pt.IsPat p xs → (xs.length : Int) ≤ most → (∀ x ∈ xs, -far ≤ x.1 ∧ x.1 ≤ far) → Qd (ePat xs)
def cAdded : List PyData → (PyData → Prop) → Prop := fun ds Qd => ∃ (p : Int) (xs ys : Pt.Pat), ds = [.int p, ePat xs, ePat ys] ∧ 0 < p ∧ xs.length ≤ 4000000 ∧ ys.length ≤ 4000000 ∧ Qd (ePat (Pt.added p xs ys))
def cTimed : List PyData → (PyData → Prop) → Prop := fun ds Qd => ∃ (p : Int) (xs : Pt.Pat) (n : Int), ds = [.int p, ePat xs, .int n] ∧ 0 < p ∧ xs.length ≤ 8000000 ∧ (∀ x ∈ xs, CMul x.2 n) ∧ Qd (ePat (Pt.timed p xs n))
def cSum : List PyData → (PyData → Prop) → Prop := fun ds Qd => ∃ (p : Int) (xs ys : Pt.Pat) (b n : Int), ds = [.int p, ePat xs, ePat ys, .int b, .int n] ∧ 0 < p ∧ xs.length ≤ 4000000 ∧ ys.length ≤ 4000000 ∧ (∀ y ∈ ys, CMul y.2 n) ∧ Qd (ePat (Pt.tidy p (xs ++ ys.map fun y => (y.1 + b, y.2 * n))))
theorem mulPat {p n : Int} {xs : Pt.Pat} (hp : GoodP p) (h : Pt.IsPat p xs) : ∀ x ∈ xs, CMul x.2 n := fun x hx => .inl ⟨by have := h.rng x hx; omega, by have := h.rng x hx; have := hp.le; omega⟩
/-! rounds -/
def cJoin : List PyData → (PyData → Prop) → Prop := fun ds Qd => ∃ (p : Int) (a b : Rd.R), ds = [.int p, eRound a, eRound b] ∧ 0 < p ∧ a.2.length ≤ 4000000 ∧ b.2.length ≤ 4000000 ∧ Qd (eRound (Rd.join p a b))
def cInv : List PyData → (PyData → Prop) → Prop := fun ds Qd => ∃ (p : Int) (a : Rd.R), ds = [.int p, eRound a] ∧ 0 < p ∧ a.2.length ≤ 4000000 ∧ Qd (eRound (Rd.inv p a))
def cStill : List PyData → (PyData → Prop) → Prop := fun ds Qd => ds = [] ∧ Qd (eRound Rd.still)
def cIsRound : List PyData → (PyData → Prop) → Prop := fun ds Qd => ∃ (p : Int) (a : Rd.R), ds = [.int p, eRound a] ∧ Rd.IsRound p a ∧ a.2.length < 2 ^ 62 ∧ Qd (.bool true)
/-- a round that is drawn -/
def cRound : List PyData → (PyData → Prop) → Prop := fun ds Qd => ∃ (p fin most far : Int), ds = [.int p, .int fin, .int most, .int far] ∧ GoodP p ∧ 0 ≤ fin ∧ fin ≤ 100000 ∧ 0 ≤ most ∧ most ≤ 63 ∧ 0 ≤ far ∧ far ≤ 100000 ∧
  ∀ a : Rd.R, Rd.IsRound p a → (a.2.length : Int) ≤ most → -fin ≤ a.1 → a.1 ≤ fin → (∀ x ∈ a.2, -far ≤ x.1 ∧ x.1 ≤ far) → Qd (eRound a)
/-! rows of numbers -/
def eNums (xs : List Int) : PyData := .tuple (xs.map .int)
theorem nums_len (xs : List Int) : (xs.map PyData.int).length = xs.length := by simp
theorem at4 {a b c d r : Int} (r0 : 0 ≤ r) (r1 : r < 4) : ∃ e : Int, atI [PyData.int a, .int b, .int c, .int d] r = some (.int e) ∧ (e = a ∨ e = b ∨ e = c ∨ e = d) := by
  have h : r = 0 ∨ r = 1 ∨ r = 2 ∨ r = 3 := by omega
  rcases h with rfl | rfl | rfl | rfl
  · exact ⟨a, rfl, .inl rfl⟩
  · exact ⟨b, rfl, .inr (.inl rfl)⟩
  · exact ⟨c, rfl, .inr (.inr (.inl rfl))⟩
  · exact ⟨d, rfl, .inr (.inr (.inr rfl))⟩
theorem eNums_shp (xs : List Int) : Shp 1 (eNums xs) := Shp.tup fun d hd => by
  obtain ⟨x, _, rfl⟩ := List.mem_map.mp hd
  exact Shp.int _
theorem eNums_tupO (xs : List Int) : tupO (eNums xs) = true := map_tupO (fun _ => rfl) xs
instance eqe_int : EqE PyData.int := ⟨fun x y => by simp only [PyData.eqv]; by_cases h : x = y <;> simp [h]⟩
instance eqe_nums : EqE eNums := ⟨fun x y => by
  simp only [eNums, PyData.eqv]
  exact eqvAll_map x y⟩
def eList (xs : List Int) : PyData := .list (xs.map .int)
theorem eList_shp (xs : List Int) : Shp 1 (eList xs) := Shp.list fun d hd => by
  obtain ⟨x, _, rfl⟩ := List.mem_map.mp hd
  exact Shp.int _
instance eqe_list : EqE eList := ⟨fun x y => by
  simp only [eList, PyData.eqv]
  exact eqvAll_map x y⟩
end Dk

/-! sums: numbers by powers of one letter, reckoned by p -/
namespace Po
abbrev P := List Int
def co (xs : P) (i : Nat) : Int := xs.getD i 0
theorem co_nil (i : Nat) : co [] i = 0 := by simp [co]
theorem co_cons_zero (x : Int) (r : P) : co (x :: r) 0 = x := by simp [co]
theorem co_cons_succ (x : Int) (r : P) (i : Nat) : co (x :: r) (i + 1) = co r i := by simp [co]
theorem co_ge {xs : P} {i : Nat} (h : xs.length ≤ i) : co xs i = 0 := by simp [co, List.getD, List.getElem?_eq_none h]
theorem co_get {xs : P} {i : Nat} {x : Int} (h : xs[i]? = some x) : co xs i = x := by simp [co, List.getD, h]
theorem get_co {xs : P} {i : Nat} (h : i < xs.length) : xs[i]? = some (co xs i) := by simp [co, List.getD, List.getElem?_eq_getElem h]
theorem co_map {f : Int → Int} (h0 : f 0 = 0) (xs : P) (i : Nat) : co (xs.map f) i = f (co xs i) := by
  simp only [co, List.getD, List.getElem?_map]
  cases xs[i]? with
  | none => exact h0.symm
  | some x => rfl
theorem co_set (xs : P) (k : Nat) (v : Int) (h : k < xs.length) (i : Nat) : co (xs.set k v) i = if i = k then v else co xs i := by
  simp only [co, List.getD]
  by_cases e : i = k
  · subst e
    rw [if_pos rfl, List.getElem?_set_self h]
    rfl
  · rw [if_neg e, List.getElem?_set_ne (Ne.symm e)]
theorem ext_co {a b : P} (hl : a.length = b.length) (h : ∀ i, co a i = co b i) : a = b := by
  refine List.ext_getElem? fun i => ?_
  by_cases c : i < a.length
  · rw [get_co c, get_co (by omega), h]
  · rw [List.getElem?_eq_none (by omega), List.getElem?_eq_none (by omega)]
/-! weighed sums -/
def wl (f : Nat → Int) : P → Int
  | [] => 0
  | x :: r => x * f 0 + wl (fun n => f (n + 1)) r
theorem wl_congr {f g : Nat → Int} : ∀ {xs : P}, (∀ i, i < xs.length → f i = g i) → wl f xs = wl g xs
  | [], _ => rfl
  | x :: r, h => by
    simp only [wl]
    rw [h 0 (by simp), wl_congr (xs := r) fun i hi => h (i + 1) (by simpa using hi)]
theorem wl_zero : ∀ xs : P, wl (fun _ => 0) xs = 0
  | [] => rfl
  | x :: r => by simp only [wl, wl_zero r, Int.mul_zero]; rfl
theorem wl_add (f g : Nat → Int) : ∀ xs : P, wl (fun n => f n + g n) xs = wl f xs + wl g xs
  | [] => rfl
  | x :: r => by
    simp only [wl]
    rw [wl_add (fun n => f (n + 1)) (fun n => g (n + 1)) r, Int.mul_add]
    omega
theorem wl_smul (c : Int) (f : Nat → Int) : ∀ xs : P, wl (fun n => c * f n) xs = c * wl f xs
  | [] => by simp [wl]
  | x :: r => by
    simp only [wl]
    rw [wl_smul c (fun n => f (n + 1)) r, Int.mul_add, Int.mul_left_comm]
theorem wl_swap (F : Nat → Nat → Int) : ∀ a b : P, wl (fun i => wl (fun j => F i j) b) a = wl (fun j => wl (fun i => F i j) a) b
  | [], b => by simp only [wl]; exact (wl_zero b).symm
  | x :: r, b => by
    simp only [wl]
    rw [wl_swap (fun i j => F (i + 1) j) r b, ← wl_smul, ← wl_add]
theorem wl_ind (m : Nat) : ∀ xs : P, wl (fun n => if n = m then 1 else 0) xs = co xs m
  | [] => by rw [co_nil]; rfl
  | x :: r => by
    simp only [wl]
    cases m with
    | zero =>
      rw [if_pos rfl, co_cons_zero, Int.mul_one]
      rw [wl_congr (g := fun _ => 0) fun i _ => by simp, wl_zero, Int.add_zero]
    | succ m =>
      rw [if_neg (by omega), co_cons_succ, ← wl_ind m r, Int.mul_zero, Int.zero_add]
      exact wl_congr fun i _ => by simp
theorem wl_set (f : Nat → Int) : ∀ (xs : P) (k : Nat) (v : Int), k < xs.length → wl f (xs.set k v) = wl f xs + (v - co xs k) * f k
  | [], _, _, h => by simp at h
  | x :: r, 0, v, _ => by
    simp only [List.set, wl, co_cons_zero, Int.sub_mul]
    omega
  | x :: r, k + 1, v, h => by
    simp only [List.set, wl, co_cons_succ]
    rw [wl_set (fun n => f (n + 1)) r k v (by simpa using h)]
    omega
/-! equal by p -/
def Eqm (p : Int) (a b : P) : Prop := ∀ i, co a i % p = co b i % p
theorem Eqm.refl (p : Int) (a : P) : Eqm p a a := fun _ => rfl
theorem Eqm.symm {p : Int} {a b : P} (h : Eqm p a b) : Eqm p b a := fun i => (h i).symm
theorem Eqm.trans {p : Int} {a b c : P} (h : Eqm p a b) (g : Eqm p b c) : Eqm p a c := fun i => (h i).trans (g i)
theorem mm (p a b c : Int) (h : a % p = b % p) : (a * c) % p = (b * c) % p := by rw [Int.mul_emod, h, ← Int.mul_emod]
theorem ma {p a b c d : Int} (h : a % p = b % p) (g : c % p = d % p) : (a + c) % p = (b + d) % p := by rw [Int.add_emod, h, g, ← Int.add_emod]
theorem wl_null {p : Int} (f : Nat → Int) : ∀ xs : P, (∀ i, co xs i % p = 0) → wl f xs % p = 0
  | [], _ => by simp [wl]
  | x :: r, h => by
    simp only [wl]
    have h0 := h 0
    rw [co_cons_zero] at h0
    have hr := wl_null (p := p) (fun n => f (n + 1)) r fun i => by rw [← co_cons_succ x r i]; exact h (i + 1)
    rw [Int.add_emod, hr, Int.mul_emod, h0]
    simp
theorem wl_mod {p : Int} (f : Nat → Int) : ∀ a b : P, Eqm p a b → wl f a % p = wl f b % p
  | [], b, h => by
    rw [wl_null f b fun i => by rw [← h i, co_nil]; exact Int.zero_emod p]
    exact Int.zero_emod p
  | a, [], h => by
    rw [wl_null f a fun i => by rw [h i, co_nil]; exact Int.zero_emod p]
    exact (Int.zero_emod p).symm
  | x :: r, y :: t, h => by
    simp only [wl]
    refine ma (mm p _ _ _ ?_) (wl_mod _ r t fun i => ?_)
    · have := h 0
      rwa [co_cons_zero, co_cons_zero] at this
    · have := h (i + 1)
      rwa [co_cons_succ, co_cons_succ] at this
theorem wl_fmod {p : Int} {f g : Nat → Int} : ∀ {xs : P}, (∀ i, i < xs.length → f i % p = g i % p) → wl f xs % p = wl g xs % p
  | [], _ => rfl
  | x :: r, h => by
    simp only [wl]
    refine ma ?_ (wl_fmod (xs := r) fun i hi => h (i + 1) (by simpa using hi))
    rw [Int.mul_comm, Int.mul_comm x]
    exact mm p _ _ _ (h 0 (by simp))
theorem eqm_of {p : Int} {a b : P} (h : ∀ f, wl f a % p = wl f b % p) : Eqm p a b := fun i => by
  rw [← wl_ind i a, ← wl_ind i b]
  exact h _
/-! tables -/
def tab (n : Nat) (f : Nat → Int) : P := (List.range n).map f
theorem tab_len (n : Nat) (f : Nat → Int) : (tab n f).length = n := by simp [tab]
theorem tab_co (n : Nat) (f : Nat → Int) (i : Nat) : co (tab n f) i = if i < n then f i else 0 := by
  by_cases h : i < n
  · rw [if_pos h]
    exact co_get (by simp [tab, List.getElem?_range h])
  · rw [if_neg h]
    exact co_ge (by rw [tab_len]; omega)
/-! products -/
def conv (a b : P) (m : Nat) : Int := wl (fun i => wl (fun j => if i + j = m then 1 else 0) b) a
theorem conv_ge {a b : P} {m : Nat} (h : a.length + b.length ≤ m + 1) : conv a b m = 0 := by
  unfold conv
  rw [wl_congr (g := fun _ => 0) fun i hi => ?_, wl_zero]
  rw [wl_congr (g := fun _ => 0) fun j hj => ?_, wl_zero]
  rw [if_neg (by omega)]
def mulL (a b : P) : P := tab (a.length + b.length) (conv a b)
def addL (a b : P) : P := tab (max a.length b.length) fun i => co a i + co b i
theorem mulL_co (a b : P) (m : Nat) : co (mulL a b) m = conv a b m := by
  unfold mulL
  rw [tab_co]
  split
  · rfl
  · rw [conv_ge (by omega)]
theorem addL_co (a b : P) (m : Nat) : co (addL a b) m = co a m + co b m := by
  unfold addL
  rw [tab_co]
  split
  · rfl
  · rw [co_ge (xs := a) (by omega), co_ge (xs := b) (by omega)]
    rfl
def sumN (n : Nat) (f : Nat → Int) : Int := match n with
  | 0 => 0
  | k + 1 => sumN k f + f k
theorem wl_app (f : Nat → Int) : ∀ a b : P, wl f (a ++ b) = wl f a + wl (fun n => f (a.length + n)) b
  | [], b => by simp [wl]
  | x :: r, b => by
    simp only [List.cons_append, wl, List.length_cons]
    rw [wl_app _ r b, Int.add_assoc]
    congr 2
    exact wl_congr fun i _ => by congr 1; omega
theorem wl_tab (f g : Nat → Int) : ∀ n : Nat, wl f (tab n g) = sumN n fun m => g m * f m
  | 0 => rfl
  | n + 1 => by
    have e : tab (n + 1) g = tab n g ++ [g n] := by simp [tab, List.range_succ]
    rw [e, wl_app, wl_tab f g n, tab_len]
    simp [wl, sumN]
theorem sumN_congr {f g : Nat → Int} : ∀ {n : Nat}, (∀ i, i < n → f i = g i) → sumN n f = sumN n g
  | 0, _ => rfl
  | n + 1, h => by
    simp only [sumN]
    rw [sumN_congr (n := n) fun i hi => h i (by omega), h n (by omega)]
theorem sumN_wl (F : Nat → Nat → Int) (a : P) : ∀ n : Nat, (sumN n fun m => wl (fun i => F i m) a) = wl (fun i => sumN n fun m => F i m) a
  | 0 => (wl_zero a).symm
  | n + 1 => by
    simp only [sumN]
    rw [sumN_wl F a n, wl_add]
theorem sumN_ind (f : Nat → Int) (k : Nat) : ∀ n : Nat, k < n → (sumN n fun m => (if k = m then 1 else 0) * f m) = f k
  | 0, h => by omega
  | n + 1, h => by
    simp only [sumN]
    by_cases e : k = n
    · subst e
      rw [if_pos rfl, Int.one_mul]
      have z : ∀ j : Nat, j ≤ k → (sumN j fun m => (if k = m then (1 : Int) else 0) * f m) = 0 := by
        intro j
        induction j with
        | zero => intro _; rfl
        | succ j ih =>
          intro hj
          simp only [sumN]
          rw [ih (by omega), if_neg (by omega)]
          simp
      rw [z k (Nat.le_refl k), Int.zero_add]
    · rw [sumN_ind f k n (by omega), if_neg e]
      simp
theorem wl_mulL (f : Nat → Int) (a b : P) : wl f (mulL a b) = wl (fun i => wl (fun j => f (i + j)) b) a := by
  unfold mulL
  rw [wl_tab]
  unfold conv
  have e1 : ∀ m, wl (fun i => wl (fun j => if i + j = m then (1 : Int) else 0) b) a * f m = wl (fun i => wl (fun j => (if i + j = m then 1 else 0) * f m) b) a := fun m => by
    rw [Int.mul_comm, ← wl_smul]
    refine wl_congr fun i _ => ?_
    rw [← wl_smul]
    exact wl_congr fun j _ => Int.mul_comm _ _
  rw [sumN_congr fun m _ => e1 m, sumN_wl]
  refine wl_congr fun i hi => ?_
  rw [sumN_wl]
  exact wl_congr fun j hj => sumN_ind f (i + j) _ (by omega)
theorem wl_addL (f : Nat → Int) (a b : P) : wl f (addL a b) = wl f a + wl f b := by
  have key : ∀ (n : Nat) (c : P), c.length ≤ n → wl f c = sumN n fun m => co c m * f m := fun n c h => by
    rw [← wl_tab f (co c) n]
    induction n generalizing c f with
    | zero =>
      have : c = [] := List.eq_nil_of_length_eq_zero (by omega)
      subst this
      rfl
    | succ n ih =>
      cases c with
      | nil =>
        have z : ∀ (k : Nat) (g : Nat → Int), wl g (tab k (co [])) = 0 := fun k g => by
          rw [wl_tab]
          induction k with
          | zero => rfl
          | succ k ih2 => simp only [sumN]; rw [ih2, co_nil]; simp
        rw [z]
        rfl
      | cons x r =>
        have e : tab (n + 1) (co (x :: r)) = x :: tab n (co r) := by
          simp only [tab, List.range_succ_eq_map, List.map_cons, List.map_map, co_cons_zero]
          congr 1
        rw [e]
        simp only [wl]
        rw [ih (fun n => f (n + 1)) r (by simpa using h)]
  unfold addL
  rw [wl_tab, key (max a.length b.length) a (by omega), key (max a.length b.length) b (by omega)]
  generalize max a.length b.length = n
  induction n with
  | zero => rfl
  | succ n ih => simp only [sumN]; rw [ih, Int.add_mul]; omega
/-! trimmed -/
def trimZ (xs : P) : P := (xs.reverse.dropWhile fun x => x == 0).reverse
theorem trimZ_snoc_zero (xs : P) : trimZ (xs ++ [0]) = trimZ xs := by simp [trimZ]
theorem trimZ_snoc_ne (xs : P) {x : Int} (h : x ≠ 0) : trimZ (xs ++ [x]) = xs ++ [x] := by simp [trimZ, h]
theorem trimZ_nil : trimZ [] = [] := rfl
theorem snoc_cases (xs : P) : xs = [] ∨ ∃ ys x, xs = ys ++ [x] := by
  by_cases h : xs = []
  · exact .inl h
  · exact .inr ⟨xs.dropLast, xs.getLast h, (List.dropLast_concat_getLast h).symm⟩
theorem snoc_ind {C : P → Prop} (h0 : C []) (h1 : ∀ ys x, C ys → C (ys ++ [x])) : ∀ xs, C xs := by
  have : ∀ n (xs : P), xs.length = n → C xs := by
    intro n
    induction n with
    | zero => intro xs h; rw [List.eq_nil_of_length_eq_zero h]; exact h0
    | succ n ih =>
      intro xs h
      rcases snoc_cases xs with e | ⟨ys, x, e⟩
      · rw [e]; exact h0
      · subst e
        exact h1 ys x (ih ys (by simpa using h))
  exact fun xs => this _ xs rfl
theorem co_snoc (xs : P) (x : Int) (i : Nat) : co (xs ++ [x]) i = if i = xs.length then x else co xs i := by
  simp only [co, List.getD]
  by_cases h : i < xs.length
  · rw [if_neg (by omega), List.getElem?_append_left h]
  · by_cases e : i = xs.length
    · subst e
      rw [if_pos rfl, List.getElem?_append_right (by omega)]
      simp
    · rw [if_neg e, List.getElem?_eq_none (by simp; omega), List.getElem?_eq_none (by omega)]
theorem trimZ_co (xs : P) (i : Nat) : co (trimZ xs) i = co xs i := by
  refine snoc_ind (C := fun xs => co (trimZ xs) i = co xs i) rfl (fun ys x ih => ?_) xs
  by_cases h : x = 0
  · subst h
    rw [trimZ_snoc_zero, ih, co_snoc]
    split
    · rename_i e
      rw [co_ge (by omega)]
    · rfl
  · rw [trimZ_snoc_ne _ h]
theorem trimZ_len (xs : P) : (trimZ xs).length ≤ xs.length := by
  refine snoc_ind (C := fun xs => (trimZ xs).length ≤ xs.length) (Nat.le_refl _) (fun ys x ih => ?_) xs
  by_cases h : x = 0
  · subst h
    rw [trimZ_snoc_zero]
    simp
    omega
  · rw [trimZ_snoc_ne _ h]
    exact Nat.le_refl _
/-- the last one is not nought -/
def Tip (xs : P) : Prop := ∀ ys x, xs = ys ++ [x] → x ≠ 0
theorem trimZ_tip (xs : P) : Tip (trimZ xs) := by
  refine snoc_ind (C := fun xs => Tip (trimZ xs)) (fun ys x e => by simp [trimZ_nil] at e) (fun ys x ih => ?_) xs
  by_cases h : x = 0
  · subst h
    rw [trimZ_snoc_zero]
    exact ih
  · rw [trimZ_snoc_ne _ h]
    intro zs z e
    have := List.append_inj_right' e rfl
    cases this
    exact h
theorem trimZ_le {xs : P} {n : Nat} (h : ∀ i, n ≤ i → co xs i = 0) : (trimZ xs).length ≤ n := by
  rcases snoc_cases (trimZ xs) with e | ⟨ys, x, e⟩
  · rw [e]; simp
  · have t := trimZ_tip xs ys x e
    have c := trimZ_co xs ys.length
    rw [e, co_snoc, if_pos rfl] at c
    refine Nat.le_of_not_lt fun z => t ?_
    rw [c]
    refine h _ ?_
    rw [e] at z
    simp at z
    omega
structure IsSum (p : Int) (s : P) : Prop where
  rng : ∀ x ∈ s, 0 ≤ x ∧ x < p
  tip : Tip s
theorem IsSum.nil (p : Int) : IsSum p [] := ⟨by simp, fun ys x e => by simp at e⟩
theorem tip_len {a b : P} (ha : Tip a) (h : ∀ i, co a i = co b i) : a.length ≤ b.length := by
  rcases snoc_cases a with e | ⟨ys, x, e⟩
  · rw [e]; simp
  · have t := ha ys x e
    have c := h ys.length
    rw [e, co_snoc, if_pos rfl] at c
    rw [e]
    refine Nat.le_of_not_lt fun z => t ?_
    rw [c]
    refine co_ge ?_
    simp at z
    omega
theorem tip_ext {a b : P} (ha : Tip a) (hb : Tip b) (h : ∀ i, co a i = co b i) : a = b :=
  ext_co (Nat.le_antisymm (tip_len ha h) (tip_len hb fun i => (h i).symm)) h
theorem IsSum.co_rng {p : Int} {s : P} (h : IsSum p s) (hp : 0 < p) (i : Nat) : 0 ≤ co s i ∧ co s i < p := by
  by_cases c : i < s.length
  · exact h.rng _ (List.mem_of_getElem? (get_co c))
  · rw [co_ge (by omega)]
    omega
theorem IsSum.co_mod {p : Int} {s : P} (h : IsSum p s) (hp : 0 < p) (i : Nat) : co s i % p = co s i := Int.emod_eq_of_lt (h.co_rng hp i).1 (h.co_rng hp i).2
theorem IsSum.ext {p : Int} {a b : P} (ha : IsSum p a) (hb : IsSum p b) (hp : 0 < p) (h : Eqm p a b) : a = b :=
  tip_ext ha.tip hb.tip fun i => by rw [← ha.co_mod hp, ← hb.co_mod hp]; exact h i
def trim (p : Int) (xs : P) : P := trimZ (xs.map (· % p))
theorem trim_co (p : Int) (xs : P) (i : Nat) : co (trim p xs) i = co xs i % p := by
  unfold trim
  rw [trimZ_co, co_map (Int.zero_emod p)]
theorem trim_len (p : Int) (xs : P) : (trim p xs).length ≤ xs.length := by
  have := trimZ_len (xs.map (· % p))
  simpa [trim] using this
theorem trim_le {p : Int} {xs : P} {n : Nat} (h : ∀ i, n ≤ i → co xs i % p = 0) : (trim p xs).length ≤ n := trimZ_le fun i hi => by rw [co_map (Int.zero_emod p)]; exact h i hi
theorem trim_eqm (p : Int) (xs : P) : Eqm p (trim p xs) xs := fun i => by rw [trim_co, Int.emod_emod]
theorem mem_trimZ {xs : P} {x : Int} (h : x ∈ trimZ xs) : x ∈ xs := by
  unfold trimZ at h
  rw [List.mem_reverse] at h
  have := List.dropWhile_subset _ h
  rwa [List.mem_reverse] at this
theorem trim_sum {p : Int} (hp : 0 < p) (xs : P) : IsSum p (trim p xs) := ⟨fun x hx => by
  obtain ⟨y, _, rfl⟩ := List.mem_map.mp (mem_trimZ hx)
  exact ⟨Int.emod_nonneg _ (by omega), Int.emod_lt_of_pos _ hp⟩, trimZ_tip _⟩
theorem trim_id {p : Int} (hp : 0 < p) {s : P} (h : IsSum p s) : trim p s = s := (trim_sum hp s).ext h hp (trim_eqm p s)
theorem trim_congr {p : Int} (hp : 0 < p) {a b : P} (h : Eqm p a b) : trim p a = trim p b := (trim_sum hp a).ext (trim_sum hp b) hp ((trim_eqm p a).trans (h.trans (trim_eqm p b).symm))
def plus (p : Int) (a b : P) : P := trim p (addL a b)
def mul (p : Int) (a b : P) : P := trim p (mulL a b)
theorem plus_co (p : Int) (a b : P) (i : Nat) : co (plus p a b) i = (co a i + co b i) % p := by rw [plus, trim_co, addL_co]
theorem mul_co (p : Int) (a b : P) (i : Nat) : co (mul p a b) i = conv a b i % p := by rw [mul, trim_co, mulL_co]
theorem plus_len (p : Int) (a b : P) : (plus p a b).length ≤ max a.length b.length := by
  have := trim_len p (addL a b)
  rwa [addL, tab_len] at this
theorem mul_len (p : Int) (a b : P) : (mul p a b).length ≤ a.length + b.length - 1 := by
  refine trim_le fun i hi => ?_
  rw [mulL_co, conv_ge (by omega)]
  exact Int.zero_emod p
theorem mul_nil (p : Int) (a : P) (h : 0 < p) : mul p a [] = [] := by
  refine (trim_sum h _).ext (IsSum.nil p) h fun i => ?_
  rw [← mul, mul_co, co_nil]
  have : conv a [] i = 0 := by unfold conv; simp only [wl]; exact wl_zero a
  rw [this]
  simp
theorem nil_mul (p : Int) (a : P) (h : 0 < p) : mul p [] a = [] := by
  refine (trim_sum h _).ext (IsSum.nil p) h fun i => ?_
  rw [← mul, mul_co, co_nil]
  simp [conv, wl]
/-! by weighed sums -/
theorem wl_trim {p : Int} (f : Nat → Int) (xs : P) : wl f (trim p xs) % p = wl f xs % p := wl_mod f _ _ (trim_eqm p xs)
theorem wl_plus (p : Int) (f : Nat → Int) (a b : P) : wl f (plus p a b) % p = (wl f a + wl f b) % p := by rw [plus, wl_trim, wl_addL]
theorem wl_mul (p : Int) (f : Nat → Int) (a b : P) : wl f (mul p a b) % p = wl (fun i => wl (fun j => f (i + j)) b) a % p := by rw [mul, wl_trim, wl_mulL]
/-! the loops' tables -/
theorem tab_set (n : Nat) (f : Nat → Int) (i : Nat) (v : Int) : (tab n f).set i v = tab n fun m => if m = i then v else f m := by
  refine List.ext_getElem? fun j => ?_
  simp only [tab, List.getElem?_map]
  by_cases e : j = i
  · subst e
    by_cases h : j < n
    · rw [List.getElem?_set_self (by simpa using h), List.getElem?_range h]
      simp
    · rw [List.getElem?_eq_none (by simp; omega), List.getElem?_eq_none (by simp; omega)]
      rfl
  · rw [List.getElem?_set_ne (Ne.symm e), List.getElem?_map]
    by_cases h : j < n
    · rw [List.getElem?_range h]
      simp [e]
    · rw [List.getElem?_eq_none (by simp; omega)]
      rfl
theorem tab_congr {n : Nat} {f g : Nat → Int} (h : ∀ i, i < n → f i = g i) : tab n f = tab n g := List.map_congr_left fun i hi => h i (by simpa using hi)
theorem wl_take (f : Nat → Int) (xs : P) (j : Nat) (h : j < xs.length) : wl f (xs.take (j + 1)) = wl f (xs.take j) + co xs j * f j := by
  have e : xs.take (j + 1) = xs.take j ++ [co xs j] := by
    rw [List.take_add_one, get_co h]
    rfl
  rw [e, wl_app, List.length_take, Nat.min_eq_left (by omega)]
  simp [wl]
def rowM (a b : P) (k j m : Nat) : Int := conv (a.take k) b m + co a k * wl (fun i => if k + i = m then 1 else 0) (b.take j)
theorem rowM_step {a b : P} {k j : Nat} (hj : j < b.length) (m : Nat) : rowM a b k (j + 1) m = if m = k + j then rowM a b k j (k + j) + co a k * co b j else rowM a b k j m := by
  unfold rowM
  rw [wl_take _ _ _ hj, Int.mul_add]
  by_cases e : m = k + j
  · subst e
    rw [if_pos rfl, if_pos rfl, Int.mul_one]
    omega
  · rw [if_neg e, if_neg (by omega), Int.mul_zero, Int.mul_zero, Int.add_zero]
theorem rowM_next {a b : P} {k : Nat} (hk : k < a.length) (m : Nat) : rowM a b k b.length m = rowM a b (k + 1) 0 m := by
  unfold rowM conv
  rw [wl_take _ _ _ hk, List.take_length]
  simp [wl]
theorem rowM_zero (a b : P) (m : Nat) : rowM a b 0 0 m = 0 := by simp [rowM, conv, wl]
theorem rowM_done (a b : P) (m : Nat) : rowM a b a.length 0 m = conv a b m := by
  unfold rowM
  rw [List.take_length]
  simp [wl]
theorem tab_zero (n : Nat) : tab n (fun _ => 0) = List.replicate n 0 := by
  unfold tab
  rw [List.map_const']
  simp
end Po

namespace Dk
open PySem PySem.Spec PyProof.Rows L2
theorem ixN_in {n : Nat} {i : Int} (h0 : 0 ≤ i) (h1 : i < n) : ixN n i = some i.toNat := by
  unfold ixN
  rw [if_pos h0, if_pos (by omega)]
theorem nums_at {xs : List Int} {i : Int} (h0 : 0 ≤ i) (h1 : i < xs.length) : atI (xs.map PyData.int) i = some (.int (Po.co xs i.toNat)) := by
  unfold atI
  rw [List.length_map, ixN_in h0 h1]
  show (xs.map PyData.int)[i.toNat]? = _
  rw [List.getElem?_map, Po.get_co (by omega)]
  rfl
theorem nums_last {xs : List Int} {x : Int} : atI ((xs ++ [x]).map PyData.int) (-1) = some (.int x) := by
  unfold atI ixN
  rw [if_neg (by omega), if_pos (by simp; omega)]
  rw [List.map_append]
  show ((xs.map PyData.int) ++ [PyData.int x])[((-1 : Int) + (((xs.map PyData.int) ++ [PyData.int x]).length : Int)).toNat]? = _
  have e : ((-1 : Int) + (((xs.map PyData.int) ++ [PyData.int x]).length : Int)).toNat = (xs.map PyData.int).length := by simp; omega
  rw [e, List.getElem?_append_right (Nat.le_refl _), Nat.sub_self]
  rfl
theorem nums_set (xs : List Int) (j : Nat) (v : Int) : (xs.map PyData.int).set j (.int v) = (xs.set j v).map PyData.int := by rw [List.map_set]
theorem rep_nums (n : Nat) : repD [.int 0] n = (Po.tab n fun _ => 0).map PyData.int := by
  rw [Po.tab_zero, List.map_replicate]
  unfold repD
  induction n with
  | zero => rfl
  | succ m ih => rw [List.replicate_succ, List.flatten_cons, ih, List.replicate_succ]; rfl
theorem cut_dropLast (ds : List PyData) : cutD ds none (some (-1)) = ds.dropLast := by
  have e : HT.sIx ds.length ds.length (some (-1)) = ds.length - 1 := by
    show (if (-1 : Int) < 0 then ((-1 : Int) + (ds.length : Int)).toNat else min (-1 : Int).toNat ds.length) = _
    rw [if_pos (by decide)]
    omega
  unfold cutD
  rw [e, List.dropLast_eq_take]
  show (ds.drop 0).take (ds.length - 1 - 0) = _
  rfl
theorem dropLast_nums (ys : List Int) (x : Int) : ((ys ++ [x]).map PyData.int).dropLast = ys.map PyData.int := by simp
theorem last_nums (ys : List Int) (x : Int) : ((ys ++ [x]).map PyData.int)[((ys ++ [x]).map PyData.int).length - 1]? = some (.int x) := by simp
theorem map_len_snoc (ys : List Int) (x : Int) : ((ys ++ [x]).map PyData.int).length = ys.length + 1 := by simp
def olen (i : Nat) (Γ : G) : Nat := match Γ[i]? with
  | some (.ow (.lst ds)) => ds.length
  | _ => 0
theorem tab_at {n : Nat} {f : Nat → Int} {i : Int} (h0 : 0 ≤ i) (h1 : i < n) : atI ((Po.tab n f).map PyData.int) i = some (.int (f i.toNat)) := by
  rw [nums_at h0 (by rw [Po.tab_len]; exact h1), Po.tab_co, if_pos (by omega)]
theorem tab_ix {n : Nat} {f : Nat → Int} {i : Int} (h0 : 0 ≤ i) (h1 : i < n) : ixN ((Po.tab n f).map PyData.int).length i = some i.toNat := by
  rw [List.length_map, Po.tab_len]
  exact ixN_in h0 h1
theorem tab_put (n : Nat) (f : Nat → Int) (i : Nat) (v : Int) : ((Po.tab n f).map PyData.int).set i (.int v) = (Po.tab n fun m => if m = i then v else f m).map PyData.int := by rw [nums_set, Po.tab_set]
theorem pad_nums {xs : List Int} {n : Nat} (h : xs.length ≤ n) : xs.map PyData.int ++ repD [.int 0] (n - xs.length) = (Po.tab n (Po.co xs)).map PyData.int := by
  rw [rep_nums, ← List.map_append]
  congr 1
  refine Po.ext_co (by simp [Po.tab_len]; omega) fun i => ?_
  rw [Po.tab_co, Po.tab_zero]
  unfold Po.co
  by_cases c : i < xs.length
  · rw [if_pos (by omega)]
    simp [List.getD, List.getElem?_append_left c]
  · simp only [List.getD]
    rw [List.getElem?_append_right (by omega), List.getElem?_replicate, List.getElem?_eq_none (by omega)]
    split <;> split <;> rfl
theorem range_tab (n : Nat) (f : Nat → Int) : (List.range n).filterMap (fun k => some (PyData.int (f k))) = (Po.tab n f).map PyData.int := by
  rw [fm_map, Po.tab, List.map_map]
  rfl
theorem cut_take (ds : List PyData) (k : Nat) : cutD ds none (some (k : Int)) = ds.take k := by
  unfold cutD
  rw [HT.sIx_nat]
  show (ds.drop 0).take (min k ds.length - 0) = _
  rw [List.drop_zero, Nat.sub_zero]
  by_cases h : k ≤ ds.length
  · rw [Nat.min_eq_left h]
  · rw [Nat.min_eq_right (by omega), List.take_length, List.take_of_length_le (by omega)]
theorem at6 {a b c d e g r : Int} (r0 : 0 ≤ r) (r1 : r < 6) : ∃ z : Int, atI [PyData.int a, .int b, .int c, .int d, .int e, .int g] r = some (.int z) ∧ (z = a ∨ z = b ∨ z = c ∨ z = d ∨ z = e ∨ z = g) := by
  have h : r = 0 ∨ r = 1 ∨ r = 2 ∨ r = 3 ∨ r = 4 ∨ r = 5 := by omega
  rcases h with rfl | rfl | rfl | rfl | rfl | rfl
  · exact ⟨a, rfl, .inl rfl⟩
  · exact ⟨b, rfl, .inr (.inl rfl)⟩
  · exact ⟨c, rfl, .inr (.inr (.inl rfl))⟩
  · exact ⟨d, rfl, .inr (.inr (.inr (.inl rfl)))⟩
  · exact ⟨e, rfl, .inr (.inr (.inr (.inr (.inl rfl))))⟩
  · exact ⟨g, rfl, .inr (.inr (.inr (.inr (.inr rfl))))⟩
def cTrim : List PyData → (PyData → Prop) → Prop := fun ds Qd => ∃ (p : Int) (xs : List Int), ds = [.int p, eList xs] ∧ 0 < p ∧ xs.length ≤ 100000 ∧ Qd (eNums (Po.trim p xs))
def Small (xs : List Int) : Prop := ∀ x ∈ xs, -1000 < x ∧ x < 1000
def cPlus : List PyData → (PyData → Prop) → Prop := fun ds Qd => ∃ (p : Int) (a b : List Int), ds = [.int p, eNums a, eNums b] ∧ 0 < p ∧ a.length ≤ 10000 ∧ b.length ≤ 10000 ∧ Qd (eNums (Po.plus p a b))
def cMulS : List PyData → (PyData → Prop) → Prop := fun ds Qd => ∃ (p : Int) (a b : List Int), ds = [.int p, eNums a, eNums b] ∧ 0 < p ∧ a.length ≤ 10000 ∧ b.length ≤ 10000 ∧ Small a ∧ Qd (eNums (Po.mul p a b))
def cInverse : List PyData → (PyData → Prop) → Prop := fun ds Qd => ∃ (p s : Int), ds = [.int p, .int s] ∧ GoodP p ∧ 0 < s ∧ s < p ∧ ∀ n : Int, 0 < n → n < p → n * s % p = 1 → Qd (.int n)
theorem inv_there {p s : Int} (hp : GoodP p) (h0 : 0 < s) (h1 : s < p) : ∃ n : Nat, 0 < n ∧ (n : Int) < p ∧ (n : Int) * s % p = 1 := by
  rcases hp with rfl | rfl | rfl | rfl
  · exact ⟨1, by decide, by decide, by omega⟩
  · have : s = 1 ∨ s = 2 := by omega
    rcases this with rfl | rfl
    · exact ⟨1, by decide, by decide, by decide⟩
    · exact ⟨2, by decide, by decide, by decide⟩
  · have : s = 1 ∨ s = 2 ∨ s = 3 ∨ s = 4 := by omega
    rcases this with rfl | rfl | rfl | rfl
    · exact ⟨1, by decide, by decide, by decide⟩
    · exact ⟨3, by decide, by decide, by decide⟩
    · exact ⟨2, by decide, by decide, by decide⟩
    · exact ⟨4, by decide, by decide, by decide⟩
  · have : s = 1 ∨ s = 2 ∨ s = 3 ∨ s = 4 ∨ s = 5 ∨ s = 6 := by omega
    rcases this with rfl | rfl | rfl | rfl | rfl | rfl
    · exact ⟨1, by decide, by decide, by decide⟩
    · exact ⟨4, by decide, by decide, by decide⟩
    · exact ⟨5, by decide, by decide, by decide⟩
    · exact ⟨2, by decide, by decide, by decide⟩
    · exact ⟨3, by decide, by decide, by decide⟩
    · exact ⟨6, by decide, by decide, by decide⟩
def cDrawSum : List PyData → (PyData → Prop) → Prop := fun ds Qd => ∃ (p most : Int), ds = [.int p, .int most] ∧ GoodP p ∧ 0 ≤ most ∧ most ≤ 63 ∧ ∀ xs : List Int, Po.IsSum p xs → (xs.length : Int) ≤ most → Qd (eNums xs)
def cIsSum : List PyData → (PyData → Prop) → Prop := fun ds Qd => ∃ (p : Int) (xs : List Int), ds = [.int p, eNums xs] ∧ Po.IsSum p xs ∧ xs.length ≤ 100000 ∧ Qd (.bool true)
theorem IsSum.small {p : Int} {xs : List Int} (hp : GoodP p) (h : Po.IsSum p xs) : Small xs := fun x hx => by
  have := h.rng x hx
  have := hp.le
  omega
end Dk

/-! what a round costs -/
namespace Rd
open Pt
def price (p s : Int) : Int := if p - s < s then p - s else s
def ab (i : Int) : Int := if i < 0 then -i else i
def spots (a : R) : List Int := 0 :: a.1 :: a.2.map (·.1)
def lo (a : R) : Int := (a.1 :: a.2.map (·.1)).foldl min 0
def hi (a : R) : Int := (a.1 :: a.2.map (·.1)).foldl max 0
def turns (p : Int) (xs : Pat) : Int := (xs.map fun x => price p x.2).sum
def fewest (p : Int) (a : R) : Int := turns p a.2 + 2 * (hi a - lo a) - ab a.1
theorem foldl_min : ∀ (xs : List Int) (m : Int), (xs.foldl min m ∈ m :: xs) ∧ ∀ y ∈ m :: xs, xs.foldl min m ≤ y
  | [], m => ⟨by simp, by simp⟩
  | x :: r, m => by
    obtain ⟨h1, h2⟩ := foldl_min r (min m x)
    refine ⟨?_, fun y hy => ?_⟩
    · rw [List.foldl_cons]
      rcases List.mem_cons.mp h1 with h | h
      · rw [h]
        rcases Int.le_total m x with z | z
        · rw [Int.min_eq_left z]; simp
        · rw [Int.min_eq_right z]; simp
      · simp [h]
    · rw [List.foldl_cons]
      have h0 := h2 (min m x) (by simp)
      rcases List.mem_cons.mp hy with rfl | hy
      · omega
      · rcases List.mem_cons.mp hy with rfl | hy
        · omega
        · exact h2 y (by simp [hy])
theorem foldl_max : ∀ (xs : List Int) (m : Int), (xs.foldl max m ∈ m :: xs) ∧ ∀ y ∈ m :: xs, y ≤ xs.foldl max m
  | [], m => ⟨by simp, by simp⟩
  | x :: r, m => by
    obtain ⟨h1, h2⟩ := foldl_max r (max m x)
    refine ⟨?_, fun y hy => ?_⟩
    · rw [List.foldl_cons]
      rcases List.mem_cons.mp h1 with h | h
      · rw [h]
        rcases Int.le_total m x with z | z
        · rw [Int.max_eq_right z]; simp
        · rw [Int.max_eq_left z]; simp
      · simp [h]
    · rw [List.foldl_cons]
      have h0 := h2 (max m x) (by simp)
      rcases List.mem_cons.mp hy with rfl | hy
      · omega
      · rcases List.mem_cons.mp hy with rfl | hy
        · omega
        · exact h2 y (by simp [hy])
theorem lo_mem (a : R) : lo a ∈ spots a := (foldl_min _ _).1
theorem lo_le {a : R} {y : Int} (h : y ∈ spots a) : lo a ≤ y := (foldl_min _ _).2 y h
theorem hi_mem (a : R) : hi a ∈ spots a := (foldl_max _ _).1
theorem le_hi {a : R} {y : Int} (h : y ∈ spots a) : y ≤ hi a := (foldl_max _ _).2 y h
theorem lo_is {a : R} {m : Int} (h1 : m ∈ spots a) (h2 : ∀ y, y ∈ spots a → m ≤ y) : m = lo a := Int.le_antisymm (h2 _ (lo_mem a)) (lo_le h1)
theorem hi_is {a : R} {m : Int} (h1 : m ∈ spots a) (h2 : ∀ y, y ∈ spots a → y ≤ m) : m = hi a := Int.le_antisymm (le_hi h1) (h2 _ (hi_mem a))
end Rd

/-! columns, stairs, lying low -/
namespace Sr
open Pt
def col (st k : Int) : Int := if st = 0 then k else k % st
def minL : List Int → Int
  | [] => 0
  | n :: ns => ns.foldl min n
theorem minL_mem {ns : List Int} (h : ns ≠ []) : minL ns ∈ ns := by
  cases ns with
  | nil => exact absurd rfl h
  | cons n r => exact (Rd.foldl_min r n).1
theorem minL_le {ns : List Int} {y : Int} (h : y ∈ ns) : minL ns ≤ y := by
  cases ns with
  | nil => cases h
  | cons n r => exact (Rd.foldl_min r n).2 y h
theorem minL_is {ns : List Int} {m : Int} (h1 : m ∈ ns) (h2 : ∀ y, y ∈ ns → m ≤ y) : m = minL ns := Int.le_antisymm (h2 _ (minL_mem (List.ne_nil_of_mem h1))) (minL_le h1)
def firstC (st : Int) (xs : Pat) : Int := minL (xs.map fun x => col st x.1)
def spots (st : Int) (xs : Pat) (at' : Int) : List Int := (xs.filter fun x => decide (col st x.1 = at')).map (·.1)
theorem mem_spots {st : Int} {xs : Pat} {c k : Int} : k ∈ spots st xs c ↔ (∃ x ∈ xs, x.1 = k) ∧ col st k = c := by
  unfold spots
  rw [List.mem_map]
  constructor
  · rintro ⟨x, hx, rfl⟩
    rw [List.mem_filter] at hx
    exact ⟨⟨x, hx.1, rfl⟩, of_decide_eq_true hx.2⟩
  · rintro ⟨⟨x, hx, rfl⟩, h⟩
    exact ⟨x, List.mem_filter.mpr ⟨hx, decide_eq_true h⟩, rfl⟩
theorem spots_srt {p st : Int} {xs : Pat} (h : IsPat p xs) (c : Int) : (spots st xs c).Pairwise (· < ·) := by
  unfold spots
  rw [List.pairwise_map]
  exact h.srt.filter _
theorem spots_first {st : Int} {xs : Pat} (h : xs ≠ []) : spots st xs (firstC st xs) ≠ [] := by
  have hm : firstC st xs ∈ xs.map fun x => col st x.1 := minL_mem (by simpa using h)
  obtain ⟨x, hx, e⟩ := List.mem_map.mp hm
  exact List.ne_nil_of_mem (mem_spots.mpr ⟨⟨x, hx, rfl⟩, e⟩)
def lastD (ns : List Int) : Int := ns.getD (ns.length - 1) 0
def headD (ns : List Int) : Int := ns.getD 0 0
def lenC (st : Int) (xs : Pat) : Int := if st = 0 then 0 else (lastD (spots st xs (firstC st xs)) - headD (spots st xs (firstC st xs))) / st
theorem spots_len (st : Int) (xs : Pat) (c : Int) : (spots st xs c).length ≤ xs.length := by
  unfold spots
  rw [List.length_map]
  exact List.length_filter_le _ _
theorem srt_last {ns : List Int} (h : ns.Pairwise (· < ·)) {y : Int} (hy : y ∈ ns) : headD ns ≤ y ∧ y ≤ lastD ns := by
  have hl : 0 < ns.length := List.length_pos_of_mem hy
  obtain ⟨i, hi, rfl⟩ := List.getElem_of_mem hy
  have e1 : headD ns = ns[0] := by simp [headD, List.getD, List.getElem?_eq_getElem hl]
  have e2 : lastD ns = ns[ns.length - 1] := by simp [lastD, List.getD, List.getElem?_eq_getElem (show ns.length - 1 < ns.length by omega)]
  rw [e1, e2]
  constructor
  · by_cases z : i = 0
    · subst z; exact Int.le_refl _
    · exact Int.le_of_lt (List.pairwise_iff_getElem.mp h 0 i hl hi (by omega))
  · by_cases z : i = ns.length - 1
    · subst z; exact Int.le_refl _
    · exact Int.le_of_lt (List.pairwise_iff_getElem.mp h i (ns.length - 1) hi (by omega) (by omega))
theorem head_mem {ns : List Int} (h : ns ≠ []) : headD ns ∈ ns ∧ lastD ns ∈ ns := by
  have hl : 0 < ns.length := List.length_pos_iff.mpr h
  have e1 : headD ns = ns[0] := by simp [headD, List.getD, List.getElem?_eq_getElem hl]
  have e2 : lastD ns = ns[ns.length - 1] := by simp [lastD, List.getD, List.getElem?_eq_getElem (show ns.length - 1 < ns.length by omega)]
  rw [e1, e2]
  exact ⟨List.getElem_mem _, List.getElem_mem _⟩
/-- out of its place -/
def topC (st : Int) (s : Pat) : Int := firstC st s + st * lenC st s
def outAt (st : Int) (s xs : Pat) : List Int :=
  if spots st xs (firstC st s) ≠ [] ∧ topC st s ≤ lastD (spots st xs (firstC st s)) then [lastD (spots st xs (firstC st s))]
  else if spots st xs (firstC st s) ≠ [] ∧ headD (spots st xs (firstC st s)) < firstC st s then [headD (spots st xs (firstC st s))] else []
def lowB (st : Int) (ss : List Pat) (xs : Pat) : Bool := ss.all fun s => (outAt st s xs).isEmpty
/-- the law's own way to say it -/
def badB (st : Int) (s : Pat) (k : Int) : Bool := decide (k < firstC st s ∨ topC st s ≤ k)
theorem out_any {p st : Int} {s xs : Pat} (h : IsPat p xs) : (outAt st s xs).isEmpty = !((spots st xs (firstC st s)).any (badB st s)) := by
  have srt := spots_srt (st := st) h (firstC st s)
  unfold outAt
  generalize spots st xs (firstC st s) = ns at srt
  by_cases e : ns = []
  · subst e; simp
  · obtain ⟨m1, m2⟩ := head_mem e
    by_cases c : topC st s ≤ lastD ns
    · rw [if_pos ⟨e, c⟩]
      have : ns.any (badB st s) = true := List.any_eq_true.mpr ⟨_, m2, decide_eq_true (.inr c)⟩
      rw [this]; rfl
    · rw [if_neg (fun z => c z.2)]
      by_cases d : headD ns < firstC st s
      · rw [if_pos ⟨e, d⟩]
        have : ns.any (badB st s) = true := List.any_eq_true.mpr ⟨_, m1, decide_eq_true (.inl d)⟩
        rw [this]; rfl
      · rw [if_neg (fun z => d z.2)]
        have : ns.any (badB st s) = false := by
          rw [List.any_eq_false]
          intro k hk z
          have r := srt_last srt hk
          have := of_decide_eq_true z
          omega
        rw [this]; rfl
theorem lowB_snoc (st : Int) (ss : List Pat) (s xs : Pat) : lowB st (ss ++ [s]) xs = (lowB st ss xs && (outAt st s xs).isEmpty) := by simp [lowB]
end Sr

namespace Dk
open PySem PySem.Spec PyProof.Rows L2
theorem ints_first {ns : List Int} (h : ns ≠ []) : atI (ns.map PyData.int) 0 = some (.int (Sr.headD ns)) := by
  have hl : 0 < ns.length := List.length_pos_iff.mpr h
  refine atI_nat (j := 0) ?_
  rw [List.getElem?_map, List.getElem?_eq_getElem hl]
  simp [Sr.headD, List.getD, List.getElem?_eq_getElem hl]
theorem ints_last {ns : List Int} (h : ns ≠ []) : atI (ns.map PyData.int) (-1) = some (.int (Sr.lastD ns)) := by
  have hl : 0 < ns.length := List.length_pos_iff.mpr h
  unfold atI
  have e : ixN (ns.map PyData.int).length (-1) = some (ns.length - 1) := by
    unfold ixN
    rw [List.length_map]
    simp only [show ¬ (0 : Int) ≤ -1 by omega, if_false]
    rw [if_pos (by omega)]
    congr 1
    omega
  rw [e]
  show (ns.map PyData.int)[ns.length - 1]? = _
  rw [List.getElem?_map, List.getElem?_eq_getElem (by omega)]
  simp [Sr.lastD, List.getD, List.getElem?_eq_getElem (show ns.length - 1 < ns.length by omega)]
def SmallSt (st : Int) : Prop := 0 ≤ st ∧ st < 1000
def cColumn : List PyData → (PyData → Prop) → Prop := fun ds Qd => ∃ k st : Int, ds = [.int k, .int st] ∧ SmallSt st ∧ Qd (.int (Sr.col st k))
def cFirstC : List PyData → (PyData → Prop) → Prop := fun ds Qd => ∃ (st : Int) (xs : Pt.Pat), ds = [.int st, ePat xs] ∧ SmallSt st ∧ xs ≠ [] ∧ xs.length ≤ 4000000 ∧ Qd (.int (Sr.firstC st xs))
def cSpots : List PyData → (OD → Prop) → Prop := fun ds Qd => ∃ (st : Int) (xs : Pt.Pat) (c : Int), ds = [.int st, ePat xs, .int c] ∧ SmallSt st ∧ xs.length ≤ 4000000 ∧ Qd (.lst ((Sr.spots st xs c).map .int))
def cLenC : List PyData → (PyData → Prop) → Prop := fun ds Qd => ∃ (st : Int) (xs : Pt.Pat), ds = [.int st, ePat xs] ∧ SmallSt st ∧ xs ≠ [] ∧ xs.length ≤ 4000000 ∧ (∃ p, Pt.IsPat p xs) ∧ Qd (.int (Sr.lenC st xs))
def cOut : List PyData → (OD → Prop) → Prop := fun ds Qd => ∃ (st : Int) (s xs : Pt.Pat), ds = [.int st, ePat s, ePat xs] ∧ SmallSt st ∧ s ≠ [] ∧ s.length ≤ 4000000 ∧ xs.length ≤ 4000000 ∧ (∃ p, Pt.IsPat p s) ∧ Qd (.lst ((Sr.outAt st s xs).map .int))
def eStairs (ss : List Pt.Pat) : PyData := .tuple (ss.map ePat)
theorem eStairs_tupO (ss : List Pt.Pat) : tupO (eStairs ss) = true := map_tupO (fun s => ePat_tupO s) ss
def GoodS (ss : List Pt.Pat) : Prop := ∀ s ∈ ss, s ≠ [] ∧ s.length ≤ 3000000 ∧ ∃ p, Pt.IsPat p s
def cLow : List PyData → (PyData → Prop) → Prop := fun ds Qd => ∃ (st : Int) (ss : List Pt.Pat) (xs : Pt.Pat), ds = [.int st, eStairs ss, ePat xs] ∧ SmallSt st ∧ GoodS ss ∧ xs.length ≤ 4000000 ∧ (∃ p, Pt.IsPat p xs) ∧ Qd (.bool (Sr.lowB st ss xs))
theorem spots_fm (st : Int) (xs : Pt.Pat) (c : Int) : xs.filterMap (fun x => if decide (Sr.col st x.1 = c) = true then some (PyData.int x.1) else none) = (Sr.spots st xs c).map PyData.int := by
  unfold Sr.spots
  induction xs with
  | nil => rfl
  | cons x r ih =>
    rw [List.filterMap_cons, List.filter_cons]
    by_cases h : Sr.col st x.1 = c
    · simp only [h, decide_true, if_true, List.map_cons]
      rw [ih]
    · simp only [h, decide_false, if_false, Bool.false_eq_true]
      exact ih
theorem len_zero {p st : Int} {xs : Pt.Pat} (h0 : 0 ≤ st) (h : Pt.IsPat p xs) (hn : xs ≠ []) : Sr.lenC st xs = (Sr.lastD (Sr.spots st xs (Sr.firstC st xs)) - Sr.headD (Sr.spots st xs (Sr.firstC st xs))) / maxI 1 st := by
  unfold Sr.lenC maxI
  have hs := Sr.spots_first (st := st) hn
  obtain ⟨m1, m2⟩ := Sr.head_mem hs
  by_cases z : st = 0
  · subst z
    rw [if_pos rfl]
    have e1 := (Sr.mem_spots.mp m1).2
    have e2 := (Sr.mem_spots.mp m2).2
    simp only [Sr.col, if_true] at e1 e2
    rw [e1, e2, Int.sub_self]
    simp
  · rw [if_neg z]
    split
    · rfl
    · rename_i q
      congr 1
      omega
/-! stairs that are drawn -/
def cDrawStair : List PyData → (PyData → Prop) → Prop := fun ds Qd => ∃ p st c : Int, ds = [.int p, .int st, .int c] ∧ GoodP p ∧ 0 ≤ st ∧ st ≤ 8 ∧ (st = 0 ∨ (0 ≤ c ∧ c < st)) ∧ -10 ≤ c ∧ c ≤ 10 ∧ ∀ xs : Pt.Pat, Pt.IsPat p xs → xs ≠ [] → xs.length ≤ 20 → Qd (ePat xs)
def cDrawStairs : List PyData → (PyData → Prop) → Prop := fun ds Qd => ∃ p st : Int, ds = [.int p, .int st] ∧ GoodP p ∧ 0 ≤ st ∧ st ≤ 8 ∧ ∀ ss : List Pt.Pat, ss.length ≤ 13 → (∀ s ∈ ss, Pt.IsPat p s ∧ s ≠ [] ∧ s.length ≤ 20) → Qd (eStairs ss)
def cClose : List PyData → (PyData → Prop) → Prop := fun ds Qd => ∃ (p st : Int) (ss : List Pt.Pat), ds = [.int p, .int st, eStairs ss] ∧ GoodP p ∧ 0 ≤ st ∧ st ≤ 8 ∧ ss.length ≤ 13 ∧ GoodS ss ∧ ∀ xs : Pt.Pat, Pt.IsPat p xs → xs.length ≤ 13 → Qd (ePat xs)
theorem at5 {a b c d e r : Int} (r0 : 0 ≤ r) (r1 : r < 5) : ∃ z : Int, atI [PyData.int a, .int b, .int c, .int d, .int e] r = some (.int z) ∧ (z = a ∨ z = b ∨ z = c ∨ z = d ∨ z = e) := by
  have h : r = 0 ∨ r = 1 ∨ r = 2 ∨ r = 3 ∨ r = 4 := by omega
  rcases h with rfl | rfl | rfl | rfl | rfl
  · exact ⟨a, rfl, .inl rfl⟩
  · exact ⟨b, rfl, .inr (.inl rfl)⟩
  · exact ⟨c, rfl, .inr (.inr (.inl rfl))⟩
  · exact ⟨d, rfl, .inr (.inr (.inr (.inl rfl)))⟩
  · exact ⟨e, rfl, .inr (.inr (.inr (.inr rfl)))⟩
theorem lit_ne {p c : Int} {P : Pt.Pat} (hp : 0 < p) (h0 : 0 < Pt.sumAt P c) (h1 : Pt.sumAt P c < p) : Pt.tidy p P ≠ [] := fun z => by
  have e := Pt.tidy_at hp P c
  rw [z, Int.emod_eq_of_lt (by omega) h1] at e
  simp [Pt.at_] at e
  omega
theorem sum_snoc (P : Pt.Pat) (x : Int × Int) (c : Int) : Pt.sumAt (P ++ [x]) c = Pt.sumAt P c + if x.1 = c then x.2 else 0 := by
  rw [Pt.sumAt_app]
  simp only [Pt.sumAt]
  split <;> omega
def runI (a b : Int) : List Int := (List.range (b - a).toNat).map fun (i : Nat) => a + (i : Int)
theorem runD_int (a b : Int) : runD a b = (runI a b).map PyData.int := by
  unfold runD runI
  rw [List.map_map]
  rfl
theorem mem_runI {a b k : Int} (h : k ∈ runI a b) : a ≤ k ∧ k < b := by
  obtain ⟨i, hi, rfl⟩ := List.mem_map.mp h
  rw [List.mem_range] at hi
  omega
theorem runI_len (a b : Int) : (runI a b).length = (b - a).toNat := by simp [runI]
end Dk

namespace Dk
open PySem PySem.Spec PyProof.Rows L2
/-! ### sorted(d), d a dict whose keys are pairs of whole numbers -/
abbrev Pr := Int × Int
def kk (k : Pr) : List Key := [Sum.inl k.1, Sum.inl k.2]
def rSortDT : List V → Hp → VK → Prop := fun xs H Q => ∃ (a : Addr) (kvs : List (List Key × V)) (ks : List Pr), xs = [.ref a] ∧ L2.Rd H a (.dT kvs) ∧ kvs.map (·.1) = ks.map kk ∧ ks.length ≤ sizeLine ∧
  ∀ (zs : List Addr) (ys : List Pr) (p : Addr), ys.Perm ks → Paired (fun b (y : Pr) => H b = some (.tup [.int y.1, .int y.2])) zs ys → H p = none → Q (.ref p) (upd H p (.lst (zs.map V.ref)))
/-- the pair that a tuple holds -/
def pairOf (H : Hp) (b : Addr) : Pr := match H b with
  | some (.tup [.int i, .int j]) => (i, j)
  | _ => (0, 0)
def backA : Value → Addr
  | .ref b => b
  | _ => 0
theorem refs_of {out : List Value} {bs : List Addr} (h : out.Perm (bs.map Value.ref)) : out = (out.map backA).map Value.ref ∧ (out.map backA).Perm bs := by
  constructor
  · rw [List.map_map]
    conv => lhs; rw [← List.map_id out]
    refine List.map_congr_left fun u hu => ?_
    obtain ⟨b, _, rfl⟩ := List.mem_map.mp (h.mem_iff.mp hu)
    rfl
  · have := h.map backA
    rw [List.map_map] at this
    have e : bs.map (backA ∘ Value.ref) = bs := by
      conv => rhs; rw [← List.map_id bs]
      exact List.map_congr_left fun _ _ => rfl
    rw [e] at this
    exact this
theorem keys_pairs {H : Hp} : ∀ {kvs : List (List Key × V)} {xs : List (List Key × Addr × Value)} {ks : List Pr}, Paired (fun (p : List Key × V) (q : List Key × Addr × Value) => p.1 = q.1 ∧ H q.2.1 = some (.tup (p.1.map kV)) ∧ RelV p.2 q.2.2) kvs xs → kvs.map (·.1) = ks.map kk → ∀ b ∈ xs.map (fun x => x.2.1), H b = some (.tup [.int (pairOf H b).1, .int (pairOf H b).2])
  | _, _, [], .nil, _ => fun b hb => by cases hb
  | _, _, _ :: _, .nil, e => by cases e
  | _, _, [], .cons _ _, e => by cases e
  | _, _, k :: ks, .cons h t, e => by
    injection e with e1 e2
    intro b hb
    rcases List.mem_cons.mp hb with rfl | hb
    · have h2 := h.2.1
      simp only at e1 ⊢
      rw [e1] at h2
      have h3 : H _ = some (.tup [.int k.1, .int k.2]) := h2
      unfold pairOf
      rw [h3]
    · exact keys_pairs t e2 b hb
theorem keys_are {H : Hp} : ∀ {kvs : List (List Key × V)} {xs : List (List Key × Addr × Value)} {ks : List Pr}, Paired (fun (p : List Key × V) (q : List Key × Addr × Value) => p.1 = q.1 ∧ H q.2.1 = some (.tup (p.1.map kV)) ∧ RelV p.2 q.2.2) kvs xs → kvs.map (·.1) = ks.map kk → (xs.map fun x => x.2.1).map (pairOf H) = ks
  | _, _, [], .nil, _ => rfl
  | _, _, _ :: _, .nil, e => by cases e
  | _, _, [], .cons _ _, e => by cases e
  | _, _, k :: ks, .cons h t, e => by
    injection e with e1 e2
    have h2 := h.2.1
    simp only at e1
    rw [e1] at h2
    have h3 : H _ = some (.tup [.int k.1, .int k.2]) := h2
    rw [List.map_cons, List.map_cons, keys_are t e2]
    congr 1
    unfold pairOf
    rw [h3]
theorem paired_map {α β : Type} {P : α → β → Prop} {f : α → β} : ∀ {xs : List α}, (∀ x ∈ xs, P x (f x)) → Paired P xs (xs.map f)
  | [], _ => .nil
  | x :: xs, h => .cons (h x (by simp)) (paired_map fun y hy => h y (by simp [hy]))
theorem b_sortDT {X : Cx} (calm : X.calm = true) : CallR X (.builtin "sorted") rSortDT := fun pn st σ H as vals Q J rv ⟨a, kv, ks, ea, rd, hk, fit, go⟩ => by
  cases ea
  obtain ⟨u, rfl, ru⟩ := vals1 rv
  cases ru
  obtain ⟨_, lo, xs, pr, o, es, ep, ho, hx, hdt, he, _⟩ := (show ObjOk X.prog X.w H st.heap a (.dT kv) from rd_of J.hok rd)
  have hkp := keys_pairs pr hk
  have hka := keys_are pr hk
  have lx : es.size = xs.length := size_of_entries he
  have lk : xs.length = ks.length := by rw [← hka, List.length_map, List.length_map]
  apply Calls.call_function_entry kind_sorted plain_sorted entry_sorted (args_sorted1 _)
  unfold Builtin.«sorted»
  apply wpAny_bind (m := checkCount "sorted" 1 1 _)
  apply wpAny_pure
  apply wpAny_bind
  refine PySem.W.kdu_collect (A := X.A.in1) (kdl_raw lo hx hdt) (J.ok.hd calm) ho (by omega) fun hp tk got keep gath => ?_
  have eg : got.toList = (xs.map fun x => x.2.1).map Value.ref := by
    refine List.ext_getElem? fun j => ?_
    rw [List.map_map, List.getElem?_map]
    have hl : got.toList.length = xs.length := by rw [Array.length_toList, gath.1]; exact lx
    by_cases c : j < xs.length
    · have c2 : j < got.toList.length := by omega
      obtain ⟨en, hen, hv⟩ := gath.2 j got.toList[j] (by rw [← Array.getElem?_toList]; exact List.getElem?_eq_getElem c2)
      have qe := entry_at he j
      rw [hen, List.getElem?_eq_getElem c] at qe
      have e2 : en = entryOfKey (tupleKind (mixKind X.prog X.w)) xs[j] := Option.some.inj qe
      rw [List.getElem?_eq_getElem c2, List.getElem?_eq_getElem c, hv, e2]
      rfl
    · rw [List.getElem?_eq_none (by omega), List.getElem?_eq_none (by omega)]
      rfl
  have gl : got.toList.length ≤ sizeLine := by rw [eg, List.length_map, List.length_map]; omega
  have J' : Inv X pn σ H { st with heap := hp, toks := tk } := J.kept keep
  apply wpAny_bind
  refine wpAny_newList ?_ gl
  let st2 : Shared := { st with heap := hp.push (seqObj "list" got.toList.toArray 0), toks := tk }
  have atL : st2.heap.get? hp.objs.size = some (seqObj "list" got.toList.toArray 0) := Heap.get?_push_size _ rfl
  show wpAny _ _ _ _ _ st2
  have hpr : ∀ v ∈ got.toList, Srt.IsPair st2.heap v (pairOf H (backA v)).1 (pairOf H (backA v)).2 := fun v hv => by
    rw [eg] at hv
    obtain ⟨b, hb, rfl⟩ := List.mem_map.mp hv
    obtain ⟨_, its2, r2, ob, hob, hc, n, hd⟩ := J'.hok _ _ (hkp b hb)
    obtain ⟨u1, u2, rfl, ri, rj⟩ := vals2 r2
    obtain ⟨t1, rfl⟩ := ri
    obtain ⟨t2, rfl⟩ := rj
    exact ⟨b, ob, t1, t2, n, rfl, Heap.get?_push_of_some _ hob, hc, hd⟩
  apply wpAny_bind
  apply wpAny_holding
  refine wpAny_call_entry slot_list_sort ⟨_, atL, rfl⟩ entry_list_sort (SrtO.list_sort_ord (SrtO.swo_lex fun u => pairOf H (backA u)) atL gl (fun h2 => SrtO.pairs_sortableO (by omega) hpr fun o e => ?_) fun out h1 h2 => ⟨_, rfl, ?_⟩) (args_list_sort _)
  · have e' : some o = some (seqObj "list" got.toList.toArray 0) := e.symm.trans atL
    cases e'
    intro c
    exact absurd (Value.type.inj c) (by decide)
  · obtain ⟨_, atE⟩ := sortedHeap_at (vs := got.toList) (out := out.toArray) atL
    have hperm := h2.perm
    rw [eg] at hperm
    obtain ⟨q1, q2⟩ := refs_of hperm
    generalize out.map backA = zs at q1 q2
    subst q1
    have zl : (zs.map V.ref).length ≤ sizeLine := by rw [List.length_map, q2.length_eq, List.length_map]; omega
    apply wpAny_pure
    refine ⟨_, rfl, .ref hp.objs.size, _, J'.laid (o := .lst (zs.map V.ref)) (t' := tk) (fun b u e => ?_) (Nat.le_refl _) ⟨zl, zs.map Value.ref, _, vals_refs zs, atE⟩, rfl, go zs (zs.map (pairOf H)) _ (by rw [← hka]; exact q2.map _) (paired_map fun b hb => hkp b (q2.mem_iff.mp hb)) (J'.hok.fresh (Nat.le_refl _))⟩
    have lt : b < hp.objs.size := Heap.lt_size e
    exact (sortedHeap_old (Nat.ne_of_lt lt) (by show b < (hp.push _).objs.size; rw [size_push']; exact Nat.lt_succ_of_lt lt)).trans (Heap.get?_push_of_some _ e)
def dictKsT (Γ : G) (i : Nat) : Option (List (List Key)) := match Γ[i]? with
  | some (.ow (.dT kvs)) => some (kvs.map (·.1))
  | some (.rf (.dT kvs)) => some (kvs.map (·.1))
  | _ => none
def dSortDT (i : Nat) : TFd := fun Γ Q => ∃ ks : List Pr, dictKsT Γ i = some (ks.map kk) ∧ ks.length ≤ sizeLine ∧ ∀ ys : List Pr, ys.Perm ks → Q (.lst (ys.map ePair)) Γ
theorem pairs_dq {K : Fg} {S : Hp} : ∀ {zs : List Addr} {ys : List Pr}, Paired (fun b (y : Pr) => S b = some (.tup [.int y.1, .int y.2])) zs ys → DqAll K S (zs.map V.ref) (ys.map ePair)
  | _, _, .nil => .nil
  | _, _, .cons h t => .cons (.tup (.inl h) (.cons (.int _) (.cons (.int _) .nil))) (pairs_dq t)
instance sf_sortDT {K : Fg} {i : Nat} : SEF K (tCB rSortDT (tCons (tVar i) tNil)) (dSortDT i) := ⟨fun F W σ Γ Q Qd R ⟨ks, e, hl, q⟩ k => by
  have use : ∀ {s : Sl} {kvs : List (List Key × PyData)}, Γ[i]? = some s → s.own? = some (.dT kvs) → kvs.map (·.1) = ks.map kk → tCB rSortDT (tCons (tVar i) tNil) σ W.H Q := fun {s kvs} h1 h2 h3 => by
    obtain ⟨p, us, g1, g2, g3⟩ := own_dT R h1 h2
    refine ⟨.ref p, g1, p, us, ks, rfl, .inl g2, by rw [g3.keys, h3], hl, fun zs ys p' hp hs hn => k (.lst (ys.map ePair)) W Γ p' _ (Stp.refl ..) R hn ⟨_, rfl, pairs_dq ?_⟩ (q ys hp)⟩
    exact Paired.mapP hs fun b y z => less_some.mpr ⟨fun x => not_mo_tup z (R.exmo x), z⟩
  unfold dictKsT at e
  split at e
  · rename_i kvs h
    exact use h rfl (Option.some.inj e)
  · rename_i kvs h
    exact use h rfl (Option.some.inj e)
  · cases e⟩
end Dk

/-! makers: how often which thing is taken, moved by how many strides -/
namespace Mk
abbrev Pr := Int × Int
abbrev M := List (Pr × Int)
def ws (g : Pr → Int) : M → Int
  | [] => 0
  | x :: r => g x.1 * x.2 + ws g r
theorem ws_app (g : Pr → Int) : ∀ a b : M, ws g (a ++ b) = ws g a + ws g b
  | [], b => by simp [ws]
  | x :: r, b => by
    show g x.1 * x.2 + ws g (r ++ b) = g x.1 * x.2 + ws g r + ws g b
    rw [ws_app g r b]
    omega
theorem ws_mul (g : Pr → Int) (n : Int) : ∀ a : M, ws g (a.map fun x => (x.1, x.2 * n)) = ws g a * n
  | [] => by simp [ws]
  | x :: r => by
    show g x.1 * (x.2 * n) + ws g (r.map fun x => (x.1, x.2 * n)) = (g x.1 * x.2 + ws g r) * n
    rw [ws_mul g n r, Int.add_mul, Int.mul_assoc]
theorem ws_shift (g : Pr → Int) (b : Int) : ∀ a : M, ws g (a.map fun x => ((x.1.1, x.1.2 + b), x.2)) = ws (fun k => g (k.1, k.2 + b)) a
  | [] => rfl
  | x :: r => by
    show g (x.1.1, x.1.2 + b) * x.2 + ws g (r.map fun x => ((x.1.1, x.1.2 + b), x.2)) = _
    rw [ws_shift g b r]
    rfl
def sumM : M → Pr → Int
  | [], _ => 0
  | x :: r, k => (if x.1 = k then x.2 else 0) + sumM r k
theorem sumM_app (a b : M) (k : Pr) : sumM (a ++ b) k = sumM a k + sumM b k := by
  induction a with
  | nil => simp [sumM]
  | cons x r ih =>
    show (if x.1 = k then x.2 else 0) + sumM (r ++ b) k = _
    rw [ih]
    show _ = (if x.1 = k then x.2 else 0) + sumM r k + sumM b k
    omega
theorem sumM_none {a : M} {k : Pr} (h : ∀ x ∈ a, x.1 ≠ k) : sumM a k = 0 := by
  induction a with
  | nil => rfl
  | cons x r ih =>
    show (if x.1 = k then x.2 else 0) + sumM r k = 0
    rw [if_neg (h x (by simp)), ih fun y hy => h y (by simp [hy])]
    rfl
def addP (ks : List Pr) (k : Pr) : List Pr := if k ∈ ks then ks else ks ++ [k]
def keysP (xs : M) : List Pr := xs.foldl (fun ks x => addP ks x.1) []
theorem keysP_snoc (xs : M) (x : Pr × Int) : keysP (xs ++ [x]) = addP (keysP xs) x.1 := by simp [keysP, List.foldl_append]
theorem addP_nodup {ks : List Pr} {k : Pr} (h : ks.Nodup) : (addP ks k).Nodup := by
  unfold addP
  split
  · exact h
  · rename_i c
    exact List.nodup_append.mpr ⟨h, by simp, fun a ha b hb z => by simp at hb; subst hb; subst z; exact c ha⟩
theorem mem_addP {ks : List Pr} {k j : Pr} : j ∈ addP ks k ↔ j ∈ ks ∨ j = k := by
  unfold addP
  split
  · rename_i c
    exact ⟨.inl, fun z => z.elim id fun e => e ▸ c⟩
  · simp
theorem addP_len (ks : List Pr) (k : Pr) : ks.length ≤ (addP ks k).length ∧ (addP ks k).length ≤ ks.length + 1 := by
  unfold addP
  split
  · omega
  · simp
theorem fold_nodup : ∀ (xs : M) (ks : List Pr), ks.Nodup → (xs.foldl (fun ks x => addP ks x.1) ks).Nodup
  | [], _, h => h
  | _ :: r, _, h => fold_nodup r _ (addP_nodup h)
theorem fold_mem : ∀ (xs : M) (ks : List Pr) (k : Pr), k ∈ xs.foldl (fun ks x => addP ks x.1) ks ↔ k ∈ ks ∨ ∃ x ∈ xs, x.1 = k
  | [], ks, k => by simp
  | x :: r, ks, k => by
    rw [List.foldl_cons, fold_mem r (addP ks x.1) k, mem_addP]
    constructor
    · rintro ((h | h) | ⟨y, hy, e⟩)
      · exact .inl h
      · exact .inr ⟨x, by simp, h.symm⟩
      · exact .inr ⟨y, by simp [hy], e⟩
    · rintro (h | ⟨y, hy, e⟩)
      · exact .inl (.inl h)
      · rcases List.mem_cons.mp hy with rfl | hy
        · exact .inl (.inr e.symm)
        · exact .inr ⟨y, hy, e⟩
theorem fold_len : ∀ (xs : M) (ks : List Pr), ks.length ≤ (xs.foldl (fun ks x => addP ks x.1) ks).length ∧ (xs.foldl (fun ks x => addP ks x.1) ks).length ≤ ks.length + xs.length
  | [], ks => by simp
  | x :: r, ks => by
    rw [List.foldl_cons, List.length_cons]
    have h1 := fold_len r (addP ks x.1)
    have h2 := addP_len ks x.1
    omega
theorem keysP_nodup (xs : M) : (keysP xs).Nodup := fold_nodup xs [] .nil
theorem mem_keysP (xs : M) (k : Pr) : k ∈ keysP xs ↔ ∃ x ∈ xs, x.1 = k := by
  unfold keysP
  rw [fold_mem]
  simp
theorem keysP_len (xs : M) : (keysP xs).length ≤ xs.length := by
  unfold keysP
  have := (fold_len xs []).2
  simpa using this
theorem keysP_mono (xs ys : M) : (keysP xs).length ≤ (keysP (xs ++ ys)).length := by
  unfold keysP
  rw [List.foldl_append]
  exact (fold_len ys _).1
def pick (p : Int) (xs : M) (k : Pr) : Option (Pr × Int) := if sumM xs k % p ≠ 0 then some (k, sumM xs k % p) else none
def over (g f : Pr → Int) : List Pr → Int
  | [] => 0
  | k :: r => g k * f k + over g f r
theorem over_perm {g f : Pr → Int} {a b : List Pr} (h : a.Perm b) : over g f a = over g f b := by
  induction h with
  | nil => rfl
  | cons x _ ih => show g x * f x + _ = g x * f x + _; rw [ih]
  | swap x y l => show g y * f y + (g x * f x + over g f l) = g x * f x + (g y * f y + over g f l); omega
  | trans _ _ ih1 ih2 => exact ih1.trans ih2
theorem over_add (g f h : Pr → Int) : ∀ ks : List Pr, over g (fun k => f k + h k) ks = over g f ks + over g h ks
  | [] => rfl
  | k :: r => by
    show g k * (f k + h k) + over g (fun k => f k + h k) r = g k * f k + over g f r + (g k * h k + over g h r)
    rw [over_add g f h r, Int.mul_add]
    omega
theorem over_zero (g : Pr → Int) : ∀ ks : List Pr, over g (fun _ => 0) ks = 0
  | [] => rfl
  | k :: r => by
    show g k * 0 + over g (fun _ => 0) r = 0
    rw [over_zero g r]
    simp
theorem over_same {g f h : Pr → Int} : ∀ {ks : List Pr}, (∀ k ∈ ks, f k = h k) → over g f ks = over g h ks
  | [], _ => rfl
  | k :: r, e => by
    show g k * f k + over g f r = g k * h k + over g h r
    rw [e k (by simp), over_same fun j hj => e j (by simp [hj])]
theorem over_one (g : Pr → Int) (v : Int) (c : Pr) : ∀ {ks : List Pr}, ks.Nodup → c ∈ ks → over g (fun k => if c = k then v else 0) ks = g c * v
  | [], _, h => by cases h
  | k :: r, nd, h => by
    show g k * (if c = k then v else 0) + over g (fun k => if c = k then v else 0) r = g c * v
    have hn := (List.nodup_cons.mp nd).1
    by_cases e : c = k
    · rw [if_pos e, e]
      have : over g (fun j => if k = j then v else 0) r = 0 := by
        rw [over_same (h := fun _ => 0) fun j hj => if_neg fun z => hn (by rw [z]; exact hj)]
        exact over_zero g r
      rw [this]
      omega
    · rw [if_neg e, over_one g v c (List.nodup_cons.mp nd).2 ((List.mem_cons.mp h).resolve_left e)]
      simp
theorem over_sum (g : Pr → Int) {ks : List Pr} (nd : ks.Nodup) : ∀ {xs : M}, (∀ x ∈ xs, x.1 ∈ ks) → over g (sumM xs) ks = ws g xs
  | [], _ => over_zero g ks
  | x :: r, h => by
    have e : over g (sumM (x :: r)) ks = over g (fun k => (if x.1 = k then x.2 else 0) + sumM r k) ks := rfl
    rw [e, over_add, over_one g x.2 x.1 nd (h x (by simp)), over_sum g nd fun y hy => h y (by simp [hy])]
    rfl
theorem pick_ws {p : Int} (g : Pr → Int) (xs : M) : ∀ ks : List Pr, ws g (ks.filterMap (pick p xs)) % p = over g (sumM xs) ks % p
  | [] => rfl
  | k :: r => by
    have ih := pick_ws (p := p) g xs r
    rw [List.filterMap_cons]
    unfold pick
    by_cases c : sumM xs k % p ≠ 0
    · rw [if_pos c]
      show (g k * (sumM xs k % p) + ws g (r.filterMap (pick p xs))) % p = (g k * sumM xs k + over g (sumM xs) r) % p
      rw [Int.add_emod, ih, Int.mul_emod, Int.emod_emod, ← Int.mul_emod, ← Int.add_emod]
    · rw [if_neg c]
      have z : sumM xs k % p = 0 := by
        rcases Int.decEq (sumM xs k % p) 0 with h | h
        · exact absurd h c
        · exact h
      show ws g (r.filterMap (pick p xs)) % p = (g k * sumM xs k + over g (sumM xs) r) % p
      rw [ih, Int.add_emod, Int.mul_emod, z]
      simp
/-- what a tidied maker is -/
structure Tidy (p : Int) (xs ys : M) : Prop where
  rng : ∀ y ∈ ys, 0 < y.2 ∧ y.2 < p
  from' : ∀ y ∈ ys, ∃ x ∈ xs, x.1 = y.1
  same : ∀ g, ws g ys % p = ws g xs % p
  len : ys.length ≤ xs.length
  nd : (ys.map (·.1)).Nodup
theorem pick_keys {p : Int} {xs : M} : ∀ {ks : List Pr}, ks.Nodup → ((ks.filterMap (pick p xs)).map (·.1)).Nodup ∧ ∀ k ∈ (ks.filterMap (pick p xs)).map (·.1), k ∈ ks
  | [], _ => ⟨.nil, fun _ h => h⟩
  | k :: r, h => by
    obtain ⟨h1, h2⟩ := List.nodup_cons.mp h
    obtain ⟨i1, i2⟩ := pick_keys (p := p) (xs := xs) h2
    rw [List.filterMap_cons]
    unfold pick
    by_cases c : sumM xs k % p ≠ 0
    · rw [if_pos c]
      refine ⟨?_, fun j hj => ?_⟩
      · show (k :: (r.filterMap (pick p xs)).map (·.1)).Nodup
        exact List.nodup_cons.mpr ⟨fun z => h1 (i2 k z), i1⟩
      · have hj2 : j ∈ k :: (r.filterMap (pick p xs)).map (·.1) := hj
        rcases List.mem_cons.mp hj2 with z | z
        · exact z ▸ List.mem_cons_self
        · exact List.mem_cons_of_mem _ (i2 j z)
    · rw [if_neg c]
      exact ⟨i1, fun j hj => List.mem_cons_of_mem _ (i2 j hj)⟩
theorem pick_tidy {p : Int} (hp : 0 < p) {xs : M} {ks : List Pr} (h : ks.Perm (keysP xs)) : Tidy p xs (ks.filterMap (pick p xs)) := by
  refine ⟨fun y hy => ?_, fun y hy => ?_, fun g => ?_, ?_, ?_⟩
  · obtain ⟨k, _, e⟩ := List.mem_filterMap.mp hy
    unfold pick at e
    split at e
    · rename_i c
      cases e
      have h0 := Int.emod_nonneg (sumM xs k) (show p ≠ 0 by omega)
      have h1 := Int.emod_lt_of_pos (sumM xs k) hp
      show 0 < sumM xs k % p ∧ sumM xs k % p < p
      omega
    · cases e
  · obtain ⟨k, hk, e⟩ := List.mem_filterMap.mp hy
    unfold pick at e
    split at e
    · cases e
      exact (mem_keysP xs k).mp (h.mem_iff.mp hk)
    · cases e
  · rw [pick_ws, over_perm h, over_sum g (keysP_nodup xs) fun x hx => (mem_keysP xs x.1).mpr ⟨x, hx, rfl⟩]
  · refine Nat.le_trans (List.length_filterMap_le _ _) ?_
    rw [h.length_eq]
    exact keysP_len xs
  · exact (pick_keys (h.symm.nodup (keysP_nodup xs))).1
end Mk

namespace Dk
open PySem PySem.Spec PyProof.Rows L2
/-! ### makers as data -/
def eMp (x : Pr × Int) : PyData := .tuple [ePair x.1, .int x.2]
def eMk (xs : Mk.M) : PyData := .tuple (xs.map eMp)
def eMkL (xs : Mk.M) : PyData := .list (xs.map eMp)
theorem eMp_tupO (x : Pr × Int) : tupO (eMp x) = true := rfl
theorem eMk_tupO (xs : Mk.M) : tupO (eMk xs) = true := map_tupO eMp_tupO xs
def sumsT (p : Int) (xs : Mk.M) : List (List Key × PyData) := (Mk.keysP xs).map fun k => (kk k, .int (Mk.sumM xs k % p))
theorem kk_inj {a b : Pr} (h : kk a = kk b) : a = b := by
  unfold kk at h
  simp only [List.cons.injEq, and_true] at h
  exact Prod.ext (Sum.inl.inj h.1) (Sum.inl.inj h.2)
theorem valT_map (ks : List Pr) (f : Pr → PyData) (k : Pr) : valD (ks.map fun j => (kk j, f j)) (kk k) = if k ∈ ks then some (f k) else none := by
  induction ks with
  | nil => rfl
  | cons j r ih =>
    by_cases e : j = k
    · subst e
      simp [valD, List.find?_cons]
    · have h1 : ¬ kk j = kk k := fun z => e (kk_inj z)
      have h2 : valD ((j :: r).map fun j => (kk j, f j)) (kk k) = valD (r.map fun j => (kk j, f j)) (kk k) := by
        simp [valD, List.find?_cons, h1]
      rw [h2, ih]
      simp [Ne.symm e]
theorem putT_map (ks : List Pr) (f : Pr → PyData) (k : Pr) (v : PyData) : putD (ks.map fun j => (kk j, f j)) (kk k) v = (Mk.addP ks k).map fun j => (kk j, if j = k then v else f j) := by
  have ha : ((ks.map fun j => (kk j, f j)).any fun kv => decide (kv.1 = kk k)) = decide (k ∈ ks) := by
    rw [Bool.eq_iff_iff]
    simp only [List.any_eq_true, List.mem_map, decide_eq_true_eq]
    constructor
    · rintro ⟨x, ⟨j, hj, rfl⟩, e⟩
      exact kk_inj e ▸ hj
    · intro h
      exact ⟨_, ⟨k, h, rfl⟩, rfl⟩
  unfold putD Mk.addP
  rw [ha]
  by_cases h : k ∈ ks
  · simp only [h, decide_true, if_true]
    rw [List.map_map]
    refine List.map_congr_left fun j hj => ?_
    simp only [Function.comp]
    by_cases e : j = k
    · subst e
      simp
    · have h1 : ¬ kk j = kk k := fun z => e (kk_inj z)
      rw [if_neg h1, if_neg e]
  · simp only [h, decide_false, if_false, Bool.false_eq_true]
    rw [List.map_append]
    congr 1
    · refine List.map_congr_left fun j hj => ?_
      rw [if_neg (fun z : j = k => h (z ▸ hj))]
    · simp
theorem sumsT_turn {p : Int} (xs : Mk.M) (x : Pr × Int) : putD (sumsT p xs) (kk x.1) (.int ((((if x.1 ∈ Mk.keysP xs then Mk.sumM xs x.1 % p else 0) + x.2) % p))) = sumsT p (xs ++ [x]) := by
  unfold sumsT
  rw [putT_map, Mk.keysP_snoc]
  refine List.map_congr_left fun j hj => ?_
  rw [Mk.sumM_app]
  simp only [Mk.sumM]
  by_cases e : j = x.1
  · subst e
    rw [if_pos rfl, if_pos rfl]
    split
    · rw [Int.emod_add_emod]
      congr 2
      congr 1
      omega
    · rename_i h
      rw [Mk.sumM_none (fun y hy z => h ((Mk.mem_keysP xs x.1).mpr ⟨y, hy, z⟩))]
      congr 2
      congr 1
      omega
  · rw [if_neg e, if_neg (Ne.symm e)]
    congr 2
    congr 1
    omega
def cTidyT : List PyData → (PyData → Prop) → Prop := fun ds Qd => ∃ (p : Int) (xs : Mk.M), ds = [.int p, eMkL xs] ∧ 0 < p ∧ xs.length ≤ 8000000 ∧ ∀ ys, Mk.Tidy p xs ys → Qd (eMk ys)
def cAddedT : List PyData → (PyData → Prop) → Prop := fun ds Qd => ∃ (p : Int) (xs ys : Mk.M), ds = [.int p, eMk xs, eMk ys] ∧ 0 < p ∧ xs.length ≤ 4000000 ∧ ys.length ≤ 4000000 ∧ ∀ zs, Mk.Tidy p (xs ++ ys) zs → Qd (eMk zs)
def cTimedT : List PyData → (PyData → Prop) → Prop := fun ds Qd => ∃ (p : Int) (xs : Mk.M) (n : Int), ds = [.int p, eMk xs, .int n] ∧ 0 < p ∧ xs.length ≤ 8000000 ∧ (∀ x ∈ xs, CMul x.2 n) ∧ ∀ zs, Mk.Tidy p (xs.map fun x => (x.1, x.2 * n)) zs → Qd (eMk zs)
def cShifted : List PyData → (PyData → Prop) → Prop := fun ds Qd => ∃ (xs : Mk.M) (b : Int), ds = [eMk xs, .int b] ∧ xs.length ≤ 8000000 ∧ Qd (eMk (xs.map fun x => ((x.1.1, x.1.2 + b), x.2)))
/-- a part -/
def ePt (x : Pr × Int) : PyData := .tuple [.int x.1.1, .int x.1.2, .int x.2]
def eParts (xs : Mk.M) : PyData := .list (xs.map ePt)
def cPartsOf : List PyData → (PyData → Prop) → Prop := fun ds Qd => ∃ xs : Mk.M, ds = [eMk xs] ∧ xs.length ≤ 8000000 ∧ Qd (eParts xs)
theorem eMp_pick (p : Int) (xs : Mk.M) (ys : List Pr) : ys.filterMap (fun k => (Mk.pick p xs k).map eMp) = (ys.filterMap (Mk.pick p xs)).map eMp := by
  rw [List.map_filterMap]
end Dk

/-! patterns taken down by stairs -/
namespace Sr
open Pt
theorem col_add {st : Int} (k j : Int) : col st (k + st * j) = col st k := by
  unfold col
  split
  · rename_i h
    rw [h]
    omega
  · rw [Int.add_mul_emod_self_left]
theorem col_sub {st : Int} (k j : Int) : col st (k - st * j) = col st k := by
  have := col_add (st := st) (k - st * j) j
  rw [show k - st * j + st * j = k by omega] at this
  exact this.symm
theorem first_le {st : Int} {xs : Pat} {k : Int} (h : at_ xs k ≠ 0) : firstC st xs ≤ col st k := minL_le (List.mem_map.mpr ⟨_, at_mem h, rfl⟩)
structure Stair (p st : Int) (s : Pat) : Prop where
  pat : IsPat p s
  ne : s ≠ []
  cc : col st (firstC st s) = firstC st s
  ln : 0 ≤ lenC st s
  low : ∀ k, col st k = firstC st s → k < firstC st s → at_ s k = 0
  high : ∀ k, col st k = firstC st s → topC st s < k → at_ s k = 0
  bot : at_ s (firstC st s) ≠ 0
  top : at_ s (topC st s) = 1
/-- a pattern with another one, moved, so often -/
def mixP (p st : Int) (x s : Pat) (sh v : Int) : Pat := added p x (timed p (moved s (st * sh)) v)
theorem mixP_pat {p : Int} (hp : 0 < p) (st : Int) (x s : Pat) (sh v : Int) : IsPat p (mixP p st x s sh v) := added_pat hp _ _
theorem mixP_at {p : Int} (hp : 0 < p) {st : Int} {x s : Pat} (hx : IsPat p x) (hs : IsPat p s) (sh v k : Int) : at_ (mixP p st x s sh v) k = (at_ x k + at_ s (k - st * sh) * v) % p := by
  unfold mixP
  rw [added_at hp hx (timed_pat hp _ _), timed_at hp (moved_pat hs _), moved_at, Int.add_emod, Int.emod_emod, ← Int.add_emod]
theorem mixP_same {p : Int} (hp : 0 < p) {st : Int} {x s : Pat} (hx : IsPat p x) (hs : IsPat p s) {sh v k : Int} (h : at_ s (k - st * sh) = 0) : at_ (mixP p st x s sh v) k = at_ x k := by
  have r := hx.at_rng hp k
  rw [mixP_at hp hx hs, h, Int.zero_mul, Int.add_zero, Int.emod_eq_of_lt r.1 r.2]
theorem mixP_lit {p : Int} (hp : 0 < p) {st : Int} {x s : Pat} (hx : IsPat p x) (hs : IsPat p s) {sh v k : Int} (h : at_ (mixP p st x s sh v) k ≠ 0) : at_ x k ≠ 0 ∨ at_ s (k - st * sh) ≠ 0 := by
  rcases Int.decEq (at_ s (k - st * sh)) 0 with c | c
  · exact .inr c
  · rw [mixP_same hp hx hs c] at h
    exact .inl h
theorem dark_col {st k : Int} {s : Pat} (h : col st k < firstC st s) : at_ s k = 0 := by
  rcases Int.decEq (at_ s k) 0 with c | c
  · have := first_le (st := st) c
    omega
  · exact c
/-- columns ahead of the stair's stay -/
theorem mixP_ahead {p : Int} (hp : 0 < p) {st : Int} {x s : Pat} (hx : IsPat p x) (hs : IsPat p s) {sh v k : Int} (h : col st k < firstC st s) : at_ (mixP p st x s sh v) k = at_ x k := mixP_same hp hx hs (dark_col (by rw [col_sub]; exact h))
section
variable {p st : Int} {x s : Pat} {k sh : Int}
/-- from above -/
theorem down_kill (hp : 1 < p) (hx : IsPat p x) (S : Stair p st s) (hk : col st k = firstC st s) (he : st * sh = k - topC st s) (hab : ∀ j, col st j = firstC st s → k < j → at_ x j = 0) : ∀ j, col st j = firstC st s → k ≤ j → at_ (mixP p st x s sh (-(at_ x k))) j = 0 := by
  intro j hj hkj
  have hp0 : 0 < p := by omega
  by_cases c : j = k
  · subst c
    rw [mixP_at hp0 hx S.pat, he, show j - (j - topC st s) = topC st s by omega, S.top, Int.one_mul, show at_ x j + -(at_ x j) = 0 by omega, Int.zero_emod]
  · rw [mixP_same hp0 hx S.pat (S.high _ (by rw [col_sub]; exact hj) (by omega))]
    exact hab j hj (by omega)
theorem down_keep (hp : 0 < p) (hx : IsPat p x) (S : Stair p st s) (hk2 : topC st s ≤ k) (he : st * sh = k - topC st s) {v : Int} : ∀ j, col st j = firstC st s → j < firstC st s → at_ (mixP p st x s sh v) j = at_ x j := fun j hj hjc => mixP_same hp hx S.pat (S.low _ (by rw [col_sub]; exact hj) (by omega))
/-- from below -/
theorem up_kill {b : Int} (hp : 1 < p) (hx : IsPat p x) (S : Stair p st s) (hk : col st k = firstC st s) (he : st * sh = k - firstC st s) (hb : b * at_ s (firstC st s) % p = 1) (hbe : ∀ j, col st j = firstC st s → j < k → at_ x j = 0) : ∀ j, col st j = firstC st s → j ≤ k → at_ (mixP p st x s sh (-(at_ x k * b))) j = 0 := by
  intro j hj hkj
  have hp0 : 0 < p := by omega
  by_cases c : j = k
  · subst c
    rw [mixP_at hp0 hx S.pat, he, show j - (j - firstC st s) = firstC st s by omega]
    generalize at_ x j = u
    generalize at_ s (firstC st s) = w at hb
    have e : w * -(u * b) = -(u * (b * w)) := by rw [Int.mul_neg, Int.mul_comm w, Int.mul_assoc]
    rw [e]
    have h1 : (u * (b * w)) % p = u % p := by rw [Int.mul_emod, hb, Int.mul_one, Int.emod_emod]
    rw [show u + -(u * (b * w)) = u - u * (b * w) by omega, Int.sub_emod, h1, Int.sub_self, Int.zero_emod]
  · rw [mixP_same hp0 hx S.pat (S.low _ (by rw [col_sub]; exact hj) (by omega))]
    exact hbe j hj (by omega)
theorem up_keep (hp : 0 < p) (hx : IsPat p x) (S : Stair p st s) (hk2 : k < firstC st s) (he : st * sh = k - firstC st s) {v : Int} : ∀ j, col st j = firstC st s → topC st s ≤ j → at_ (mixP p st x s sh v) j = at_ x j := fun j hj hjc => mixP_same hp hx S.pat (S.high _ (by rw [col_sub]; exact hj) (by omega))
end
/-! the measure -/
def hiM (f : Int → Nat) (xs : List Int) : Nat := xs.foldr (fun k m => max (f k) m) 0
theorem hiM_le {f : Int → Nat} {n : Nat} : ∀ {xs : List Int}, (∀ k ∈ xs, f k ≤ n) → hiM f xs ≤ n
  | [], _ => Nat.zero_le _
  | k :: r, h => by
    have h1 := h k (by simp)
    have h2 := hiM_le fun j hj => h j (List.mem_cons_of_mem k hj)
    show max (f k) (hiM f r) ≤ n
    omega
theorem le_hiM {f : Int → Nat} {k : Int} : ∀ {xs : List Int}, k ∈ xs → f k ≤ hiM f xs
  | [], h => by cases h
  | j :: r, h => by
    show _ ≤ max (f j) (hiM f r)
    rcases List.mem_cons.mp h with rfl | h
    · omega
    · have := le_hiM (f := f) h
      omega
def upF (st : Int) (s : Pat) (k : Int) : Nat := if col st k = firstC st s then (k - topC st s + 1).toNat else 0
def dnF (st : Int) (s : Pat) (k : Int) : Nat := if col st k = firstC st s then (firstC st s - k).toNat else 0
def mu (st : Int) (s : Pat) (ks : List Int) : Nat := hiM (upF st s) ks + hiM (dnF st s) ks
theorem mem_at {p : Int} {xs : Pat} (h : IsPat p xs) {k : Int} : k ∈ xs.map (·.1) ↔ at_ xs k ≠ 0 := by
  constructor
  · intro hk
    obtain ⟨x, hx, rfl⟩ := List.mem_map.mp hk
    rw [h.at_of_mem hx]
    have := h.rng x hx
    omega
  · intro hk
    exact List.mem_map.mpr ⟨_, at_mem hk, rfl⟩
theorem mu_down {p st k sh : Int} {x s : Pat} (hp : 1 < p) (hx : IsPat p x) (S : Stair p st s) (hk : col st k = firstC st s) (hl : at_ x k ≠ 0) (hk2 : topC st s ≤ k) (he : st * sh = k - topC st s) (hab : ∀ j, col st j = firstC st s → k < j → at_ x j = 0) : mu st s ((mixP p st x s sh (-(at_ x k))).map (·.1)) < mu st s (x.map (·.1)) := by
  have hp0 : 0 < p := by omega
  have hm := mixP_pat hp0 st x s sh (-(at_ x k))
  have kill := down_kill hp hx S hk he hab
  have keep := down_keep (sh := sh) (v := -(at_ x k)) hp0 hx S hk2 he
  have h1 : hiM (upF st s) ((mixP p st x s sh (-(at_ x k))).map (·.1)) ≤ (k - topC st s).toNat := hiM_le fun j hj => by
    have hj2 := (mem_at hm).mp hj
    unfold upF
    split
    · rename_i c
      have : j < k := by
        rcases Int.lt_or_le j k with z | z
        · exact z
        · exact absurd (kill j c z) hj2
      omega
    · omega
  have h2 : upF st s k ≤ hiM (upF st s) (x.map (·.1)) := le_hiM ((mem_at hx).mpr hl)
  unfold upF at h2
  rw [if_pos hk] at h2
  have h3 : hiM (dnF st s) ((mixP p st x s sh (-(at_ x k))).map (·.1)) ≤ hiM (dnF st s) (x.map (·.1)) := hiM_le fun j hj => by
    have hj2 := (mem_at hm).mp hj
    by_cases c : col st j = firstC st s ∧ j < firstC st s
    · rw [keep j c.1 c.2] at hj2
      exact le_hiM ((mem_at hx).mpr hj2)
    · unfold dnF
      split
      · rename_i d
        have : ¬ j < firstC st s := fun z => c ⟨d, z⟩
        omega
      · omega
  have e : hiM (upF st s) ((mixP p st x s sh (-(at_ x k))).map (·.1)) < hiM (upF st s) (x.map (·.1)) := by
    refine Nat.lt_of_le_of_lt h1 (Nat.lt_of_lt_of_le ?_ h2)
    omega
  unfold mu
  omega
theorem mu_up {p st k sh b : Int} {x s : Pat} (hp : 1 < p) (hx : IsPat p x) (S : Stair p st s) (hk : col st k = firstC st s) (hl : at_ x k ≠ 0) (hk2 : k < firstC st s) (he : st * sh = k - firstC st s) (hb : b * at_ s (firstC st s) % p = 1) (hbe : ∀ j, col st j = firstC st s → j < k → at_ x j = 0) : mu st s ((mixP p st x s sh (-(at_ x k * b))).map (·.1)) < mu st s (x.map (·.1)) := by
  have hp0 : 0 < p := by omega
  have hm := mixP_pat hp0 st x s sh (-(at_ x k * b))
  have kill := up_kill hp hx S hk he hb hbe
  have keep := up_keep (sh := sh) (v := -(at_ x k * b)) hp0 hx S hk2 he
  have h1 : hiM (dnF st s) ((mixP p st x s sh (-(at_ x k * b))).map (·.1)) ≤ (firstC st s - k - 1).toNat := hiM_le fun j hj => by
    have hj2 := (mem_at hm).mp hj
    unfold dnF
    split
    · rename_i c
      have : k < j := by
        rcases Int.lt_or_le k j with z | z
        · exact z
        · exact absurd (kill j c z) hj2
      omega
    · omega
  have h2 : dnF st s k ≤ hiM (dnF st s) (x.map (·.1)) := le_hiM ((mem_at hx).mpr hl)
  unfold dnF at h2
  rw [if_pos hk] at h2
  have h3 : hiM (upF st s) ((mixP p st x s sh (-(at_ x k * b))).map (·.1)) ≤ hiM (upF st s) (x.map (·.1)) := hiM_le fun j hj => by
    have hj2 := (mem_at hm).mp hj
    by_cases c : col st j = firstC st s ∧ topC st s ≤ j
    · rw [keep j c.1 c.2] at hj2
      exact le_hiM ((mem_at hx).mpr hj2)
    · unfold upF
      split
      · rename_i d
        have : ¬ topC st s ≤ j := fun z => c ⟨d, z⟩
        omega
      · omega
  have e : hiM (dnF st s) ((mixP p st x s sh (-(at_ x k * b))).map (·.1)) < hiM (dnF st s) (x.map (·.1)) := by
    refine Nat.lt_of_le_of_lt h1 (Nat.lt_of_lt_of_le ?_ h2)
    omega
  unfold mu
  omega
/-! lying low, place by place -/
def LowAt (st : Int) (s x : Pat) : Prop := ∀ k, col st k = firstC st s → at_ x k ≠ 0 → firstC st s ≤ k ∧ k < topC st s
theorem low_out {p st : Int} {s x : Pat} (hx : IsPat p x) : outAt st s x = [] ↔ LowAt st s x := by
  have h := out_any (st := st) (s := s) hx
  have e : outAt st s x = [] ↔ (outAt st s x).isEmpty = true := by simp
  rw [e, h]
  constructor
  · intro z k hk hl
    have hs : k ∈ spots st x (firstC st s) := mem_spots.mpr ⟨⟨_, at_mem hl, rfl⟩, hk⟩
    have z2 : (spots st x (firstC st s)).any (badB st s) = false := by simpa using z
    have := List.any_eq_false.mp z2 k hs
    unfold badB at this
    simp only [decide_eq_true_eq] at this
    omega
  · intro z
    have z2 : (spots st x (firstC st s)).any (badB st s) = false := List.any_eq_false.mpr fun k hk => by
      obtain ⟨⟨y, hy, rfl⟩, hc⟩ := mem_spots.mp hk
      have hl : at_ x y.1 ≠ 0 := by
        rw [hx.at_of_mem hy]
        have := hx.rng y hy
        omega
      have := z y.1 hc hl
      unfold badB
      simp only [decide_eq_true_eq]
      omega
    rw [z2]
    rfl
/-- a place that is out -/
theorem out_one {p st : Int} {s x : Pat} (hx : IsPat p x) {k : Int} (h : outAt st s x = [k]) : col st k = firstC st s ∧ at_ x k ≠ 0 ∧ ((topC st s ≤ k ∧ ∀ j, col st j = firstC st s → k < j → at_ x j = 0) ∨ (k < firstC st s ∧ (∀ j, col st j = firstC st s → j < k → at_ x j = 0) ∧ ∀ j, col st j = firstC st s → topC st s ≤ j → at_ x j = 0)) := by
  have srt := spots_srt (st := st) hx (firstC st s)
  have inS : ∀ j, col st j = firstC st s → at_ x j ≠ 0 → j ∈ spots st x (firstC st s) := fun j hj hl => mem_spots.mpr ⟨⟨_, at_mem hl, rfl⟩, hj⟩
  have ofS : ∀ j, j ∈ spots st x (firstC st s) → col st j = firstC st s ∧ at_ x j ≠ 0 := fun j hj => by
    obtain ⟨⟨y, hy, rfl⟩, hc⟩ := mem_spots.mp hj
    refine ⟨hc, ?_⟩
    rw [hx.at_of_mem hy]
    have := hx.rng y hy
    omega
  unfold outAt at h
  split at h
  · rename_i c
    injection h with h1 _
    have hm := (head_mem c.1).2
    rw [h1] at hm
    refine ⟨(ofS k hm).1, (ofS k hm).2, .inl ⟨by rw [← h1]; exact c.2, fun j hj hkj => ?_⟩⟩
    rcases Int.decEq (at_ x j) 0 with z | z
    · have := (srt_last srt (inS j hj z)).2
      omega
    · exact z
  · rename_i d
    split at h
    · rename_i c
      injection h with h1 _
      have hm := (head_mem c.1).1
      rw [h1] at hm
      refine ⟨(ofS k hm).1, (ofS k hm).2, .inr ⟨by rw [← h1]; exact c.2, fun j hj hkj => ?_, fun j hj hkj => ?_⟩⟩
      · rcases Int.decEq (at_ x j) 0 with z | z
        · have := (srt_last srt (inS j hj z)).1
          omega
        · exact z
      · rcases Int.decEq (at_ x j) 0 with z | z
        · have := (srt_last srt (inS j hj z)).2
          exact absurd ⟨c.1, by omega⟩ d
        · exact z
    · cases h
theorem out_len {st : Int} {s x : Pat} : outAt st s x = [] ∨ ∃ k, outAt st s x = [k] := by
  unfold outAt
  split
  · exact .inr ⟨_, rfl⟩
  · split
    · exact .inr ⟨_, rfl⟩
    · exact .inl rfl
/-! what makers make -/
def Lin (st : Int) (B : Int → Pat) (m : Mk.M) (k : Int) : Int := Mk.ws (fun q => at_ (B q.1) (k - st * q.2)) m
def Made (p st : Int) (B : Int → Pat) (m : Mk.M) (x0 x : Pat) : Prop := ∀ k, at_ x k % p = (at_ x0 k + Lin st B m k) % p
def Rng (p : Int) (m : Mk.M) : Prop := ∀ y ∈ m, 0 < y.2 ∧ y.2 < p
structure Mix (p : Int) (mx ms : Mk.M) (sh v : Int) (mz : Mk.M) : Prop where
  rng : Rng p mz
  keys : ∀ y ∈ mz, (∃ a ∈ mx, a.1 = y.1) ∨ ∃ a ∈ ms, (a.1.1, a.1.2 + sh) = y.1
  same : ∀ g, Mk.ws g mz % p = (Mk.ws g mx + Mk.ws (fun q => g (q.1, q.2 + sh)) ms * v) % p
  len : mz.length ≤ mx.length + ms.length
  nd : (mz.map (·.1)).Nodup
theorem mix_of {p : Int} {mx ms : Mk.M} {sh v : Int} {zs mz : Mk.M} (h1 : Mk.Tidy p ((ms.map fun x => ((x.1.1, x.1.2 + sh), x.2)).map fun x => (x.1, x.2 * v)) zs) (h2 : Mk.Tidy p (mx ++ zs) mz) : Mix p mx ms sh v mz := by
  refine ⟨h2.rng, fun y hy => ?_, fun g => ?_, ?_, ?_⟩
  · obtain ⟨a, ha, e⟩ := h2.from' y hy
    rcases List.mem_append.mp ha with z | z
    · exact .inl ⟨a, z, e⟩
    · obtain ⟨b, hb, e2⟩ := h1.from' a z
      rw [List.map_map] at hb
      obtain ⟨c, hc, rfl⟩ := List.mem_map.mp hb
      exact .inr ⟨c, hc, by rw [← e, ← e2]; rfl⟩
  · rw [h2.same, Mk.ws_app, Int.add_emod, h1.same, ← Int.add_emod, Mk.ws_mul, Mk.ws_shift]
  · have l1 := h1.len
    have l2 := h2.len
    rw [List.length_map, List.length_map] at l1
    rw [List.length_append] at l2
    omega
  · exact h2.nd
theorem made_mix {p st : Int} (hp : 0 < p) {B : Int → Pat} {mx ms mz : Mk.M} {x0 x s : Pat} {sh v : Int} (hx : IsPat p x) (hs : IsPat p s) (h : Made p st B mx x0 x) (h2 : Made p st B ms [] s) (m : Mix p mx ms sh v mz) : Made p st B mz x0 (mixP p st x s sh v) := fun k => by
  rw [mixP_at hp hx hs, Int.emod_emod]
  have e1 := m.same fun q => at_ (B q.1) (k - st * q.2)
  have e2 : Mk.ws (fun q => (fun q : Mk.Pr => at_ (B q.1) (k - st * q.2)) (q.1, q.2 + sh)) ms = Lin st B ms (k - st * sh) := by
    unfold Lin
    congr 1
    funext q
    show at_ (B q.1) (k - st * (q.2 + sh)) = at_ (B q.1) (k - st * sh - st * q.2)
    rw [Int.mul_add]
    congr 1
    omega
  rw [e2] at e1
  have e3 := h2 (k - st * sh)
  have e4 : at_ ([] : Pat) (k - st * sh) = 0 := rfl
  rw [e4, Int.zero_add] at e3
  show _ = (at_ x0 k + Lin st B mz k) % p
  have e5 : (at_ x0 k + Lin st B mz k) % p = (at_ x0 k + (Lin st B mx k + Lin st B ms (k - st * sh) * v)) % p := by
    rw [Int.add_emod, show Lin st B mz k % p = _ from e1, ← Int.add_emod]
    rfl
  rw [e5, ← Int.add_assoc, Int.add_emod, h k, Int.mul_emod, e3, ← Int.mul_emod, ← Int.add_emod]
/-! how far a pair is moved -/
theorem shift_top {p st k : Int} {s : Pat} (h0 : 0 ≤ st) (S : Stair p st s) (hk : col st k = firstC st s) (h : topC st s ≤ k) : st * ((if 0 < st then (k - firstC st s) / st else 0) - (if firstC st s < k then lenC st s else 0)) = k - topC st s := by
  have ht : topC st s = firstC st s + st * lenC st s := rfl
  have hl := S.ln
  by_cases z : st = 0
  · subst z
    have : k = firstC 0 s := by simpa [col] using hk
    rw [ht]
    simp
    omega
  · have hst : 0 < st := by omega
    rw [if_pos hst]
    have hcc := S.cc
    unfold col at hk hcc
    rw [if_neg z] at hk hcc
    have hd : st * ((k - firstC st s) / st) = k - firstC st s := by
      refine Int.mul_ediv_cancel' (Int.dvd_of_emod_eq_zero ?_)
      rw [Int.sub_emod, hk, hcc, Int.sub_self, Int.zero_emod]
    have hm : 0 ≤ st * lenC st s := Int.mul_nonneg h0 hl
    by_cases c : firstC st s < k
    · rw [if_pos c, Int.mul_sub, hd]
      omega
    · rw [if_neg c, Int.sub_zero, hd]
      omega
theorem shift_bot {p st k : Int} {s : Pat} (h0 : 0 ≤ st) (S : Stair p st s) (hk : col st k = firstC st s) (h : k < firstC st s) : 0 < st ∧ st * ((k - firstC st s) / st) = k - firstC st s := by
  have hcc := S.cc
  have z : st ≠ 0 := by
    rintro rfl
    have : k = firstC 0 s := by simpa [col] using hk
    omega
  refine ⟨by omega, ?_⟩
  unfold col at hk hcc
  rw [if_neg z] at hk hcc
  refine Int.mul_ediv_cancel' (Int.dvd_of_emod_eq_zero ?_)
  rw [Int.sub_emod, hk, hcc, Int.sub_self, Int.zero_emod]
/-! how far out -/
def Wd (n : Int) (x : Pat) : Prop := ∀ k, at_ x k ≠ 0 → -n ≤ k ∧ k ≤ n
def WdC (st : Int) (s : Pat) (n : Int) (x : Pat) : Prop := ∀ k, col st k = firstC st s → at_ x k ≠ 0 → -n ≤ k ∧ k ≤ n
theorem top_col {p st : Int} {s : Pat} (S : Stair p st s) : col st (topC st s) = firstC st s := by
  show col st (firstC st s + st * lenC st s) = _
  rw [col_add, S.cc]
theorem top_ge {p st : Int} {s : Pat} (h0 : 0 ≤ st) (S : Stair p st s) : firstC st s ≤ topC st s := by
  have := Int.mul_nonneg h0 S.ln
  show firstC st s ≤ firstC st s + st * lenC st s
  omega
section
variable {p st : Int} {x s : Pat} {k sh v R Rs : Int}
theorem wd_down (hp : 0 < p) (h0 : 0 ≤ st) (hx : IsPat p x) (S : Stair p st s) (hs : Wd Rs s) (hR : Rs ≤ R) (hR1 : 10 ≤ R) (hc : -10 ≤ firstC st s) (h1 : WdC st s R x) (h2 : Wd (R + Rs + 10) x) (hk : col st k = firstC st s) (hl : at_ x k ≠ 0) (hk2 : topC st s ≤ k) (he : st * sh = k - topC st s) : WdC st s R (mixP p st x s sh v) ∧ Wd (R + Rs + 10) (mixP p st x s sh v) := by
  have hkR := h1 k hk hl
  have tg := top_ge h0 S
  refine ⟨fun j hj hjl => ?_, fun j hjl => ?_⟩
  · rcases mixP_lit hp hx S.pat hjl with z | z
    · exact h1 j hj z
    · have a1 : ¬ j - st * sh < firstC st s := fun y => z (S.low _ (by rw [col_sub]; exact hj) y)
      have a2 : ¬ topC st s < j - st * sh := fun y => z (S.high _ (by rw [col_sub]; exact hj) y)
      omega
  · rcases mixP_lit hp hx S.pat hjl with z | z
    · exact h2 j z
    · have := hs _ z
      omega
theorem wd_up (hp : 0 < p) (h0 : 0 ≤ st) (hx : IsPat p x) (S : Stair p st s) (hs : Wd Rs s) (hR : Rs ≤ R) (hc2 : firstC st s ≤ 10) (h1 : WdC st s R x) (h2 : Wd (R + Rs + 10) x) (hk : col st k = firstC st s) (hl : at_ x k ≠ 0) (hk2 : k < firstC st s) (he : st * sh = k - firstC st s) : WdC st s R (mixP p st x s sh v) ∧ Wd (R + Rs + 10) (mixP p st x s sh v) := by
  have hkR := h1 k hk hl
  have ht := hs (topC st s) (by rw [S.top]; decide)
  refine ⟨fun j hj hjl => ?_, fun j hjl => ?_⟩
  · rcases mixP_lit hp hx S.pat hjl with z | z
    · exact h1 j hj z
    · have a1 : ¬ j - st * sh < firstC st s := fun y => z (S.low _ (by rw [col_sub]; exact hj) y)
      have a2 : ¬ topC st s < j - st * sh := fun y => z (S.high _ (by rw [col_sub]; exact hj) y)
      omega
  · rcases mixP_lit hp hx S.pat hjl with z | z
    · exact h2 j z
    · have := hs _ z
      omega
end
theorem wd_len {p n : Int} (hn : 0 ≤ n) {x : Pat} (hx : IsPat p x) (h : Wd n x) : (x.length : Int) ≤ 2 * n + 1 := by
  have key : ∀ {xs : Pat} {lo : Int}, IsPat p xs → (∀ y ∈ xs, lo ≤ y.1 ∧ y.1 ≤ n) → (xs.length : Int) ≤ max 0 (n - lo + 1) := by
    intro xs
    induction xs with
    | nil => intro lo _ _; simp; omega
    | cons y r ih =>
      intro lo hp hw
      have h1 := hw y (by simp)
      have := ih (lo := y.1 + 1) hp.tail fun z hz => ⟨by have := hp.head z hz; omega, (hw z (by simp [hz])).2⟩
      simp only [List.length_cons]
      omega
  have := key (lo := -n) hx fun y hy => h y.1 (by rw [hx.at_of_mem hy]; have := hx.rng y hy; omega)
  omega
end Sr

namespace Dk
open PySem PySem.Spec PyProof.Rows L2
/-- a made pattern -/
def eMd (x : Pt.Pat) (m : Mk.M) : PyData := .tuple [ePat x, eMk m]
theorem eMd_tupO (x : Pt.Pat) (m : Mk.M) : tupO (eMd x m) = true := by
  show (tupO (ePat x) && (tupO (eMk m) && true)) = true
  rw [ePat_tupO, eMk_tupO]
  rfl
def cMixed : List PyData → (PyData → Prop) → Prop := fun ds Qd => ∃ (p st : Int) (x s : Pt.Pat) (mx ms : Mk.M) (sh v : Int), ds = [.int p, .int st, eMd x mx, eMd s ms, .int sh, .int v] ∧ GoodP p ∧ 0 ≤ st ∧ st ≤ 8 ∧ x.length ≤ 10000 ∧ s.length ≤ 10000 ∧ mx.length ≤ 45000 ∧ ms.length ≤ 45000 ∧ -1000 < v ∧ v < 1000 ∧
  ∀ mz, Sr.Mix p mx ms sh v mz → Qd (eMd (Sr.mixP p st x s sh v) mz)
/-- what lowering leaves -/
structure Lowered (p st R Rs : Int) (s : Pt.Pat) (ms : Mk.M) (x : Pt.Pat) (mx : Mk.M) (x' : Pt.Pat) (mx' : Mk.M) : Prop where
  pat : Pt.IsPat p x'
  rng : Sr.Rng p mx'
  ahead : ∀ k, Sr.col st k < Sr.firstC st s → Pt.at_ x' k = Pt.at_ x k
  made : ∀ B x0, Sr.Made p st B ms [] s → Sr.Made p st B mx x0 x → Sr.Made p st B mx' x0 x'
  keys : ∀ C : Pr → Prop, (∀ y ∈ mx, C y.1) → (∀ y ∈ ms, ∀ sh, (st = 0 → sh = 0) → -(R + 10) ≤ st * sh → st * sh ≤ R + 10 → C (y.1.1, y.1.2 + sh)) → ∀ y ∈ mx', C y.1
  wd : Sr.Wd (R + Rs + 10) x'
  wdc : Sr.WdC st s R x'
def muX (st : Int) (s x : Pt.Pat) : Nat := Sr.mu st s (x.map (·.1))
def cLowered : List PyData → (PyData → Prop) → Prop := fun ds Qd => ∃ (p st R Rs : Int) (x s : Pt.Pat) (mx ms : Mk.M), ds = [.int p, .int st, eMd s ms, eMd x mx] ∧ GoodP p ∧ 0 ≤ st ∧ st ≤ 8 ∧ Sr.Stair p st s ∧ Pt.IsPat p x ∧ Sr.Rng p mx ∧ Sr.Wd Rs s ∧ Sr.Wd R x ∧ 10 ≤ Rs ∧ Rs ≤ R ∧ R + Rs + 10 ≤ 4500 ∧ (-10 ≤ Sr.firstC st s ∧ Sr.firstC st s ≤ 10) ∧ ms.length ≤ 45000 ∧ mx.length + muX st s x * ms.length ≤ 45000 ∧
  ∀ x' mx', Lowered p st R Rs s ms x mx x' mx' → Sr.LowAt st s x' → mx'.length ≤ mx.length + muX st s x * ms.length → Qd (eMd x' mx')
theorem low_init {p st R Rs : Int} {s x : Pt.Pat} {ms mx : Mk.M} (hx : Pt.IsPat p x) (hr : Sr.Rng p mx) (h : Sr.Wd R x) (h0 : 0 ≤ Rs) : Lowered p st R Rs s ms x mx x mx := ⟨hx, hr, fun _ _ => rfl, fun _ _ _ z => z, fun _ z _ => z, fun k hk => by have := h k hk; omega, fun k _ hk => h k hk⟩
theorem low_mix {p st R Rs sh v : Int} {s x y : Pt.Pat} {ms mx my mz : Mk.M} (hp : 0 < p) (S : Sr.Stair p st s) (h : Lowered p st R Rs s ms x mx y my) (m : Sr.Mix p my ms sh v mz) (hz : st = 0 → sh = 0) (hz1 : -(R + 10) ≤ st * sh) (hz2 : st * sh ≤ R + 10) (w : Sr.WdC st s R (Sr.mixP p st y s sh v) ∧ Sr.Wd (R + Rs + 10) (Sr.mixP p st y s sh v)) : Lowered p st R Rs s ms x mx (Sr.mixP p st y s sh v) mz := by
  refine ⟨Sr.mixP_pat hp _ _ _ _ _, m.rng, fun k hk => ?_, fun B x0 h1 h2 => Sr.made_mix hp h.pat S.pat (h.made B x0 h1 h2) h1 m, fun C c1 c2 y hy => ?_, w.2, w.1⟩
  · rw [Sr.mixP_ahead hp h.pat S.pat hk, h.ahead k hk]
  · rcases m.keys y hy with ⟨a, ha, e⟩ | ⟨a, ha, e⟩
    · rw [← e]
      exact h.keys C c1 c2 a ha
    · rw [← e]
      exact c2 a ha sh hz hz1 hz2
/-- the measure, read off the data of a slot -/
def decP : PyData → Int
  | .tuple (.int k :: _) => k
  | _ => 0
def muG (st : Int) (s : Pt.Pat) (i : Nat) (Γ : G) : Nat := match Γ[i]? with
  | some (.sh (.tuple (.tuple ds :: _))) => Sr.mu st s (ds.map decP)
  | _ => 0
theorem muG_of (st : Int) (s x : Pt.Pat) : Sr.mu st s ((x.map ePair).map decP) = muX st s x := by
  unfold muX
  rw [List.map_map]
  rfl
/-! all stairs -/
def baseS (ss : List Pt.Pat) (w : Int) : Pt.Pat := ss.getD w.toNat []
structure Stairs (p st Rs : Int) (ss : List Pt.Pat) : Prop where
  one : ∀ s ∈ ss, Sr.Stair p st s ∧ Sr.Wd Rs s ∧ -10 ≤ Sr.firstC st s ∧ Sr.firstC st s ≤ 10
  rise : ss.Pairwise fun a b => Sr.firstC st a < Sr.firstC st b
structure Taken (p st : Int) (ss : List Pt.Pat) (x x' : Pt.Pat) (m : Mk.M) : Prop where
  pat : Pt.IsPat p x'
  low : ∀ s ∈ ss, Sr.LowAt st s x'
  rng : Sr.Rng p m
  keys : ∀ y ∈ m, 0 ≤ y.1.1 ∧ y.1.1 < ss.length ∧ (st = 0 → y.1.2 = 0) ∧ -1510 ≤ st * y.1.2 ∧ st * y.1.2 ≤ 1510
  sum : ∀ k, Pt.at_ x k % p = (Pt.at_ x' k + Sr.Lin st (baseS ss) m k) % p
  wd : Sr.Wd 1500 x'
  len : m.length ≤ 45000
def cTaken : List PyData → (PyData → Prop) → Prop := fun ds Qd => ∃ (p st R Rs : Int) (ss : List Pt.Pat) (x : Pt.Pat), ds = [.int p, .int st, eStairs ss, ePat x] ∧ GoodP p ∧ 0 ≤ st ∧ st ≤ 8 ∧ Stairs p st Rs ss ∧ ss.length ≤ 13 ∧ Pt.IsPat p x ∧ Sr.Wd R x ∧ 10 ≤ Rs ∧ Rs ≤ R ∧ R + 13 * (Rs + 10) ≤ 1500 ∧ ∀ x' m, Taken p st ss x x' m → Sr.Wd (R + 13 * (Rs + 10)) x' → Qd (.tuple [ePat x', eParts m])
def cRestOf : List PyData → (PyData → Prop) → Prop := fun ds Qd => ∃ (p st R Rs : Int) (ss : List Pt.Pat) (x : Pt.Pat), ds = [.int p, .int st, eStairs ss, ePat x] ∧ GoodP p ∧ 0 ≤ st ∧ st ≤ 8 ∧ Stairs p st Rs ss ∧ ss.length ≤ 13 ∧ Pt.IsPat p x ∧ Sr.Wd R x ∧ 10 ≤ Rs ∧ Rs ≤ R ∧ R + 13 * (Rs + 10) ≤ 1500 ∧ ∀ x' m, Taken p st ss x x' m → Sr.Wd (R + 13 * (Rs + 10)) x' → Qd (ePat x')
theorem mu_bound {st R : Int} {p : Int} {s x : Pt.Pat} (h0 : 0 ≤ st) (S : Sr.Stair p st s) (hc : -10 ≤ Sr.firstC st s ∧ Sr.firstC st s ≤ 10) (hx : Pt.IsPat p x) (hR : 0 ≤ R) (h : Sr.Wd R x) : muX st s x ≤ (2 * R + 21).toNat := by
  have tg := Sr.top_ge h0 S
  have h1 : Sr.hiM (Sr.upF st s) (x.map (·.1)) ≤ (R + 11).toNat := Sr.hiM_le fun k hk => by
    have := h k ((Sr.mem_at hx).mp hk)
    unfold Sr.upF
    split <;> omega
  have h2 : Sr.hiM (Sr.dnF st s) (x.map (·.1)) ≤ (R + 10).toNat := Sr.hiM_le fun k hk => by
    have := h k ((Sr.mem_at hx).mp hk)
    unfold Sr.dnF
    split <;> omega
  unfold muX Sr.mu
  omega
/-- what stands when k stairs are done -/
structure TakenTo (p st R Rs : Int) (ss : List Pt.Pat) (x : Pt.Pat) (k : Nat) (y : Pt.Pat) (m : Mk.M) : Prop where
  pat : Pt.IsPat p y
  rng : Sr.Rng p m
  low : ∀ (i : Nat) (s : Pt.Pat), i < k → ss[i]? = some s → Sr.LowAt st s y
  made : Sr.Made p st (baseS ss) m x y
  keys : ∀ q ∈ m, 0 ≤ q.1.1 ∧ q.1.1 < k ∧ (st = 0 → q.1.2 = 0) ∧ -1510 ≤ st * q.1.2 ∧ st * q.1.2 ≤ 1510
  wd : Sr.Wd (R + k * (Rs + 10)) y
  len : m.length ≤ k * 3021
theorem to_init {p st R Rs : Int} {ss : List Pt.Pat} {x : Pt.Pat} (hx : Pt.IsPat p x) (h : Sr.Wd R x) : TakenTo p st R Rs ss x 0 x [] := by
  refine ⟨hx, (fun _ h => nomatch h), (fun i s h => absurd h (by omega)), fun k => ?_, (fun _ h => nomatch h), fun k hk => ?_, by simp⟩
  · show _ = (Pt.at_ x k + 0) % p
    rw [Int.add_zero]
  · have := h k hk
    simpa using this
theorem one_made {p st : Int} {ss : List Pt.Pat} {k : Nat} {s : Pt.Pat} (h : ss[k]? = some s) : Sr.Made p st (baseS ss) [((0 + (k : Int), 0), 1)] [] s := fun j => by
  have e : baseS ss (0 + (k : Int)) = s := by
    unfold baseS
    rw [show (0 + (k : Int)).toNat = k by omega, List.getD, h]
    rfl
  show Pt.at_ s j % p = (0 + (Pt.at_ (baseS ss (0 + (k : Int))) (j - st * 0) * 1 + 0)) % p
  rw [e, Int.mul_zero, Int.sub_zero, Int.mul_one, Int.add_zero, Int.zero_add]
theorem to_step {p st R Rs : Int} {ss : List Pt.Pat} {x y z : Pt.Pat} {my mz : Mk.M} {k : Nat} {s : Pt.Pat} (hst : Stairs p st Rs ss) (h : TakenTo p st R Rs ss x k y my) (hs : ss[k]? = some s) (hl : Lowered p st (R + k * (Rs + 10)) Rs s [((0 + (k : Int), 0), 1)] y my z mz) (hlow : Sr.LowAt st s z) (hlen : mz.length ≤ my.length + 3021) (hR : R + k * (Rs + 10) ≤ 1500) : TakenTo p st R Rs ss x (k + 1) z mz := by
  refine ⟨hl.pat, hl.rng, fun i t hi ht => ?_, hl.made _ _ (one_made hs) h.made, fun q hq => ?_, fun j hj => ?_, ?_⟩
  · by_cases c : i = k
    · subst c
      rw [hs] at ht
      cases ht
      exact hlow
    · have hik : i < k := by omega
      have hr : Sr.firstC st t < Sr.firstC st s := by
        have h1 := lt_of_get ht
        have h2 := lt_of_get hs
        have := List.pairwise_iff_getElem.mp hst.rise i k h1 h2 hik
        rw [List.getElem?_eq_getElem h1] at ht
        rw [List.getElem?_eq_getElem h2] at hs
        cases ht
        cases hs
        exact this
      intro j hj hjl
      rw [hl.ahead j (by omega)] at hjl
      exact h.low i t hik ht j hj hjl
  · refine hl.keys (fun q => 0 ≤ q.1 ∧ q.1 < ((k + 1 : Nat) : Int) ∧ (st = 0 → q.2 = 0) ∧ -1510 ≤ st * q.2 ∧ st * q.2 ≤ 1510) (fun a ha => ?_) (fun a ha sh hsh b1 b2 => ?_) q hq
    · have := h.keys a ha
      refine ⟨this.1, by omega, this.2.2⟩
    · simp only [List.mem_cons, List.not_mem_nil, or_false] at ha
      subst ha
      refine ⟨by show 0 ≤ 0 + (k : Int); omega, by show 0 + (k : Int) < _; omega, fun z => ?_, by show _ ≤ st * (0 + sh); rw [Int.zero_add]; omega, by show st * (0 + sh) ≤ _; rw [Int.zero_add]; omega⟩
      show 0 + sh = 0
      rw [hsh z]
      rfl
  · have := hl.wd j hj
    rw [show ((k + 1 : Nat) : Int) * (Rs + 10) = k * (Rs + 10) + (Rs + 10) by rw [show ((k + 1 : Nat) : Int) = (k : Int) + 1 from rfl, Int.add_mul, Int.one_mul]]
    omega
  · have := h.len
    rw [Nat.add_mul]
    omega
theorem to_done {p st R Rs : Int} {ss : List Pt.Pat} {x y : Pt.Pat} {m zs : Mk.M} (h : TakenTo p st R Rs ss x ss.length y m) (hl : ss.length ≤ 13) (hR : R + 13 * (Rs + 10) ≤ 1500) (hRs : 0 ≤ Rs) (hz : Mk.Tidy p (m.map fun x => (x.1, x.2 * -1)) zs) : Taken p st ss x y zs := by
  refine ⟨h.pat, fun s hs => ?_, hz.rng, fun q hq => ?_, fun k => ?_, fun j hj => ?_, ?_⟩
  · obtain ⟨i, hi, e⟩ := List.getElem_of_mem hs
    exact h.low i s hi (by rw [List.getElem?_eq_getElem hi, e])
  · obtain ⟨a, ha, e⟩ := hz.from' q hq
    obtain ⟨b, hb, rfl⟩ := List.mem_map.mp ha
    rw [← e]
    exact h.keys b hb
  · have e1 := hz.same fun q => Pt.at_ (baseS ss q.1) (k - st * q.2)
    rw [Mk.ws_mul] at e1
    have e2 := h.made k
    have e3 : Sr.Lin st (baseS ss) zs k % p = (Sr.Lin st (baseS ss) m k * -1) % p := e1
    rw [Int.add_emod, e3, e2, ← Int.add_emod]
    congr 1
    omega
  · have := h.wd j hj
    have h1 : (ss.length : Int) * (Rs + 10) ≤ 13 * (Rs + 10) := Int.mul_le_mul_of_nonneg_right (by omega) (by omega)
    omega
  · have h1 := hz.len
    rw [List.length_map] at h1
    have h2 := h.len
    have h3 : ss.length * 3021 ≤ 13 * 3021 := Nat.mul_le_mul_right _ hl
    omega
theorem to_wide {p st R Rs : Int} {ss : List Pt.Pat} {x y : Pt.Pat} {m : Mk.M} (h : TakenTo p st R Rs ss x ss.length y m) (hl : ss.length ≤ 13) (hRs : 0 ≤ Rs) : Sr.Wd (R + 13 * (Rs + 10)) y := fun j hj => by
  have := h.wd j hj
  have h1 : (ss.length : Int) * (Rs + 10) ≤ 13 * (Rs + 10) := Int.mul_le_mul_of_nonneg_right (by omega) (by omega)
  omega
theorem stairs_at {ss : List Pt.Pat} {k : Nat} {s : Pt.Pat} (h : ss[k]? = some s) : atI (ss.map ePat) (0 + (k : Int)) = some (ePat s) := by
  rw [Int.zero_add]
  exact atI_nat (by rw [List.getElem?_map, h]; rfl)
/-! stairs that are drawn: what their pairs come to -/
structure SP (p st c m W : Int) (P : Pt.Pat) : Prop where
  ge : ∀ x ∈ P, c ≤ Sr.col st x.1
  inC : ∀ x ∈ P, Sr.col st x.1 = c → c ≤ x.1 ∧ x.1 ≤ c + st * m
  s0 : 0 < Pt.sumAt P c
  s1 : Pt.sumAt P c < p
  tp : Pt.sumAt P (c + st * m) = 1
  wd : ∀ x ∈ P, -W ≤ x.1 ∧ x.1 ≤ W
theorem SP.more {p st c m W : Int} {P : Pt.Pat} {x : Int × Int} (h : SP p st c m W P) (hx : c < Sr.col st x.1) (hcc : Sr.col st c = c) (hw : -W ≤ x.1 ∧ x.1 ≤ W) : SP p st c m W (P ++ [x]) := by
  have n1 : ¬ x.1 = c := fun z => by rw [z, hcc] at hx; omega
  have n2 : ¬ x.1 = c + st * m := fun z => by rw [z, Sr.col_add, hcc] at hx; omega
  refine ⟨fun y hy => ?_, fun y hy hc => ?_, ?_, ?_, ?_, fun y hy => ?_⟩
  · rcases List.mem_append.mp hy with z | z
    · exact h.ge y z
    · simp at z; rw [z]; omega
  · rcases List.mem_append.mp hy with z | z
    · exact h.inC y z hc
    · simp at z; rw [z] at hc; omega
  · rw [sum_snoc, if_neg n1]; have := h.s0; omega
  · rw [sum_snoc, if_neg n1]; have := h.s1; omega
  · rw [sum_snoc, if_neg n2]; have := h.tp; omega
  · rcases List.mem_append.mp hy with z | z
    · exact h.wd y z
    · simp at z; rw [z]; exact hw
theorem stair_of {p st c m W : Int} {P : Pt.Pat} (hp : 1 < p) (s0 : 0 ≤ st) (h : SP p st c m W P) (hcc : Sr.col st c = c) (m0 : 0 ≤ m) (m1 : 0 < m → 0 < st) : Sr.Stair p st (Pt.tidy p P) ∧ Sr.firstC st (Pt.tidy p P) = c ∧ Sr.Wd W (Pt.tidy p P) := by
  have hp0 : 0 < p := by omega
  have hx := Pt.tidy_pat hp0 P
  have hat := Pt.tidy_at hp0 P
  have lit : ∀ k, Pt.at_ (Pt.tidy p P) k ≠ 0 → ∃ x ∈ P, x.1 = k := fun k hk => by
    obtain ⟨y, hy, e⟩ := Pt.tidy_mem hp0 (Pt.at_mem hk)
    exact ⟨y, hy, e⟩
  have hc : Pt.at_ (Pt.tidy p P) c ≠ 0 := by
    rw [hat, Int.emod_eq_of_lt (by have := h.s0; omega) h.s1]
    have := h.s0
    omega
  have ht : Pt.at_ (Pt.tidy p P) (c + st * m) = 1 := by rw [hat, h.tp]; exact Int.emod_eq_of_lt (by decide) hp
  have hf : Sr.firstC st (Pt.tidy p P) = c := by
    refine (Sr.minL_is (List.mem_map.mpr ⟨_, Pt.at_mem hc, hcc⟩) fun y hy => ?_).symm
    obtain ⟨x, hx2, rfl⟩ := List.mem_map.mp hy
    obtain ⟨z, hz, e⟩ := Pt.tidy_mem hp0 hx2
    rw [← e]
    exact h.ge z hz
  have ct : Sr.col st (c + st * m) = c := by rw [Sr.col_add, hcc]
  have hl : Sr.lenC st (Pt.tidy p P) = m := by
    unfold Sr.lenC
    rw [hf]
    by_cases z : st = 0
    · rw [if_pos z]
      have : ¬ 0 < m := fun q => by have := m1 q; omega
      omega
    · rw [if_neg z]
      have srt := Sr.spots_srt (st := st) hx c
      have i1 : c ∈ Sr.spots st (Pt.tidy p P) c := Sr.mem_spots.mpr ⟨⟨_, Pt.at_mem hc, rfl⟩, hcc⟩
      have i2 : c + st * m ∈ Sr.spots st (Pt.tidy p P) c := Sr.mem_spots.mpr ⟨⟨_, Pt.at_mem (by rw [ht]; decide), rfl⟩, ct⟩
      obtain ⟨j1, j2⟩ := Sr.head_mem (List.ne_nil_of_mem i1)
      have r1 := Sr.srt_last srt i1
      have r2 := Sr.srt_last srt i2
      have b : ∀ k, k ∈ Sr.spots st (Pt.tidy p P) c → c ≤ k ∧ k ≤ c + st * m := fun k hk => by
        obtain ⟨⟨y, hy, e⟩, hcol⟩ := Sr.mem_spots.mp hk
        obtain ⟨z, hz, e2⟩ := Pt.tidy_mem hp0 hy
        rw [← e, ← e2]
        exact h.inC z hz (by rw [e2, e]; exact hcol)
      have b1 := b _ j1
      have b2 := b _ j2
      rw [show Sr.lastD (Sr.spots st (Pt.tidy p P) c) - Sr.headD (Sr.spots st (Pt.tidy p P) c) = st * m by omega]
      exact Int.mul_ediv_cancel_left m z
  have htop : Sr.topC st (Pt.tidy p P) = c + st * m := by
    show Sr.firstC st (Pt.tidy p P) + st * Sr.lenC st (Pt.tidy p P) = _
    rw [hf, hl]
  refine ⟨⟨hx, fun z => ?_, by rw [hf]; exact hcc, by rw [hl]; exact m0, fun k hk hkc => ?_, fun k hk hkc => ?_, by rw [hf]; exact hc, by rw [htop]; exact ht⟩, hf, fun k hk => ?_⟩
  · rw [z] at hc
    exact hc rfl
  · rw [hf] at hk hkc
    rcases Int.decEq (Pt.at_ (Pt.tidy p P) k) 0 with z | z
    · obtain ⟨x, hx2, rfl⟩ := lit k z
      have := (h.inC x hx2 hk).1
      omega
    · exact z
  · rw [hf] at hk
    rw [htop] at hkc
    rcases Int.decEq (Pt.at_ (Pt.tidy p P) k) 0 with z | z
    · obtain ⟨x, hx2, rfl⟩ := lit k z
      have := (h.inC x hx2 hk).2
      omega
    · exact z
  · obtain ⟨x, hx2, rfl⟩ := lit k hk
    exact h.wd x hx2
def cDrawStairX (W : Int) : List PyData → (PyData → Prop) → Prop := fun ds Qd => ∃ p st c : Int, ds = [.int p, .int st, .int c] ∧ GoodP p ∧ 0 ≤ st ∧ st ≤ 8 ∧ (st = 0 ∨ (0 ≤ c ∧ c < st)) ∧ -10 ≤ c ∧ c ≤ 10 ∧ ∀ xs : Pt.Pat, Sr.Stair p st xs → Sr.firstC st xs = c → Sr.Wd W xs → xs.length ≤ 20 → Qd (ePat xs)
def cDrawStairsX (W : Int) : List PyData → (PyData → Prop) → Prop := fun ds Qd => ∃ p st : Int, ds = [.int p, .int st] ∧ GoodP p ∧ 0 ≤ st ∧ st ≤ 8 ∧ ∀ ss : List Pt.Pat, ss.length ≤ 13 → Stairs p st W ss → (∀ s ∈ ss, s.length ≤ 20) → Qd (eStairs ss)
theorem runI_srt (a b : Int) : (runI a b).Pairwise (· < ·) := by
  unfold runI
  rw [List.pairwise_map]
  refine List.pairwise_lt_range.imp fun {i j} h => ?_
  omega
theorem stairs_of {p st W : Int} {ss : List Pt.Pat} (h1 : ∀ s ∈ ss, Sr.Stair p st s ∧ Sr.Wd W s ∧ -10 ≤ Sr.firstC st s ∧ Sr.firstC st s ≤ 10) (h2 : (ss.map (Sr.firstC st)).Pairwise (· < ·)) : Stairs p st W ss := ⟨h1, List.pairwise_map.mp h2⟩
def cAreParts : List PyData → (PyData → Prop) → Prop := fun ds Qd => ∃ (p st n : Int) (m : Mk.M), ds = [.int p, .int st, .int n, eParts m] ∧ Sr.Rng p m ∧ (∀ y ∈ m, 0 ≤ y.1.1 ∧ y.1.1 < n ∧ (st = 0 → y.1.2 = 0)) ∧ m.length ≤ 8000000 ∧ Qd (.bool true)
def cPutParts : List PyData → (PyData → Prop) → Prop := fun ds Qd => ∃ (p st : Int) (ss : List Pt.Pat) (m : Mk.M), ds = [.int p, .int st, eStairs ss, eParts m] ∧ GoodP p ∧ 0 ≤ st ∧ st ≤ 8 ∧ (∀ s ∈ ss, Pt.IsPat p s ∧ Sr.Wd 60 s ∧ s.length ≤ 20) ∧ Sr.Rng p m ∧ (∀ y ∈ m, 0 ≤ y.1.1 ∧ y.1.1 < ss.length ∧ -1510 ≤ st * y.1.2 ∧ st * y.1.2 ≤ 1510) ∧ m.length ≤ 45000 ∧
  ∀ z, Pt.IsPat p z → (∀ k, Pt.at_ z k = Sr.Lin st (baseS ss) m k % p) → z.length ≤ 3201 → Qd (ePat z)
theorem nodup_width {lo hi : Int} : ∀ {ks : List Int}, ks.Nodup → (∀ k ∈ ks, lo ≤ k ∧ k ≤ hi) → (ks.length : Int) ≤ max 0 (hi - lo + 1) := by
  intro ks nd h
  have e : ks.length = (ks.mergeSort (fun a b => decide (a ≤ b))).length := by rw [List.length_mergeSort]
  rw [e]
  have pm := List.mergeSort_perm ks (fun a b => decide (a ≤ b))
  have srt : (ks.mergeSort (fun a b => decide (a ≤ b))).Pairwise (· ≤ ·) := by
    have := List.pairwise_mergeSort (le := fun a b : Int => decide (a ≤ b)) (by intro a b c h1 h2; simp at *; omega) (by intro a b; simp; omega) ks
    exact this.imp fun h => by simpa using h
  have srt2 := Pt.sorted_strict pm nd srt
  have h2 : ∀ k ∈ ks.mergeSort (fun a b => decide (a ≤ b)), lo ≤ k ∧ k ≤ hi := fun k hk => h k (pm.mem_iff.mp hk)
  generalize ks.mergeSort (fun a b => decide (a ≤ b)) = xs at srt2 h2
  clear e pm srt h nd
  induction xs generalizing lo with
  | nil => simp; omega
  | cons x r ih =>
    have h1 := h2 x (by simp)
    have := ih (lo := x + 1) (List.pairwise_cons.mp srt2).2 fun k hk => ⟨by have := (List.pairwise_cons.mp srt2).1 k hk; omega, (h2 k (by simp [hk])).2⟩
    simp only [List.length_cons]
    omega
theorem keys_width {lo hi : Int} (xs : Pt.Pat) (h : ∀ x ∈ xs, lo ≤ x.1 ∧ x.1 ≤ hi) : ((Pt.keys xs).length : Int) ≤ max 0 (hi - lo + 1) := nodup_width (Pt.keys_nodup xs) fun k hk => by
  obtain ⟨x, hx, rfl⟩ := (Pt.mem_keys xs k).mp hk
  exact h x hx
theorem sumAt_mapmul (b v : Int) : ∀ (s : Pt.Pat) (k : Int), Pt.sumAt (s.map fun y => ((y.1 + b, y.2 * v) : Int × Int)) k = Pt.sumAt s (k - b) * v
  | [], k => by simp [Pt.sumAt]
  | y :: r, k => by
    show (if y.1 + b = k then y.2 * v else 0) + Pt.sumAt (r.map fun y => ((y.1 + b, y.2 * v) : Int × Int)) k = ((if y.1 = k - b then y.2 else 0) + Pt.sumAt r (k - b)) * v
    rw [sumAt_mapmul b v r k, Int.add_mul]
    by_cases c : y.1 + b = k
    · rw [if_pos c, if_pos (by omega)]
    · rw [if_neg c, if_neg (by omega)]
      simp
end Dk

/-! one rest each -/
namespace Sr
open Pt Mk
theorem over_single {p : Int} {g f : Pr → Int} {k0 : Pr} : ∀ {ks : List Pr}, ks.Nodup → (∀ k ∈ ks, k ≠ k0 → g k * f k % p = 0) → over g f ks % p = (if k0 ∈ ks then g k0 * f k0 else 0) % p
  | [], _, _ => by simp [over]
  | k :: r, nd, h => by
    have hn := (List.nodup_cons.mp nd).1
    have ih := over_single (p := p) (k0 := k0) (List.nodup_cons.mp nd).2 fun j hj => h j (by simp [hj])
    show (g k * f k + over g f r) % p = _
    by_cases c : k = k0
    · subst c
      rw [if_neg hn] at ih
      rw [if_pos (by simp), Int.add_emod, ih]
      simp
    · have h0 := h k (by simp) c
      rw [Int.add_emod, h0, ih, Int.zero_add, Int.emod_emod]
      by_cases d : k0 ∈ r
      · rw [if_pos d, if_pos (by simp [d])]
      · rw [if_neg d, if_neg (by simp [d, Ne.symm c])]
theorem ws_single {p : Int} {g : Pr → Int} {m : M} {k0 : Pr} (h : ∀ q ∈ m, q.1 ≠ k0 → g q.1 * sumM m q.1 % p = 0) : ws g m % p = g k0 * sumM m k0 % p := by
  rw [← over_sum g (keysP_nodup m) fun x hx => (mem_keysP m x.1).mpr ⟨x, hx, rfl⟩, over_single (k0 := k0) (keysP_nodup m) fun k hk hne => by
    obtain ⟨x, hx, rfl⟩ := (mem_keysP m k).mp hk
    exact h x hx hne]
  split
  · rfl
  · rename_i c
    rw [sumM_none fun x hx e => c ((mem_keysP m k0).mpr ⟨x, hx, e⟩)]
    simp
theorem ws_null {p : Int} {g : Pr → Int} {m : M} (h : ∀ q ∈ m, sumM m q.1 % p = 0) : ws g m % p = 0 := by
  have : ws g m % p = g (0, 0) * sumM m (0, 0) % p := ws_single fun q hq _ => by rw [Int.mul_emod, h q hq]; simp
  rw [this]
  by_cases c : ∃ q ∈ m, q.1 = (0, 0)
  · obtain ⟨q, hq, e⟩ := c
    rw [← e, Int.mul_emod, h q hq]
    simp
  · rw [sumM_none fun x hx e => c ⟨x, hx, e⟩]
    simp
theorem far_keys : ∀ m : M, ∃ N : Nat, ∀ q ∈ m, -(N : Int) < q.1.2 ∧ q.1.2 < N
  | [] => ⟨0, by simp⟩
  | x :: r => by
    obtain ⟨N, hN⟩ := far_keys r
    refine ⟨N + x.1.2.natAbs + 1, fun q hq => ?_⟩
    rcases List.mem_cons.mp hq with rfl | hq
    · omega
    · have := hN q hq
      omega
/-- numbers by p of which a product is nought only where one is -/
def NoZero (p : Int) : Prop := ∀ a b : Int, a * b % p = 0 → b % p = 0 ∨ a % p = 0
section
variable {p st : Int} {s : Pat} {w : Int} {m : M} {B : Int → Pat}
/-- one stair's copies that lie low in its column come to nothing -/
theorem one_null (hp : 1 < p) (hz : NoZero p) (h0 : 0 ≤ st) (S : Stair p st s) (hB : B w = s) (hw : ∀ q ∈ m, q.1.1 = w ∧ (st = 0 → q.1.2 = 0)) (hl : ∀ k, col st k = firstC st s → Lin st B m k % p ≠ 0 → firstC st s ≤ k ∧ k < topC st s) : ∀ q ∈ m, sumM m q.1 % p = 0 := by
  have ev : ∀ (k sh : Int), (∀ q ∈ m, q.1 ≠ (w, sh) → at_ s (k - st * q.1.2) * sumM m q.1 % p = 0) → Lin st B m k % p = at_ s (k - st * sh) * sumM m (w, sh) % p := fun k sh h => by
    unfold Lin
    rw [ws_single (k0 := (w, sh)) fun q hq hne => by
      show at_ (B q.1.1) (k - st * q.1.2) * sumM m q.1 % p = 0
      rw [(hw q hq).1, hB]
      exact h q hq hne]
    show at_ (B w) (k - st * sh) * _ % p = _
    rw [hB]
  have ct := top_col S
  by_cases z : st = 0
  · intro q hq
    have e1 : q.1 = (w, 0) := Prod.ext (hw q hq).1 ((hw q hq).2 z)
    have e2 := ev (topC st s) 0 fun q hq hne => absurd (Prod.ext (hw q hq).1 ((hw q hq).2 z)) hne
    rw [Int.mul_zero, Int.sub_zero, S.top, Int.one_mul] at e2
    rw [e1, ← e2]
    rcases Int.decEq (Lin st B m (topC st s) % p) 0 with c | c
    · have := hl _ ct c
      omega
    · exact c
  · have hst : 0 < st := by omega
    obtain ⟨N, hN⟩ := far_keys m
    have out : ∀ sh : Int, (N : Int) ≤ sh ∨ sh ≤ -(N : Int) → sumM m (w, sh) % p = 0 := fun sh h => by
      rw [sumM_none fun x hx e => by have := hN x hx; rw [e] at this; simp only at this; omega]
      exact Int.zero_emod p
    have hi : ∀ (j : Nat) (sh : Int), 0 ≤ sh → (N : Int) ≤ sh + j → sumM m (w, sh) % p = 0 := by
      intro j
      induction j with
      | zero => exact fun sh _ h => out sh (.inl (by omega))
      | succ j ih =>
        intro sh h1 h2
        have e := ev (topC st s + st * sh) sh fun q hq hne => by
          rcases Int.lt_trichotomy q.1.2 sh with c | c | c
          · rw [S.high (topC st s + st * sh - st * q.1.2) (by rw [col_sub, col_add, ct]) (by have : 0 < st * (sh - q.1.2) := Int.mul_pos hst (by omega); rw [Int.mul_sub] at this; omega)]
            simp
          · exact absurd (Prod.ext (hw q hq).1 c) hne
          · have e1 : q.1 = (w, q.1.2) := Prod.ext (hw q hq).1 rfl
            rw [Int.mul_emod, e1, ih q.1.2 (by omega) (by omega)]
            simp
        rw [show topC st s + st * sh - st * sh = topC st s by omega, S.top, Int.one_mul] at e
        rw [← e]
        rcases Int.decEq (Lin st B m (topC st s + st * sh) % p) 0 with c | c
        · have := hl _ (by rw [col_add, ct]) c
          have : 0 ≤ st * sh := Int.mul_nonneg h0 h1
          omega
        · exact c
    have lo : ∀ (j : Nat) (sh : Int), sh < 0 → sh - j ≤ -(N : Int) → sumM m (w, sh) % p = 0 := by
      intro j
      induction j with
      | zero => exact fun sh _ h => out sh (.inr (by omega))
      | succ j ih =>
        intro sh h1 h2
        have e := ev (firstC st s + st * sh) sh fun q hq hne => by
          rcases Int.lt_trichotomy q.1.2 sh with c | c | c
          · have e1 : q.1 = (w, q.1.2) := Prod.ext (hw q hq).1 rfl
            rw [Int.mul_emod, e1, ih q.1.2 (by omega) (by omega)]
            simp
          · exact absurd (Prod.ext (hw q hq).1 c) hne
          · rw [S.low (firstC st s + st * sh - st * q.1.2) (by rw [col_sub, col_add, S.cc]) (by have : 0 < st * (q.1.2 - sh) := Int.mul_pos hst (by omega); rw [Int.mul_sub] at this; omega)]
            simp
        rw [show firstC st s + st * sh - st * sh = firstC st s by omega] at e
        have h3 : Lin st B m (firstC st s + st * sh) % p = 0 := by
          rcases Int.decEq (Lin st B m (firstC st s + st * sh) % p) 0 with c | c
          · have := hl _ (by rw [col_add, S.cc]) c
            have : 0 < st * -sh := Int.mul_pos hst (by omega)
            rw [Int.mul_neg] at this
            omega
          · exact c
        rw [h3] at e
        rcases hz _ _ e.symm with c | c
        · exact c
        · have r := S.pat.at_rng (by omega) (firstC st s)
          rw [Int.emod_eq_of_lt r.1 r.2] at c
          exact absurd c S.bot
    intro q hq
    have e1 : q.1 = (w, q.1.2) := Prod.ext (hw q hq).1 rfl
    rw [e1]
    by_cases c : 0 ≤ q.1.2
    · exact hi N _ c (by omega)
    · exact lo N _ (by omega) (by omega)
end
theorem ws_filter (g : Pr → Int) (f : Pr × Int → Bool) : ∀ m : M, ws g m = ws g (m.filter f) + ws g (m.filter fun q => !f q)
  | [] => rfl
  | x :: r => by
    have ih := ws_filter g f r
    rw [List.filter_cons, List.filter_cons]
    show g x.1 * x.2 + ws g r = _
    cases h : f x with
    | true =>
      simp only [if_true, Bool.not_true, if_false, Bool.false_eq_true]
      show _ = g x.1 * x.2 + ws g (r.filter f) + _
      omega
    | false =>
      simp only [if_false, Bool.not_false, if_true, Bool.false_eq_true]
      show _ = _ + (g x.1 * x.2 + ws g (r.filter fun q => !f q))
      omega
/-- copies of stairs that lie low under all of them come to nothing -/
theorem all_null {p st : Int} (hp : 1 < p) (hz : NoZero p) (h0 : 0 ≤ st) {B : Int → Pat} {n : Nat} (hS : ∀ i : Nat, i < n → Stair p st (B i)) (hr : ∀ i j : Nat, i < j → j < n → firstC st (B i) < firstC st (B j)) : ∀ (d : Nat) (m : M), d ≤ n → (∀ q ∈ m, ((n - d : Nat) : Int) ≤ q.1.1 ∧ q.1.1 < n ∧ (st = 0 → q.1.2 = 0)) → (∀ i : Nat, i < n → ∀ k, col st k = firstC st (B i) → Lin st B m k % p ≠ 0 → firstC st (B i) ≤ k ∧ k < topC st (B i)) → ∀ k, Lin st B m k % p = 0 := by
  intro d
  induction d with
  | zero =>
    intro m _ hk _ k
    have : m = [] := by
      cases m with
      | nil => rfl
      | cons x r => have := hk x (by simp); simp at this; omega
    rw [this]
    exact Int.zero_emod p
  | succ d ih =>
    intro m hd hk hl
    obtain ⟨w, hw⟩ : ∃ w : Nat, w = n - (d + 1) := ⟨_, rfl⟩
    have hwn : w < n := by omega
    have parts : ∀ k, Lin st B m k = Lin st B (m.filter fun q => decide (q.1.1 = (w : Int))) k + Lin st B (m.filter fun q => !decide (q.1.1 = (w : Int))) k := fun k => ws_filter _ _ m
    have hk1 : ∀ q ∈ m.filter (fun q => decide (q.1.1 = (w : Int))), q.1.1 = (w : Int) ∧ (st = 0 → q.1.2 = 0) := fun q hq => by
      rw [List.mem_filter] at hq
      exact ⟨of_decide_eq_true hq.2, (hk q hq.1).2.2⟩
    have hk2 : ∀ q ∈ m.filter (fun q => !decide (q.1.1 = (w : Int))), ((n - d : Nat) : Int) ≤ q.1.1 ∧ q.1.1 < n ∧ (st = 0 → q.1.2 = 0) := fun q hq => by
      rw [List.mem_filter] at hq
      have h1 := hk q hq.1
      have h2 : ¬ q.1.1 = (w : Int) := by simpa using hq.2
      exact ⟨by omega, h1.2⟩
    have dark : ∀ k, col st k = firstC st (B w) → Lin st B (m.filter fun q => !decide (q.1.1 = (w : Int))) k = 0 := fun k hc => by
      unfold Lin
      have key : ∀ m' : M, (∀ q ∈ m', ((n - d : Nat) : Int) ≤ q.1.1 ∧ q.1.1 < n) → ws (fun q => at_ (B q.1) (k - st * q.2)) m' = 0 := by
        intro m'
        induction m' with
        | nil => exact fun _ => rfl
        | cons x r ihr =>
          intro h
          have hx := h x (by simp)
          show at_ (B x.1.1) (k - st * x.1.2) * x.2 + ws _ r = 0
          rw [ihr fun q hq => h q (by simp [hq])]
          obtain ⟨j, hj⟩ : ∃ j : Nat, x.1.1 = (j : Int) := ⟨x.1.1.toNat, by omega⟩
          rw [hj, dark_col (by rw [col_sub, hc]; exact hr w j (by omega) (by omega))]
          simp
      exact key _ fun q hq => ⟨(hk2 q hq).1, (hk2 q hq).2.1⟩
    have null1 := one_null (B := B) (w := (w : Int)) hp hz h0 (hS w hwn) rfl hk1 fun k hc hne => hl w hwn k hc (by rw [parts k, dark k hc, Int.add_zero]; exact hne)
    have z1 : ∀ k, Lin st B (m.filter fun q => decide (q.1.1 = (w : Int))) k % p = 0 := fun k => ws_null null1
    have same : ∀ k, Lin st B m k % p = Lin st B (m.filter fun q => !decide (q.1.1 = (w : Int))) k % p := fun k => by
      rw [parts k, Int.add_emod, z1 k, Int.zero_add, Int.emod_emod]
    intro k
    rw [same k]
    exact ih _ (by omega) hk2 (fun i hi j hj hne => hl i hi j hj (by rw [same j]; exact hne)) k
end Sr

namespace Dk
open PySem PySem.Spec PyProof.Rows L2
theorem noZero {p : Int} (hp : GoodP p) : Sr.NoZero p := fun a b h => by
  have hp0 := hp.pos
  by_cases c : a % p = 0
  · exact .inr c
  · left
    have r0 := Int.emod_nonneg a (show p ≠ 0 by omega)
    have r1 := Int.emod_lt_of_pos a hp0
    obtain ⟨n, _, _, n2⟩ := inv_there (s := a % p) hp (by omega) r1
    have e : ((n : Int) * a) % p = 1 := by rw [← n2, Int.mul_emod _ (a % p), Int.emod_emod, ← Int.mul_emod]
    have e2 : b % p = ((n : Int) * (a * b)) % p := by
      rw [← Int.mul_assoc, Int.mul_emod, e, Int.one_mul, Int.emod_emod]
    rw [e2, Int.mul_emod, h]
    simp
theorem baseS_at {ss : List Pt.Pat} {i : Nat} (h : i < ss.length) : ss[i]? = some (baseS ss (i : Int)) := by
  unfold baseS
  rw [Int.toNat_natCast, List.getD, List.getElem?_eq_getElem h]
  rfl
/-- r is a rest of x -/
def Rest (p st : Int) (ss : List Pt.Pat) (x r : Pt.Pat) : Prop := Pt.IsPat p r ∧ (∀ s ∈ ss, Sr.LowAt st s r) ∧ ∃ m : Mk.M, (∀ y ∈ m, 0 ≤ y.1.1 ∧ y.1.1 < ss.length ∧ (st = 0 → y.1.2 = 0)) ∧ ∀ k, Pt.at_ x k % p = (Pt.at_ r k + Sr.Lin st (baseS ss) m k) % p
theorem Taken.rest {p st : Int} {ss : List Pt.Pat} {x r : Pt.Pat} {m : Mk.M} (h : Taken p st ss x r m) : Rest p st ss x r := ⟨h.pat, h.low, m, fun y hy => by have := h.keys y hy; exact ⟨this.1, this.2.1, this.2.2.1⟩, h.sum⟩
theorem rest_one0 {p st : Int} {ss : List Pt.Pat} {x x1 x2 : Pt.Pat} (hp : GoodP p) (h0 : 0 ≤ st) (hall : ∀ s ∈ ss, Sr.Stair p st s) (hrise : ss.Pairwise fun a b => Sr.firstC st a < Sr.firstC st b) (t1 : Rest p st ss x x1) (t2 : Rest p st ss x x2) : x1 = x2 := by
  obtain ⟨p1, lw1, m1, k1, s1⟩ := t1
  obtain ⟨p2, lw2, m2, k2, s2⟩ := t2
  have hp0 := hp.pos
  have hp2 : 1 < p := by have := hp.two; omega
  have mem : ∀ i : Nat, i < ss.length → baseS ss (i : Int) ∈ ss := fun i hi => List.mem_of_getElem? (baseS_at hi)
  have lin : ∀ k, Sr.Lin st (baseS ss) (m2 ++ m1.map fun x => (x.1, x.2 * -1)) k % p = (Pt.at_ x1 k - Pt.at_ x2 k) % p := fun k => by
    unfold Sr.Lin
    rw [Mk.ws_app, Mk.ws_mul]
    have e1 := s1 k
    have e2 := s2 k
    unfold Sr.Lin at e1 e2
    generalize Mk.ws (fun q => Pt.at_ (baseS ss q.1) (k - st * q.2)) m1 = u at e1
    generalize Mk.ws (fun q => Pt.at_ (baseS ss q.1) (k - st * q.2)) m2 = v at e2
    rw [e1] at e2
    have e3 : (v + u * -1) % p = ((Pt.at_ x2 k + v) + (-u - Pt.at_ x2 k)) % p := by congr 1; omega
    have e4 : ((Pt.at_ x2 k + v) + (-u - Pt.at_ x2 k)) % p = ((Pt.at_ x1 k + u) + (-u - Pt.at_ x2 k)) % p := by rw [Int.add_emod, ← e2, ← Int.add_emod]
    rw [e3, e4]
    congr 1
    omega
  have nul := Sr.all_null (st := st) (B := baseS ss) (n := ss.length) hp2 (noZero hp) h0 (fun i hi => hall _ (mem i hi)) (fun i j hij hj => by
    have h1 := baseS_at (show i < ss.length by omega)
    have h2 := baseS_at hj
    have := List.pairwise_iff_getElem.mp hrise i j (by omega) hj hij
    rw [List.getElem?_eq_getElem (by omega)] at h1 h2
    rw [← Option.some.inj h1, ← Option.some.inj h2]
    exact this) ss.length (m2 ++ m1.map fun x => (x.1, x.2 * -1)) (Nat.le_refl _) (fun q hq => by
    rcases List.mem_append.mp hq with z | z
    · have := k2 q z
      exact ⟨by omega, this.2.1, this.2.2⟩
    · obtain ⟨y, hy, rfl⟩ := List.mem_map.mp z
      have := k1 y hy
      exact ⟨by show _ ≤ y.1.1; omega, this.2.1, this.2.2⟩) (fun i hi k hc hne => by
    rw [lin k] at hne
    have hs := mem i hi
    by_cases c : Pt.at_ x1 k = 0
    · by_cases d : Pt.at_ x2 k = 0
      · rw [c, d] at hne
        exact absurd (Int.zero_emod p) hne
      · exact lw2 _ hs k hc d
    · exact lw1 _ hs k hc c)
  refine Pt.pat_ext p1 p2 fun k => ?_
  have e := (lin k).symm.trans (nul k)
  have r1 := p1.at_rng hp0 k
  have r2 := p2.at_rng hp0 k
  by_cases c : Pt.at_ x2 k ≤ Pt.at_ x1 k
  · rw [Int.emod_eq_of_lt (by omega) (by omega)] at e
    omega
  · have e2 : (Pt.at_ x1 k - Pt.at_ x2 k + p) % p = 0 := by rw [Int.add_emod_right]; exact e
    rw [Int.emod_eq_of_lt (by omega) (by omega)] at e2
    omega
theorem rest_one {p st Rs : Int} {ss : List Pt.Pat} {x x1 x2 : Pt.Pat} (hp : GoodP p) (h0 : 0 ≤ st) (hss : Stairs p st Rs ss) (t1 : Rest p st ss x x1) (t2 : Rest p st ss x x2) : x1 = x2 := rest_one0 hp h0 (fun s hs => (hss.one s hs).1) hss.rise t1 t2
theorem rest_uniq {p st Rs : Int} {ss : List Pt.Pat} {x x1 x2 : Pt.Pat} {m1 m2 : Mk.M} (hp : GoodP p) (h0 : 0 ≤ st) (hss : Stairs p st Rs ss) (t1 : Taken p st ss x x1 m1) (t2 : Taken p st ss x x2 m2) : x1 = x2 := rest_one hp h0 hss t1.rest t2.rest
/-- the law's own way to say that a pattern lies low -/
theorem low_all {p st : Int} {ss : List Pt.Pat} {x : Pt.Pat} (hx : Pt.IsPat p x) (h : ∀ s ∈ ss, Sr.LowAt st s x) : Sr.lowB st ss x = true := by
  unfold Sr.lowB
  rw [List.all_eq_true]
  intro s hs
  rw [(Sr.low_out hx).mpr (h s hs)]
  rfl
def KeysIn (st : Int) (ss : List Pt.Pat) (m : Mk.M) : Prop := ∀ y ∈ m, 0 ≤ y.1.1 ∧ y.1.1 < ss.length ∧ (st = 0 → y.1.2 = 0)
theorem KeysIn.app {st : Int} {ss : List Pt.Pat} {a b : Mk.M} (h1 : KeysIn st ss a) (h2 : KeysIn st ss b) : KeysIn st ss (a ++ b) := fun y hy => by
  rcases List.mem_append.mp hy with z | z
  · exact h1 y z
  · exact h2 y z
theorem lin_app (st : Int) (B : Int → Pt.Pat) (a b : Mk.M) (k : Int) : Sr.Lin st B (a ++ b) k = Sr.Lin st B a k + Sr.Lin st B b k := Mk.ws_app _ _ _
/-- y is x and copies of stairs -/
def Cpy (p st : Int) (ss : List Pt.Pat) (x y : Pt.Pat) : Prop := ∃ m : Mk.M, KeysIn st ss m ∧ ∀ k, Pt.at_ y k % p = (Pt.at_ x k + Sr.Lin st (baseS ss) m k) % p
theorem Cpy.refl (p st : Int) (ss : List Pt.Pat) (x : Pt.Pat) : Cpy p st ss x x := ⟨[], (fun _ h => nomatch h), fun k => by
  show _ = (Pt.at_ x k + 0) % p
  rw [Int.add_zero]⟩
theorem Cpy.rest {p st : Int} {ss : List Pt.Pat} {x y r : Pt.Pat} (h : Cpy p st ss x y) (hr : Rest p st ss x r) : Rest p st ss y r := by
  obtain ⟨m, hk, hm⟩ := h
  obtain ⟨h1, h2, m1, k1, s1⟩ := hr
  refine ⟨h1, h2, m1 ++ m, KeysIn.app k1 hk, fun k => ?_⟩
  rw [hm k, lin_app, ← Int.add_assoc, Int.add_emod, s1 k, ← Int.add_emod]
theorem Cpy.step {p st : Int} (hp : 0 < p) {ss : List Pt.Pat} {x y s : Pt.Pat} {i : Nat} {t n : Int} (h : Cpy p st ss x y) (hy : Pt.IsPat p y) (hs : ss[i]? = some s) (hsp : Pt.IsPat p s) : Cpy p st ss x (Pt.tidy p (y ++ s.map fun u => (u.1 + t * st, u.2 * n))) := by
  obtain ⟨m, hk, hm⟩ := h
  have hi := lt_of_get hs
  refine ⟨m ++ [(((i : Int), if st = 0 then 0 else t), n)], hk.app fun q hq => ?_, fun k => ?_⟩
  · simp only [List.mem_cons, List.not_mem_nil, or_false] at hq
    subst hq
    refine ⟨by show 0 ≤ (i : Int); omega, by show (i : Int) < _; omega, fun z => ?_⟩
    show (if st = 0 then 0 else t) = 0
    rw [if_pos z]
  · have eb : baseS ss (i : Int) = s := by
      have := baseS_at hi
      rw [hs] at this
      exact (Option.some.inj this).symm
    have es : st * (if st = 0 then 0 else t) = t * st := by
      split
      · rename_i z
        rw [z]
        simp
      · exact Int.mul_comm _ _
    rw [Pt.tidy_at hp, Int.emod_emod, Pt.sumAt_app, sumAt_mapmul, hy.at_sum, hsp.at_sum, lin_app, ← Int.add_assoc, Int.add_emod, hm k, ← Int.add_emod]
    show _ = (_ + _ + (Pt.at_ (baseS ss (i : Int)) (k - st * (if st = 0 then 0 else t)) * n + 0)) % p
    rw [eb, es, Int.add_zero]
theorem rest_sum {p st : Int} (hp : 0 < p) {ss : List Pt.Pat} {x y r1 r2 : Pt.Pat} (hx : Pt.IsPat p x) (hy : Pt.IsPat p y) (h1 : Rest p st ss x r1) (h2 : Rest p st ss y r2) : Rest p st ss (Pt.added p x y) (Pt.added p r1 r2) := by
  obtain ⟨p1, l1, m1, k1, s1⟩ := h1
  obtain ⟨p2, l2, m2, k2, s2⟩ := h2
  refine ⟨Pt.added_pat hp _ _, fun s hs k hk hl => ?_, m1 ++ m2, KeysIn.app k1 k2, fun k => ?_⟩
  · rw [Pt.added_at hp p1 p2] at hl
    by_cases c : Pt.at_ r1 k = 0
    · by_cases d : Pt.at_ r2 k = 0
      · rw [c, d] at hl
        exact absurd (Int.zero_emod p) hl
      · exact l2 s hs k hk d
    · exact l1 s hs k hk c
  · rw [Pt.added_at hp hx hy, Pt.added_at hp p1 p2, lin_app, Int.emod_emod, Int.emod_add_emod, Int.add_emod, s1 k, s2 k, ← Int.add_emod]
    congr 1
    omega
theorem rest_self {p st : Int} {ss : List Pt.Pat} {r : Pt.Pat} (h1 : Pt.IsPat p r) (h2 : ∀ s ∈ ss, Sr.LowAt st s r) : Rest p st ss r r := ⟨h1, h2, [], (fun _ h => nomatch h), fun k => by
  show _ = (Pt.at_ r k + 0) % p
  rw [Int.add_zero]⟩
theorem sum01 (p : Int) (x y : Pt.Pat) : Pt.tidy p (x ++ y.map fun u => (u.1 + 0, u.2 * 1)) = Pt.added p x y := by
  rw [Pt.map01]
  rfl
end Dk

namespace Dk
open PySem PySem.Spec PyProof.Rows L2
/-! ### a walk over a list or a tuple -/
def iEither (K : Fg) (te : TE) : TI := fun σ H R => iList K te σ H R ∨ iTup K te σ H R
theorem kpie (K : Fg) {X : Cx} {tg l : Expr} {tl : TE} (hl : PE X l tl) (h : X.K = K := by rfl) : PI X tg l (iEither K tl) := ⟨fun pn st σ H R J q => q.elim (fun q => (kpil K hl h).run pn st σ H R J q) fun q => (kpit K hl h).run pn st σ H R J q⟩
section
variable {K : Fg} {vs ix : List Nat} {g : TG} {dg : TGd} {tt : TT} {dt : TTd} {te t0 ta : TE} {de d0 da : TEd}
def dLcE (d0 : TEd) (dg : TGd) (dt : TTd) (de : TEd) (ix vs : List Nat) : TFd := fun Γ Q => dLc itL d0 dg dt de ix vs Γ Q ∨ dLc itT d0 dg dt de ix vs Γ Q
instance sf_lcE [A : SE K t0 d0] [B : SG K g dg ix] [T : ST K tt dt] [C : SE K te de] : SEF K (tLc (iEither K t0) g tt te vs) (dLcE d0 dg dt de ix vs) := ⟨fun F W σ Γ Q Qd R q kk => by
  rcases q with q | q
  · exact .inl ((sf_lcL (K := K) (g := g) (tt := tt) (te := te) (t0 := t0) (vs := vs)).run F W σ Γ Q Qd R q kk)
  · exact .inr ((sf_lcT (K := K) (g := g) (tt := tt) (te := te) (t0 := t0) (vs := vs)).run F W σ Γ Q Qd R q kk)⟩
/-! ### slices of tuples -/
theorem kslT {X : Cx} (K : Fg) (h : X.K = K := by rfl) : SlR X (rSlA K) := h ▸ sl_tupA
theorem tup_sh {F : Fx K} {W : Wd} {σ : L2.St} {Γ : G} {v : V} {x : RV} {ds : List PyData} (R : Rel F W σ Γ) (o : VOk F W σ Γ v x) (e : tupOf Γ x = some ds) (hk : keepable x ds) : Dq K (W.S F) v (.tuple ds) := by
  cases x with
  | fld _ _ => cases e
  | sh d =>
    cases d with
    | tuple ds' => cases e; exact o
    | _ => cases e
  | ar d =>
    cases d with
    | tuple ds' =>
      cases e
      exact VOk.sh R o (by show (if tupO (.tuple ds) = true then _ else _) = _; exact if_pos (by show tupO (.tuple ds) = true; simp only [tupO]; exact hk))
    | _ => cases e
  | own i =>
    obtain ⟨s, h1, h2, h3⟩ := o
    simp only [tupOf, h1] at e
    cases s with
    | no => cases e
    | ar d => cases e
    | ow o => cases e
    | rf o => cases e
    | ro o => cases e
    | sh d =>
      cases d with
      | tuple ds' =>
        cases e
        obtain ⟨v', q1, q2⟩ := R.slot i _ h1
        rw [h3] at q1
        cases q1
        exact q2
      | _ => cases e
def dSlT (da : TEd) (dl dh : G → (Option Int → G → Prop) → Prop) : TEd := fun Γ Q => da Γ fun x Γ1 => dl Γ1 fun lo Γ2 => dh Γ2 fun hi Γ3 => ∃ ds, tupOf Γ3 x = some ds ∧ keepable x ds ∧ Q (.sh (.tuple (cutD ds lo hi))) Γ3
instance se_sliceT {tl th : TO} {dl dh : G → (Option Int → G → Prop) → Prop} [A : SE K ta da] [L : SO K tl dl] [U : SO K th dh] : SE K (L2.tSl (rSlA K) ta tl th) (dSlT da dl dh) := ⟨fun F W σ Γ Q Qd R q k => A.run F W σ Γ _ _ R q fun x W1 Γ1 v s1 R1 o1 q => L.run F W1 σ Γ1 _ _ R1 q fun lo W2 Γ2 s2 R2 q => U.run F W2 σ Γ2 _ _ R2 q fun hi W3 Γ3 s3 R3 ⟨ds, e, hk, q⟩ => by
  have o3 := o1.stp (s2.trans s3)
  have hv := tup_sh R3 o3 e hk
  obtain ⟨a, xs, rfl, h1, h2, h3⟩ := tupOf_ok R3 o3 e
  have hd := keep_ok R3 h2 hk
  refine ⟨a, xs, rfl, h1.sq, fun hw => ?_, fun _ p hp => ?_⟩
  · refine k (.sh (.tuple (cutD ds lo hi))) W3 Γ3 _ (s1.trans (s2.trans s3)) R3 (.ofSh ?_) q
    have : cutD ds lo hi = ds := by
      unfold cutD
      rw [← hd.length, hw.1, hw.2, hd.length, List.drop_zero, Nat.sub_zero, List.take_length]
    rw [this]
    exact hv
  · have hS := same_new (o := .tup (cutV xs lo hi)) hp
    refine k (.sh (.tuple (cutD ds lo hi))) { W3 with H := upd W3.H p (.tup (cutV xs lo hi)) } Γ3 (.ref p) ((s1.trans (s2.trans s3)).trans (Stp.grow R3 hS)) (R3.grow hS).1 ?_ q
    refine .tup (.inl (S_of (W := { W3 with H := upd W3.H p (.tup (cutV xs lo hi)) }) (R3.free hp) upd_same)) (DqAll.same (R3.grow hS).2 ?_)
    unfold cutV cutD
    rw [hd.length]
    exact (hd.drop _).take _⟩
end
end Dk

/-! division of sums -/
namespace Po
structure PartSt (p : Int) (a b : P) (k : Nat) (L Q : P) : Prop where
  ll : L.length = a.length
  lq : Q.length = a.length
  rng : ∀ x ∈ L, 0 ≤ x ∧ x < p
  top : ∀ i, k + b.length ≤ i + 1 → co L i = 0
  low : ∀ i, i < k → co Q i = 0
  eqv : ∀ f : Nat → Int, wl f a % p = (wl (fun i => wl (fun j => f (i + j)) b) Q + wl f L) % p
theorem part_init {p : Int} (hp : 0 < p) {a b : P} (ha : ∀ x ∈ a, 0 ≤ x ∧ x < p) : PartSt p a b (a.length + 1 - b.length) a (List.replicate a.length 0) := by
  have z : ∀ (n : Nat) (g : Nat → Int), wl g (List.replicate n 0) = 0 := by
    intro n
    induction n with
    | zero => intro g; rfl
    | succ n ih => intro g; rw [List.replicate_succ]; simp only [wl, ih]; omega
  refine ⟨rfl, by simp, ha, fun i hi => co_ge (by omega), fun i _ => ?_, fun f => by rw [z, Int.zero_add]⟩
  simp only [co, List.getD, List.getElem?_replicate]
  split <;> rfl
structure InSt (p m : Int) (b L0 : P) (k j : Nat) (L : P) : Prop where
  ll : L.length = L0.length
  rng : ∀ x ∈ L, 0 ≤ x ∧ x < p
  eqv : ∀ f : Nat → Int, wl f L % p = (wl f L0 - m * wl (fun i => f (k + i)) (b.take j)) % p
theorem in_init {p m : Int} {b L : P} {k : Nat} (h : ∀ x ∈ L, 0 ≤ x ∧ x < p) : InSt p m b L k 0 L := ⟨rfl, h, fun f => by simp [wl]⟩
theorem in_step {p m : Int} (hp : 0 < p) {b L0 L : P} {k j : Nat} (h : InSt p m b L0 k j L) (hj : j < b.length) (hk : k + j < L0.length) : InSt p m b L0 k (j + 1) (L.set (k + j) ((co L (k + j) - m * co b j) % p)) := by
  refine ⟨by rw [List.length_set]; exact h.ll, fun x hx => ?_, fun f => ?_⟩
  · rcases List.mem_or_eq_of_mem_set hx with z | rfl
    · exact h.rng x z
    · exact ⟨Int.emod_nonneg _ (by omega), Int.emod_lt_of_pos _ hp⟩
  · rw [wl_set f L (k + j) _ (by rw [h.ll]; exact hk), wl_take _ b j hj]
    generalize co L (k + j) = c
    generalize co b j = d
    rw [Int.add_emod, h.eqv f, ← Int.add_emod]
    have e : ((c - m * d) % p - c) * f (k + j) % p = (-(m * d)) * f (k + j) % p := by
      rw [Int.mul_emod, Int.sub_emod, Int.emod_emod, ← Int.sub_emod, ← Int.mul_emod]
      congr 2
      omega
    rw [Int.add_emod, e, ← Int.add_emod]
    congr 1
    rw [Int.mul_add, ← Int.mul_assoc m d, Int.neg_mul]
    omega
theorem wl_at (b : P) {k i : Nat} (h : k ≤ i) : wl (fun j => if k + j = i then 1 else 0) b = co b (i - k) := by
  rw [← wl_ind (i - k) b]
  refine wl_congr fun j _ => ?_
  by_cases c : k + j = i
  · rw [if_pos c, if_pos (by omega)]
  · rw [if_neg c, if_neg (by omega)]
theorem mem_co {p : Int} {L : P} (hp : 0 < p) (h : ∀ x ∈ L, 0 ≤ x ∧ x < p) (i : Nat) : 0 ≤ co L i ∧ co L i < p := by
  by_cases c : i < L.length
  · exact h _ (List.mem_of_getElem? (get_co c))
  · rw [co_ge (by omega)]; omega
theorem part_step {p t m : Int} (hp : 0 < p) {a b L Q L' : P} {k : Nat} (h : PartSt p a b (k + 1) L Q) (hb : 0 < b.length) (hk : k + b.length ≤ a.length) (ht : t * co b (b.length - 1) % p = 1) (hm : m = co L (k + b.length - 1) * t % p) (h' : InSt p m b L k b.length L') : PartSt p a b k L' (Q.set k m) := by
  have one : 1 % p = 1 ∨ p = 1 := by
    rcases (show p = 1 ∨ 1 < p by omega) with z | z
    · exact .inr z
    · exact .inl (Int.emod_eq_of_lt (by decide) z)
  refine ⟨h'.ll.trans h.ll, by rw [List.length_set]; exact h.lq, h'.rng, fun i hi => ?_, fun i hi => ?_, fun f => ?_⟩
  · have e := h'.eqv fun n => if n = i then 1 else 0
    rw [wl_ind, wl_ind, List.take_length, wl_at b (by omega)] at e
    have r := mem_co hp h'.rng i
    rw [Int.emod_eq_of_lt r.1 r.2] at e
    rw [e]
    by_cases c : i = k + b.length - 1
    · subst c
      rw [show k + b.length - 1 - k = b.length - 1 by omega, hm]
      generalize co L (k + b.length - 1) = x
      generalize co b (b.length - 1) = d at ht
      have e2 : (x * t % p * d) % p = x % p := by
        rw [Int.mul_emod, Int.emod_emod, ← Int.mul_emod, Int.mul_assoc, Int.mul_emod, ht, Int.mul_one, Int.emod_emod]
      rw [Int.sub_emod, e2, ← Int.sub_emod, Int.sub_self, Int.zero_emod]
    · rw [h.top i (by omega), co_ge (xs := b) (by omega), Int.mul_zero, Int.sub_zero, Int.zero_emod]
  · rw [co_set Q k m (by rw [h.lq]; omega), if_neg (by omega)]
    exact h.low i (by omega)
  · rw [h.eqv f, wl_set _ Q k m (by rw [h.lq]; omega), h.low k (by omega), Int.sub_zero]
    have e := h'.eqv f
    rw [List.take_length] at e
    rw [Int.add_emod (wl _ Q + _), e, ← Int.add_emod]
    congr 1
    omega
theorem part_done {p : Int} (hp : 0 < p) {a b L Q : P} (ha : IsSum p a) (hb : 0 < b.length) (h : PartSt p a b 0 L Q) : plus p (mul p (trim p Q) b) (trim p L) = a ∧ (trim p L).length < b.length ∧ (trim p Q).length ≤ a.length := by
  refine ⟨?_, ?_, ?_⟩
  · refine (trim_sum hp _).ext ha hp (eqm_of fun f => ?_)
    show wl f (plus p (mul p (trim p Q) b) (trim p L)) % p = _
    rw [wl_plus, Int.add_emod, wl_mul, wl_trim, wl_trim, ← Int.add_emod]
    exact (h.eqv f).symm
  · have : (trim p L).length ≤ b.length - 1 := trim_le fun i hi => by rw [h.top i (by omega), Int.zero_emod]
    omega
  · have := trim_len p Q
    rw [h.lq] at this
    exact this
end Po

namespace Dk
open PySem PySem.Spec PyProof.Rows L2
def cPartedX (c : Value) : List PyData → (PyData → Prop) → (Value → Prop) → Prop := fun ds Qd Qx => ∃ (p : Int) (a b : List Int), ds = [.int p, eNums a, eNums b] ∧ GoodP p ∧ Po.IsSum p a ∧ Po.IsSum p b ∧ a.length ≤ 1000 ∧ b.length ≤ 1000 ∧ (b = [] → Qx c) ∧
  (b ≠ [] → ∀ q r : List Int, Po.IsSum p q → Po.IsSum p r → r.length < b.length → q.length ≤ a.length → Po.plus p (Po.mul p q b) r = a → Qd (.tuple [eNums q, eNums r]))
def cTrimE : List PyData → (PyData → Prop) → Prop := fun ds Qd => ∃ (p : Int) (xs : List Int), (ds = [.int p, eList xs] ∨ ds = [.int p, eNums xs]) ∧ 0 < p ∧ xs.length ≤ 100000 ∧ Qd (eNums (Po.trim p xs))
theorem rep_zero (n : Nat) : repD [.int 0] n = (List.replicate n (0 : Int)).map PyData.int := by
  unfold repD
  induction n with
  | zero => rfl
  | succ n ih => rw [List.replicate_succ, List.flatten_cons, ih, List.replicate_succ]; rfl
theorem cut_nums (xs : List Int) (k : Nat) : cutD (xs.map PyData.int) none (some (k : Int)) = (xs.take k).map PyData.int := by rw [cut_take, List.map_take]
theorem IsSum.last {p : Int} {b : List Int} (h : Po.IsSum p b) (hb : b ≠ []) (hp : 0 < p) : 0 < Po.co b (b.length - 1) ∧ Po.co b (b.length - 1) < p := by
  rcases Po.snoc_cases b with rfl | ⟨ys, x, rfl⟩
  · exact absurd rfl hb
  · have e : Po.co (ys ++ [x]) ((ys ++ [x]).length - 1) = x := by rw [Po.co_snoc, if_pos (by simp)]
    have r := h.co_rng hp ((ys ++ [x]).length - 1)
    rw [e] at r ⊢
    have := h.tip ys x rfl
    omega
end Dk

/-! sums as a ring -/
namespace Po
theorem sum_ext {p : Int} (hp : 0 < p) {a b : P} (ha : IsSum p a) (hb : IsSum p b) (h : ∀ f, wl f a % p = wl f b % p) : a = b := ha.ext hb hp (eqm_of h)
theorem mul_sum {p : Int} (hp : 0 < p) (a b : P) : IsSum p (mul p a b) := trim_sum hp _
theorem plus_sum {p : Int} (hp : 0 < p) (a b : P) : IsSum p (plus p a b) := trim_sum hp _
theorem mul_assoc {p : Int} (hp : 0 < p) (a b c : P) : mul p (mul p a b) c = mul p a (mul p b c) := by
  refine sum_ext hp (mul_sum hp _ _) (mul_sum hp _ _) fun f => ?_
  rw [wl_mul, wl_mul, wl_mul]
  refine wl_fmod fun i _ => ?_
  rw [wl_mul]
  congr 1
  refine wl_congr fun j _ => wl_congr fun k _ => ?_
  rw [Nat.add_assoc]
theorem mul_comm {p : Int} (hp : 0 < p) (a b : P) : mul p a b = mul p b a := by
  refine sum_ext hp (mul_sum hp _ _) (mul_sum hp _ _) fun f => ?_
  rw [wl_mul, wl_mul, wl_swap (fun i j => f (i + j)) a b]
  congr 1
  refine wl_congr fun j _ => wl_congr fun k _ => ?_
  rw [Nat.add_comm]
theorem plus_comm (p : Int) (a b : P) : plus p a b = plus p b a := by
  unfold plus addL
  rw [Nat.max_comm]
  congr 1
  exact tab_congr fun i _ => Int.add_comm _ _
theorem plus_mod {p : Int} (f : Nat → Int) (a b c d : P) (h : wl f a % p = wl f c % p) (g : wl f b % p = wl f d % p) : wl f (plus p a b) % p = wl f (plus p c d) % p := by rw [wl_plus, wl_plus, ma h g]
theorem plus_assoc {p : Int} (hp : 0 < p) (a b c : P) : plus p (plus p a b) c = plus p a (plus p b c) := by
  refine sum_ext hp (plus_sum hp _ _) (plus_sum hp _ _) fun f => ?_
  rw [wl_plus, wl_plus, ma (wl_plus p f a b) (rfl : wl f c % p = wl f c % p), ma (rfl : wl f a % p = wl f a % p) (wl_plus p f b c), Int.add_assoc]
theorem add_mul {p : Int} (hp : 0 < p) (a b c : P) : mul p (plus p a b) c = plus p (mul p a c) (mul p b c) := by
  refine sum_ext hp (mul_sum hp _ _) (plus_sum hp _ _) fun f => ?_
  rw [wl_mul, wl_plus, wl_plus, ma (wl_mul p f a c) (wl_mul p f b c)]
theorem mul_add {p : Int} (hp : 0 < p) (a b c : P) : mul p c (plus p a b) = plus p (mul p c a) (mul p c b) := by
  rw [mul_comm hp, add_mul hp, mul_comm hp a, mul_comm hp b]
theorem plus_nil {p : Int} (hp : 0 < p) {a : P} (ha : IsSum p a) : plus p a [] = a := by
  refine sum_ext hp (plus_sum hp _ _) ha fun f => ?_
  rw [wl_plus]
  simp [wl]
theorem one_mul {p : Int} (hp : 0 < p) {a : P} (ha : IsSum p a) : mul p [1] a = a := by
  refine sum_ext hp (mul_sum hp _ _) ha fun f => ?_
  rw [wl_mul]
  simp [wl]
/-- a and (p - 1) times a are nought -/
theorem neg_plus {p : Int} (hp : 0 < p) (a : P) : plus p a (mul p [p - 1] a) = [] := by
  refine sum_ext hp (plus_sum hp _ _) (IsSum.nil p) fun f => ?_
  rw [wl_plus, ma (rfl : wl f a % p = wl f a % p) (wl_mul p f [p - 1] a)]
  simp only [wl, Nat.zero_add, Int.add_zero]
  have : wl f a + (p - 1) * wl f a = p * wl f a := by rw [Int.sub_mul, Int.one_mul]; omega
  rw [this]
  simp
theorem conv_top (a b : P) (x y : Int) : conv (a ++ [x]) (b ++ [y]) (a.length + b.length) = x * y := by
  unfold conv
  rw [wl_app]
  have h1 : wl (fun i => wl (fun j => if i + j = a.length + b.length then 1 else 0) (b ++ [y])) a = 0 := by
    refine (wl_congr (g := fun _ => 0) fun i hi => ?_).trans (wl_zero a)
    refine (wl_congr (g := fun _ => 0) fun j hj => ?_).trans (wl_zero (b ++ [y]))
    rw [List.length_append] at hj
    simp at hj
    rw [if_neg (by omega)]
  have h2 : wl (fun j => if a.length + 0 + j = a.length + b.length then 1 else 0) (b ++ [y]) = y := by
    rw [wl_app]
    have : wl (fun j => if a.length + 0 + j = a.length + b.length then 1 else 0) b = 0 := by
      refine (wl_congr (g := fun _ => 0) fun j hj => ?_).trans (wl_zero b)
      rw [if_neg (by omega)]
    rw [this]
    simp [wl]
  rw [h1]
  show 0 + (x * wl (fun j => if a.length + 0 + j = a.length + b.length then 1 else 0) (b ++ [y]) + wl _ []) = _
  rw [h2]
  simp [wl]
theorem mul_len_ge {p : Int} {a b : P} {x y : Int} (h : x * y % p ≠ 0) : a.length + b.length < (mul p (a ++ [x]) (b ++ [y])).length := by
  rcases Nat.lt_or_ge (a.length + b.length) (mul p (a ++ [x]) (b ++ [y])).length with z | z
  · exact z
  · have := co_ge z
    rw [mul_co, conv_top] at this
    exact absurd this h
/-- a rest that is a multiple is nought -/
theorem rest_nil {p t y : Int} (hp : 0 < p) {g q r d : P} (ht : t * y % p = 1) (hr : IsSum p r) (hl : r.length < (g ++ [y]).length) (e : plus p (mul p q (g ++ [y])) r = mul p d (g ++ [y])) : r = [] := by
  have hu : mul p (plus p d (mul p [p - 1] q)) (g ++ [y]) = r := by
    rw [add_mul hp, ← e, mul_assoc hp, plus_comm p (mul p q (g ++ [y])) r, plus_assoc hp, neg_plus hp, plus_nil hp hr]
  have us := plus_sum hp d (mul p [p - 1] q)
  generalize plus p d (mul p [p - 1] q) = u at hu us
  rcases snoc_cases u with rfl | ⟨u', x, rfl⟩
  · rw [nil_mul p _ hp] at hu
    exact hu.symm
  · exfalso
    have hx := us.tip u' x rfl
    have hx2 := us.rng x (by simp)
    have hn : x * y % p ≠ 0 := by
      intro z
      have h1 : x * (t * y) % p = x := by
        rw [Int.mul_emod, ht, Int.mul_one, Int.emod_emod, Int.emod_eq_of_lt hx2.1 hx2.2]
      have h2 : x * (t * y) % p = 0 := by
        rw [show x * (t * y) = t * (x * y) by rw [Int.mul_left_comm], Int.mul_emod, z]
        simp
      omega
    have := mul_len_ge (a := u') (b := g) hn
    rw [hu] at this
    rw [List.length_append] at hl
    simp at hl
    omega
theorem euc_r {p : Int} (hp : 0 < p) {q r r' rest : P} (hr : IsSum p rest) (e : plus p (mul p q r') rest = r) : plus p r (mul p (mul p q [p - 1]) r') = rest := by
  rw [← e, mul_comm hp q [p - 1], mul_assoc hp, plus_comm p (mul p q r') rest, plus_assoc hp, neg_plus hp, plus_nil hp hr]
theorem plus_four {p : Int} (hp : 0 < p) (a b c d : P) : plus p (plus p a b) (plus p c d) = plus p (plus p a c) (plus p b d) := by
  rw [plus_assoc hp, ← plus_assoc hp b, plus_comm p b c, plus_assoc hp c, ← plus_assoc hp a]
theorem euc_lin {p : Int} (hp : 0 < p) {one other r s t r' s' t' l : P} (e : r = plus p (mul p s one) (mul p t other)) (e' : r' = plus p (mul p s' one) (mul p t' other)) : plus p r (mul p l r') = plus p (mul p (plus p s (mul p l s')) one) (mul p (plus p t (mul p l t')) other) := by
  rw [e, e', mul_add hp, plus_four hp, add_mul hp, add_mul hp, mul_assoc hp, mul_assoc hp]
theorem euc_back {p : Int} (hp : 0 < p) {one a b q r r' rest : P} (e : plus p (mul p q r') rest = r) (h : one = plus p (mul p a r) (mul p b r')) : one = plus p (mul p (plus p (mul p a q) b) r') (mul p a rest) := by
  rw [h, ← e, mul_add hp, add_mul hp, mul_assoc hp, plus_assoc hp, plus_comm p (mul p a rest), ← plus_assoc hp]
theorem unit_ne {p t x y : Int} (ht : t * y % p = 1) (h0 : 0 ≤ x) (h1 : x < p) (hx : x ≠ 0) : x * y % p ≠ 0 := by
  intro z
  have h1 : x * (t * y) % p = x := by rw [Int.mul_emod, ht, Int.mul_one, Int.emod_emod, Int.emod_eq_of_lt h0 h1]
  have h2 : x * (t * y) % p = 0 := by
    rw [show x * (t * y) = t * (x * y) by rw [Int.mul_left_comm], Int.mul_emod, z]
    simp
  omega
theorem quo_len {p t y : Int} (hp : 0 < p) {q g r rest : P} (hq : IsSum p q) (ht : t * y % p = 1) (hl : rest.length < (g ++ [y]).length) (e : plus p (mul p q (g ++ [y])) rest = r) : q = [] ∨ q.length + g.length ≤ r.length := by
  rcases snoc_cases q with rfl | ⟨q', x, rfl⟩
  · exact .inl rfl
  · right
    have hx := hq.rng x (by simp)
    have hn := unit_ne ht hx.1 hx.2 (hq.tip q' x rfl)
    have hc : co r (q'.length + g.length) ≠ 0 := by
      rw [← e, plus_co, mul_co, conv_top, co_ge (xs := rest) (by rw [List.length_append] at hl; simp at hl; omega)]
      simpa using hn
    rcases Nat.lt_or_ge (q'.length + g.length) r.length with z | z
    · rw [List.length_append]
      simp
      omega
    · exact absurd (co_ge z) hc
/-! the loop of the common divisor -/
structure Euc (p : Int) (one other : P) (N : Nat) (r s t r' s' t' : P) : Prop where
  ir : IsSum p r
  is : IsSum p s
  it : IsSum p t
  ir' : IsSum p r'
  is' : IsSum p s'
  it' : IsSum p t'
  e : r = plus p (mul p s one) (mul p t other)
  e' : r' = plus p (mul p s' one) (mul p t' other)
  d1 : ∃ a b, one = plus p (mul p a r) (mul p b r')
  d2 : ∃ a b, other = plus p (mul p a r) (mul p b r')
  b1 : s.length + r'.length ≤ N
  b2 : s'.length + r.length ≤ N
  b3 : t.length + r'.length ≤ N
  b4 : t'.length + r.length ≤ N
theorem one_sum {p : Int} (hp : 2 ≤ p) : IsSum p [1] := ⟨fun x hx => by simp at hx; omega, fun ys x e => by
  cases ys with
  | nil => simp at e; omega
  | cons a r => simp at e⟩
theorem nil_plus {p : Int} (hp : 0 < p) {a : P} (ha : IsSum p a) : plus p [] a = a := by rw [plus_comm, plus_nil hp ha]
theorem euc_init {p : Int} (hp : 2 ≤ p) {one other : P} (h1 : IsSum p one) (h2 : IsSum p other) : Euc p one other (max one.length other.length + 1) one [1] [] other [] [1] := by
  have hp0 : 0 < p := by omega
  refine ⟨h1, one_sum hp, IsSum.nil p, h2, IsSum.nil p, one_sum hp, ?_, ?_, ⟨[1], [], ?_⟩, ⟨[], [1], ?_⟩, ?_, ?_, ?_, ?_⟩
  · rw [one_mul hp0 h1, nil_mul p _ hp0, plus_nil hp0 h1]
  · rw [one_mul hp0 h2, nil_mul p _ hp0, nil_plus hp0 h2]
  · rw [one_mul hp0 h1, nil_mul p _ hp0, plus_nil hp0 h1]
  · rw [one_mul hp0 h2, nil_mul p _ hp0, nil_plus hp0 h2]
  all_goals simp only [List.length_cons, List.length_nil]; omega
theorem len_turn {p : Int} (hp : 0 < p) {q s s' r r' : P} {N : Nat} (hq : q = [] ∨ q.length + r'.length ≤ r.length + 1) (b1 : s.length + r'.length ≤ N) (b2 : s'.length + r.length ≤ N) : (plus p s (mul p (mul p q [p - 1]) s')).length + r'.length ≤ N := by
  have h1 := plus_len p s (mul p (mul p q [p - 1]) s')
  rcases hq with rfl | hq
  · rw [nil_mul p _ hp, nil_mul p _ hp] at h1 ⊢
    simp only [List.length_nil] at h1
    omega
  · have h2 := mul_len p (mul p q [p - 1]) s'
    have h3 := mul_len p q [p - 1]
    simp only [List.length_cons, List.length_nil] at h3
    omega
theorem euc_step {p y t0 : Int} (hp : 0 < p) {one other r s t g s' t' q rest : P} {N : Nat} (h : Euc p one other N r s t (g ++ [y]) s' t') (ht : t0 * y % p = 1) (hq : IsSum p q) (hr : IsSum p rest) (hl : rest.length < (g ++ [y]).length) (e : plus p (mul p q (g ++ [y])) rest = r) :
    Euc p one other N (g ++ [y]) s' t' (plus p r (mul p (mul p q [p - 1]) (g ++ [y]))) (plus p s (mul p (mul p q [p - 1]) s')) (plus p t (mul p (mul p q [p - 1]) t')) ∧ (plus p r (mul p (mul p q [p - 1]) (g ++ [y]))).length < (g ++ [y]).length := by
  have e1 := euc_r hp hr e
  have hq2 : q = [] ∨ q.length + (g ++ [y]).length ≤ r.length + 1 := by
    rcases quo_len hp hq ht hl e with z | z
    · exact .inl z
    · right
      rw [List.length_append]
      simp only [List.length_cons, List.length_nil]
      omega
  have hrl : rest.length ≤ r.length := by
    rcases quo_len hp hq ht hl e with z | z
    · subst z
      rw [nil_mul p _ hp, nil_plus hp hr] at e
      rw [e]
      exact Nat.le_refl _
    · rcases Nat.eq_zero_or_pos q.length with c | c
      · have : q = [] := List.length_eq_zero_iff.mp c
        subst this
        rw [nil_mul p _ hp, nil_plus hp hr] at e
        rw [e]
        exact Nat.le_refl _
      · rw [List.length_append] at hl
        simp only [List.length_cons, List.length_nil] at hl
        omega
  refine ⟨⟨h.ir', h.is', h.it', plus_sum hp _ _, plus_sum hp _ _, plus_sum hp _ _, h.e', euc_lin hp h.e h.e', ?_, ?_, ?_, ?_, ?_, ?_⟩, ?_⟩
  · obtain ⟨a, b, z⟩ := h.d1
    rw [e1]
    exact ⟨_, _, euc_back hp e z⟩
  · obtain ⟨a, b, z⟩ := h.d2
    rw [e1]
    exact ⟨_, _, euc_back hp e z⟩
  · rw [e1]
    have := h.b2
    omega
  · exact len_turn hp hq2 h.b1 h.b2
  · rw [e1]
    have := h.b4
    omega
  · exact len_turn hp hq2 h.b3 h.b4
  · rw [e1]
    exact hl
theorem euc_nought {p : Int} (hp : 0 < p) {one other s t s' t' : P} {N : Nat} (h : Euc p one other N [] s t [] s' t') : one = [] ∧ other = [] := by
  obtain ⟨a, b, z⟩ := h.d1
  obtain ⟨c, d, w⟩ := h.d2
  rw [mul_nil p _ hp, mul_nil p _ hp, plus_nil hp (IsSum.nil p)] at z w
  exact ⟨z, w⟩
theorem scaled_top {p y t : Int} (hp : 2 ≤ p) {g : P} (ht : t * y % p = 1) : ∃ g', mul p [t] (g ++ [y]) = g' ++ [1] := by
  have h1 := mul_len_ge (p := p) (a := []) (b := g) (x := t) (y := y) (by rw [ht]; decide)
  have h2 := mul_len p [t] (g ++ [y])
  rw [List.nil_append] at h1
  simp only [List.length_cons, List.length_nil, List.length_append] at h1 h2
  rcases snoc_cases (mul p [t] (g ++ [y])) with z | ⟨g', x, z⟩
  · rw [z] at h1
    simp at h1
  · refine ⟨g', ?_⟩
    have h3 : co (mul p [t] (g ++ [y])) g.length = 1 := by
      have := conv_top [] g t y
      simp only [List.nil_append, List.length_nil, Nat.zero_add] at this
      rw [mul_co, this, ht]
    rw [z] at h1 h2 h3 ⊢
    simp only [List.length_append, List.length_cons, List.length_nil] at h1 h2
    rw [co_snoc, if_pos (by omega)] at h3
    rw [h3]
theorem unit_back {p y t : Int} (hp : 0 < p) (ht : t * y % p = 1) {r : P} (hr : IsSum p r) : mul p [y] (mul p [t] r) = r := by
  refine sum_ext hp (mul_sum hp _ _) hr fun f => ?_
  rw [wl_mul]
  show (y * wl (fun j => f (0 + j)) (mul p [t] r) + 0) % p = _
  rw [Int.add_zero, Int.mul_emod, wl_mul]
  show (y % p * ((t * wl (fun j => f (0 + (0 + j))) r + 0) % p)) % p = _
  rw [← Int.mul_emod, Int.add_zero, ← Int.mul_assoc, Int.mul_comm y t, Int.mul_emod, ht, Int.one_mul, Int.emod_emod]
  simp only [Nat.zero_add]
theorem euc_done {p y t0 : Int} (hp : 2 ≤ p) {one other g s t s' t' : P} {N : Nat} (h : Euc p one other N (g ++ [y]) s t [] s' t') (ht : t0 * y % p = 1) :
    plus p (mul p (mul p [t0] s) one) (mul p (mul p [t0] t) other) = mul p [t0] (g ++ [y]) ∧ (∃ g', mul p [t0] (g ++ [y]) = g' ++ [1]) ∧ (∃ d, one = mul p d (mul p [t0] (g ++ [y]))) ∧ (∃ d, other = mul p d (mul p [t0] (g ++ [y]))) ∧ (mul p [t0] (g ++ [y])).length ≤ N ∧ (mul p [t0] s).length ≤ N ∧ (mul p [t0] t).length ≤ N := by
  have hp0 : 0 < p := by omega
  have dv : ∀ x a b : P, x = plus p (mul p a (g ++ [y])) (mul p b []) → ∃ d, x = mul p d (mul p [t0] (g ++ [y])) := fun x a b z => by
    rw [mul_nil p _ hp0, plus_nil hp0 (mul_sum hp0 _ _)] at z
    refine ⟨mul p a [y], ?_⟩
    rw [mul_assoc hp0, unit_back hp0 ht h.ir]
    exact z
  obtain ⟨a, b, z⟩ := h.d1
  obtain ⟨c, d, w⟩ := h.d2
  have e1 := mul_len p [t0] (g ++ [y])
  have e2 := mul_len p [t0] s
  have e3 := mul_len p [t0] t
  have b1 := h.b1
  have b2 := h.b2
  have b3 := h.b3
  simp only [List.length_cons, List.length_nil] at e1 e2 e3 b1 b3
  refine ⟨?_, scaled_top hp ht, dv _ _ _ z, dv _ _ _ w, by omega, by omega, by omega⟩
  rw [mul_assoc hp0, mul_assoc hp0, ← mul_add hp0, ← h.e]

/-! a division whose quotient is not kept -/
structure Over (p : Int) (one other : P) (L : P) : Prop where
  rng : ∀ x ∈ L, 0 ≤ x ∧ x < p
  ex : ∃ Q : P, ∀ f : Nat → Int, wl f one % p = (wl (fun i => wl (fun j => f (i + j)) other) Q + wl f L) % p
theorem over_init {p : Int} {one other : P} (h : IsSum p one) : Over p one other one := ⟨h.rng, [], fun f => by simp [wl]⟩
theorem wl_mono1 (F : Nat → Int) (n : Nat) (m : Int) : wl F (List.replicate n 0 ++ [m]) = m * F n := by
  rw [wl_app]
  have z : ∀ (n : Nat) (g : Nat → Int), wl g (List.replicate n 0) = 0 := by
    intro n
    induction n with
    | zero => intro g; rfl
    | succ n ih => intro g; rw [List.replicate_succ]; simp only [wl, ih]; omega
  rw [z]
  simp [wl]
/-- what is left behind one turn -/
def overL (p m : Int) (other L : P) (gap : Nat) : P := (tab L.length fun k => co L k - m * (if gap ≤ k then co other (k - gap) else 0)).dropLast.map (· % p)
theorem wl_modmap {p : Int} (f : Nat → Int) (xs : P) : wl f (xs.map (· % p)) % p = wl f xs % p := wl_mod f _ _ fun i => by rw [co_map (Int.zero_emod p), Int.emod_emod]
theorem wl_dropLast {c : Int} (f : Nat → Int) (xs : P) (h : co xs (xs.length - 1) = c) : wl f xs = wl f xs.dropLast + c * f (xs.length - 1) := by
  rcases snoc_cases xs with rfl | ⟨ys, x, rfl⟩
  · simp [wl, co] at h ⊢
    subst h
    simp
  · rw [co_snoc, if_pos (by simp)] at h
    subst h
    rw [wl_app]
    simp [wl]
theorem wl_sub_tab (f : Nat → Int) (L b : P) (m : Int) (gap : Nat) (hl : gap + b.length ≤ L.length) : wl f (tab L.length fun k => co L k - m * (if gap ≤ k then co b (k - gap) else 0)) = wl f L - m * wl (fun j => f (gap + j)) b := by
  have h1 : wl f L = sumN L.length fun k => co L k * f k := by
    rw [← wl_tab]
    congr 1
    refine ext_co (by rw [tab_len]) fun i => ?_
    rw [tab_co]
    split
    · rfl
    · exact co_ge (by omega)
  have h2 : wl (fun j => f (gap + j)) b = wl f (List.replicate gap 0 ++ b) := by
    rw [wl_app]
    have z : ∀ (n : Nat) (g : Nat → Int), wl g (List.replicate n 0) = 0 := by
      intro n
      induction n with
      | zero => intro g; rfl
      | succ n ih => intro g; rw [List.replicate_succ]; simp only [wl, ih]; omega
    rw [z]
    simp
  have h3 : wl f (List.replicate gap 0 ++ b) = sumN L.length fun k => (if gap ≤ k then co b (k - gap) else 0) * f k := by
    rw [← wl_tab]
    have e : Eqm 0 (List.replicate gap 0 ++ b) (tab L.length fun k => if gap ≤ k then co b (k - gap) else 0) := fun i => by
      congr 1
      rw [tab_co]
      have hc : co (List.replicate gap 0 ++ b) i = if gap ≤ i then co b (i - gap) else 0 := by
        simp only [co, List.getD, List.getElem?_append, List.length_replicate, List.getElem?_replicate]
        by_cases c : gap ≤ i
        · rw [if_neg (by omega), if_pos c]
        · rw [if_pos (by omega), if_neg c, if_pos (by omega)]
          rfl
      rw [hc]
      by_cases c : i < L.length
      · rw [if_pos c]
      · rw [if_neg c]
        split
        · exact co_ge (by omega)
        · rfl
    have := wl_mod f _ _ e
    simpa using this
  rw [wl_tab, h1, h2, h3]
  have : ∀ (n : Nat) (A B : Nat → Int), (sumN n fun k => (A k - m * B k) * f k) = (sumN n fun k => A k * f k) - m * sumN n fun k => B k * f k := by
    intro n A B
    induction n with
    | zero => simp [sumN]
    | succ n ih =>
      show sumN n (fun k => (A k - m * B k) * f k) + (A n - m * B n) * f n = (sumN n (fun k => A k * f k) + A n * f n) - m * (sumN n (fun k => B k * f k) + B n * f n)
      rw [ih, Int.sub_mul, Int.mul_add, Int.mul_assoc]
      omega
  exact this _ _ _
theorem over_step {p t y : Int} (hp : 0 < p) {one g L : P} (h : Over p one (g ++ [y]) L) (ht : t * y % p = 1) (hl : (g ++ [y]).length ≤ L.length) {m : Int} (hm : m = co L (L.length - 1) * t) : Over p one (g ++ [y]) (overL p m (g ++ [y]) L (L.length - (g ++ [y]).length)) ∧ (overL p m (g ++ [y]) L (L.length - (g ++ [y]).length)).length < L.length := by
  have hl1 : (g ++ [y]).length = g.length + 1 := by simp
  refine ⟨⟨fun x hx => ?_, ?_⟩, ?_⟩
  · obtain ⟨z, _, rfl⟩ := List.mem_map.mp hx
    exact ⟨Int.emod_nonneg _ (by omega), Int.emod_lt_of_pos _ hp⟩
  · obtain ⟨Q, hQ⟩ := h.ex
    refine ⟨addL Q (List.replicate (L.length - (g ++ [y]).length) 0 ++ [m]), fun f => ?_⟩
    rw [hQ f, wl_addL, wl_mono1]
    have hc : co (tab L.length fun k => co L k - m * (if L.length - (g ++ [y]).length ≤ k then co (g ++ [y]) (k - (L.length - (g ++ [y]).length)) else 0)) ((tab L.length fun k => co L k - m * (if L.length - (g ++ [y]).length ≤ k then co (g ++ [y]) (k - (L.length - (g ++ [y]).length)) else 0)).length - 1) = co L (L.length - 1) - m * y := by
      rw [tab_len, tab_co, if_pos (by omega), if_pos (by omega), co_snoc, if_pos (by omega)]
    have h1 := wl_dropLast f _ hc
    have h2 := wl_sub_tab f L (g ++ [y]) m (L.length - (g ++ [y]).length) (by omega)
    have h3 : (co L (L.length - 1) - m * y) % p = 0 := by
      rw [hm, Int.mul_assoc]
      generalize co L (L.length - 1) = c
      have : (c * (t * y)) % p = c % p := by rw [Int.mul_emod, ht, Int.mul_one, Int.emod_emod]
      rw [Int.sub_emod, this, Int.sub_self, Int.zero_emod]
    have h4 : wl f (overL p m (g ++ [y]) L (L.length - (g ++ [y]).length)) % p = (wl f L - m * wl (fun j => f (L.length - (g ++ [y]).length + j)) (g ++ [y])) % p := by
      unfold overL
      rw [wl_modmap, ← h2, h1, Int.add_emod, Int.mul_emod (co L (L.length - 1) - m * y), h3]
      simp
    rw [Int.add_assoc, Int.add_emod (wl _ Q), Int.add_emod (wl _ Q) (_ + _)]
    congr 2
    rw [Int.add_emod (m * _), h4, ← Int.add_emod]
    congr 1
    omega
  · unfold overL
    rw [List.length_map, List.length_dropLast, tab_len]
    omega
theorem over_done {p : Int} (hp : 0 < p) {one other L : P} (h1 : IsSum p one) (h : Over p one other L) : ∃ q, IsSum p q ∧ plus p (mul p q other) (trim p L) = one := by
  obtain ⟨Q, hQ⟩ := h.ex
  refine ⟨trim p Q, trim_sum hp _, ?_⟩
  refine sum_ext hp (plus_sum hp _ _) h1 fun f => ?_
  rw [wl_plus, Int.add_emod, wl_mul, wl_trim, wl_trim, ← Int.add_emod]
  exact (hQ f).symm
end Po

namespace Dk
open PySem PySem.Spec PyProof.Rows L2
def cCommon : List PyData → (PyData → Prop) → Prop := fun ds Qd => ∃ (p : Int) (a b : List Int), ds = [.int p, eNums a, eNums b] ∧ GoodP p ∧ Po.IsSum p a ∧ Po.IsSum p b ∧ a.length ≤ 100 ∧ b.length ≤ 100 ∧
  ∀ g s t : List Int, Po.IsSum p g → Po.IsSum p s → Po.IsSum p t → g.length ≤ 101 → s.length ≤ 101 → t.length ≤ 101 → Po.plus p (Po.mul p s a) (Po.mul p t b) = g → (a = [] → b = [] → g = []) →
    ((a ≠ [] ∨ b ≠ []) → (∃ g', g = g' ++ [1]) ∧ (∃ d, a = Po.mul p d g) ∧ ∃ d, b = Po.mul p d g) → Qd (.tuple [eNums g, eNums s, eNums t])
/-- the length of the first sum of a tuple -/
def tlen (i : Nat) (Γ : G) : Nat := match Γ[i]? with
  | some (.sh (.tuple (.tuple xs :: _))) => xs.length
  | _ => 0
def cOver : List PyData → (PyData → Prop) → Prop := fun ds Qd => ∃ (p : Int) (a b : List Int), ds = [.int p, eNums a, eNums b] ∧ GoodP p ∧ Po.IsSum p a ∧ Po.IsSum p b ∧ b ≠ [] ∧ a.length ≤ 1000 ∧ b.length ≤ 1000 ∧
  ∀ q r : List Int, Po.IsSum p q → Po.IsSum p r → r.length < b.length → Po.plus p (Po.mul p q b) r = a → Qd (eNums r)
theorem sel_at (b : Bool) : atI [PyData.int 0, .int 1] (if b = true then 1 else 0) = some (.int (if b = true then 1 else 0)) := by cases b <;> rfl
theorem fm_first {α : Type} {xs : List α} {h : α → Option PyData} (e : ∃ x ∈ xs, (h x).isSome = true) : ∃ x ∈ xs, ∃ d, h x = some d ∧ atI (xs.filterMap h) 0 = some d := by
  have hn : ∃ d r, xs.filterMap h = d :: r := by
    cases c : xs.filterMap h with
    | nil =>
      obtain ⟨x, hx, hs⟩ := e
      obtain ⟨d, hd⟩ := Option.isSome_iff_exists.mp hs
      have : d ∈ xs.filterMap h := List.mem_filterMap.mpr ⟨x, hx, hd⟩
      rw [c] at this
      cases this
    | cons d r => exact ⟨d, r, rfl⟩
  obtain ⟨d, r, hc⟩ := hn
  have hm : d ∈ xs.filterMap h := by rw [hc]; simp
  obtain ⟨x, hx, hd⟩ := List.mem_filterMap.mp hm
  refine ⟨x, hx, d, hd, ?_⟩
  rw [hc]
  unfold atI
  rw [show (0 : Int) = ((0 : Nat) : Int) from rfl, ixN_at (by simp)]
  rfl
end Dk

/-! instances: their attributes, methods; contracts with things that are changed -/
namespace Dk
open PySem PySem.Spec PyProof.Rows L2
/-! ### a method that may raise -/
def tMethE (C : Addr) (m : Str) (sp : Sp) (E : L2.St → XK) (ta : TE) (t : TA) : TE := fun σ H Q => ta σ H fun x H1 => ∃ a dx fs, x = .ref a ∧ H1 a = some (.ins C dx fs) ∧ fs.lookup m = none ∧ t σ H1 fun vs H2 => sp (x :: vs) H2 Q (E σ)
section
variable {X : Cx} {cx : CXT} {n : Nat} {g cl : Addr} {fd : FuncData} {names : List Str} {sp : Sp} {E : L2.St → XK} {m : Str} {here there : Pos} {e0 ob : Expr} {more : List Expr} {tr : TE} {tas : TA}
theorem pe_methE {pl : Sem Bool} (hob : PE X ob tr) (kc : Cls X.K cl) (km : Meth X.K cl m g) (fn : FnOk X.prog X.w X.K X.mg X.base cx n g fd names sp) (room : Room n X.A) (bnd : Binds X.K fd names []) (px : ∀ st, PassesAt cx X st (E st)) (args : PA X (e0 :: more) tas)
    (st1 : starEach (e0 :: more) X.env = (false, eval e0 X.env) :: starEach more X.env := by rfl) (st2 : (backTo here (starEach more X.env)).any (·.1) = false := by rfl)
    (tree : eval (.Call (.Attribute ob m there) (e0 :: more) [] here) X.env = (do
      let rec ← eval ob X.env
      standAt there.atName
      let (fn, fst) ← holding [rec] (getMethod rec m pl)
      callWith here fn fst (backTo here (starEach (e0 :: more) X.env)) (backToKw here (keywordEach [] X.env))) := by rfl) :
    PE X (.Call (.Attribute ob m there) (e0 :: more) [] here) (tMethE cl m sp E tr tas) := ⟨fun pn sh st hp Qv iv ask => by
  refine PySem.W.methodCall_KW (pl := pl) ?_ tree
  refine thn (hob.run pn sh st hp _ iv ask) fun val sh1 ⟨xv, hp1, iv1, rel1, a, dx, fs, ex, ea, no, ask1⟩ => ?_
  cases ex
  cases (show val = Value.ref a from rel1)
  refine getmeth_ok iv1 ea kc km no (PySem.W.callWith_K (first := [.ref a]) (h₀ := X.base) iv.ok.mod.kin km.kp ?_ st1 st2)
  refine thn (args.run here pn sh1 st hp1 _ iv1 ask1) fun vals sh2 ⟨vs, hp2, iv2, rel2, ask2⟩ => ⟨iv2.kIn, ?_⟩
  exact run_fnS (vs := .ref a :: vs) (us := .ref a :: vals) fn room bnd (px st) iv2 (.cons rfl rel2) ask2⟩
theorem pe_methE0 {pl : Sem Bool} (hob : PE X ob tr) (kc : Cls X.K cl) (km : Meth X.K cl m g) (fn : FnOk X.prog X.w X.K X.mg X.base cx n g fd names sp) (room : Room n X.A) (bnd : Binds X.K fd names []) (px : ∀ st, PassesAt cx X st (E st))
    (tree : eval (.Call (.Attribute ob m there) [] [] here) X.env = (do
      let rec ← eval ob X.env
      standAt there.atName
      let (fn, fst) ← holding [rec] (getMethod rec m pl)
      callWith here fn fst (backTo here (starEach [] X.env)) (backToKw here (keywordEach [] X.env))) := by rfl) :
    PE X (.Call (.Attribute ob m there) [] [] here) (tMethE cl m sp E tr tNil) := ⟨fun pn sh st hp Qv iv ask => by
  refine PySem.W.methodCall_KW (pl := pl) ?_ tree
  refine thn (hob.run pn sh st hp _ iv ask) fun val sh1 ⟨xv, hp1, iv1, rel1, a, dx, fs, ex, ea, no, ask1⟩ => ?_
  cases ex
  cases (show val = Value.ref a from rel1)
  refine getmeth_ok iv1 ea kc km no (PySem.W.callWith_K0 (first := [.ref a]) iv1.kIn km.kp ?_)
  exact run_fnS (vs := [.ref a]) (us := [.ref a]) fn room bnd (px st) iv1 (.cons rfl .nil) ask1⟩
end
/-! ### objects of names that are changed -/
abbrev Chg := Nat → Option (OD × List Addr)
def chR (W : Wd) (M : Chg) (a : Addr) : Prop := ∃ i m, M i = some m ∧ a ∈ W.ft i
def chN (M : Chg) (a : Addr) : Prop := ∃ i o f, M i = some (o, f) ∧ a ∈ f
/-- T: new things without a name -/
def chW (W : Wd) (M : Chg) (H' : Hp) (T : Addr → Prop) : Wd := ⟨fun a => W.O a ∨ chN M a ∨ T a, fun i => match M i with
  | some m => m.2
  | none => W.ft i, H'⟩
def chG (Γ : G) (M : Chg) : G := Γ.mapIdx fun i s => match M i with
  | some m => setOwn s m.1
  | none => s
theorem chG_len (Γ : G) (M : Chg) : (chG Γ M).length = Γ.length := by simp [chG]
theorem chG_some {Γ : G} {M : Chg} {i : Nat} {s : Sl} {m : OD × List Addr} (h : Γ[i]? = some s) (e : M i = some m) : (chG Γ M)[i]? = some (setOwn s m.1) := by
  simp [chG, List.getElem?_mapIdx, h, e]
theorem chG_none {Γ : G} {M : Chg} {i : Nat} (e : M i = none) : (chG Γ M)[i]? = Γ[i]? := by
  rw [chG, List.getElem?_mapIdx, e]
  cases Γ[i]? <;> rfl
theorem chG_inv {Γ : G} {M : Chg} {i : Nat} {t : Sl} (h : (chG Γ M)[i]? = some t) : ∃ s, Γ[i]? = some s ∧ ((M i = none ∧ t = s) ∨ ∃ m, M i = some m ∧ t = setOwn s m.1) := by
  rw [chG, List.getElem?_mapIdx] at h
  cases q : Γ[i]? with
  | none => rw [q] at h; cases h
  | some s =>
    rw [q] at h
    refine ⟨s, rfl, ?_⟩
    cases e : M i with
    | none => simp [e] at h; exact .inl ⟨rfl, h.symm⟩
    | some m => simp [e] at h; exact .inr ⟨m, rfl, h.symm⟩
structure ChOk {K : Fg} (F : Fx K) (W : Wd) (σ : L2.St) (Γ : G) (M : Chg) (H' : Hp) (T : Addr → Prop) : Prop where
  fr : ∀ a u, ¬ chR W M a → W.H a = some u → H' a = some u
  nw : ∀ a, chN M a → chR W M a ∨ W.H a = none
  mo : ∀ a, chR W M a ∨ chN M a → Mo (H' a)
  sl : ∀ i m, M i = some m → ∃ s o p, Γ[i]? = some s ∧ s.own? = some o ∧ σ[i]? = some (some (.ref p)) ∧ OwnO K ((chW W M H' T).S F) H' m.1 p m.2 ∧ (m.1.isIns = false → m.2 = W.ft i) ∧ m.1.isIns = o.isIns
  dj : ∀ i k m n a, i ≠ k → M i = some m → M k = some n → a ∈ m.2 → a ∉ n.2
  tn : ∀ a, T a → W.H a = none ∧ ¬ chN M a ∧ Mo (H' a)
  un : (∀ i m s, M i = some m → Γ[i]? = some s → ∃ o, s = .ow o) ∨ (∀ i m s, M i = some m → Γ[i]? = some s → ∃ o, s = .rf o)
section
variable {K : Fg} {F : Fx K} {W : Wd} {σ : L2.St} {Γ : G} {M : Chg} {H' : Hp} {T : Addr → Prop}
theorem ChOk.O (h : ChOk F W σ Γ M H' T) (R : Rel F W σ Γ) {a : Addr} (c : chR W M a) : W.O a := by
  obtain ⟨i, m, e, ha⟩ := c
  obtain ⟨s, o, p, h1, h2, _⟩ := h.sl i m e
  exact slot_O (R.slot i s h1) h2 a ha
theorem ChOk.same (h : ChOk F W σ Γ M H' T) (R : Rel F W σ Γ) : Same (W.S F) ((chW W M H' T).S F) := same_less fun a o nx e => by
  refine ⟨fun z => ?_, h.fr a o (fun c => nx (.inr (h.O R c))) e⟩
  rcases z with z | z | z | z
  · exact nx (.inl z)
  · exact nx (.inr z)
  · rcases h.nw a z with c | c
    · exact nx (.inr (h.O R c))
    · rw [e] at c; cases c
  · rw [(h.tn a z).1] at e
    cases e
theorem ChOk.keep (h : ChOk F W σ Γ M H' T) (R : Rel F W σ Γ) {a : Addr} (ha : W.O a) (n : ¬ chR W M a) : H' a = W.H a := by
  obtain ⟨o, q⟩ := mo_some (R.mu a ha)
  rw [h.fr a o n q, q]
theorem Rel.objs (R : Rel F W σ Γ) (h : ChOk F W σ Γ M H' T) : Rel F (chW W M H' T) σ (chG Γ M) ∧ Kq F W Γ (chW W M H' T) (chG Γ M) := by
  have hs := h.same R
  have tx : Tx W.H H' := fun a o nm e => h.fr a o (fun c => nm (by have m := R.mu a (h.O R c); rw [e] at m; exact m)) e
  have apart : ∀ (i : Nat) (s : Sl) (o : OD) (a : Addr), M i = none → Γ[i]? = some s → s.own? = some o → a ∈ W.ft i → ¬ chR W M a := fun i s o a e h1 h2 ha ⟨k, m, e2, hk⟩ => by
    obtain ⟨s2, o2, p2, g1, g2, _⟩ := h.sl k m e2
    have ne : i ≠ k := fun z => by rw [z, e2] at e; cases e
    exact R.dis i k s s2 o o2 a ne h1 g1 h2 g2 ha hk
  have none_new : ∀ a, W.H a = none → F.H0 a = none ∨ F.rf a := fun a e => by
    by_cases r : F.rf a
    · exact .inr r
    · left
      cases q : F.H0 a with
      | none => rfl
      | some u => have := R.base a u q r; rw [e] at this; cases this
  have ftN : ∀ i m, M i = some m → (chW W M H' T).ft i = m.2 := fun i m e => by show (match M i with | some m => m.2 | none => W.ft i) = m.2; rw [e]
  have ft0 : ∀ i, M i = none → (chW W M H' T).ft i = W.ft i := fun i e => by show (match M i with | some m => m.2 | none => W.ft i) = _; rw [e]
  have own_set : ∀ (s : Sl) (o o' : OD), s.own? = some o → (setOwn s o').own? = some o' := fun s o o' e => by cases s <;> first | rfl | cases e
  refine ⟨⟨fun a o e nr => ?_, fun a ha => ?_, fun a ha => ?_, fun a ha => .inl (R.rfo a ha), by rw [chG_len]; exact R.len, fun i t e => ?_, fun i k s t oi ok a ne e1 e2 g1 g2 => ?_⟩, ⟨hs, fun q t => ?_⟩⟩
  · refine h.fr a o (fun c => ?_) (R.base a o e nr)
    rcases R.new a (h.O R c) with z | z
    · rw [z] at e; cases e
    · exact nr z
  · rcases ha with ha | ha | ha
    · exact R.new a ha
    · rcases h.nw a ha with c | c
      · exact R.new a (h.O R c)
      · exact none_new a c
    · exact none_new a (h.tn a ha).1
  · by_cases c : chR W M a
    · exact h.mo a (.inl c)
    · rcases ha with ha | ha | ha
      · show Mo (H' a)
        rw [h.keep R ha c]
        exact R.mu a ha
      · exact h.mo a (.inr ha)
      · exact (h.tn a ha).2.2
  · obtain ⟨s, h1, ⟨e2, rfl⟩ | ⟨m, e2, rfl⟩⟩ := chG_inv e
    · have z := R.slot i t h1
      refine z.keep (W' := chW W M H' T) (ft0 i e2) hs (fun a _ q => .inl q) (fun a ha so => ?_) tx
      obtain ⟨o', so⟩ := Option.isSome_iff_exists.mp so
      exact h.keep R (slot_O z so a ha) (apart i t o' a e2 h1 so ha)
    · obtain ⟨s', o, p, g1, g2, g3, g4, g5, g6⟩ := h.sl i m e2
      rw [h1] at g1
      cases g1
      have z := R.slot i s h1
      have inO : ∀ a ∈ (chW W M H' T).ft i, (chW W M H' T).O a := fun a ha => by
        rw [ftN i m e2] at ha
        exact .inr (.inl ⟨i, m.1, m.2, e2, ha⟩)
      have ok : OwnOk K ((chW W M H' T).S F) (chW W M H' T).H p ((chW W M H' T).ft i) m.1 := by
        rw [ftN i m e2]
        exact ownO_ok.mp g4
      cases s with
      | no => cases g2
      | sh _ => cases g2
      | ar _ => cases g2
      | ro _ => cases g2
      | ow q =>
        refine ⟨p, g3, fun a ha => ⟨inO a ha, fun r => ?_⟩, ok⟩
        rcases h.un with u | u
        · rw [ftN i m e2] at ha
          rcases h.nw a ⟨i, m.1, m.2, e2, ha⟩ with ⟨k, n, ek, hk⟩ | c
          · obtain ⟨s2, o2, p2, b1, b2, _⟩ := h.sl k n ek
            obtain ⟨o3, rfl⟩ := u k n s2 ek b1
            obtain ⟨_, _, b3, _⟩ := R.slot k _ b1
            exact (b3 a hk).2 r
          · have := R.mu a (R.rfo a r)
            rw [c] at this
            exact this
        · obtain ⟨o3, z3⟩ := u i m _ e2 h1
          cases z3
      | rf q =>
        cases g2
        obtain ⟨p', ⟨f0, b0, b1⟩, b2, _⟩ := z
        rw [g3] at b2
        cases b2
        refine ⟨p, ⟨f0, b0, fun n => ?_⟩, g3, inO, ok⟩
        rw [ftN i m e2, g5 n]
        exact b1 (by rw [← g6]; exact n)
  · intro ha hb
    obtain ⟨s0, h1, c1⟩ := chG_inv e1
    obtain ⟨t0, h2, c2⟩ := chG_inv e2
    rcases c1 with ⟨n1, rfl⟩ | ⟨m1, n1, rfl⟩
    · rw [ft0 i n1] at ha
      rcases c2 with ⟨n2, rfl⟩ | ⟨m2, n2, rfl⟩
      · rw [ft0 k n2] at hb
        exact R.dis i k s t oi ok a ne h1 h2 g1 g2 ha hb
      · rw [ftN k m2 n2] at hb
        rcases h.nw a ⟨k, m2.1, m2.2, n2, hb⟩ with c | c
        · exact apart i s oi a n1 h1 g1 ha c
        · have := R.mu a (slot_O (R.slot i s h1) g1 a ha)
          rw [c] at this
          exact this
    · rw [ftN i m1 n1] at ha
      rcases c2 with ⟨n2, rfl⟩ | ⟨m2, n2, rfl⟩
      · rw [ft0 k n2] at hb
        rcases h.nw a ⟨i, m1.1, m1.2, n1, ha⟩ with c | c
        · exact apart k t ok a n2 h2 g2 hb c
        · have := R.mu a (slot_O (R.slot k t h2) g2 a hb)
          rw [c] at this
          exact this
      · rw [ftN k m2 n2] at hb
        exact h.dj i k m1 m2 a ne n1 n2 ha hb
  · have nc : ¬ chR W M q := fun ⟨k, m, ek, hk⟩ => by
      obtain ⟨s2, o2, p2, b1, b2, _⟩ := h.sl k m ek
      exact t.2 k s2 o2 b1 b2 hk
    refine ⟨⟨.inl t.1, fun j s o e g hj => ?_⟩, h.keep R t.1 nc⟩
    obtain ⟨s0, h1, ⟨n1, rfl⟩ | ⟨m1, n1, rfl⟩⟩ := chG_inv e
    · rw [ft0 j n1] at hj
      exact t.2 j s o h1 g hj
    · rw [ftN j m1 n1] at hj
      rcases h.nw q ⟨j, m1.1, m1.2, n1, hj⟩ with c | c
      · exact nc c
      · have := R.mu q t.1
        rw [c] at this
        exact this
end
theorem ChOk.tm {K : Fg} {F : Fx K} {W : Wd} {σ : L2.St} {Γ : G} {M : Chg} {H' : Hp} {T : Addr → Prop} (h : ChOk F W σ Γ M H' T) (R : Rel F W σ Γ) {a : Addr} (ha : T a) : Tm (chW W M H' T) (chG Γ M) a ∧ F.H0 a = none ∧ ¬ F.rf a := by
  obtain ⟨n, nn, _⟩ := h.tn a ha
  have nO : ¬ W.O a := fun z => by
    have := R.mu a z
    rw [n] at this
    exact this
  have nr : ¬ F.rf a := fun z => nO (R.rfo a z)
  refine ⟨⟨.inr (.inr ha), fun j s o e g hj => ?_⟩, ?_, nr⟩
  · obtain ⟨s0, h1, ⟨n1, rfl⟩ | ⟨m1, n1, rfl⟩⟩ := chG_inv e
    · have e1 : (chW W M H' T).ft j = W.ft j := by show (match M j with | some m => m.2 | none => W.ft j) = _; rw [n1]
      rw [e1] at hj
      exact nO (slot_O (R.slot j s h1) g a hj)
    · have e1 : (chW W M H' T).ft j = m1.2 := by show (match M j with | some m => m.2 | none => W.ft j) = _; rw [n1]
      rw [e1] at hj
      exact nn ⟨j, m1.1, m1.2, n1, hj⟩
  · cases q : F.H0 a with
    | none => rfl
    | some u => have := R.base a u q nr; rw [n] at this; cases this
/-- what a run leaves as it was, instances aside -/
structure Stx {K : Fg} (F : Fx K) (W : Wd) (Γ : G) (W' : Wd) (Γ' : G) : Prop extends Kq F W Γ W' Γ' where
  kin : ∀ (i : Nat) (s : Sl), Γ[i]? = some s → ∃ s' : Sl, Γ'[i]? = some s' ∧ Kx s s'
  len : Γ'.length = Γ.length
theorem Kx.refl (s : Sl) : Kx s s := ⟨fun z => z, fun _ => rfl, fun o z => ⟨o, z⟩⟩
theorem Kn.kx {s s' : Sl} (h : Kn s s') : Kx s s' := ⟨h.1, h.2.1, h.2.2.1⟩
theorem Kx.trans {s s1 s2 : Sl} (a : Kx s s1) (b : Kx s1 s2) : Kx s s2 := ⟨fun z => b.1 (a.1 z), fun q => by
  have z := a.2.1 q
  subst z
  exact b.2.1 q, fun o q => by
  obtain ⟨o1, q1⟩ := a.2.2 o q
  exact b.2.2 o1 q1⟩
theorem Stp.stx {K : Fg} {F : Fx K} {W W' : Wd} {Γ Γ' : G} (s : Stp F W Γ W' Γ') : Stx F W Γ W' Γ' := ⟨s.toKq, fun i t e => by
  obtain ⟨t', h1, h2⟩ := s.kin i t e
  exact ⟨t', h1, h2.kx⟩, s.len⟩
theorem Stx.trans {K : Fg} {F : Fx K} {W W1 W2 : Wd} {Γ Γ1 Γ2 : G} (a : Stx F W Γ W1 Γ1) (b : Stx F W1 Γ1 W2 Γ2) : Stx F W Γ W2 Γ2 := ⟨a.toKq.trans b.toKq, fun i s h => by
  obtain ⟨s1, h1, k1⟩ := a.kin i s h
  obtain ⟨s2, h2, k2⟩ := b.kin i s1 h1
  exact ⟨s2, h2, k1.trans k2⟩, b.len.trans a.len⟩
/-- m: instances may be changed -/
def StM {K : Fg} (m : Bool) (F : Fx K) (W : Wd) (Γ : G) (W' : Wd) (Γ' : G) : Prop := match m with
  | true => Stx F W Γ W' Γ'
  | false => Stp F W Γ W' Γ'
theorem StM.stx {K : Fg} {m : Bool} {F : Fx K} {W W' : Wd} {Γ Γ' : G} (s : StM m F W Γ W' Γ') : Stx F W Γ W' Γ' := by
  cases m with
  | true => exact s
  | false => exact Stp.stx s
theorem StM.trans {K : Fg} {m n : Bool} {F : Fx K} {W W1 W2 : Wd} {Γ Γ1 Γ2 : G} (a : StM m F W Γ W1 Γ1) (b : StM n F W1 Γ1 W2 Γ2) : StM (m || n) F W Γ W2 Γ2 := by
  cases m with
  | true => exact Stx.trans a b.stx
  | false =>
    cases n with
    | true => exact Stx.trans (Stp.stx a) b
    | false => exact Stp.trans a b
theorem StM.refl {K : Fg} {m : Bool} (F : Fx K) (W : Wd) (Γ : G) : StM m F W Γ W Γ := by
  cases m with
  | true => exact Stp.stx (Stp.refl ..)
  | false => exact Stp.refl ..
/-- values that stay when instances are changed -/
def stayM (m : Bool) : RV → Bool
  | .fld _ _ => !m
  | _ => true
theorem VOk.stm {K : Fg} {m : Bool} {F : Fx K} {W W' : Wd} {σ : L2.St} {Γ Γ' : G} {v : V} {x : RV} (a : StM m F W Γ W' Γ') (h : VOk F W σ Γ v x) (hm : stayM m x = true) : VOk F W' σ Γ' v x := by
  cases m with
  | false => exact VOk.stp a h
  | true =>
    cases x with
    | sh d => exact Dq.same a.stx.sh h
    | ar d => exact h
    | own i =>
      obtain ⟨s, h1, h2, h3⟩ := h
      obtain ⟨s', g1, g2, _⟩ := a.stx.kin i s h1
      exact ⟨s', g1, g2 h2, h3⟩
    | fld i p => cases hm
theorem Rel.objsM {K : Fg} {m : Bool} {F : Fx K} {W : Wd} {σ : L2.St} {Γ : G} {M : Chg} {H' : Hp} {T : Addr → Prop} (R : Rel F W σ Γ) (h : ChOk F W σ Γ M H' T) (hm : m = false → ∀ i n, M i = some n → n.1.isIns = false) (hi : m = false → ∀ a, chR W M a → notIns (W.H a)) : StM m F W Γ (chW W M H' T) (chG Γ M) := by
  obtain ⟨_, kq⟩ := R.objs h
  have kx : ∀ (i : Nat) (s : Sl), Γ[i]? = some s → ∃ s' : Sl, (chG Γ M)[i]? = some s' ∧ Kx s s' ∧ (M i = none → s' = s) := fun i s e => by
    cases q : M i with
    | none => exact ⟨s, by rw [chG_none q]; exact e, Kx.refl s, fun _ => rfl⟩
    | some n =>
      obtain ⟨s', o, p, g1, g2, _⟩ := h.sl i n q
      rw [e] at g1
      cases g1
      refine ⟨_, chG_some e q, ⟨fun _ => ?_, (fun z => by rw [g2] at z; cases z), (fun o' z => by subst z; exact ⟨_, rfl⟩)⟩, (fun z => by cases z)⟩
      cases s <;> first | rfl | cases g2
  cases m with
  | true => exact ⟨kq, fun i s e => by
      obtain ⟨s', a, b, _⟩ := kx i s e
      exact ⟨s', a, b⟩, chG_len Γ M⟩
  | false =>
    refine ⟨⟨kq, fun a C dx vs e => h.fr a _ (fun c => ?_) e⟩, fun i s e => ?_, chG_len Γ M⟩
    · have := hi rfl a c
      rw [e] at this
      exact this
    · obtain ⟨s', a, b, c⟩ := kx i s e
      refine ⟨s', a, b.1, b.2.1, b.2.2, fun o z => ?_⟩
      cases q : M i with
      | none => exact c q
      | some n =>
        exfalso
        obtain ⟨s2, o2, p, g1, g2, _, _, _, g6⟩ := h.sl i n q
        rw [e] at g1
        cases g1
        have e1 := hm rfl i n q
        have := ins_own z (by rw [g2]; exact fun w => nomatch w)
        rw [g2] at this
        cases this
        rw [g6] at e1
        cases s with
        | ow q => have := (insO_eq z).2; cases (insO_eq z).1; rw [this] at e1; cases e1
        | rf q => have := (insO_eq z).2; cases (insO_eq z).1; rw [this] at e1; cases e1
        | _ => cases g2
end Dk

namespace Dk
open PySem PySem.Spec PyProof.Rows L2
/-! ### contracts: arguments by what they are (data; a thing that is changed; a thing that is looked at), answers, refusals -/
inductive AD where
  | d (d : PyData) (z : Bool)
  | rf (o : OD)
  | ro (o : OD)
inductive RT where
  | d (d : PyData)
  | nw (o : OD)
abbrev Ct := List AD → (RT → List OD → Prop) → (Value → List OD → Prop) → Prop
/-- the things that may be changed, in their order -/
def osL (os : Nat → OD) : List AD → Nat → List OD
  | [], _ => []
  | .rf _ :: as, j => os j :: osL os as (j + 1)
  | _ :: as, j => osL os as (j + 1)
def Rfs (as : List AD) (ft : Nat → List Addr) (a : Addr) : Prop := ∃ j o, as[j]? = some (.rf o) ∧ a ∈ ft j
def ArgOk (K : Fg) (H : Hp) (X R : Addr → Prop) (f : List Addr) (v : V) : AD → Prop
  | .d d true => Dq K (less H X) v d
  | .d d false => Dq K (less H R) v d
  | .rf o => ∃ p, v = .ref p ∧ OwnO K (less H X) H o p f
  | .ro o => o.isIns = true ∧ ∃ p g, v = .ref p ∧ (∀ a ∈ g, ¬ R a ∧ X a) ∧ OwnO K (less H X) H o p g
structure GIn (K : Fg) (m : Bool) (vs : List V) (H : Hp) (as : List AD) (ft : Nat → List Addr) (X : Addr → Prop) : Prop where
  len : vs.length = as.length
  arg : ∀ j a, as[j]? = some a → ∃ v, vs[j]? = some v ∧ ArgOk K H X (Rfs as ft) (ft j) v a
  xm : ∀ a, X a → Mo (H a)
  rx : ∀ a, Rfs as ft a → X a
  dj : ∀ i j o o' a, i ≠ j → as[i]? = some (.rf o) → as[j]? = some (.rf o') → a ∈ ft i → a ∉ ft j
structure GOut (K : Fg) (vs : List V) (H : Hp) (as : List AD) (ft : Nat → List Addr) (X : Addr → Prop) (H' : Hp) (os : Nat → OD) (ft' : Nat → List Addr) (T : Addr → Prop) : Prop where
  fr : ∀ a u, ¬ Rfs as ft a → H a = some u → H' a = some u
  nw : ∀ a, Rfs as ft' a → Rfs as ft a ∨ H a = none
  ob : ∀ j o, as[j]? = some (.rf o) → ∃ p, vs[j]? = some (.ref p) ∧ OwnO K (less H' fun a => X a ∨ Rfs as ft' a ∨ T a) H' (os j) p (ft' j) ∧ (os j).isIns = o.isIns ∧ (o.isIns = false → ft' j = ft j)
  dj : ∀ i j o o' a, i ≠ j → as[i]? = some (.rf o) → as[j]? = some (.rf o') → a ∈ ft' i → a ∉ ft' j
  mo : ∀ a, Rfs as ft a → Mo (H' a)
  tn : ∀ a, T a → H a = none ∧ ¬ Rfs as ft' a ∧ Mo (H' a)
/-- the answer; T: where a new thing lies -/
def ResOk (K : Fg) (H' : Hp) (X : Addr → Prop) (T : Addr → Prop) (v : V) : RT → Prop
  | .d d => Dq K (less H' X) v d ∧ ∀ a, ¬ T a
  | .nw o => ∃ p f, v = .ref p ∧ OwnO K (less H' X) H' o p f ∧ ∀ a, T a ↔ a ∈ f
def GSp (K : Fg) (m : Bool) (C : Ct) : Sp := fun vs H Q E => ∃ (as : List AD) (ft : Nat → List Addr) (X : Addr → Prop) (Qd : RT → List OD → Prop) (Qx : Value → List OD → Prop), GIn K m vs H as ft X ∧ C as Qd Qx ∧
  (∀ v H' os ft' T r, GOut K vs H as ft X H' os ft' T → ResOk K H' (fun a => X a ∨ Rfs as ft' a ∨ T a) T v r → Qd r (osL os as 0) → Q v H') ∧
  (∀ c H' os ft', GOut K vs H as ft X H' os ft' (fun _ => False) → Qx c (osL os as 0) → E c none H')
/-! ### a def by its contract -/
/-- how an argument may be held -/
def adSl (s : Sl) : AD → Prop
  | .d d z => (s = .sh d ∧ (z = true ∨ tupO d = true)) ∨ s = .ar d
  | .rf o => s = .rf o
  | .ro o => s = .ro o
def odAt (Γ : G) (j : Nat) : OD := match Γ[j]? with
  | some (.rf o) => o
  | _ => .lst []
/-- the things that may be changed are there still -/
def rfB : List AD → G → Bool
  | [], _ => true
  | .rf o :: as, .rf o' :: Γ => (o'.isIns == o.isIns) && rfB as Γ
  | .rf _ :: _, _ => false
  | _ :: as, _ :: Γ => rfB as Γ
  | _ :: _, [] => false
theorem rfB_at : ∀ {as : List AD} {Γ : G}, rfB as Γ = true → ∀ {j : Nat} {o : OD}, as[j]? = some (.rf o) → ∃ o', Γ[j]? = some (.rf o') ∧ o'.isIns = o.isIns
  | [], _, _, j, o, e => by simp at e
  | .rf o0 :: as, .rf o1 :: Γ, h, 0, o, e => by
    simp at e
    subst e
    simp only [rfB, Bool.and_eq_true, beq_iff_eq] at h
    exact ⟨o1, rfl, h.1⟩
  | .rf o0 :: as, .rf o1 :: Γ, h, j + 1, o, e => by
    simp only [rfB, Bool.and_eq_true, beq_iff_eq] at h
    simpa using rfB_at h.2 (j := j) (by simpa using e)
  | .rf o0 :: as, [], h, _, _, _ => by simp [rfB] at h
  | .rf o0 :: as, .no :: Γ, h, _, _, _ => by simp [rfB] at h
  | .rf o0 :: as, .sh _ :: Γ, h, _, _, _ => by simp [rfB] at h
  | .rf o0 :: as, .ar _ :: Γ, h, _, _, _ => by simp [rfB] at h
  | .rf o0 :: as, .ow _ :: Γ, h, _, _, _ => by simp [rfB] at h
  | .rf o0 :: as, .ro _ :: Γ, h, _, _, _ => by simp [rfB] at h
  | .d _ _ :: as, _ :: Γ, h, 0, o, e => by simp at e
  | .ro _ :: as, _ :: Γ, h, 0, o, e => by simp at e
  | .d _ _ :: as, _ :: Γ, h, j + 1, o, e => by
    simp only [rfB] at h
    simpa using rfB_at h (j := j) (by simpa using e)
  | .ro _ :: as, _ :: Γ, h, j + 1, o, e => by
    simp only [rfB] at h
    simpa using rfB_at h (j := j) (by simpa using e)
  | .d _ _ :: as, [], h, _, _, _ => by simp [rfB] at h
  | .ro _ :: as, [], h, _, _, _ => by simp [rfB] at h
def retR (Γ : G) : RV → Option RT
  | .own i => match Γ[i]? with
    | some (.ow (.ab _)) => none
    | some (.ow o) => some (.nw o)
    | some (.sh d) => some (.d d)
    | _ => none
  | .fld i path => match Γ[i]? with
    | some (.ow o) => if o.isIns = true then (o.at_ path).map .nw else none
    | _ => none
  | x => (shOf x).map .d
section
variable {K : Fg} {m : Bool} {vs : List V} {H : Hp} {as : List AD} {ft : Nat → List Addr} {X : Addr → Prop}
theorem GIn.rm (h : GIn K m vs H as ft X) : ∀ a, Rfs as ft a → Mo (H a) := fun a z => h.xm a (h.rx a z)
/-- the surroundings of such a def's run -/
def FG (h : GIn K m vs H as ft X) : Fx K := { H0 := H, rf := Rfs as ft, ex := X, xm := h.xm, rm := h.rm, rp := fun j => match as[j]?, vs[j]? with
  | some (.rf _), some (.ref p) => some (p, ft j)
  | _, _ => none }
def WG (H : Hp) (as : List AD) (ft : Nat → List Addr) : Wd := ⟨Rfs as ft, ft, H⟩
theorem rel_startA {N : List Str} {ss : List Sl} (h : GIn K m vs H as ft X) (hs : Paired adSl ss as) : Rel (FG h) (WG H as ft) (start N vs) (startG N ss) := by
  have sS : Same (less H X) ((WG H as ft).S (FG h)) := same_less fun a o nx e => ⟨fun z => z.elim nx fun z => nx (h.rx a z), e⟩
  have sl : ∀ (i : Nat) (s : Sl), (startG N ss)[i]? = some s → s = .no ∨ ∃ a, as[i]? = some a ∧ adSl s a := fun i s e => by
    rcases startG_get e with e | e
    · obtain ⟨a, e1, e2⟩ := paired_get hs e
      exact .inr ⟨a, e1, e2⟩
    · exact .inl e
  have own : ∀ (i : Nat) (s : Sl) (o : OD), (startG N ss)[i]? = some s → s.own? = some o → as[i]? = some (.rf o) := fun i s o e g => by
    rcases sl i s e with rfl | ⟨a, e1, e2⟩
    · cases g
    · cases a with
      | d d z => rcases e2 with ⟨rfl, _⟩ | rfl <;> cases g
      | rf o' => cases (show s = .rf o' from e2); cases g; exact e1
      | ro o' => cases (show s = .ro o' from e2); cases g
  refine ⟨fun a o e _ => e, fun a z => .inr z, fun a z => h.rm a z, fun a z => z, by simp [L2.start, startG, h.len, Paired.length hs], fun i s e => ?_, fun i j s t oi oj a ne e1 e2 g1 g2 => h.dj i j oi oj a ne (own i s oi e1 g1) (own j t oj e2 g2)⟩
  rcases sl i s e with rfl | ⟨a, e1, e2⟩
  · trivial
  · obtain ⟨v, q1, q2⟩ := h.arg i a e1
    cases a with
    | d d z =>
      rcases e2 with ⟨rfl, e2⟩ | rfl
      · refine ⟨v, start_get q1, ?_⟩
        cases z with
        | true => exact Dq.same sS q2
        | false =>
          have t : tupO d = true := e2.resolve_left fun z => nomatch z
          refine Dq.tupO_less (H' := H) (fun a z => ?_) _ _ t (Dq.same less_same q2)
          rcases z with z | z
          · exact h.xm a z
          · exact h.rm a z
      · refine ⟨v, start_get q1, ?_⟩
        cases z with
        | true => exact Dq.same (same_less fun a o nx e => ⟨fun z => nx (h.rx a z), e⟩) q2
        | false => exact q2
    | rf o =>
      cases (show s = .rf o from e2)
      obtain ⟨p, rfl, q3⟩ := q2
      refine ⟨p, ⟨ft i, ?_, fun _ => rfl⟩, start_get q1, fun a ha => ⟨i, o, e1, ha⟩, ownO_ok.mp (OwnO.keep sS (fun _ _ _ e => e) q3 fun _ _ => rfl)⟩
      show (match as[i]?, vs[i]? with | some (.rf _), some (.ref p) => some (p, ft i) | _, _ => none) = _
      rw [e1, q1]
    | ro o =>
      cases (show s = .ro o from e2)
      obtain ⟨q0, p, g, rfl, q3, q4⟩ := q2
      refine ⟨p, g, start_get q1, q3, q0, ownO_ok.mp (OwnO.keep (same_less fun a o nx e => ⟨fun z => z.elim nx fun z => nx (h.rx a z), e⟩) (fun _ _ _ e => e) q4 fun _ _ => rfl)⟩
theorem gOut_of {W : Wd} {σ : L2.St} {Γ : G} (h : GIn K m vs H as ft X) (R : Rel (FG h) W σ Γ) (hb : rfB as Γ = true) {T : Addr → Prop} (hT : ∀ a, T a → W.O a ∧ H a = none ∧ ¬ Rfs as W.ft a) : GOut K vs H as ft X W.H (odAt Γ) W.ft T := by
  have od : ∀ {j : Nat} {o : OD}, as[j]? = some (.rf o) → ∃ o', Γ[j]? = some (.rf o') ∧ o'.isIns = o.isIns ∧ odAt Γ j = o' := fun {j o} e => by
    obtain ⟨o', e1, e2⟩ := rfB_at hb e
    exact ⟨o', e1, e2, by rw [odAt, e1]⟩
  have inO : ∀ a, Rfs as W.ft a → W.O a := fun a ⟨j, o, e, ha⟩ => by
    obtain ⟨o', e1, _⟩ := od e
    exact slot_O (R.slot j _ e1) rfl a ha
  refine ⟨fun a u n e => R.base a u e n, fun a z => ?_, fun j o e => ?_, fun i j o o' a ne e1 e2 ha => ?_, fun a z => R.mu a (R.rfo a z), fun a z => ⟨(hT a z).2.1, (hT a z).2.2, R.mu a (hT a z).1⟩⟩
  · rcases R.new a (inO a z) with q | q
    · exact .inr q
    · exact .inl q
  · obtain ⟨o', e1, e2, e3⟩ := od e
    obtain ⟨p, ⟨f0, q0, q1⟩, _, _, q2⟩ := R.slot j _ e1
    obtain ⟨v, g1, p', rfl, g2⟩ := h.arg j _ e
    have q0' : (match as[j]?, vs[j]? with | some (.rf _), some (.ref p) => some (p, ft j) | _, _ => none) = some (p, f0) := q0
    rw [e, g1] at q0'
    cases q0'
    refine ⟨p, g1, ?_, by rw [e3]; exact e2, fun z => (q1 (by rw [e2]; exact z)).symm⟩
    rw [e3]
    exact OwnO.keep (same_less fun a o nx e => ⟨fun z => nx (z.imp id fun z => z.elim (inO a) fun z => (hT a z).1), e⟩) (fun _ _ _ e => e) (ownO_ok.mpr q2) fun _ _ => rfl
  · obtain ⟨o1, b1, _⟩ := od e1
    obtain ⟨o2, b2, _⟩ := od e2
    exact R.dis i j _ _ _ _ a ne b1 b2 rfl rfl ha
theorem rfs_O {W : Wd} {σ : L2.St} {Γ : G} (h : GIn K m vs H as ft X) (R : Rel (FG h) W σ Γ) (hb : rfB as Γ = true) {a : Addr} (z : Rfs as W.ft a) : W.O a := by
  obtain ⟨j, o, e, ha⟩ := z
  obtain ⟨o', e1, _⟩ := rfB_at hb e
  exact slot_O (R.slot j _ e1) rfl a ha
theorem retR_ok {W : Wd} {σ : L2.St} {Γ : G} {v : V} {x : RV} {r : RT} (h : GIn K m vs H as ft X) (R : Rel (FG h) W σ Γ) (hb : rfB as Γ = true) (o : VOk (FG h) W σ Γ v x) (e : retR Γ x = some r) : ∃ T : Addr → Prop, (∀ a, T a → W.O a ∧ H a = none ∧ ¬ Rfs as W.ft a) ∧ ResOk K W.H (fun a => X a ∨ Rfs as W.ft a ∨ T a) T v r := by
  have sS : Same (W.S (FG h)) (less W.H fun a => X a ∨ Rfs as W.ft a ∨ False) := same_less fun a u nx e => ⟨fun z => nx (z.imp id fun z => z.elim (rfs_O h R hb) False.elim), e⟩
  have fresh : ∀ {i : Nat} {o0 : OD} {a : Addr}, Γ[i]? = some (.ow o0) → a ∈ W.ft i → W.O a ∧ H a = none ∧ ¬ Rfs as W.ft a := fun {i o0 a} h1 ha => by
    obtain ⟨p, _, q1, _⟩ := R.slot i _ h1
    have n : H a = none := (R.new a (q1 a ha).1).resolve_right (q1 a ha).2
    refine ⟨(q1 a ha).1, n, fun z => ?_⟩
    obtain ⟨j, o, e, hj⟩ := z
    obtain ⟨o', e1, _⟩ := rfB_at hb e
    have ne : i ≠ j := fun w => by rw [w, e1] at h1; cases h1
    exact R.dis i j _ _ _ _ a ne h1 e1 rfl rfl ha hj
  have plain : ∀ {d : PyData}, Dq K (W.S (FG h)) v d → r = .d d → ∃ T : Addr → Prop, (∀ a, T a → W.O a ∧ H a = none ∧ ¬ Rfs as W.ft a) ∧ ResOk K W.H (fun a => X a ∨ Rfs as W.ft a ∨ T a) T v r := fun {d} hd er => by
    subst er
    exact ⟨fun _ => False, (fun a z => z.elim), hd.same sS, fun a z => z⟩
  have thing : ∀ {i : Nat} {o0 o1 : OD} {q : Addr} {f : List Addr}, Γ[i]? = some (.ow o0) → v = .ref q → OwnO K (W.S (FG h)) W.H o1 q f → (∀ a ∈ f, a ∈ W.ft i) → r = .nw o1 → ∃ T : Addr → Prop, (∀ a, T a → W.O a ∧ H a = none ∧ ¬ Rfs as W.ft a) ∧ ResOk K W.H (fun a => X a ∨ Rfs as W.ft a ∨ T a) T v r := fun {i o0 o1 q f} h1 hv hO hF er => by
    subst er
    refine ⟨fun a => a ∈ f, fun a ha => fresh h1 (hF a ha), q, f, hv, ?_, fun a => Iff.rfl⟩
    exact OwnO.keep (same_less fun a u nx e => ⟨fun z => nx (z.imp id fun z => z.elim (rfs_O h R hb) fun z => (fresh h1 (hF a z)).1), e⟩) (fun _ _ _ e => e) hO fun _ _ => rfl
  cases x with
  | sh d => cases e; exact plain o rfl
  | ar d =>
    simp only [retR] at e
    obtain ⟨d', e1, e2⟩ := Option.map_eq_some_iff.mp e
    exact plain (VOk.sh R o e1) e2.symm
  | own i =>
    obtain ⟨s, h1, h2, h3⟩ := o
    have key : ∀ {o0 : OD}, s = .ow o0 → r = .nw o0 → ∃ T : Addr → Prop, (∀ a, T a → W.O a ∧ H a = none ∧ ¬ Rfs as W.ft a) ∧ ResOk K W.H (fun a => X a ∨ Rfs as W.ft a ∨ T a) T v r := fun {o0} es er => by
      subst es
      obtain ⟨p, q0, q1, q2⟩ := R.slot i _ h1
      rw [h3] at q0
      cases q0
      exact thing h1 rfl (ownO_ok.mpr q2) (fun a ha => ha) er
    simp only [retR, h1] at e
    cases s with
    | no => cases e
    | ar d => cases e
    | rf o => cases e
    | ro o => cases e
    | sh d' =>
      obtain ⟨v', e1, e2⟩ := R.slot i _ h1
      rw [h3] at e1
      cases e1
      exact plain e2 (Option.some.inj e).symm
    | ow o0 =>
      cases o0 with
      | ab _ => cases e
      | lst ds => exact key rfl (Option.some.inj e).symm
      | dK ds => exact key rfl (Option.some.inj e).symm
      | dT ds => exact key rfl (Option.some.inj e).symm
      | ins C fs => exact key rfl (Option.some.inj e).symm
  | fld i path =>
    obtain ⟨s, p, o, h1, h2, h3, h4⟩ := o
    simp only [retR, h1] at e
    cases s with
    | ow o0 =>
      simp only at e
      split at e
      · obtain ⟨o', e1, e2⟩ := Option.map_eq_some_iff.mp e
        cases (insO_eq h2).1
        obtain ⟨p', q0, q1, q2⟩ := R.slot i _ h1
        rw [h3] at q0
        cases q0
        obtain ⟨q, F', hv, hF, hO⟩ := OwnO.path (ownO_ok.mpr q2) e1 h4
        exact thing h1 hv hO hF e2.symm
      · cases e
    | _ => cases e
end
section
variable {P : Program} {w : World} {K : Fg} {mg : Str → Option Value} {base : Heap}
abbrev GEnds (as : List AD) (Qd : RT → List OD → Prop) (Qx : Value → List OD → Prop) : DE := { nx := fun Γ => rfB as Γ = true ∧ Qd (.d .none) (osL (odAt Γ) as 0), rt := fun x Γ => rfB as Γ = true ∧ ∃ r, retR Γ x = some r ∧ Qd r (osL (odAt Γ) as 0), rn := fun o Γ => rfB as Γ = true ∧ Qd (.nw o) (osL (odAt Γ) as 0), xs := fun c Γ => rfB as Γ = true ∧ Qx c (osL (odAt Γ) as 0) }
theorem gen_link {m : Bool} {vs : List V} {H : Hp} {as : List AD} {ft : Nat → List Addr} {X : Addr → Prop} {Qd : RT → List OD → Prop} {Qx : Value → List OD → Prop} {Q : VK} {E : XK} (h : GIn K m vs H as ft X)
    (q : ∀ v H' os ft' T r, GOut K vs H as ft X H' os ft' T → ResOk K H' (fun a => X a ∨ Rfs as ft' a ∨ T a) T v r → Qd r (osL os as 0) → Q v H') (qx : ∀ c H' os ft', GOut K vs H as ft X H' os ft' (fun _ => False) → Qx c (osL os as 0) → E c none H') :
    Lk (FG h) (WG H as ft) (fun cls d _ H => E cls d H) { nx := fun _ H' => Q .non H', rt := Q } (GEnds as Qd Qx) := by
  refine ⟨fun W σ Γ _ R ⟨e0, e⟩ => ?_, fun W σ Γ y v _ R o ⟨e0, r, e, z⟩ => ?_, fun W σ Γ o p ho _ R hp oh ⟨e0, z⟩ => ?_, fun W σ Γ _ R e => e, fun W σ Γ _ R e => e, fun W σ Γ c _ R ⟨e0, e⟩ => ?_⟩
  · exact q .non W.H _ _ (fun _ => False) (.d .none) (gOut_of h R e0 fun a z => z.elim) ⟨.non, fun a z => z⟩ e
  · obtain ⟨T, hT, ok⟩ := retR_ok h R e0 o e
    exact q v W.H _ _ T r (gOut_of h R e0 hT) ok z
  · obtain ⟨R2, k2, t2, h0, nrf⟩ := R.temp (ho := ho) hp (mo_ownH oh)
    have hT : ∀ a, a = p → (a = p ∨ W.O a) ∧ H a = none ∧ ¬ Rfs as W.ft a := fun a ha => by
      subst ha
      refine ⟨.inl rfl, h0, fun ⟨j, o', e, hj⟩ => ?_⟩
      obtain ⟨o2, e1, _⟩ := rfB_at e0 e
      exact t2.2 j _ _ e1 rfl hj
    refine q (.ref p) _ _ _ (fun a => a = p) (.nw o) (gOut_of h R2 e0 hT) ⟨p, [p], rfl, ?_, fun a => by simp⟩ z
    refine OwnO.keep (S := (Wd.S (K := K) ⟨fun a => a = p ∨ W.O a, W.ft, upd W.H p ho⟩ (FG h))) (same_less fun a u nx e => ⟨fun y => nx ?_, e⟩) (fun _ _ _ e => e) (ownO_ok.mpr (ownH_ok (oh.same k2.sh) upd_same)) fun _ _ => rfl
    rcases y with y | y | y
    · exact .inl y
    · exact .inr (rfs_O h R2 e0 y)
    · exact .inr (.inl y)
  · exact qx c W.H _ _ (gOut_of h R e0 fun a z => z.elim) e
theorem gen_ok {x qual : Str} {st : Stmt} {f : Addr} {fd : FuncData} {N ps : List Str} {k : Nat} {m : Bool} {C : Ct} (Fn : L2.Fun K x qual st f fd) (S : FnScope N ps (defScope st)) (hl : ∀ as Qd Qx, C as Qd Qx → as.length = ps.length)
    (hbody : ∀ (cdv : Value) (A : Around) (outer : List Env) (s : Shared) (H : Hp) (E : XK), Room k (A.deeper (envOfC qual (defScope st) s.heap.objs.size f cdv)) →
      ∃ t, PSs (cxOf CX0 P w K mg base N qual (defScope st) f cdv A outer s H E).nox (defBody st) t ∧ ∃ d, SS K X0 t d ∧ ∀ as Qd Qx, C as Qd Qx → ∃ ss, Paired adSl ss as ∧ d (GEnds as Qd fun _ _ => False) (startG N ss)) : FnOk P w K mg base CX0 (k + 1) f fd ps (GSp K m C) := by
  refine Fn.ok S (fun vs H Q E h => ?_) (fun cdv A outer s H vs Q E hr h => ?_)
  · obtain ⟨as, ft, X, Qd, Qx, h1, h2, _⟩ := h
    rw [h1.len]
    exact hl as Qd Qx h2
  · obtain ⟨as, ft, X, Qd, Qx, h1, h2, q, qx⟩ := h
    obtain ⟨t, ht, d, hs, hd⟩ := hbody cdv A outer s H E hr
    obtain ⟨ss, hss, hd⟩ := hd as Qd Qx h2
    have L := gen_link (Qx := fun _ _ => False) (E := fun _ _ _ => False) h1 q fun _ _ _ _ _ z => z.elim
    exact ⟨t, ht, hs.run (FG h1) (WG H as ft) (start N vs) (startG N ss) _ _ (rel_startA h1 hss) hd ⟨L.nx, L.rt, L.rn, L.bk, L.ct, fun W σ Γ c s R e => e.2.elim⟩⟩
theorem genX_ok {x qual : Str} {st : Stmt} {f : Addr} {fd : FuncData} {N ps : List Str} {k : Nat} {m : Bool} {C : Ct} (Fn : L2.Fun K x qual st f fd) (S : FnScope N ps (defScope st)) (hl : ∀ as Qd Qx, C as Qd Qx → as.length = ps.length)
    (hbody : ∀ (cdv : Value) (A : Around) (outer : List Env) (s : Shared) (H : Hp) (E : XK), Room k (A.deeper (envOfC qual (defScope st) s.heap.objs.size f cdv)) →
      ∃ t, PSs (cxOf (L2.CX P w) P w K mg base N qual (defScope st) f cdv A outer s H E) (defBody st) t ∧ ∃ d, SS K (fun cls d _ H => E cls d H) t d ∧ ∀ as Qd Qx, C as Qd Qx → ∃ ss, Paired adSl ss as ∧ d (GEnds as Qd Qx) (startG N ss)) : FnOk P w K mg base (L2.CX P w) (k + 1) f fd ps (GSp K m C) := by
  refine Fn.okX S (fun vs H Q E h => ?_) (fun cdv A outer s H vs Q E hr h => ?_)
  · obtain ⟨as, ft, X, Qd, Qx, h1, h2, _⟩ := h
    rw [h1.len]
    exact hl as Qd Qx h2
  · obtain ⟨as, ft, X, Qd, Qx, h1, h2, q, qx⟩ := h
    obtain ⟨t, ht, d, hs, hd⟩ := hbody cdv A outer s H E hr
    obtain ⟨ss, hss, hd⟩ := hd as Qd Qx h2
    exact ⟨t, ht, hs.run (FG h1) (WG H as ft) (start N vs) (startG N ss) _ _ (rel_startA h1 hss) hd (gen_link h1 q qx)⟩
end
end Dk

namespace Dk
open PySem PySem.Spec PyProof.Rows L2
/-! ### calls by contract: the caller's side -/
/-- an object as an argument; m: it may be changed -/
def odAd (m : Bool) : OD → AD
  | .lst ds => .d (.list ds) false
  | .ins C fs => if m = true then .rf (.ins C fs) else .ro (.ins C fs)
  | o => .rf o
def adOf (m : Bool) (Γ : G) : RV → Option AD
  | .sh d => some (.d d true)
  | .ar d => some (.d d (tupO d))
  | .own i => match Γ[i]? with
    | some (.ow o) => some (odAd m o)
    | some (.rf o) => some (odAd m o)
    | some (.ro o) => some (.ro o)
    | some (.sh d) => some (.d d true)
    | _ => none
  | .fld i path => match Γ[i]? with
    | some s => s.ins?.bind fun o => match o.at_ path with
      | some (.lst ds) => if m = true then none else some (.d (.list ds) false)
      | some (.ins C fs) => if m = true then none else some (.ro (.ins C fs))
      | _ => none
    | _ => none
def adsOf (m : Bool) (Γ : G) : List RV → Option (List AD)
  | [] => some []
  | x :: xs => match adOf m Γ x, adsOf m Γ xs with
    | some a, some as => some (a :: as)
    | _, _ => none
def isRf : AD → Bool
  | .rf _ => true
  | _ => false
/-- the names whose objects may be changed, with the places of the arguments -/
def rfIx : List RV → List AD → Nat → List (Nat × Nat)
  | .own i :: xs, .rf _ :: as, j => (i, j) :: rfIx xs as (j + 1)
  | _ :: xs, _ :: as, j => rfIx xs as (j + 1)
  | _, _, _ => []
def putOs (os : Nat → OD) : List (Nat × Nat) → G → G
  | [], Γ => Γ
  | (i, j) :: r, Γ => putOs os r (Γ.set i (setOwn (Γ.getD i .no) (os j)))
def putOL : List OD → List (Nat × Nat) → G → G
  | o :: ol, (i, _) :: r, Γ => putOL ol r (Γ.set i (setOwn (Γ.getD i .no) o))
  | _, _, Γ => Γ
theorem putOL_os (os : Nat → OD) : ∀ (ix : List (Nat × Nat)) (Γ : G), putOL (ix.map fun q => os q.2) ix Γ = putOs os ix Γ
  | [], _ => rfl
  | (i, j) :: r, Γ => putOL_os os r _
def distB : List (Nat × Nat) → Bool
  | [] => true
  | (i, _) :: r => r.all (fun q => q.1 != i) && distB r
def isOw : Option Sl → Bool
  | some (.ow _) => true
  | _ => false
def isRfS : Option Sl → Bool
  | some (.rf _) => true
  | _ => false
def uniB (Γ : G) (ix : List (Nat × Nat)) : Bool := ix.all (fun q => isOw Γ[q.1]?) || ix.all (fun q => isRfS Γ[q.1]?)
def ixM (os : Nat → OD) (ft : Nat → List Addr) (ix : List (Nat × Nat)) : Chg := fun i => (ix.find? fun q => q.1 == i).map fun q => (os q.2, ft q.2)
theorem ixM_some {os : Nat → OD} {ft : Nat → List Addr} {ix : List (Nat × Nat)} {i : Nat} {n : OD × List Addr} (h : ixM os ft ix i = some n) : ∃ j, (i, j) ∈ ix ∧ n = (os j, ft j) := by
  obtain ⟨q, h1, h2⟩ := Option.map_eq_some_iff.mp h
  have h3 := List.find?_some h1
  have h4 := List.mem_of_find?_eq_some h1
  simp only [beq_iff_eq] at h3
  subst h3
  exact ⟨q.2, h4, h2.symm⟩
theorem ixM_mem {os : Nat → OD} {ft : Nat → List Addr} : ∀ {ix : List (Nat × Nat)} {i j : Nat}, distB ix = true → (i, j) ∈ ix → ixM os ft ix i = some (os j, ft j)
  | [], _, _, _, h => by cases h
  | (k, l) :: r, i, j, hd, h => by
    simp only [distB, Bool.and_eq_true] at hd
    by_cases e : k = i
    · subst e
      rcases List.mem_cons.mp h with h | h
      · cases h
        simp [ixM, List.find?_cons]
      · have := List.all_eq_true.mp hd.1 _ h
        simp at this
    · have h' : (i, j) ∈ r := (List.mem_cons.mp h).resolve_left fun z => e (by cases z; rfl)
      have := ixM_mem (os := os) (ft := ft) hd.2 h'
      simp only [ixM, List.find?_cons] at this ⊢
      rw [show ((k, l).1 == i) = false from beq_false_of_ne e]
      exact this
theorem putOs_len (os : Nat → OD) : ∀ (ix : List (Nat × Nat)) (Γ : G), (putOs os ix Γ).length = Γ.length
  | [], _ => rfl
  | (i, j) :: r, Γ => by simp [putOs, putOs_len os r]
theorem putOs_get (os : Nat → OD) (ft : Nat → List Addr) : ∀ {ix : List (Nat × Nat)} (Γ : G), distB ix = true → ∀ i : Nat, (putOs os ix Γ)[i]? = match ixM os ft ix i with
    | some n => Γ[i]?.map fun s => setOwn s n.1
    | none => Γ[i]?
  | [], Γ, _, i => rfl
  | (k, l) :: r, Γ, hd, i => by
    have hd' := hd
    simp only [distB, Bool.and_eq_true] at hd
    rw [putOs, putOs_get os ft _ hd.2 i]
    by_cases e : k = i
    · subst e
      have e1 : ixM os ft ((k, l) :: r) k = some (os l, ft l) := ixM_mem hd' (by simp)
      have e2 : ixM os ft r k = none := by
        cases q : ixM os ft r k with
        | none => rfl
        | some n =>
          obtain ⟨j, hj, _⟩ := ixM_some q
          have := List.all_eq_true.mp hd.1 _ hj
          simp at this
      rw [e1, e2]
      simp only
      cases q : Γ[k]? with
      | none =>
        rw [List.getElem?_eq_none (by rw [List.length_set]; exact List.getElem?_eq_none_iff.mp q)]
        rfl
      | some s =>
        rw [List.getElem?_set_self (lt_of_get q), getD_of q]
        rfl
    · have e1 : ixM os ft ((k, l) :: r) i = ixM os ft r i := by
        simp only [ixM, List.find?_cons]
        rw [show ((k, l).1 == i) = false from beq_false_of_ne e]
      rw [e1, List.getElem?_set_ne e]
theorem putOs_ch {os : Nat → OD} {ft : Nat → List Addr} {ix : List (Nat × Nat)} {Γ : G} (hd : distB ix = true) : chG Γ (ixM os ft ix) = putOs os ix Γ := by
  apply List.ext_getElem?
  intro i
  rw [putOs_get os ft Γ hd i, chG, List.getElem?_mapIdx]
  cases q : ixM os ft ix i with
  | none => simp [q]
  | some n => simp [q]
theorem rfIx_mem : ∀ {xs : List RV} {as : List AD} {j i k : Nat}, (i, k) ∈ rfIx xs as j → ∃ n o, k = j + n ∧ xs[n]? = some (.own i) ∧ as[n]? = some (.rf o)
  | [], _, _, _, _, h => by simp [rfIx] at h
  | _ :: _, [], _, _, _, h => by simp [rfIx] at h
  | .own i0 :: xs, .rf o0 :: as, j, i, k, h => by
    simp only [rfIx] at h
    rcases List.mem_cons.mp h with h | h
    · cases h
      exact ⟨0, o0, rfl, rfl, rfl⟩
    · obtain ⟨n, o, h1, h2, h3⟩ := rfIx_mem h
      exact ⟨n + 1, o, by omega, by simpa using h2, by simpa using h3⟩
  | .own i0 :: xs, .d _ _ :: as, j, i, k, h => by
    simp only [rfIx] at h
    obtain ⟨n, o, h1, h2, h3⟩ := rfIx_mem h
    exact ⟨n + 1, o, by omega, by simpa using h2, by simpa using h3⟩
  | .own i0 :: xs, .ro _ :: as, j, i, k, h => by
    simp only [rfIx] at h
    obtain ⟨n, o, h1, h2, h3⟩ := rfIx_mem h
    exact ⟨n + 1, o, by omega, by simpa using h2, by simpa using h3⟩
  | .sh _ :: xs, _ :: as, j, i, k, h => by
    simp only [rfIx] at h
    obtain ⟨n, o, h1, h2, h3⟩ := rfIx_mem h
    exact ⟨n + 1, o, by omega, by simpa using h2, by simpa using h3⟩
  | .ar _ :: xs, _ :: as, j, i, k, h => by
    simp only [rfIx] at h
    obtain ⟨n, o, h1, h2, h3⟩ := rfIx_mem h
    exact ⟨n + 1, o, by omega, by simpa using h2, by simpa using h3⟩
  | .fld _ _ :: xs, _ :: as, j, i, k, h => by
    simp only [rfIx] at h
    obtain ⟨n, o, h1, h2, h3⟩ := rfIx_mem h
    exact ⟨n + 1, o, by omega, by simpa using h2, by simpa using h3⟩
theorem rfIx_of : ∀ {xs : List RV} {as : List AD} {j n i : Nat} {o : OD}, xs[n]? = some (.own i) → as[n]? = some (.rf o) → (i, j + n) ∈ rfIx xs as j
  | [], _, _, _, _, _, h, _ => by simp at h
  | _ :: _, [], _, _, _, _, _, h => by simp at h
  | x :: xs, a :: as, j, 0, i, o, h1, h2 => by
    simp at h1 h2
    subst h1
    subst h2
    simp [rfIx]
  | x :: xs, a :: as, j, n + 1, i, o, h1, h2 => by
    have := rfIx_of (j := j + 1) (n := n) (i := i) (o := o) (by simpa using h1) (by simpa using h2)
    rw [show j + (n + 1) = j + 1 + n by omega]
    cases x with
    | own i0 => cases a <;> simp [rfIx, this]
    | _ => simp [rfIx, this]
theorem adsOf_get {m : Bool} {Γ : G} : ∀ {xs : List RV} {as : List AD}, adsOf m Γ xs = some as → xs.length = as.length ∧ ∀ (j : Nat) (a : AD), as[j]? = some a → ∃ x, xs[j]? = some x ∧ adOf m Γ x = some a
  | [], as, h => by
    simp only [adsOf] at h
    cases h
    exact ⟨rfl, fun j a e => by simp at e⟩
  | x :: xs, as, h => by
    simp only [adsOf] at h
    split at h
    · rename_i a as' h1 h2
      cases h
      obtain ⟨g1, g2⟩ := adsOf_get h2
      refine ⟨by simp [g1], fun j b e => ?_⟩
      cases j with
      | zero => simp at e; subst e; exact ⟨x, rfl, h1⟩
      | succ j => simpa using g2 j b (by simpa using e)
    · cases h
section
variable {K : Fg} {F : Fx K} {W : Wd} {σ : L2.St} {Γ : G}
/-- the object of an argument that may be changed -/
theorem adOf_rf {m : Bool} {x : RV} {o : OD} (h : adOf m Γ x = some (.rf o)) : ∃ i s, x = .own i ∧ Γ[i]? = some s ∧ s.own? = some o ∧ (∀ ds, o ≠ .lst ds) ∧ (m = false → o.isIns = false) := by
  have key : ∀ {o' : OD}, odAd m o' = .rf o → o' = o ∧ (∀ ds, o ≠ .lst ds) ∧ (m = false → o.isIns = false) := fun {o'} e => by
    cases o' with
    | lst ds => cases e
    | ins C fs =>
      simp only [odAd] at e
      split at e
      · rename_i z
        cases e
        exact ⟨rfl, (fun ds w => nomatch w), fun w => by rw [z] at w; cases w⟩
      · cases e
    | dK _ => cases e; exact ⟨rfl, (fun ds w => nomatch w), fun _ => rfl⟩
    | dT _ => cases e; exact ⟨rfl, (fun ds w => nomatch w), fun _ => rfl⟩
    | ab _ => cases e; exact ⟨rfl, (fun ds w => nomatch w), fun _ => rfl⟩
  cases x with
  | sh d => cases h
  | ar d => cases h
  | own i =>
    simp only [adOf] at h
    split at h
    · rename_i o' e
      obtain ⟨rfl, b, c⟩ := key (Option.some.inj h)
      exact ⟨i, _, rfl, e, rfl, b, c⟩
    · rename_i o' e
      obtain ⟨rfl, b, c⟩ := key (Option.some.inj h)
      exact ⟨i, _, rfl, e, rfl, b, c⟩
    · cases h
    · cases h
    · cases h
  | fld i path =>
    simp only [adOf] at h
    split at h
    · obtain ⟨o2, _, e⟩ := Option.bind_eq_some_iff.mp h
      split at e
      · split at e <;> cases e
      · split at e <;> cases e
      · cases e
    · cases h
theorem less_S : less W.H (Ex F W.O) = W.S F := rfl
/-- arguments, as a contract wants them -/
theorem gIn_of {m : Bool} {vs : List V} {xs : List RV} {as : List AD} (R : Rel F W σ Γ) (o : VOks F W σ Γ vs xs) (ha : adsOf m Γ xs = some as) (hd : distB (rfIx xs as 0) = true) :
    ∃ ft : Nat → List Addr, GIn K m vs W.H as ft (Ex F W.O) ∧ ∀ i j, (i, j) ∈ rfIx xs as 0 → ft j = W.ft i := by
  obtain ⟨hl, hg⟩ := adsOf_get ha
  let ft : Nat → List Addr := fun j => match xs[j]? with
    | some (.own i) => W.ft i
    | _ => []
  have ftE : ∀ {i j : Nat}, xs[j]? = some (.own i) → ft j = W.ft i := fun {i j} e => by show (match xs[j]? with | some (.own i) => W.ft i | _ => []) = _; rw [e]
  have rfO : ∀ a, Rfs as ft a → ∃ (i j : Nat) (s : Sl) (o : OD), xs[j]? = some (RV.own i) ∧ as[j]? = some (AD.rf o) ∧ Γ[i]? = some s ∧ s.own? = some o ∧ (∀ ds, o ≠ .lst ds) ∧ (m = false → o.isIns = false) ∧ a ∈ W.ft i ∧ W.O a := fun a ⟨j, o1, e, hj⟩ => by
    obtain ⟨x, e1, e2⟩ := hg j _ e
    obtain ⟨i, s, rfl, b1, b2, b3, b4⟩ := adOf_rf e2
    rw [ftE e1] at hj
    exact ⟨i, j, s, o1, e1, e, b1, b2, b3, b4, hj, slot_O (R.slot i s b1) b2 a hj⟩
  refine ⟨ft, ⟨(Paired.length o).trans hl, fun j a e => ?_, fun a z => R.exmo z, fun a z => by obtain ⟨_, _, _, _, _, _, _, _, _, _, _, q⟩ := rfO a z; exact .inr q, fun i j o1 o2 a ne e1 e2 h1 h2 => ?_⟩, fun i j h => ?_⟩
  · obtain ⟨x, e1, e2⟩ := hg j a e
    obtain ⟨v, e3, ov⟩ := paired_get' o e1
    refine ⟨v, e3, ?_⟩
    have apO : ∀ {i : Nat} {s : Sl} {o0 : OD} {b : Addr}, Γ[i]? = some s → s.own? = some o0 → ((∃ ds, o0 = .lst ds) ∨ (m = false ∧ o0.isIns = true)) → b ∈ W.ft i → ¬ Rfs as ft b := fun {i s o0 b} h1 h2 hk hb z => by
      obtain ⟨i', j', s', o', _, _, c3, c4, c5, c6, c7, _⟩ := rfO b z
      by_cases q : i = i'
      · subst q
        rw [h1] at c3
        cases c3
        rw [h2] at c4
        cases c4
        rcases hk with ⟨ds, hk⟩ | ⟨hk, hk2⟩
        · exact c5 ds hk
        · rw [c6 hk] at hk2; cases hk2
      · exact R.dis i i' s s' o0 o' b q h1 c3 h2 c4 hb c7
    have roS : ∀ {i : Nat} {s : Sl} {o0 : OD} {p : Addr}, m = false ∨ (∃ o1, s = .ro o1) → Γ[i]? = some s → s.ins? = some o0 → σ[i]? = some (some (.ref p)) → ∃ g, (∀ b ∈ g, ¬ Rfs as ft b ∧ Ex F W.O b) ∧ OwnO K (W.S F) W.H o0 p g := fun {i s o0 p} hm h1 h2 h3 => by
      obtain ⟨p', f, g1, g2, g3, g4⟩ := R.insOkX h1 h2
      rw [h3] at g1
      cases g1
      refine ⟨f, fun b hb => ⟨fun z => ?_, g4 b hb⟩, g2⟩
      obtain ⟨_, _, _, _, _, _, _, _, _, _, _, q⟩ := rfO b z
      obtain ⟨w1, w2⟩ := g3 b hb q
      rcases hm with hm | ⟨o1, hm⟩
      · refine apO h1 w2 (.inr ⟨hm, ?_⟩) w1 z
        cases s with
        | ow q => cases (insO_eq h2).1; exact (insO_eq h2).2
        | rf q => cases (insO_eq h2).1; exact (insO_eq h2).2
        | _ => cases w2
      · rw [hm] at w2
        cases w2
    cases x with
    | sh d => cases e2; exact ov
    | ar d =>
      simp only [adOf, Option.some.injEq] at e2
      subst e2
      cases t : tupO d with
      | true => exact VOk.sh R ov (by simp [shOf, t])
      | false =>
        refine Dq.same (same_less fun b u nx e => ⟨fun z => ?_, R.base b u e nx⟩) (show Dq K (less F.H0 F.rf) v d from ov)
        obtain ⟨_, _, _, _, _, _, _, _, _, _, _, q⟩ := rfO b z
        rcases R.new b q with w | w
        · rw [w] at e; cases e
        · exact nx w
    | own i =>
      obtain ⟨s, h1, h2, h3⟩ := ov
      have lst : ∀ {o0 : OD}, s.own? = some o0 → a = odAd m o0 → ArgOk K W.H (Ex F W.O) (Rfs as ft) (ft j) v a := fun {o0} hs ea => by
        obtain ⟨p, hp⟩ := own_ref R h1 hs
        rw [h3] at hp
        cases hp
        have ok := own_at R h1 hs h3
        have rfc : a = .rf o0 → ArgOk K W.H (Ex F W.O) (Rfs as ft) (ft j) (.ref p) a := fun ea => by
          subst ea
          refine ⟨p, rfl, ?_⟩
          rw [ftE e1]
          exact ownO_ok.mpr ok
        cases o0 with
        | lst ds =>
          subst ea
          obtain ⟨hf, us, q1, q2⟩ := ok
          refine .lst (less_some.mpr ⟨apO h1 hs (.inl ⟨ds, rfl⟩) (by rw [hf]; simp), q1⟩) (q2.same (same_less fun b u nx e => ⟨fun z => ?_, e⟩))
          obtain ⟨_, _, _, _, _, _, _, _, _, _, _, q⟩ := rfO b z
          exact nx (.inr q)
        | dK _ => exact rfc ea
        | dT _ => exact rfc ea
        | ab _ => exact rfc ea
        | ins C fs =>
          simp only [odAd] at ea
          split at ea
          · exact rfc ea
          · rename_i nm
            subst ea
            have hi : s.ins? = some (.ins C fs) := by
              cases s with
              | ow q => cases hs; rfl
              | rf q => cases hs; rfl
              | _ => cases hs
            obtain ⟨g, g1, g2⟩ := roS (.inl (by cases m <;> first | rfl | exact (nm rfl).elim)) h1 hi h3
            exact ⟨rfl, p, g, rfl, g1, g2⟩
      simp only [adOf, h1] at e2
      cases s with
      | no => cases e2
      | ar _ => cases e2
      | sh d =>
        cases e2
        obtain ⟨v', q1, q2⟩ := R.slot i _ h1
        rw [h3] at q1
        cases q1
        exact q2
      | ow o0 => exact lst rfl (Option.some.inj e2).symm
      | rf o0 => exact lst rfl (Option.some.inj e2).symm
      | ro o0 =>
        cases e2
        obtain ⟨p, f, q1, q2, q3, _⟩ := R.slot i _ h1
        rw [h3] at q1
        cases q1
        obtain ⟨g, g1, g2⟩ := roS (o0 := o0) (.inr ⟨o0, rfl⟩) h1 (by simp [Sl.ins?, insO, q3]) h3
        exact ⟨q3, p, g, rfl, g1, g2⟩
    | fld i path =>
      obtain ⟨s, p, o2, h1, h2, h3, h4⟩ := ov
      simp only [adOf, h1, h2, Option.bind_some] at e2
      obtain ⟨p', f, g1, g2, g3, g4⟩ := R.insOkX h1 h2
      rw [h3] at g1
      cases g1
      have away : m = false → ∀ b ∈ f, ¬ Rfs as ft b := fun hm b hb z => by
        obtain ⟨i', j', s', o', c1, c2, c3, c4, c5, c6, c7, c8⟩ := rfO b z
        obtain ⟨w1, w2⟩ := g3 b hb c8
        refine apO h1 w2 (.inr ⟨hm, ?_⟩) w1 z
        cases s with
        | ow q => cases (insO_eq h2).1; exact (insO_eq h2).2
        | rf q => cases (insO_eq h2).1; exact (insO_eq h2).2
        | _ => cases w2
      have mF : ¬ m = true → m = false := fun nm => by cases m <;> first | rfl | exact (nm rfl).elim
      split at e2
      · rename_i ds e4
        split at e2
        · cases e2
        rename_i nm
        cases e2
        obtain ⟨q, F', rfl, hF, hO⟩ := g2.path e4 h4
        simp only [OwnO] at hO
        obtain ⟨rfl, us, q1, q2⟩ := hO
        refine .lst (less_some.mpr ⟨away (mF nm) q (hF q (by simp)), q1⟩) (q2.same (same_less fun b u nx e => ⟨fun z => ?_, e⟩))
        obtain ⟨_, _, _, _, _, _, _, _, _, _, _, q⟩ := rfO b z
        exact nx (.inr q)
      · rename_i C fs e4
        split at e2
        · cases e2
        rename_i nm
        cases e2
        obtain ⟨q, F', rfl, hF, hO⟩ := g2.path e4 h4
        exact ⟨rfl, q, F', rfl, fun b hb => ⟨away (mF nm) b (hF b hb), g4 b (hF b hb)⟩, hO⟩
      · cases e2
  · obtain ⟨x1, c1, c2⟩ := hg i _ e1
    obtain ⟨x2, d1, d2⟩ := hg j _ e2
    obtain ⟨i1, s1, rfl, b1, b2, _⟩ := adOf_rf c2
    obtain ⟨i2, s2, rfl, b3, b4, _⟩ := adOf_rf d2
    rw [ftE c1] at h1
    rw [ftE d1] at h2
    have ne2 : i1 ≠ i2 := fun z => by
      subst z
      have m1 := rfIx_of (j := 0) c1 e1
      have m2 := rfIx_of (j := 0) d1 e2
      have a1 := ixM_mem (os := fun j => .lst [.int j]) (ft := fun _ => []) hd m1
      have a2 := ixM_mem (os := fun j => .lst [.int j]) (ft := fun _ => []) hd m2
      rw [a1] at a2
      simp at a2
      omega
    exact R.dis i1 i2 s1 s2 _ _ a ne2 b1 b3 b2 b4 h1 h2
  · obtain ⟨n, o1, rfl, h1, h2⟩ := rfIx_mem h
    rw [Nat.zero_add]
    exact ftE h1
/-- an answer, where it stands; what is new was nobody's ahead of it -/
def RtOk {K : Fg} (F : Fx K) (W0 : Wd) (Γ0 : G) (W : Wd) (Γ : G) (v : V) : RT → Prop
  | .d d => Dq K (W.S F) v d
  | .nw o => ∃ p f, v = .ref p ∧ OwnO K (W.S F) W.H o p f ∧ ∀ a ∈ f, (Tm W Γ a ∧ F.H0 a = none ∧ ¬ F.rf a) ∧ ¬ Tm W0 Γ0 a
theorem ixM_rf {m : Bool} {vs : List V} {xs : List RV} {as : List AD} {os : Nat → OD} {ft : Nat → List Addr} {i : Nat} {n : OD × List Addr} (h : ixM os ft (rfIx xs as 0) i = some n) : ∃ j o, n = (os j, ft j) ∧ (i, j) ∈ rfIx xs as 0 ∧ xs[j]? = some (.own i) ∧ as[j]? = some (AD.rf o) := by
  obtain ⟨j, h1, h2⟩ := ixM_some h
  obtain ⟨k, o, rfl, h3, h4⟩ := rfIx_mem h1
  rw [Nat.zero_add] at h1 h2
  exact ⟨k, o, h2, h1, h3, h4⟩
theorem osL_ix (os : Nat → OD) : ∀ {xs : List RV} {as : List AD} {j : Nat}, xs.length = as.length → (∀ (n : Nat) (o : OD), as[n]? = some (.rf o) → ∃ i, xs[n]? = some (.own i)) → osL os as j = (rfIx xs as j).map fun q => os q.2
  | [], [], _, _, _ => rfl
  | [], _ :: _, _, h, _ => by simp at h
  | _ :: _, [], _, h, _ => by simp at h
  | x :: xs, a :: as, j, h, hr => by
    have ih := osL_ix os (xs := xs) (as := as) (j := j + 1) (by simpa using h) fun n o e => by simpa using hr (n + 1) o (by simpa using e)
    cases a with
    | rf o =>
      obtain ⟨i, e⟩ := hr 0 o rfl
      simp at e
      subst e
      simp only [osL, rfIx, List.map_cons, ih]
    | d d z => cases x <;> simp only [osL, rfIx, ih]
    | ro o => cases x <;> simp only [osL, rfIx, ih]
theorem callG {m : Bool} {C : Ct} {vs : List V} {xs : List RV} {as : List AD} {Q : VK} {E : XK} {Qd : RT → List OD → Prop} {Qx : Value → List OD → Prop} (R : Rel F W σ Γ) (o : VOks F W σ Γ vs xs) (ha : adsOf m Γ xs = some as) (hd : distB (rfIx xs as 0) = true) (hu : uniB Γ (rfIx xs as 0) = true) (hc : C as Qd Qx)
    (kd : ∀ (r : RT) (ol : List OD) (W' : Wd) (v : V), StM m F W Γ W' (putOL ol (rfIx xs as 0) Γ) → Rel F W' σ (putOL ol (rfIx xs as 0) Γ) → RtOk F W Γ W' (putOL ol (rfIx xs as 0) Γ) v r → Qd r ol → Q v W'.H)
    (kx : ∀ (c : Value) (ol : List OD) (W' : Wd), StM m F W Γ W' (putOL ol (rfIx xs as 0) Γ) → Rel F W' σ (putOL ol (rfIx xs as 0) Γ) → Qx c ol → E c none W'.H) : GSp K m C vs W.H Q E := by
  obtain ⟨ft, hin, hft⟩ := gIn_of R o ha hd
  obtain ⟨hl, hg⟩ := adsOf_get ha
  have eL : ∀ os : Nat → OD, putOL (osL os as 0) (rfIx xs as 0) Γ = putOs os (rfIx xs as 0) Γ := fun os => by
    rw [osL_ix os hl fun n o e => by
      obtain ⟨x, e1, e2⟩ := hg n _ e
      obtain ⟨i, s, rfl, _⟩ := adOf_rf e2
      exact ⟨i, e1⟩, putOL_os]
  have fin : ∀ {H' : Hp} {os : Nat → OD} {ft' : Nat → List Addr} {T : Addr → Prop}, GOut K vs W.H as ft (Ex F W.O) H' os ft' T →
      ChOk F W σ Γ (ixM os ft' (rfIx xs as 0)) H' T ∧ ∀ a, (Ex F W.O a ∨ Rfs as ft' a ∨ T a) ↔ Ex F (chW W (ixM os ft' (rfIx xs as 0)) H' T).O a := fun {H' os ft' T} g => by
    have rN : ∀ a, Rfs as ft' a ↔ chN (ixM os ft' (rfIx xs as 0)) a := fun a => by
      constructor
      · rintro ⟨j, o1, e, hj⟩
        obtain ⟨x, e1, e2⟩ := hg j _ e
        obtain ⟨i, s, rfl, _⟩ := adOf_rf e2
        have := rfIx_of (j := 0) e1 e
        rw [Nat.zero_add] at this
        exact ⟨i, _, _, ixM_mem hd this, hj⟩
      · rintro ⟨i, o1, f1, e, hj⟩
        obtain ⟨j, o2, e1, e2, e3, e4⟩ := ixM_rf (m := m) (vs := vs) e
        cases e1
        exact ⟨j, o2, e4, hj⟩
    have rR : ∀ a, Rfs as ft a ↔ chR W (ixM os ft' (rfIx xs as 0)) a := fun a => by
      constructor
      · rintro ⟨j, o1, e, hj⟩
        obtain ⟨x, e1, e2⟩ := hg j _ e
        obtain ⟨i, s, rfl, _⟩ := adOf_rf e2
        have := rfIx_of (j := 0) e1 e
        rw [Nat.zero_add] at this
        exact ⟨i, _, ixM_mem hd this, by rw [← hft i j this]; exact hj⟩
      · rintro ⟨i, n, e, hj⟩
        obtain ⟨j, o2, e1, e2, e3, e4⟩ := ixM_rf (m := m) (vs := vs) e
        exact ⟨j, o2, e4, by rw [hft i j e2]; exact hj⟩
    have eX : ∀ a, (Ex F W.O a ∨ Rfs as ft' a ∨ T a) ↔ Ex F (chW W (ixM os ft' (rfIx xs as 0)) H' T).O a := fun a => by
      show ((F.ex a ∨ W.O a) ∨ Rfs as ft' a ∨ T a) ↔ (F.ex a ∨ (W.O a ∨ chN (ixM os ft' (rfIx xs as 0)) a ∨ T a))
      rw [rN a]
      constructor
      · rintro ((z | z) | z | z)
        · exact .inl z
        · exact .inr (.inl z)
        · exact .inr (.inr (.inl z))
        · exact .inr (.inr (.inr z))
      · rintro (z | z | z | z)
        · exact .inl (.inl z)
        · exact .inl (.inr z)
        · exact .inr (.inl z)
        · exact .inr (.inr z)
    have kind : ∀ (f : Option Sl → Bool), (rfIx xs as 0).all (fun q => f Γ[q.1]?) = true → ∀ i n s, ixM os ft' (rfIx xs as 0) i = some n → Γ[i]? = some s → f (some s) = true := fun f ha i n s e h1 => by
      obtain ⟨j, o2, e1, e2, e3, e4⟩ := ixM_rf (m := m) (vs := vs) e
      have := List.all_eq_true.mp ha _ e2
      rw [show Γ[(i, j).1]? = some s from h1] at this
      exact this
    refine ⟨⟨fun a u n e => g.fr a u (fun z => n ((rR a).mp z)) e, fun a z => ?_, fun a z => ?_, fun i n e => ?_, fun i k n n2 a ne e1 e2 h1 h2 => ?_, fun a z => ⟨(g.tn a z).1, fun y => (g.tn a z).2.1 ((rN a).mpr y), (g.tn a z).2.2⟩, ?_⟩, eX⟩
    · exact (g.nw a ((rN a).mpr z)).imp (rR a).mp id
    · rcases z with z | z
      · exact g.mo a ((rR a).mpr z)
      · obtain ⟨j, o1, e, hj⟩ := (rN a).mpr z
        obtain ⟨p, _, q, _⟩ := g.ob j o1 e
        exact q.mo a hj
    · obtain ⟨j, o2, rfl, e2, e3, e4⟩ := ixM_rf (m := m) (vs := vs) e
      obtain ⟨x, c1, c2⟩ := hg j _ e4
      rw [e3] at c1
      cases c1
      obtain ⟨i', s, z, b1, b2, b3, b4⟩ := adOf_rf c2
      cases z
      obtain ⟨p, q1, q2, q3, q4⟩ := g.ob j o2 e4
      obtain ⟨v, w1, w2⟩ := paired_get' o e3
      rw [q1] at w1
      cases w1
      obtain ⟨_, _, _, w3⟩ := w2
      refine ⟨s, o2, p, b1, b2, w3, ?_, fun z => ?_, q3⟩
      · exact OwnO.keep (same_less fun a u nx e => ⟨fun z => nx ((eX a).mpr z), e⟩) (fun _ _ _ e => e) q2 fun _ _ => rfl
      · rw [← hft i j e2]
        exact q4 (by rw [← q3]; exact z)
    · obtain ⟨j, o2, rfl, b2, b3, b4⟩ := ixM_rf (m := m) (vs := vs) e1
      obtain ⟨l, o3, rfl, d2, d3, d4⟩ := ixM_rf (m := m) (vs := vs) e2
      have njl : j ≠ l := fun z => by
        subst z
        rw [b3] at d3
        cases d3
        exact ne rfl
      exact g.dj j l o2 o3 a njl b4 d4 h1 h2
    · simp only [uniB, Bool.or_eq_true] at hu
      rcases hu with hu | hu
      · left
        intro i n s e h1
        have := kind isOw hu i n s e h1
        cases s <;> first | exact ⟨_, rfl⟩ | cases this
      · right
        intro i n s e h1
        have := kind isRfS hu i n s e h1
        cases s <;> first | exact ⟨_, rfl⟩ | cases this
  have stm : ∀ {H' : Hp} {os : Nat → OD} {ft' : Nat → List Addr} {T : Addr → Prop}, GOut K vs W.H as ft (Ex F W.O) H' os ft' T → ChOk F W σ Γ (ixM os ft' (rfIx xs as 0)) H' T → StM m F W Γ (chW W (ixM os ft' (rfIx xs as 0)) H' T) (putOs os (rfIx xs as 0) Γ) := fun {H' os ft' T} g c => by
    rw [← putOs_ch (ft := ft') hd]
    refine R.objsM c (fun hm i n e => ?_) fun hm a ⟨i, n, e, hj⟩ => ?_
    · obtain ⟨j, o2, rfl, e2, e3, e4⟩ := ixM_rf (m := m) (vs := vs) e
      obtain ⟨x, c1, c2⟩ := hg j _ e4
      obtain ⟨_, _, _, _, _, _, b4⟩ := adOf_rf c2
      obtain ⟨p, q1, q2, q3, q4⟩ := g.ob j o2 e4
      rw [show (os j, ft' j).1 = os j from rfl, q3]
      exact b4 hm
    · obtain ⟨j, o2, rfl, e2, e3, e4⟩ := ixM_rf (m := m) (vs := vs) e
      obtain ⟨x, c1, c2⟩ := hg j _ e4
      rw [e3] at c1
      cases c1
      obtain ⟨i', s, z, b1, b2, b3, b4⟩ := adOf_rf c2
      cases z
      obtain ⟨p, hp⟩ := own_ref R b1 b2
      exact OwnO.notIns (ownO_ok.mpr (own_at R b1 b2 hp)) (b4 hm) a hj
  refine ⟨as, ft, Ex F W.O, Qd, Qx, hin, hc, fun v H' os ft' T r g ok q => ?_, fun c H' os ft' g q => ?_⟩
  · obtain ⟨c, eX⟩ := fin g
    have R2 := (R.objs c).1
    rw [putOs_ch hd] at R2
    refine kd r (osL os as 0) _ v (by rw [eL]; exact stm g c) (by rw [eL]; exact R2) ?_ q
    rw [eL]
    have sS : Same (less H' fun a => Ex F W.O a ∨ Rfs as ft' a ∨ T a) ((chW W (ixM os ft' (rfIx xs as 0)) H' T).S F) := same_less fun a u nx e => ⟨fun z => nx ((eX a).mpr z), e⟩
    cases r with
    | d d => exact ok.1.same sS
    | nw o1 =>
      obtain ⟨p, f, rfl, q1, q2⟩ := ok
      refine ⟨p, f, rfl, OwnO.keep sS (fun _ _ _ e => e) q1 fun _ _ => rfl, fun a ha => ?_⟩
      have := c.tm R ((q2 a).mpr ha)
      rw [putOs_ch hd] at this
      refine ⟨this, fun z => ?_⟩
      have m := R.mu a z.1
      rw [(c.tn a ((q2 a).mpr ha)).1] at m
      exact m
  · obtain ⟨ch, eX⟩ := fin g
    have R2 := (R.objs ch).1
    rw [putOs_ch hd] at R2
    exact kx c (osL os as 0) _ (by rw [eL]; exact stm g ch) (by rw [eL]; exact R2) q
end
end Dk

namespace Dk
open PySem PySem.Spec PyProof.Rows L2
/-! ### expressions that may raise, and change instances -/
abbrev TEXd := G → (RV → G → Prop) → (Value → G → Prop) → Prop
abbrev TAXd := G → (List RV → G → Prop) → (Value → G → Prop) → Prop
abbrev TGCd := G → (RT → G → Prop) → (Value → G → Prop) → Prop
class SEX (K : Fg) (Xw : WX) (m : outParam Bool) (t : TE) (d : outParam TEXd) : Prop where
  run : ∀ (F : Fx K) (W : Wd) (σ : L2.St) (Γ : G) (Q : VK) (Qd : RV → G → Prop) (Qx : Value → G → Prop), Rel F W σ Γ → d Γ Qd Qx →
    (∀ (rv : RV) (W' : Wd) (Γ' : G) (v : V), StM m F W Γ W' Γ' → Rel F W' σ Γ' → VOk F W' σ Γ' v rv → Qd rv Γ' → Q v W'.H) →
    (∀ (c : Value) (W' : Wd) (Γ' : G), Same (W.S F) (W'.S F) → Rel F W' σ Γ' → Qx c Γ' → Xw c none σ W'.H) → t σ W.H Q
class SAX (K : Fg) (Xw : WX) (m : outParam Bool) (t : TA) (d : outParam TAXd) : Prop where
  run : ∀ (F : Fx K) (W : Wd) (σ : L2.St) (Γ : G) (Q : List V → Hp → Prop) (Qd : List RV → G → Prop) (Qx : Value → G → Prop), Rel F W σ Γ → d Γ Qd Qx →
    (∀ (xs : List RV) (W' : Wd) (Γ' : G) (vs : List V), StM m F W Γ W' Γ' → Rel F W' σ Γ' → VOks F W' σ Γ' vs xs → Qd xs Γ' → Q vs W'.H) →
    (∀ (c : Value) (W' : Wd) (Γ' : G), Same (W.S F) (W'.S F) → Rel F W' σ Γ' → Qx c Γ' → Xw c none σ W'.H) → t σ W.H Q
class SEG (K : Fg) (Xw : WX) (m : outParam Bool) (t : TE) (d : outParam TGCd) : Prop where
  run : ∀ (F : Fx K) (W : Wd) (σ : L2.St) (Γ : G) (Q : VK) (Qd : RT → G → Prop) (Qx : Value → G → Prop), Rel F W σ Γ → d Γ Qd Qx →
    (∀ (r : RT) (W' : Wd) (Γ' : G) (v : V), StM m F W Γ W' Γ' → Rel F W' σ Γ' → RtOk F W Γ W' Γ' v r → Qd r Γ' → Q v W'.H) →
    (∀ (c : Value) (W' : Wd) (Γ' : G), Same (W.S F) (W'.S F) → Rel F W' σ Γ' → Qx c Γ' → Xw c none σ W'.H) → t σ W.H Q
def dLiftE (d : TEd) : TEXd := fun Γ Q _ => d Γ Q
def dLiftA (d : TAd) : TAXd := fun Γ Q _ => d Γ Q
section
variable {K : Fg} {Xw : WX} {m m1 m2 : Bool} {t : TE} {ta : TE} {ts : TA}
instance sex_se {d : TEd} [A : SE K t d] : SEX K Xw false t (dLiftE d) := ⟨fun F W σ Γ Q Qd Qx R q k _ => A.run F W σ Γ _ _ R q fun x W' Γ' v s R' o q => k x W' Γ' v s R' o q⟩
instance (priority := high) sax_sa {d : TAd} [A : SA K ts d] : SAX K Xw false ts (dLiftA d) := ⟨fun F W σ Γ Q Qd Qx R q k _ => A.run F W σ Γ _ _ R q fun x W' Γ' v s R' o q => k x W' Γ' v s R' o q⟩
def dConsX (m2 : Bool) (da : TEXd) (d : TAXd) : TAXd := fun Γ Q X => da Γ (fun x Γ1 => stayM m2 x = true ∧ d Γ1 (fun xs Γ2 => Q (x :: xs) Γ2) X) X
instance sax_cons {da : TEXd} {d : TAXd} [A : SEX K Xw m1 ta da] [B : SAX K Xw m2 ts d] : SAX K Xw (m1 || m2) (tCons ta ts) (dConsX m2 da d) := ⟨fun F W σ Γ Q Qd Qx R q k kx => A.run F W σ Γ _ _ _ R q (fun x W1 Γ1 v s1 R1 o1 ⟨hs, q⟩ => B.run F W1 σ Γ1 _ _ _ R1 q (fun xs W2 Γ2 vs s2 R2 o2 q => k (x :: xs) W2 Γ2 (v :: vs) (s1.trans s2) R2 (.cons (o1.stm s2 hs) o2) q) fun c W2 Γ2 s2 R2 q => kx c W2 Γ2 (s1.stx.sh.trans s2) R2 q) fun c W' Γ' s R' q => kx c W' Γ' s R' q⟩
/-! new things without a name: let be, or named -/
theorem Rel.letgo {F : Fx K} {W : Wd} {σ : L2.St} {Γ : G} (R : Rel F W σ Γ) {f : List Addr} (hf : ∀ a ∈ f, Tm W Γ a ∧ F.H0 a = none ∧ ¬ F.rf a) : Rel F ⟨fun a => W.O a ∧ a ∉ f, W.ft, W.H⟩ σ Γ ∧ Same (W.S F) (Wd.S (K := K) ⟨fun a => W.O a ∧ a ∉ f, W.ft, W.H⟩ F) := by
  have hs : Same (W.S F) (Wd.S (K := K) ⟨fun a => W.O a ∧ a ∉ f, W.ft, W.H⟩ F) := same_less fun a u nx e => ⟨fun z => nx (z.imp id And.left), e⟩
  refine ⟨⟨R.base, fun a ha => R.new a ha.1, fun a ha => R.mu a ha.1, fun a ha => ⟨R.rfo a ha, fun z => (hf a z).2.2 ha⟩, R.len, fun j s e => ?_, R.dis⟩, hs⟩
  have z := R.slot j s e
  have keep : ∀ a ∈ W.ft j, ∀ o, s.own? = some o → a ∉ f := fun a ha o so hm => (hf a hm).1.2 j s o e so ha
  cases s with
  | no => trivial
  | sh d => obtain ⟨v, q1, q2⟩ := z; exact ⟨v, q1, q2.same hs⟩
  | ar d => exact z
  | ro o => exact z
  | ow o =>
    obtain ⟨p, a1, a2, a3⟩ := z
    exact ⟨p, a1, fun a ha => ⟨⟨(a2 a ha).1, keep a ha o rfl⟩, (a2 a ha).2⟩, a3.keep hs (fun _ _ => rfl) fun _ _ _ z => z⟩
  | rf o =>
    obtain ⟨p, a0, a1, a2, a3⟩ := z
    exact ⟨p, a0, a1, fun a ha => ⟨a2 a ha, keep a ha o rfl⟩, a3.keep hs (fun _ _ => rfl) fun _ _ _ z => z⟩
theorem Rel.setTm {F : Fx K} {W : Wd} {σ : L2.St} {Γ : G} (R : Rel F W σ Γ) {i : Nat} {p : Addr} {f : List Addr} {o : OD} (hf : ∀ a ∈ f, Tm W Γ a ∧ F.H0 a = none ∧ ¬ F.rf a) (hO : OwnO K (W.S F) W.H o p f) : Rel F ⟨W.O, fun j => if j = i then f else W.ft j, W.H⟩ (σ.set i (some (.ref p))) (Γ.set i (.ow o)) := by
  have ft1 : ∀ j, j ≠ i → (if j = i then f else W.ft j) = W.ft j := fun j n => if_neg n
  refine ⟨R.base, R.new, R.mu, R.rfo, by simp [R.len], fun j s e => ?_, fun j k s t oj ok a ne e1 e2 g1 g2 => ?_⟩
  · rcases get_set _ _ _ _ _ e with ⟨rfl, rfl, hl⟩ | ⟨ne, e⟩
    · refine ⟨p, get_set_same (by rw [R.len]; exact hl), ?_, ?_⟩
      · show ∀ a ∈ (if j = j then f else W.ft j), _
        rw [if_pos rfl]
        exact fun a ha => ⟨(hf a ha).1.1, (hf a ha).2.2⟩
      · show OwnOk K _ _ p (if j = j then f else W.ft j) o
        rw [if_pos rfl]
        exact ownO_ok.mp hO
    · rw [List.getElem?_set_ne (Ne.symm ne)]
      exact (R.slot j s e).keep (W' := ⟨W.O, fun j => if j = i then f else W.ft j, W.H⟩) (ft1 j ne) (Same.refl _) (fun _ _ z => z) (fun _ _ _ => rfl) fun _ _ _ z => z
  · intro ha hb
    rcases get_set _ _ _ _ _ e1 with ⟨q1, _, _⟩ | ⟨n1, h1⟩
    · rcases get_set _ _ _ _ _ e2 with ⟨q2, _, _⟩ | ⟨n2, h2⟩
      · exact ne (q1.trans q2.symm)
      · have ha' : a ∈ f := by subst q1; simpa using ha
        have hb' : a ∈ W.ft k := by have := hb; simp only [if_neg n2] at this; exact this
        exact (hf a ha').1.2 k t ok h2 g2 hb'
    · have ha' : a ∈ W.ft j := by have := ha; simp only [if_neg n1] at this; exact this
      rcases get_set _ _ _ _ _ e2 with ⟨q2, _, _⟩ | ⟨n2, h2⟩
      · have hb' : a ∈ f := by subst q2; simpa using hb
        exact (hf a hb').1.2 j s oj h1 g1 ha'
      · have hb' : a ∈ W.ft k := by have := hb; simp only [if_neg n2] at this; exact this
        exact R.dis j k s t oj ok a ne h1 h2 g1 g2 ha' hb'
/-- an answer as data -/
def rtD : RT → Option PyData
  | .d d => some d
  | .nw o => odD o
theorem StM.letgo {m : Bool} {F : Fx K} {W : Wd} {Γ : G} {W0 : Wd} {Γ0 : G} (s : StM m F W0 Γ0 W Γ) {f : List Addr} (hf : ∀ a ∈ f, ¬ Tm W0 Γ0 a) : StM m F W0 Γ0 ⟨fun a => W.O a ∧ a ∉ f, W.ft, W.H⟩ Γ := by
  have hs : Same (W.S F) (Wd.S (K := K) ⟨fun a => W.O a ∧ a ∉ f, W.ft, W.H⟩ F) := same_less fun a u nx e => ⟨fun z => nx (z.imp id And.left), e⟩
  have kq : Kq F W0 Γ0 ⟨fun a => W.O a ∧ a ∉ f, W.ft, W.H⟩ Γ := ⟨s.stx.sh.trans hs, fun p t => by
    obtain ⟨a1, a2⟩ := s.stx.tmp p t
    exact ⟨⟨⟨a1.1, fun z => hf p z t⟩, a1.2⟩, a2⟩⟩
  cases m with
  | true => exact ⟨kq, s.stx.kin, s.stx.len⟩
  | false => exact ⟨⟨kq, (show Stp F W0 Γ0 W Γ from s).obj⟩, (show Stp F W0 Γ0 W Γ from s).kin, s.stx.len⟩
theorem RtOk.of {m : Bool} {F : Fx K} {W0 W W' : Wd} {Γ0 Γ Γ' : G} {v : V} {r : RT} (s : StM m F W0 Γ0 W Γ) (h : RtOk F W Γ W' Γ' v r) : RtOk F W0 Γ0 W' Γ' v r := by
  cases r with
  | d d => exact h
  | nw o =>
    obtain ⟨p, f, h1, h2, h3⟩ := h
    exact ⟨p, f, h1, h2, fun a ha => ⟨(h3 a ha).1, fun z => (h3 a ha).2 (s.stx.tmp a z).1⟩⟩
/-- an answer, read as data -/
theorem RtOk.data {m : Bool} {F : Fx K} {W0 W : Wd} {σ : L2.St} {Γ0 Γ : G} {v : V} {r : RT} {d : PyData} (s : StM m F W0 Γ0 W Γ) (R : Rel F W σ Γ) (h : RtOk F W0 Γ0 W Γ v r) (e : rtD r = some d) : ∃ W' : Wd, W'.H = W.H ∧ StM m F W0 Γ0 W' Γ ∧ Rel F W' σ Γ ∧ Dq K (W'.S F) v d := by
  cases r with
  | d d' => cases e; exact ⟨W, rfl, s, R, h⟩
  | nw o =>
    obtain ⟨p, f, rfl, h2, h3⟩ := h
    obtain ⟨R', hs⟩ := R.letgo fun a ha => (h3 a ha).1
    refine ⟨⟨fun a => W.O a ∧ a ∉ f, W.ft, W.H⟩, rfl, s.letgo fun a ha => (h3 a ha).2, R', ?_⟩
    have nx : ∀ a ∈ f, ¬ Ex F (fun a => W.O a ∧ a ∉ f) a := fun a ha z => by
      rcases z with z | z
      · have := F.xm a z
        rw [(h3 a ha).1.2.1] at this
        exact this
      · exact z.2 ha
    cases o with
    | lst ds =>
      cases e
      simp only [OwnO] at h2
      obtain ⟨rfl, vs, q1, q2⟩ := h2
      exact .lst (less_some.mpr ⟨nx p (by simp), q1⟩) (q2.same hs)
    | dK kvs =>
      cases e
      simp only [OwnO] at h2
      obtain ⟨rfl, vs, q1, q2⟩ := h2
      exact .dct (.inl (less_some.mpr ⟨nx p (by simp), q1⟩)) ((kvOk_dq q2).same hs)
    | _ => cases e
end
/-! ### calls -/
def dVal (d : TGCd) : TEXd := fun Γ Q X => d Γ (fun r Γ1 => ∃ x, rtD r = some x ∧ Q (.sh x) Γ1) X
/-- what is asked of the arguments of a call, and what follows -/
def dArgs (m : Bool) (C : Ct) (xs : List RV) (Γ : G) (Q : RT → G → Prop) (X : Value → G → Prop) : Prop := ∃ as, adsOf m Γ xs = some as ∧ distB (rfIx xs as 0) = true ∧ uniB Γ (rfIx xs as 0) = true ∧ C as (fun r ol => Q r (putOL ol (rfIx xs as 0) Γ)) fun c ol => X c (putOL ol (rfIx xs as 0) Γ)
def dCallG (m : Bool) (C : Ct) (d : TAXd) : TGCd := fun Γ Q X => d Γ (fun xs Γ1 => dArgs m C xs Γ1 Q X) X
def dCallGN (m : Bool) (C : Ct) (d : TAXd) : TGCd := fun Γ Q X => d Γ (fun xs Γ1 => dArgs m C xs Γ1 Q fun _ _ => False) X
/-- an instance, by a name or an attribute -/
def insAt (Γ : G) : RV → Option OD
  | .own i => match Γ[i]? with
    | some s => s.ins?
    | none => none
  | .fld i path => match Γ[i]? with
    | some s => s.ins?.bind fun o => (o.at_ path).bind insO
    | none => none
  | _ => none
def dMethG (cl : Addr) (nm : Str) (m m2 : Bool) (C : Ct) (dr : TEd) (d : TAXd) : TGCd := fun Γ Q X => dr Γ fun x Γ1 => ∃ fs, insAt Γ1 x = some (.ins cl fs) ∧ fs.has nm = false ∧ d Γ1 (fun xs Γ2 => stayM m2 x = true ∧ dArgs m C (x :: xs) Γ2 Q X) X
def dMethGN (cl : Addr) (nm : Str) (m m2 : Bool) (C : Ct) (dr : TEd) (d : TAXd) : TGCd := fun Γ Q X => dr Γ fun x Γ1 => ∃ fs, insAt Γ1 x = some (.ins cl fs) ∧ fs.has nm = false ∧ d Γ1 (fun xs Γ2 => stayM m2 x = true ∧ dArgs m C (x :: xs) Γ2 Q fun _ _ => False) X
theorem FsOk.none {K : Fg} {S H : Hp} {f : Str} : ∀ {fs : Fs} {vs : List (Str × V)} {qs : List Addr}, FsOk K S H fs vs qs → fs.has f = false → vs.lookup f = none
  | .nil, _, _, h, _ => by simp only [FsOk] at h; rw [h.1]; rfl
  | .sh g d r, _, _, h, e => by
    simp only [FsOk] at h
    obtain ⟨v, vs', rfl, _, h2⟩ := h
    simp only [Fs.has, Bool.or_eq_false_iff, decide_eq_false_iff_not] at e
    rw [List.lookup_cons, beq_false_of_ne e.1]
    exact FsOk.none h2 e.2
  | .ow g o r, _, _, h, e => by
    simp only [FsOk] at h
    obtain ⟨p, vs', q1, q2, rfl, _, _, h2⟩ := h
    simp only [Fs.has, Bool.or_eq_false_iff, decide_eq_false_iff_not] at e
    rw [List.lookup_cons, beq_false_of_ne e.1]
    exact FsOk.none h2 e.2
  | .no g r, _, _, h, e => by
    simp only [FsOk] at h
    obtain ⟨v, vs', rfl, h2⟩ := h
    simp only [Fs.has, Bool.or_eq_false_iff, decide_eq_false_iff_not] at e
    rw [List.lookup_cons, beq_false_of_ne e.1]
    exact FsOk.none h2 e.2
section
variable {K : Fg} {Xw : WX} {m m1 m2 : Bool} {t : TE} {ta : TE} {ts : TA} {C : Ct} {E : XK} {cl : Addr} {nm : Str}
theorem insAt_ok {F : Fx K} {W : Wd} {σ : L2.St} {Γ : G} {v : V} {x : RV} {fs : Fs} (R : Rel F W σ Γ) (o : VOk F W σ Γ v x) (h : insAt Γ x = some (.ins cl fs)) : ∃ a dx vs qs f, v = .ref a ∧ W.H a = some (.ins cl dx vs) ∧ FsOk K (W.S F) W.H fs vs qs ∧ ClsI K cl fs ∧ OwnO K (W.S F) W.H (.ins cl fs) a f := by
  have fin : ∀ {a : Addr} {f : List Addr}, v = .ref a → OwnO K (W.S F) W.H (.ins cl fs) a f → ∃ a dx vs qs f, v = .ref a ∧ W.H a = some (.ins cl dx vs) ∧ FsOk K (W.S F) W.H fs vs qs ∧ ClsI K cl fs ∧ OwnO K (W.S F) W.H (.ins cl fs) a f := fun {a f} hv hO => by
    have hO' := hO
    simp only [OwnO] at hO'
    obtain ⟨dx, vs, qs, _, _, h1, _, h3, h4⟩ := hO'
    exact ⟨a, dx, vs, qs, f, hv, h1, h3, h4, hO⟩
  cases x with
  | sh d => cases h
  | ar d => cases h
  | own i =>
    obtain ⟨s, h1, h2, h3⟩ := o
    simp only [insAt, h1] at h
    obtain ⟨p, f, g1, g2, _⟩ := R.insOk h1 h
    rw [h3] at g1
    cases g1
    exact fin rfl g2
  | fld i path =>
    obtain ⟨s, p, o2, h1, h2, h3, h4⟩ := o
    simp only [insAt, h1, h2, Option.bind_some] at h
    obtain ⟨o', e1, e2⟩ := Option.bind_eq_some_iff.mp h
    cases (insO_eq e2).1
    obtain ⟨p', f, g1, g2, _⟩ := R.insOk h1 h2
    rw [h3] at g1
    cases g1
    obtain ⟨q, F', hv, _, hO⟩ := g2.path e1 h4
    exact fin hv hO
instance (priority := low) sex_seg {d : TGCd} [A : SEG K Xw m t d] : SEX K Xw m t (dVal d) := ⟨fun F W σ Γ Q Qd Qx R q k kx => A.run F W σ Γ _ _ _ R q (fun r W' Γ' v s R' o ⟨x, e, q⟩ => by
  obtain ⟨W2, eH, s2, R2, hd⟩ := o.data s R' e
  rw [← eH]
  exact k (.sh x) W2 Γ' v s2 R2 hd q) kx⟩
theorem callG_run {F : Fx K} {W W1 : Wd} {σ : L2.St} {Γ Γ1 : G} {vs : List V} {xs : List RV} {Q : VK} {Qd : RT → G → Prop} {Qe : Value → G → Prop} {E : XK} (s1 : StM m1 F W Γ W1 Γ1) (R1 : Rel F W1 σ Γ1) (o : VOks F W1 σ Γ1 vs xs) (q : dArgs m C xs Γ1 Qd Qe)
    (k : ∀ (r : RT) (W' : Wd) (Γ' : G) (v : V), StM (m1 || m) F W Γ W' Γ' → Rel F W' σ Γ' → RtOk F W Γ W' Γ' v r → Qd r Γ' → Q v W'.H) (kx : ∀ (c : Value) (W' : Wd) (Γ' : G), Same (W.S F) (W'.S F) → Rel F W' σ Γ' → Qe c Γ' → E c none W'.H) : GSp K m C vs W1.H Q E := by
  obtain ⟨as, ha, hd, hu, hc⟩ := q
  exact callG R1 o ha hd hu hc (fun r os W' v s R' ok q => k r W' _ v (s1.trans s) R' (ok.of s1) q) fun c os W' s R' q => kx c W' _ (s1.stx.sh.trans s.stx.sh) R' q
instance seg_callS {d : TAXd} [A : SAX K Xw m1 ts d] : SEG K Xw (m1 || m) (tCallS (GSp K m C) (WE Xw) ts) (dCallG m C d) := ⟨fun F W σ Γ Q Qd Qx R q k kx => A.run F W σ Γ _ _ _ R q (fun xs W1 Γ1 vs s1 R1 o1 q => callG_run s1 R1 o1 q k kx) kx⟩
instance seg_call {d : TAXd} [A : SAX K Xw m1 ts d] : SEG K Xw (m1 || m) (tCall (GSp K m C) [] E ts) (dCallGN m C d) := ⟨fun F W σ Γ Q Qd Qx R q k kx => A.run F W σ Γ _ _ _ R q (fun xs W1 Γ1 vs s1 R1 o1 q => by
  rw [List.append_nil]
  exact callG_run s1 R1 o1 q k fun c W' Γ' s R' z => z.elim) kx⟩
theorem meth_run {F : Fx K} {W : Wd} {σ : L2.St} {Γ : G} {Q : VK} {Qd : RT → G → Prop} {Qx Qe : Value → G → Prop} {dr : TEd} {d : TAXd} [B : SE K ta dr] [A : SAX K Xw m1 ts d] (R : Rel F W σ Γ) (q : dr Γ fun x Γ1 => ∃ fs, insAt Γ1 x = some (.ins cl fs) ∧ fs.has nm = false ∧ d Γ1 (fun xs Γ2 => stayM m1 x = true ∧ dArgs m C (x :: xs) Γ2 Qd Qe) Qx)
    (k : ∀ (r : RT) (W' : Wd) (Γ' : G) (v : V), StM (m1 || m) F W Γ W' Γ' → Rel F W' σ Γ' → RtOk F W Γ W' Γ' v r → Qd r Γ' → Q v W'.H) (kx : ∀ (c : Value) (W' : Wd) (Γ' : G), Same (W.S F) (W'.S F) → Rel F W' σ Γ' → Qx c Γ' → Xw c none σ W'.H) (ke : ∀ (c : Value) (W' : Wd) (Γ' : G), Same (W.S F) (W'.S F) → Rel F W' σ Γ' → Qe c Γ' → E c none W'.H) :
    ta σ W.H fun x H1 => ∃ a dx fs, x = .ref a ∧ H1 a = some (.ins cl dx fs) ∧ fs.lookup nm = none ∧ ts σ H1 fun vs H2 => GSp K m C (x :: vs) H2 Q E := by
  refine B.run F W σ Γ _ _ R q fun x W1 Γ1 v s1 R1 o1 ⟨fs, h1, h2, q⟩ => ?_
  obtain ⟨a, dx, vs, qs, f, rfl, g1, g2, _⟩ := insAt_ok R1 o1 h1
  refine ⟨a, dx, vs, rfl, g1, g2.none h2, A.run F W1 σ Γ1 _ _ _ R1 q (fun xs W2 Γ2 us s2 R2 o2 ⟨hs, q⟩ => ?_) fun c W' Γ' s R' q => kx c W' Γ' (s1.sh.trans s) R' q⟩
  have s12 : StM (false || m1) F W Γ W2 Γ2 := StM.trans (m := false) s1 s2
  rw [Bool.false_or] at s12
  exact callG_run s12 R2 (.cons (o1.stm s2 hs) o2) q k ke
instance seg_methE {dr : TEd} {d : TAXd} [B : SE K ta dr] [A : SAX K Xw m1 ts d] : SEG K Xw (m1 || m) (tMethE cl nm (GSp K m C) (WE Xw) ta ts) (dMethG cl nm m m1 C dr d) := ⟨fun F W σ Γ Q Qd Qx R q k kx => meth_run (Xw := Xw) R q k kx kx⟩
instance seg_meth {dr : TEd} {d : TAXd} [B : SE K ta dr] [A : SAX K Xw m1 ts d] : SEG K Xw (m1 || m) (tMeth cl nm (GSp K m C) [] E ta ts) (dMethGN cl nm m m1 C dr d) := ⟨fun F W σ Γ Q Qd Qx R q k kx => by
  have := meth_run (Xw := Xw) (cl := cl) (nm := nm) (ta := ta) (ts := ts) (E := E) R q k kx fun c W' Γ' s R' z => z.elim
  simp only [tMeth, List.append_nil]
  exact this⟩
/-! pure ones, that raise nothing -/
def dCallE (C : Ct) (d : TAd) : TEd := fun Γ Q => d Γ fun xs Γ1 => dArgs false C xs Γ1 (fun r Γ2 => ∃ x, rtD r = some x ∧ Q (.sh x) Γ2) fun _ _ => False
def dMethEE (cl : Addr) (nm : Str) (C : Ct) (dr : TEd) (d : TAd) : TEd := fun Γ Q => dr Γ fun x Γ1 => ∃ fs, insAt Γ1 x = some (.ins cl fs) ∧ fs.has nm = false ∧ d Γ1 fun xs Γ2 => dArgs false C (x :: xs) Γ2 (fun r Γ3 => ∃ x, rtD r = some x ∧ Q (.sh x) Γ3) fun _ _ => False
instance se_callG {d : TAd} [A : SA K ts d] : SE K (tCall (GSp K false C) [] E ts) (dCallE C d) := ⟨fun F W σ Γ Q Qd R q k => A.run F W σ Γ _ _ R q fun xs W1 Γ1 vs s1 R1 o1 q => by
  rw [List.append_nil]
  refine callG_run (m1 := false) (m := false) s1 R1 o1 q (fun r W' Γ' v s R' o ⟨x, e, q⟩ => ?_) fun c W' Γ' s R' z => z.elim
  obtain ⟨W2, eH, s2, R2, hd⟩ := o.data s R' e
  rw [← eH]
  exact k (.sh x) W2 Γ' v s2 R2 hd q⟩
instance se_methG {dr : TEd} {d : TAd} [B : SE K ta dr] [A : SA K ts d] : SE K (tMeth cl nm (GSp K false C) [] E ta ts) (dMethEE cl nm C dr d) := ⟨fun F W σ Γ Q Qd R q k => by
  simp only [tMeth, List.append_nil]
  refine B.run F W σ Γ _ _ R q fun x W1 Γ1 v s1 R1 o1 ⟨fs, h1, h2, q⟩ => ?_
  obtain ⟨a, dx, vs, qs, f, rfl, g1, g2, _⟩ := insAt_ok R1 o1 h1
  refine ⟨a, dx, vs, rfl, g1, g2.none h2, A.run F W1 σ Γ1 _ _ R1 q fun xs W2 Γ2 us s2 R2 o2 q => ?_⟩
  have s12 := s1.trans s2
  refine callG_run (m1 := false) (m := false) s12 R2 (.cons (o1.stp s2) o2) q (fun r W' Γ' v s R' o ⟨x, e, q⟩ => ?_) fun c W' Γ' s R' z => z.elim
  obtain ⟨W3, eH, s3, R3, hd⟩ := o.data s R' e
  rw [← eH]
  exact k (.sh x) W3 Γ' v s3 R3 hd q⟩
/-! the older contracts, with arguments that may raise -/
def dPureX (Cp : List PyData → (PyData → Prop) → (Value → Prop) → Prop) (d : TAXd) : TGCd := fun Γ Q X => d Γ (fun xs Γ1 => ∃ ds, dats Γ1 xs = some ds ∧ Cp ds (fun r => Q (.d r) Γ1) fun c => X c Γ1) X
instance seg_pureX {Cp : List PyData → (PyData → Prop) → (Value → Prop) → Prop} {d : TAXd} [A : SAX K Xw m1 ts d] : SEG K Xw m1 (tCallS (PureXSp K Cp) (WE Xw) ts) (dPureX Cp d) := ⟨fun F W σ Γ Q Qd Qx R q k kx => A.run F W σ Γ _ _ _ R q (fun xs W1 Γ1 vs s1 R1 o1 ⟨ds, e1, q⟩ => by
  refine ⟨ds, _, _, o1.full R1 e1, q, fun v H' r hS hv hq => ?_, fun c H' hS hq => ?_⟩
  · have st : StM (m1 || false) F W Γ { W1 with H := H' } Γ1 := StM.trans s1 (n := false) (Stp.grow R1 hS)
    rw [Bool.or_false] at st
    exact k (.d r) { W1 with H := H' } Γ1 v st (R1.grow hS).1 (hv.same (same_less fun a o nx e => ⟨fun z => nx (R1.exmo z), e⟩)) hq
  · exact kx c { W1 with H := H' } Γ1 (s1.stx.sh.trans (R1.grow hS).2) (R1.grow hS).1 hq) kx⟩
def dPureV (Cp : List PyData → (PyData → Prop) → Prop) (d : TAXd) : TGCd := fun Γ Q X => d Γ (fun xs Γ1 => ∃ ds, dats Γ1 xs = some ds ∧ Cp ds fun r => Q (.d r) Γ1) X
instance seg_pure {Cp : List PyData → (PyData → Prop) → Prop} {d : TAXd} [A : SAX K Xw m1 ts d] : SEG K Xw m1 (tCall (PureSp K Cp) [] E ts) (dPureV Cp d) := ⟨fun F W σ Γ Q Qd Qx R q k kx => A.run F W σ Γ _ _ _ R q (fun xs W1 Γ1 vs s1 R1 o1 ⟨ds, e1, q⟩ => by
  rw [List.append_nil]
  refine ⟨ds, _, o1.full R1 e1, q, fun v H' r hS hv hq => ?_⟩
  have st : StM (m1 || false) F W Γ { W1 with H := H' } Γ1 := StM.trans s1 (n := false) (Stp.grow R1 hS)
  rw [Bool.or_false] at st
  exact k (.d r) { W1 with H := H' } Γ1 v st (R1.grow hS).1 (hv.same (same_less fun a o nx e => ⟨fun z => nx (R1.exmo z), e⟩)) hq) kx⟩
end
/-! ### statements -/
def rtSl : RT → Sl
  | .d d => .sh d
  | .nw o => .ow o
section
variable {K : Fg} {Xw : WX} {m : Bool} {t : TE} {d : TGCd} {i : Nat}
def dDropG (d : TGCd) : TSd := fun E Γ => d Γ (fun _ Γ1 => E.nx Γ1) E.xs
instance (priority := low) ss_dropG [A : SEG K Xw m t d] : SS K Xw (tDrop t) (dDropG d) := ⟨fun F W σ Γ D E R q L => A.run F W σ Γ _ _ _ R q (fun r W' Γ' v s R' o q => L.nx W' σ Γ' s.stx.sh R' q) fun c W' Γ' s R' q => L.xs W' σ Γ' c s R' q⟩
def dAsgG (i : Nat) (d : TGCd) : TSd := fun E Γ => d Γ (fun r Γ1 => E.nx (Γ1.set i (rtSl r))) E.xs
instance ss_asgG [A : SEG K Xw m t d] : SS K Xw (tAsg t (gName i)) (dAsgG i d) := ⟨fun F W σ Γ D E R q L => A.run F W σ Γ _ _ _ R q (fun r W' Γ' v s R' o q => by
  cases r with
  | d x => exact L.nx W' _ _ s.stx.sh (R'.setSh o) q
  | nw o1 =>
    obtain ⟨p, f, rfl, h2, h3⟩ := o
    exact L.nx ⟨W'.O, fun j => if j = i then f else W'.ft j, W'.H⟩ _ _ s.stx.sh (R'.setTm (fun a ha => (h3 a ha).1) h2) q) fun c W' Γ' s R' q => L.xs W' σ Γ' c s R' q⟩
/-- .. in parts -/
def dAsgV (d : TEXd) (g : TGd) : TSd := fun E Γ => d Γ (fun x Γ1 => g x Γ1 E.nx) E.xs
instance (priority := low) ss_asgV {de : TEXd} {g : TG} {dg : TGd} {ix : List Nat} [A : SEX K Xw m t de] [B : SG K g dg ix] : SS K Xw (tAsg t g) (dAsgV de dg) := ⟨fun F W σ Γ D E R q L => A.run F W σ Γ _ _ _ R q (fun x W' Γ' v s R' o q => B.run F W' σ Γ' v x _ _ R' o q fun W2 σ2 Γ2 s2 _ R2 q => L.nx W2 σ2 Γ2 (s.stx.sh.trans s2.sh) R2 q) fun c W' Γ' s R' q => L.xs W' σ Γ' c s R' q⟩
def dRetG (d : TGCd) : TSd := fun E Γ => d Γ (fun r Γ1 => match r with
  | .d x => E.rt (.sh x) Γ1
  | .nw o => plainOD o = true ∧ E.rn o Γ1) E.xs
instance ss_retG [A : SEG K Xw m t d] : SS K Xw (tRet t) (dRetG d) := ⟨fun F W σ Γ D E R q L => A.run F W σ Γ _ _ _ R q (fun r W' Γ' v s R' o q => by
  cases r with
  | d x => exact L.rt W' σ Γ' _ v s.stx.sh R' (.ofSh o) q
  | nw o1 =>
    obtain ⟨p, f, rfl, h2, h3⟩ := o
    obtain ⟨hp, q⟩ := q
    have key : ∀ {ho : HO}, f = [p] → W'.H p = some ho → (∀ S', Same (W'.S F) S' → OwnH K S' ho o1) → D.rt (.ref p) W'.H := fun {ho} hf e hh => by
      have t := h3 p (by rw [hf]; simp)
      obtain ⟨R2, s2⟩ := R'.dropTemp t.1.1 t.1.2.1 t.1.2.2
      have := L.rn (dropW W' p) σ Γ' o1 p ho (s.stx.sh.trans s2) R2 dropW_at (hh _ s2) q
      rw [dropW_upd e] at this
      exact this
    cases o1 with
    | lst ds =>
      simp only [OwnO] at h2
      obtain ⟨hf, vs, q1, q2⟩ := h2
      exact key hf q1 fun S' s => ⟨vs, rfl, q2.same s⟩
    | dK ds =>
      simp only [OwnO] at h2
      obtain ⟨hf, vs, q1, q2⟩ := h2
      exact key hf q1 fun S' s => ⟨vs, rfl, Paired.mapP q2 fun _ _ z => ⟨z.1, z.2.same s⟩⟩
    | dT ds =>
      simp only [OwnO] at h2
      obtain ⟨hf, vs, q1, q2⟩ := h2
      exact key hf q1 fun S' s => ⟨vs, rfl, Paired.mapP q2 fun _ _ z => ⟨z.1, z.2.same s⟩⟩
    | ab _ => cases hp
    | ins _ _ => cases hp) fun c W' Γ' s R' q => L.xs W' σ Γ' c s R' q⟩
end
end Dk

namespace Dk
open PySem PySem.Spec PyProof.Rows L2
/-! ### attributes read -/
def fldRV (x : RV) (fs : Fs) (f : Str) : Option RV := match fs.getD f with
  | some d => some (.sh d)
  | none => match fs.getO f with
    | some _ => match x with
      | .own i => some (.fld i [f])
      | .fld i p => some (.fld i (p ++ [f]))
      | _ => none
    | none => none
theorem getD_has {f : Str} {d : PyData} : ∀ {fs : Fs}, fs.getD f = some d → fs.has f = true
  | .nil, e => by simp [Fs.getD] at e
  | .sh g _ r, e => by
    by_cases z : f = g
    · simp [Fs.has, z]
    · simp only [Fs.getD, if_neg z] at e
      simp [Fs.has, getD_has e]
  | .ow g _ r, e => by
    by_cases z : f = g
    · simp [Fs.getD, z] at e
    · simp only [Fs.getD, if_neg z] at e
      simp [Fs.has, getD_has e]
  | .no g r, e => by
    by_cases z : f = g
    · simp [Fs.getD, z] at e
    · simp only [Fs.getD, if_neg z] at e
      simp [Fs.has, getD_has e]
theorem getO_has {f : Str} {o : OD} : ∀ {fs : Fs}, fs.getO f = some o → fs.has f = true
  | .nil, e => by simp [Fs.getO] at e
  | .ow g _ r, e => by
    by_cases z : f = g
    · simp [Fs.has, z]
    · simp only [Fs.getO, if_neg z] at e
      simp [Fs.has, getO_has e]
  | .sh g _ r, e => by
    by_cases z : f = g
    · simp [Fs.getO, z] at e
    · simp only [Fs.getO, if_neg z] at e
      simp [Fs.has, getO_has e]
  | .no g r, e => by
    by_cases z : f = g
    · simp [Fs.getO, z] at e
    · simp only [Fs.getO, if_neg z] at e
      simp [Fs.has, getO_has e]
theorem PathV.snoc {H : Hp} {C dx q : Addr} {vs : List (Str × V)} {f : Str} {u : V} (h1 : H q = some (.ins C dx vs)) (h2 : vs.lookup f = some u) : ∀ {path : List Str} {p : Addr}, PathV H p path (.ref q) → PathV H p (path ++ [f]) u
  | [], p, h => by
    cases (show V.ref q = V.ref p from h)
    exact ⟨C, dx, vs, u, h1, h2, .inl ⟨rfl, rfl⟩⟩
  | g :: r, p, ⟨C', dx', vs', u', a1, a2, a3⟩ => by
    refine ⟨C', dx', vs', u', a1, a2, .inr ⟨by simp, ?_⟩⟩
    rcases a3 with ⟨rfl, rfl⟩ | ⟨_, q', rfl, a4⟩
    · exact ⟨q, rfl, PathV.snoc h1 h2 (path := []) rfl⟩
    · exact ⟨q', rfl, PathV.snoc h1 h2 a4⟩
theorem kfld (K : Fg) {X : Cx} {e : Expr} {f : Str} {ta : TE} {pos : Pos} (he : PE X e ta) (hb : attributeBase e f X.env (eval e X.env) = eval e X.env) (h : X.K = K := by rfl) : PE X (.Attribute e f pos) (tFld K ta f) := h ▸ pe_fld he hb
def dFld (f : Str) (da : TEd) : TEd := fun Γ Q => da Γ fun x Γ1 => ∃ C fs rv, insAt Γ1 x = some (.ins C fs) ∧ fldRV x fs f = some rv ∧ Q rv Γ1
section
variable {K : Fg} {ta : TE} {da : TEd}
instance se_fld {f : Str} [A : SE K ta da] : SE K (tFld K ta f) (dFld f da) := ⟨fun F W σ Γ Q Qd R q k => A.run F W σ Γ _ _ R q fun x W' Γ' v s R' o ⟨C, fs, rv, h1, h2, q⟩ => by
  obtain ⟨a, dx, vs, qs, fp, rfl, g1, g2, g3, g4⟩ := insAt_ok R' o h1
  unfold fldRV at h2
  split at h2
  · rename_i d e
    cases h2
    obtain ⟨u, l1, l2⟩ := g2.getD e
    exact ⟨a, C, dx, vs, u, rfl, g1, g3.cl, g3.na f (getD_has e), l1, k (.sh d) W' Γ' u s R' l2 q⟩
  · split at h2
    · rename_i o1 e
      obtain ⟨p, l1⟩ := g2.lookO e
      refine ⟨a, C, dx, vs, .ref p, rfl, g1, g3.cl, g3.na f (getO_has e), l1, ?_⟩
      cases x with
      | sh d => cases h2
      | ar d => cases h2
      | own i =>
        cases h2
        obtain ⟨t, b1, b2, b3⟩ := o
        simp only [insAt, b1] at h1
        exact k (.fld i [f]) W' Γ' _ s R' ⟨t, a, .ins C fs, b1, h1, b3, C, dx, vs, .ref p, g1, l1, .inl ⟨rfl, rfl⟩⟩ q
      | fld i path =>
        cases h2
        obtain ⟨t, p0, o2, b1, b2, b3, b4⟩ := o
        exact k (.fld i (path ++ [f])) W' Γ' _ s R' ⟨t, p0, o2, b1, b2, b3, b4.snoc g1 l1⟩ q
    · cases h2⟩
end
/-! ### attributes set -/
def Fs.setSh : Fs → Str → PyData → Fs
  | .nil, f, d => .sh f d .nil
  | .sh g e r, f, d => if g = f then .sh g d r else .sh g e (r.setSh f d)
  | .ow g o r, f, d => if g = f then .sh g d r else .ow g o (r.setSh f d)
  | .no g r, f, d => if g = f then .sh g d r else .no g (r.setSh f d)
def Fs.setOw : Fs → Str → OD → Fs
  | .nil, f, o => .ow f o .nil
  | .sh g e r, f, o => if g = f then .ow g o r else .sh g e (r.setOw f o)
  | .ow g o' r, f, o => if g = f then .ow g o r else .ow g o' (r.setOw f o)
  | .no g r, f, o => if g = f then .ow g o r else .no g (r.setOw f o)
def Fs.len : Fs → Nat
  | .nil => 0
  | .sh _ _ r => r.len + 1
  | .ow _ _ r => r.len + 1
  | .no _ r => r.len + 1
section
variable {K : Fg} {S H : Hp}
theorem FsOk.len : ∀ {fs : Fs} {vs : List (Str × V)} {qs : List Addr}, FsOk K S H fs vs qs → vs.length = fs.len
  | .nil, _, _, h => by simp only [FsOk] at h; rw [h.1]; rfl
  | .sh g d r, _, _, h => by
    simp only [FsOk] at h
    obtain ⟨v, vs', rfl, _, h2⟩ := h
    simp [Fs.len, h2.len]
  | .ow g o r, _, _, h => by
    simp only [FsOk] at h
    obtain ⟨p, vs', q1, q2, rfl, _, _, h2⟩ := h
    simp [Fs.len, h2.len]
  | .no g r, _, _, h => by
    simp only [FsOk] at h
    obtain ⟨v, vs', rfl, h2⟩ := h
    simp [Fs.len, h2.len]
theorem FsOk.setSh {f : Str} {y : V} {d : PyData} (hy : Dq K S y d) : ∀ {fs : Fs} {vs : List (Str × V)} {qs : List Addr}, FsOk K S H fs vs qs → ∃ qs', FsOk K S H (fs.setSh f d) (putF f y vs) qs' ∧ qs'.Sublist qs
  | .nil, _, _, h => by
    simp only [FsOk] at h
    obtain ⟨rfl, rfl⟩ := h
    exact ⟨[], by simp only [Fs.setSh, putF, FsOk]; exact ⟨y, [], rfl, hy, by simp⟩, List.Sublist.refl _⟩
  | .sh g e r, _, qs, h => by
    simp only [FsOk] at h
    obtain ⟨v, vs', rfl, h1, h2⟩ := h
    by_cases z : g = f
    · exact ⟨qs, by simp only [Fs.setSh, putF, if_pos z, FsOk]; exact ⟨y, vs', rfl, hy, h2⟩, List.Sublist.refl _⟩
    · obtain ⟨qs', k1, k2⟩ := FsOk.setSh (f := f) hy h2
      exact ⟨qs', by simp only [Fs.setSh, putF, if_neg z, FsOk]; exact ⟨v, _, rfl, h1, k1⟩, k2⟩
  | .ow g o r, _, _, h => by
    simp only [FsOk] at h
    obtain ⟨p, vs', q1, q2, rfl, rfl, h1, h2⟩ := h
    by_cases z : g = f
    · exact ⟨q2, by simp only [Fs.setSh, putF, if_pos z, FsOk]; exact ⟨y, vs', rfl, hy, h2⟩, List.sublist_append_right q1 q2⟩
    · obtain ⟨qs', k1, k2⟩ := FsOk.setSh (f := f) hy h2
      exact ⟨q1 ++ qs', by simp only [Fs.setSh, putF, if_neg z, FsOk]; exact ⟨p, _, q1, qs', rfl, rfl, h1, k1⟩, k2.append_left q1⟩
  | .no g r, _, qs, h => by
    simp only [FsOk] at h
    obtain ⟨v, vs', rfl, h2⟩ := h
    by_cases z : g = f
    · exact ⟨qs, by simp only [Fs.setSh, putF, if_pos z, FsOk]; exact ⟨y, vs', rfl, hy, h2⟩, List.Sublist.refl _⟩
    · obtain ⟨qs', k1, k2⟩ := FsOk.setSh (f := f) hy h2
      exact ⟨qs', by simp only [Fs.setSh, putF, if_neg z, FsOk]; exact ⟨v, _, rfl, k1⟩, k2⟩
theorem FsOk.setOw {f : Str} {p1 : Addr} {q : List Addr} {o1 : OD} (hy : OwnO K S H o1 p1 q) : ∀ {fs : Fs} {vs : List (Str × V)} {qs : List Addr}, FsOk K S H fs vs qs → ∃ qa qb, FsOk K S H (fs.setOw f o1) (putF f (.ref p1) vs) (qa ++ q ++ qb) ∧ (qa ++ qb).Sublist qs
  | .nil, _, _, h => by
    simp only [FsOk] at h
    obtain ⟨rfl, rfl⟩ := h
    exact ⟨[], [], by simp only [Fs.setOw, putF, FsOk]; exact ⟨p1, [], q, [], rfl, by simp, hy, by simp⟩, List.Sublist.refl _⟩
  | .sh g e r, _, qs, h => by
    simp only [FsOk] at h
    obtain ⟨v, vs', rfl, h1, h2⟩ := h
    by_cases z : g = f
    · exact ⟨[], qs, by simp only [Fs.setOw, putF, if_pos z, FsOk]; exact ⟨p1, vs', q, qs, rfl, by simp, hy, h2⟩, List.Sublist.refl _⟩
    · obtain ⟨qa, qb, k1, k2⟩ := FsOk.setOw (f := f) hy h2
      exact ⟨qa, qb, by simp only [Fs.setOw, putF, if_neg z, FsOk]; exact ⟨v, _, rfl, h1, k1⟩, k2⟩
  | .ow g o r, _, _, h => by
    simp only [FsOk] at h
    obtain ⟨p, vs', q1, q2, rfl, rfl, h1, h2⟩ := h
    by_cases z : g = f
    · exact ⟨[], q2, by simp only [Fs.setOw, putF, if_pos z, FsOk]; exact ⟨p1, vs', q, q2, rfl, by simp, hy, h2⟩, List.sublist_append_right q1 q2⟩
    · obtain ⟨qa, qb, k1, k2⟩ := FsOk.setOw (f := f) hy h2
      refine ⟨q1 ++ qa, qb, by simp only [Fs.setOw, putF, if_neg z, FsOk]; exact ⟨p, _, q1, qa ++ q ++ qb, rfl, by simp, h1, k1⟩, ?_⟩
      rw [List.append_assoc]
      exact k2.append_left q1
  | .no g r, _, qs, h => by
    simp only [FsOk] at h
    obtain ⟨v, vs', rfl, h2⟩ := h
    by_cases z : g = f
    · exact ⟨[], qs, by simp only [Fs.setOw, putF, if_pos z, FsOk]; exact ⟨p1, vs', q, qs, rfl, by simp, hy, h2⟩, List.Sublist.refl _⟩
    · obtain ⟨qa, qb, k1, k2⟩ := FsOk.setOw (f := f) hy h2
      exact ⟨qa, qb, by simp only [Fs.setOw, putF, if_neg z, FsOk]; exact ⟨v, _, rfl, k1⟩, k2⟩
/-- a list of an attribute, changed in its place -/
theorem FsOk.updL {f : Str} {ds ds' : List PyData} {q : Addr} {us' : List V} (hd : DqAll K S us' ds') : ∀ {fs : Fs} {vs : List (Str × V)} {qs : List Addr}, FsOk K S H fs vs qs → qs.Nodup → fs.getO f = some (.lst ds) → vs.lookup f = some (.ref q) → (∃ us, H q = some (.lst us) ∧ DqAll K S us ds) ∧ q ∈ qs ∧ FsOk K S (upd H q (.lst us')) (fs.setOw f (.lst ds')) vs qs
  | .nil, _, _, _, _, e, _ => by simp [Fs.getO] at e
  | .sh g e0 r, _, _, h, nd, e, l => by
    simp only [FsOk] at h
    obtain ⟨v, vs', rfl, h1, h2⟩ := h
    by_cases z : f = g
    · simp [Fs.getO, z] at e
    · simp only [Fs.getO, if_neg z] at e
      rw [List.lookup_cons, beq_false_of_ne z] at l
      obtain ⟨k1, k2, k3⟩ := FsOk.updL hd h2 nd e l
      exact ⟨k1, k2, by simp only [Fs.setOw, if_neg (Ne.symm z), FsOk]; exact ⟨v, vs', rfl, h1, k3⟩⟩
  | .ow g o r, _, _, h, nd, e, l => by
    simp only [FsOk] at h
    obtain ⟨p, vs', q1, q2, rfl, rfl, h1, h2⟩ := h
    by_cases z : f = g
    · subst z
      simp only [Fs.getO, if_true] at e
      rw [List.lookup_cons, beq_self_eq_true] at l
      cases e
      cases l
      have h1' := h1
      simp only [OwnO] at h1'
      obtain ⟨rfl, us, a1, a2⟩ := h1'
      refine ⟨⟨us, a1, a2⟩, by simp, ?_⟩
      simp only [Fs.setOw, if_true, FsOk]
      refine ⟨q, vs', [q], q2, rfl, rfl, ownO_ok.mpr ⟨rfl, us', upd_same, hd⟩, ?_⟩
      refine h2.keep (Same.refl _) (fun a u nm e => ?_) fun a ha => upd_ne fun z => ?_
      · rw [upd_ne]
        · exact e
        · intro z
          rw [z, a1] at e
          cases e
          exact nm trivial
      · subst z
        exact (List.nodup_cons.mp nd).1 ha
    · simp only [Fs.getO, if_neg z] at e
      rw [List.lookup_cons, beq_false_of_ne z] at l
      obtain ⟨k1, k2, k3⟩ := FsOk.updL hd h2 (List.nodup_append.mp nd).2.1 e l
      refine ⟨k1, by simp [k2], ?_⟩
      simp only [Fs.setOw, if_neg (Ne.symm z), FsOk]
      obtain ⟨us, a1, a2⟩ := k1
      refine ⟨p, vs', q1, q2, rfl, rfl, OwnO.keep (Same.refl _) (fun a u nm e => ?_) h1 (fun a ha => upd_ne fun z => ?_), k3⟩
      · rw [upd_ne]
        · exact e
        · intro z
          rw [z, a1] at e
          cases e
          exact nm trivial
      · subst z
        exact (List.nodup_append.mp nd).2.2 a ha a k2 rfl
  | .no g r, _, _, h, nd, e, l => by
    simp only [FsOk] at h
    obtain ⟨v, vs', rfl, h2⟩ := h
    by_cases z : f = g
    · simp [Fs.getO, z] at e
    · simp only [Fs.getO, if_neg z] at e
      rw [List.lookup_cons, beq_false_of_ne z] at l
      obtain ⟨k1, k2, k3⟩ := FsOk.updL hd h2 nd e l
      exact ⟨k1, k2, by simp only [Fs.setOw, if_neg (Ne.symm z), FsOk]; exact ⟨v, vs', rfl, k3⟩⟩
end
theorem setSh_has {f g : Str} {d : PyData} : ∀ {fs : Fs}, (fs.setSh f d).has g = true → fs.has g = true ∨ g = f
  | .nil, h => by simp [Fs.setSh, Fs.has] at h; exact .inr h
  | .sh g' _ r, h => by
    by_cases z : g' = f
    · simp only [Fs.setSh, if_pos z, Fs.has] at h ⊢; exact .inl h
    · simp only [Fs.setSh, if_neg z, Fs.has, Bool.or_eq_true] at h ⊢
      rcases h with h | h
      · exact .inl (.inl h)
      · exact (setSh_has h).imp .inr id
  | .ow g' _ r, h => by
    by_cases z : g' = f
    · simp only [Fs.setSh, if_pos z, Fs.has] at h ⊢; exact .inl h
    · simp only [Fs.setSh, if_neg z, Fs.has, Bool.or_eq_true] at h ⊢
      rcases h with h | h
      · exact .inl (.inl h)
      · exact (setSh_has h).imp .inr id
  | .no g' r, h => by
    by_cases z : g' = f
    · simp only [Fs.setSh, if_pos z, Fs.has] at h ⊢; exact .inl h
    · simp only [Fs.setSh, if_neg z, Fs.has, Bool.or_eq_true] at h ⊢
      rcases h with h | h
      · exact .inl (.inl h)
      · exact (setSh_has h).imp .inr id
theorem setOw_has {f g : Str} {d : OD} : ∀ {fs : Fs}, (fs.setOw f d).has g = true → fs.has g = true ∨ g = f
  | .nil, h => by simp [Fs.setOw, Fs.has] at h; exact .inr h
  | .sh g' _ r, h => by
    by_cases z : g' = f
    · simp only [Fs.setOw, if_pos z, Fs.has] at h ⊢; exact .inl h
    · simp only [Fs.setOw, if_neg z, Fs.has, Bool.or_eq_true] at h ⊢
      rcases h with h | h
      · exact .inl (.inl h)
      · exact (setOw_has h).imp .inr id
  | .ow g' _ r, h => by
    by_cases z : g' = f
    · simp only [Fs.setOw, if_pos z, Fs.has] at h ⊢; exact .inl h
    · simp only [Fs.setOw, if_neg z, Fs.has, Bool.or_eq_true] at h ⊢
      rcases h with h | h
      · exact .inl (.inl h)
      · exact (setOw_has h).imp .inr id
  | .no g' r, h => by
    by_cases z : g' = f
    · simp only [Fs.setOw, if_pos z, Fs.has] at h ⊢; exact .inl h
    · simp only [Fs.setOw, if_neg z, Fs.has, Bool.or_eq_true] at h ⊢
      rcases h with h | h
      · exact .inl (.inl h)
      · exact (setOw_has h).imp .inr id
/-- a name's instance that may be changed -/
def insI (Γ : G) (i : Nat) : Option (Addr × Fs) := match Γ[i]? with
  | some (.ow (.ins C fs)) => some (C, fs)
  | some (.rf (.ins C fs)) => some (C, fs)
  | _ => none
def putI (Γ : G) (i : Nat) (C : Addr) (fs : Fs) : G := Γ.set i (setOwn (Γ.getD i .no) (.ins C fs))
section
variable {K : Fg} {F : Fx K} {W : Wd} {σ : L2.St} {Γ : G}
theorem insI_ok (R : Rel F W σ Γ) {i : Nat} {C : Addr} {fs : Fs} (h : insI Γ i = some (C, fs)) : ∃ s p dx vs qs, Γ[i]? = some s ∧ s.own? = some (.ins C fs) ∧ σ[i]? = some (some (.ref p)) ∧ W.ft i = p :: dx :: qs ∧ (p :: dx :: qs).Nodup ∧ W.H p = some (.ins C dx vs) ∧ W.H dx = some (.own p) ∧ FsOk K (W.S F) W.H fs vs qs ∧ ClsI K C fs ∧ ∀ o, putI Γ i C o = Γ.set i (setOwn s (.ins C o)) := by
  have key : ∀ {s : Sl}, Γ[i]? = some s → s.own? = some (.ins C fs) → ∃ s p dx vs qs, Γ[i]? = some s ∧ s.own? = some (.ins C fs) ∧ σ[i]? = some (some (.ref p)) ∧ W.ft i = p :: dx :: qs ∧ (p :: dx :: qs).Nodup ∧ W.H p = some (.ins C dx vs) ∧ W.H dx = some (.own p) ∧ FsOk K (W.S F) W.H fs vs qs ∧ ClsI K C fs ∧ ∀ o, putI Γ i C o = Γ.set i (setOwn s (.ins C o)) := fun {s} h1 h2 => by
    obtain ⟨p, h3⟩ := own_ref R h1 h2
    obtain ⟨dx, vs, qs, a1, a2, a3, a4, a5, a6⟩ := own_at R h1 h2 h3
    exact ⟨s, p, dx, vs, qs, h1, h2, h3, a1, a1 ▸ a2, a3, a4, a5, a6, fun o => by rw [putI, getD_of h1]⟩
  unfold insI at h
  split at h
  · rename_i C' fs' e
    cases h
    exact key e rfl
  · rename_i C' fs' e
    cases h
    exact key e rfl
  · cases h
theorem Rel.setIns (R : Rel F W σ Γ) {i : Nat} {s : Sl} {C : Addr} {fs fs' : Fs} {p : Addr} {H' : Hp} {f' : List Addr} (h1 : Γ[i]? = some s) (h2 : s.own? = some (.ins C fs)) (h3 : σ[i]? = some (some (.ref p))) (fr : ∀ a u, a ∉ W.ft i → W.H a = some u → H' a = some u) (nw : ∀ a ∈ f', a ∈ W.ft i ∨ W.H a = none) (mo : ∀ a ∈ W.ft i, Mo (H' a))
    (own : OwnO K (W.S F) H' (.ins C fs') p f') : ∃ W' : Wd, W'.H = H' ∧ Rel F W' σ (Γ.set i (setOwn s (.ins C fs'))) ∧ Stx F W Γ W' (Γ.set i (setOwn s (.ins C fs'))) := by
  let M : Chg := fun j => if j = i then some (.ins C fs', f') else none
  have Mi : M i = some (.ins C fs', f') := if_pos rfl
  have Mx : ∀ {j m}, M j = some m → j = i ∧ m = (.ins C fs', f') := fun {j m} e => by
    by_cases z : j = i
    · subst z; rw [Mi] at e; exact ⟨rfl, (Option.some.inj e).symm⟩
    · rw [show M j = none from if_neg z] at e; cases e
  have cR : ∀ a, chR W M a ↔ a ∈ W.ft i := fun a => ⟨fun ⟨j, m, e, ha⟩ => by obtain ⟨rfl, _⟩ := Mx e; exact ha, fun ha => ⟨i, _, Mi, ha⟩⟩
  have cN : ∀ a, chN M a ↔ a ∈ f' := fun a => ⟨fun ⟨j, o, f, e, ha⟩ => by obtain ⟨rfl, e2⟩ := Mx e; cases e2; exact ha, fun ha => ⟨i, _, _, Mi, ha⟩⟩
  have hO : ∀ a ∈ W.ft i, W.O a := slot_O (R.slot i s h1) h2
  have eG : chG Γ M = Γ.set i (setOwn s (.ins C fs')) := by
    apply List.ext_getElem?
    intro j
    by_cases z : j = i
    · subst z
      rw [chG_some h1 Mi, List.getElem?_set_self (lt_of_get h1)]
    · rw [chG_none (show M j = none from if_neg z), List.getElem?_set_ne (Ne.symm z)]
  have sS : Same (W.S F) ((chW W M H' fun _ => False).S F) := same_less fun a u nx e => by
    refine ⟨fun z => ?_, fr a u (fun c => nx (.inr (hO a c))) e⟩
    rcases z with z | z | z | z
    · exact nx (.inl z)
    · exact nx (.inr z)
    · rcases nw a ((cN a).mp z) with c | c
      · exact nx (.inr (hO a c))
      · rw [e] at c; cases c
    · exact z
  have ch : ChOk F W σ Γ M H' fun _ => False := by
    refine ⟨fun a u n e => fr a u (fun z => n ((cR a).mpr z)) e, fun a z => (nw a ((cN a).mp z)).imp (cR a).mpr id, fun a z => ?_, fun j m e => ?_, fun j k m n a ne e1 e2 => ?_, fun a z => z.elim, ?_⟩
    · rcases z with z | z
      · exact mo a ((cR a).mp z)
      · exact own.mo a ((cN a).mp z)
    · obtain ⟨rfl, rfl⟩ := Mx e
      exact ⟨s, _, p, h1, h2, h3, own.keep sS (fun _ _ _ e => e) fun _ _ => rfl, (fun z => nomatch z), rfl⟩
    · obtain ⟨rfl, _⟩ := Mx e1
      obtain ⟨rfl, _⟩ := Mx e2
      exact absurd rfl ne
    · cases s with
      | ow o => exact .inl fun j m t e h => by obtain ⟨rfl, _⟩ := Mx e; rw [h1] at h; cases h; exact ⟨o, rfl⟩
      | rf o => exact .inr fun j m t e h => by obtain ⟨rfl, _⟩ := Mx e; rw [h1] at h; cases h; exact ⟨o, rfl⟩
      | _ => cases h2
  obtain ⟨R', kq⟩ := R.objs ch
  have st := R.objsM (m := true) ch (fun z => nomatch z) (fun z => nomatch z)
  rw [eG] at R' st
  exact ⟨_, rfl, R', st⟩
end
/-! self.f = .. -/
section
variable {K : Fg} {Xw : WX} {m : Bool} {t : TE} {i : Nat} {f : Str}
def dSetF (K : Fg) (i : Nat) (f : Str) (d : TEXd) : TSd := fun E Γ => d Γ (fun x Γ1 => ∃ C fs y, insI Γ1 i = some (C, fs) ∧ shOf x = some y ∧ fs.len < 1000 ∧ (fs.has f = true ∨ NoAttr K C f) ∧ E.nx (putI Γ1 i C (fs.setSh f y))) E.xs
instance (priority := low) ss_setF {d : TEXd} [A : SEX K Xw m t d] : SS K Xw (sFld K (tVar i) t f) (dSetF K i f d) := ⟨fun F W σ Γ D E R q L => A.run F W σ Γ _ _ _ R q (fun x W' Γ' v s R' o ⟨C, fs, y, h1, h2, h3, h4, q⟩ => by
  obtain ⟨sl, p, dx, vs, qs, a1, a2, a3, a4, a5, a6, a7, a8, a9, a10⟩ := insI_ok R' h1
  have na : NoAttr K C f := h4.elim (fun z => a9.na f z) id
  refine ⟨.ref p, a3, p, C, dx, vs, rfl, a6, a9.cl, na, by rw [a8.len]; exact h3, ?_⟩
  have hv := o.sh R' h2
  have npx : ∀ a ∈ dx :: qs, a ≠ p := fun a ha z => (List.nodup_cons.mp a5).1 (z ▸ ha)
  have txp : Tx W'.H (upd W'.H p (.ins C dx (putF f v vs))) := fun a u nm e => by
    rw [upd_ne]
    · exact e
    · intro z
      rw [z, a6] at e
      cases e
      exact nm trivial
  obtain ⟨qs', b1, b2⟩ := a8.setSh (f := f) hv
  rw [a10] at q
  obtain ⟨W2, eH, R2, s2⟩ := R'.setIns (H' := upd W'.H p (.ins C dx (putF f v vs))) (fs' := fs.setSh f y) (f' := p :: dx :: qs') a1 a2 a3 (fun a u n e => by
    rw [upd_ne fun z => n (by rw [a4, z]; simp)]
    exact e) (fun a ha => .inl (by
    rw [a4]
    rcases List.mem_cons.mp ha with rfl | ha
    · simp
    · rcases List.mem_cons.mp ha with rfl | ha
      · simp
      · simp [b2.subset ha])) (fun a ha => by
    by_cases z : a = p
    · rw [z, upd_same]; trivial
    · rw [upd_ne z]
      exact R'.mu a (slot_O (R'.slot i sl a1) a2 a ha)) (by
    simp only [OwnO]
    refine ⟨dx, putF f v vs, qs', rfl, ?_, upd_same, by rw [upd_ne (npx dx (by simp))]; exact a7, ?_, a9.cl, fun g hg => (setSh_has hg).elim (a9.na g) fun z => z ▸ na⟩
    · exact List.Nodup.sublist ((b2.cons₂ dx).cons₂ p) a5
    · exact b1.keep (Same.refl _) txp fun a ha => upd_ne (npx a (by simp [b2.subset ha])))
  rw [← eH]
  exact L.nx W2 σ _ (s.stx.sh.trans s2.sh) R2 q) fun c W' Γ' s R' q => L.xs W' σ Γ' c s R' q⟩
/-- .. with a new list or dict -/
def dSetFN (K : Fg) (i : Nat) (f : Str) (d : TFd) : TSd := fun E Γ => d Γ fun o Γ1 => ∃ C fs, insI Γ1 i = some (C, fs) ∧ fs.len < 1000 ∧ (fs.has f = true ∨ NoAttr K C f) ∧ E.nx (putI Γ1 i C (fs.setOw f o))
instance ss_setFN {d : TFd} [A : SEF K t d] : SS K Xw (sFld K (tVar i) t f) (dSetFN K i f d) := ⟨fun F W σ Γ D E R q L => A.run F W σ Γ _ _ R q fun o W' Γ' l ho s R' hl oh ⟨C, fs, h1, h3, h4, q⟩ => by
  obtain ⟨sl, p, dx, vs, qs, a1, a2, a3, a4, a5, a6, a7, a8, a9, a10⟩ := insI_ok R' h1
  have na : NoAttr K C f := h4.elim (fun z => a9.na f z) id
  have nlp : l ≠ p := fun z => by rw [z, a6] at hl; cases hl
  have hO := slot_O (R'.slot i sl a1) a2
  have nl : l ∉ W'.ft i := fun z => by
    have := R'.mu l (hO l z)
    rw [hl] at this
    exact this
  refine ⟨.ref p, a3, p, C, dx, vs, rfl, by rw [upd_ne (Ne.symm nlp)]; exact a6, a9.cl, na, by rw [a8.len]; exact h3, ?_⟩
  have npx : ∀ a ∈ dx :: qs, a ≠ p := fun a ha z => (List.nodup_cons.mp a5).1 (z ▸ ha)
  rw [a10] at q
  have e1 : ∀ a, a ≠ l → a ≠ p → upd (upd W'.H l ho) p (.ins C dx (putF f (.ref l) vs)) a = W'.H a := fun a n1 n2 => by rw [upd_ne n2, upd_ne n1]
  have el : upd (upd W'.H l ho) p (.ins C dx (putF f (.ref l) vs)) l = some ho := by rw [upd_ne nlp, upd_same]
  have tx : Tx W'.H (upd (upd W'.H l ho) p (.ins C dx (putF f (.ref l) vs))) := fun a u nm e => by
    rw [e1]
    · exact e
    · intro z; rw [z, hl] at e; cases e
    · intro z; rw [z, a6] at e; cases e; exact nm trivial
  have mem : ∀ a ∈ W'.ft i, a ≠ l := fun a ha z => nl (z ▸ ha)
  have hF : FsOk K (W'.S F) (upd (upd W'.H l ho) p (.ins C dx (putF f (.ref l) vs))) fs vs qs := a8.keep (Same.refl _) tx fun a ha => e1 a (mem a (by rw [a4]; simp [ha])) (npx a (by simp [ha]))
  have hL : OwnO K (W'.S F) (upd (upd W'.H l ho) p (.ins C dx (putF f (.ref l) vs))) o l [l] := ownO_ok.mpr (ownH_ok oh el)
  obtain ⟨qa, qb, b1, b2⟩ := hF.setOw (f := f) hL
  have sub : ∀ a, a ∈ qa ++ [l] ++ qb → a ∈ qs ∨ a = l := fun a ha => by
    simp only [List.mem_append, List.mem_singleton] at ha
    rcases ha with (ha | ha) | ha
    · exact .inl (b2.subset (by simp [ha]))
    · exact .inr ha
    · exact .inl (b2.subset (by simp [ha]))
  have nlq : l ∉ qs := fun z => nl (by rw [a4]; simp [z])
  have nd : (p :: dx :: (qa ++ [l] ++ qb)).Nodup := by
    have h1 : (p :: dx :: (qa ++ qb)).Nodup := List.Nodup.sublist ((b2.cons₂ dx).cons₂ p) a5
    have h2 : l ∉ p :: dx :: (qa ++ qb) := fun z => by
      rcases List.mem_cons.mp z with z | z
      · exact nlp z
      · rcases List.mem_cons.mp z with z | z
        · exact nl (by rw [a4, z]; simp)
        · exact nlq (b2.subset z)
    have pm : (l :: p :: dx :: (qa ++ qb)).Perm (p :: dx :: (qa ++ [l] ++ qb)) := by
      refine (List.Perm.swap p l _).trans (.cons p ((List.Perm.swap dx l _).trans (.cons dx ?_)))
      rw [List.append_assoc]
      exact List.perm_middle.symm
    exact pm.nodup (List.nodup_cons.mpr ⟨h2, h1⟩)
  obtain ⟨W2, eH, R2, s2⟩ := R'.setIns (H' := upd (upd W'.H l ho) p (.ins C dx (putF f (.ref l) vs))) (fs' := fs.setOw f o) (f' := p :: dx :: (qa ++ [l] ++ qb)) a1 a2 a3 (fun a u n e => by
    rw [e1 a (fun z => by rw [z, hl] at e; cases e) fun z => n (by rw [a4, z]; simp)]
    exact e) (fun a ha => by
    rw [a4]
    rcases List.mem_cons.mp ha with rfl | ha
    · simp
    · rcases List.mem_cons.mp ha with rfl | ha
      · simp
      · rcases sub a ha with ha | ha
        · simp [ha]
        · right; rw [ha]; exact hl) (fun a ha => by
    by_cases z : a = p
    · rw [z, upd_same]; trivial
    · rw [e1 a (mem a ha) z]
      exact R'.mu a (hO a ha)) (by
    simp only [OwnO]
    exact ⟨dx, putF f (.ref l) vs, qa ++ [l] ++ qb, rfl, nd, upd_same, by rw [e1 dx (mem dx (by rw [a4]; simp)) (npx dx (by simp))]; exact a7, b1, a9.cl, fun g hg => (setOw_has hg).elim (a9.na g) fun z => z ▸ na⟩)
  rw [← eH]
  exact L.nx W2 σ _ (s.sh.trans s2.sh) R2 q⟩
/-! a list of an attribute -/
def fldL (Γ : G) (i : Nat) (f : Str) : Option (Addr × Fs × List PyData) := match insI Γ i with
  | some (C, fs) => match fs.getO f with
    | some (.lst ds) => some (C, fs, ds)
    | _ => none
  | none => none
theorem fldL_of {Γ : G} {i : Nat} {f : Str} {C : Addr} {fs : Fs} {ds : List PyData} (h : fldL Γ i f = some (C, fs, ds)) : insI Γ i = some (C, fs) ∧ fs.getO f = some (.lst ds) := by
  unfold fldL at h
  split at h
  · rename_i C' fs' e
    split at h
    · rename_i ds' e2
      cases h
      exact ⟨e, e2⟩
    · cases h
  · cases h
theorem Rel.putFL {F : Fx K} {W : Wd} {σ : L2.St} {Γ : G} (R : Rel F W σ Γ) {C : Addr} {fs : Fs} {ds ds' : List PyData} {us' : List V} (h : fldL Γ i f = some (C, fs, ds)) (hd : DqAll K (W.S F) us' ds') : ∃ p dx vs q us, σ[i]? = some (some (.ref p)) ∧ W.H p = some (.ins C dx vs) ∧ vs.lookup f = some (.ref q) ∧ Cls K C ∧ NoAttr K C f ∧ W.H q = some (.lst us) ∧ DqAll K (W.S F) us ds ∧
    ∃ W' : Wd, W'.H = upd W.H q (.lst us') ∧ Rel F W' σ (putI Γ i C (fs.setOw f (.lst ds'))) ∧ Stx F W Γ W' (putI Γ i C (fs.setOw f (.lst ds'))) := by
  obtain ⟨h1, h2⟩ := fldL_of h
  obtain ⟨sl, p, dx, vs, qs, a1, a2, a3, a4, a5, a6, a7, a8, a9, a10⟩ := insI_ok R h1
  obtain ⟨q, l1⟩ := a8.lookO h2
  have nd := (List.nodup_cons.mp (List.nodup_cons.mp a5).2).2
  obtain ⟨⟨us, b1, b2⟩, b3, b4⟩ := a8.updL hd nd h2 l1
  have npq : q ≠ p := fun z => (List.nodup_cons.mp a5).1 (by rw [← z]; simp [b3])
  have ndq : q ≠ dx := fun z => (List.nodup_cons.mp (List.nodup_cons.mp a5).2).1 (by rw [← z]; exact b3)
  refine ⟨p, dx, vs, q, us, a3, a6, l1, a9.cl, a9.na f (getO_has h2), b1, b2, ?_⟩
  rw [a10]
  exact R.setIns (H' := upd W.H q (.lst us')) (fs' := fs.setOw f (.lst ds')) (f' := p :: dx :: qs) a1 a2 a3 (fun a u n e => by
    rw [upd_ne fun z => n (by rw [a4, z]; simp [b3])]
    exact e) (fun a ha => .inl (by rw [a4]; exact ha)) (fun a ha => by
    by_cases z : a = q
    · rw [z, upd_same]; trivial
    · rw [upd_ne z]
      exact R.mu a (slot_O (R.slot i sl a1) a2 a ha)) (by
    simp only [OwnO]
    exact ⟨dx, vs, qs, rfl, a5, by rw [upd_ne (Ne.symm npq)]; exact a6, by rw [upd_ne (Ne.symm ndq)]; exact a7, b4, a9.cl, fun g hg => (setOw_has hg).elim (a9.na g) fun z => z ▸ a9.na f (getO_has h2)⟩)
def dFldApp (i : Nat) (f : Str) (d : TEXd) : TSd := fun E Γ => (fldL Γ i f).isSome = true ∧ d Γ (fun x Γ1 => ∃ C fs ds y, fldL Γ1 i f = some (C, fs, ds) ∧ shOf x = some y ∧ ds.length < sizeLine ∧ E.nx (putI Γ1 i C (fs.setOw f (.lst (ds ++ [y]))))) E.xs
theorem insI_ins {Γ : G} {C : Addr} {fs : Fs} (h : insI Γ i = some (C, fs)) : ∃ s, Γ[i]? = some s ∧ s.ins? = some (.ins C fs) := by
  unfold insI at h
  split at h
  · rename_i C' fs' e; cases h; exact ⟨_, e, rfl⟩
  · rename_i C' fs' e; cases h; exact ⟨_, e, rfl⟩
  · cases h
class IsF (m : Bool) : Prop where
  e : m = false
instance isF_no : IsF false := ⟨rfl⟩
instance isF_or {a b : Bool} [A : IsF a] [B : IsF b] : IsF (a || b) := ⟨by rw [A.e, B.e]; rfl⟩
instance (priority := high) ss_fldApp {te : TE} {d : TEXd} [A : SEX K Xw m te d] [M : IsF m] : SS K Xw (tDrop (tBM K "list" rAppend (tFld K (tVar i) f) (tCons te tNil))) (dFldApp i f d) := ⟨fun F W σ Γ D E R ⟨h0, q⟩ L => by
  obtain ⟨⟨C0, fs0, ds0⟩, h0⟩ := Option.isSome_iff_exists.mp h0
  obtain ⟨p0, dx0, vs0, q0, us0, c1, c2, c3, c4, c5, c6, c7, _⟩ := R.putFL (us' := []) (ds' := []) h0 .nil
  obtain ⟨sl, z1, z2⟩ := insI_ins (fldL_of h0).1
  refine ⟨.ref p0, c1, p0, C0, dx0, vs0, .ref q0, rfl, c2, c4, c5, c3, .inl ⟨rfl, _, SqL.of c6⟩, ?_⟩
  refine A.run F W σ Γ _ _ _ R q (fun x W' Γ' v s R' o ⟨C, fs, ds, y, h1, h2, h3, q⟩ => ?_) fun c W' Γ' s R' q => L.xs W' σ Γ' c s R' q
  have hs : Stp F W Γ W' Γ' := by
    rw [M.e] at s
    exact s
  obtain ⟨p, dx, vs, q', us, e1, e2, e3, _, _, e6, e7, _⟩ := R'.putFL (us' := []) (ds' := []) h1 .nil
  have eq : q' = q0 := by
    rw [c1] at e1
    cases e1
    have := hs.obj _ _ _ _ c2
    rw [e2] at this
    cases this
    rw [e3] at c3
    cases c3
    rfl
  subst eq
  obtain ⟨p2, dx2, vs2, q2, us2, f1, f2, f3, _, _, f6, f7, W2, eH, R2, s2⟩ := R'.putFL (us' := us ++ [v]) (ds' := ds ++ [y]) h1 (e7.app (.cons (o.sh R' h2) .nil))
  have eq2 : q2 = q' := by
    rw [f1] at e1
    cases e1
    rw [f2] at e2
    cases e2
    rw [f3] at e3
    cases e3
    rfl
  subst eq2
  refine ⟨q2, us, v, rfl, rfl, e6, by rw [e7.length]; exact h3, ?_⟩
  show D.nx σ _
  rw [← eH]
  exact L.nx W2 σ _ (hs.sh.trans s2.sh) R2 q⟩
def dFldPop (i : Nat) (f : Str) : TEXd := fun Γ Q _ => ∃ C fs ds y, fldL Γ i f = some (C, fs, ds) ∧ ds[ds.length - 1]? = some y ∧ Q (.sh y) (putI Γ i C (fs.setOw f (.lst ds.dropLast)))
instance sex_fldPop : SEX K Xw true (tBM0 K "list" rPop (tFld K (tVar i) f)) (dFldPop i f) := ⟨fun F W σ Γ Q Qd Qx R ⟨C, fs, ds, y, h1, h2, q⟩ k _ => by
  obtain ⟨p, dx, vs, q', us, e1, e2, e3, e4, e5, e6, e7, _⟩ := R.putFL (us' := []) (ds' := []) h1 .nil
  obtain ⟨v, g1, g2⟩ := e7.get h2
  obtain ⟨p2, dx2, vs2, q2, us2, f1, f2, f3, _, _, f6, f7, W2, eH, R2, s2⟩ := R.putFL (us' := us.dropLast) (ds' := ds.dropLast) h1 e7.dropLast
  have eq2 : q2 = q' := by
    rw [f1] at e1
    cases e1
    rw [f2] at e2
    cases e2
    rw [f3] at e3
    cases e3
    rfl
  subst eq2
  refine ⟨.ref p, e1, p, C, dx, vs, .ref q2, rfl, e2, e4, e5, e3, .inl ⟨rfl, _, SqL.of e6⟩, q2, us, v, rfl, rfl, e6, by rw [e7.length]; exact g1, ?_⟩
  rw [← eH]
  exact k (.sh y) W2 _ v s2 R2 (g2.same s2.sh) q⟩
/-! C(..) -/
def noRf (as : List AD) : Bool := as.all fun a => !isRf a
def dMake (K : Fg) (cl : Addr) (C : Ct) (d : TAXd) : TGCd := fun Γ Q X => d Γ (fun xs Γ1 => ∃ as, adsOf true Γ1 xs = some as ∧ noRf as = true ∧ Cls K cl ∧ C (.rf (.ins cl .nil) :: as) (fun r ol => r = .d .none ∧ ∃ o, ol = [o] ∧ Q (.nw o) Γ1) fun _ _ => False) X
theorem noRf_at {as : List AD} (h : noRf as = true) {j : Nat} {o : OD} (e : as[j]? = some (.rf o)) : False := by
  have := List.all_eq_true.mp h _ (List.mem_of_getElem? e)
  simp [isRf] at this
theorem noRf_ix {as : List AD} (h : noRf as = true) (xs : List RV) : rfIx xs as 0 = [] := by
  cases e : rfIx xs as 0 with
  | nil => rfl
  | cons q r =>
    obtain ⟨n, o, _, _, h3⟩ := rfIx_mem (i := q.1) (k := q.2) (xs := xs) (as := as) (j := 0) (by rw [e]; simp)
    exact (noRf_at h h3).elim
theorem chG_id (Γ : G) : chG Γ (fun _ => none) = Γ := by
  apply List.ext_getElem?
  intro i
  exact chG_none rfl
theorem make_run {F : Fx K} {W W1 : Wd} {σ : L2.St} {Γ Γ1 : G} {m1 : Bool} {cl : Addr} {C : Ct} {vs : List V} {xs : List RV} {as : List AD} {Q : VK} {Qd : RT → G → Prop} {Qe : Value → Prop} {E : XK} (s1 : StM m1 F W Γ W1 Γ1) (R1 : Rel F W1 σ Γ1) (o1 : VOks F W1 σ Γ1 vs xs) (ha : adsOf true Γ1 xs = some as) (hn : noRf as = true) (hcl : Cls K cl) (hc : C (.rf (.ins cl .nil) :: as) (fun r ol => r = .d .none ∧ ∃ o, ol = [o] ∧ Qd (.nw o) Γ1) fun c _ => Qe c)
    (k : ∀ (r : RT) (W' : Wd) (Γ' : G) (v : V), StM m1 F W Γ W' Γ' → Rel F W' σ Γ' → RtOk F W Γ W' Γ' v r → Qd r Γ' → Q v W'.H) (kx : ∀ (c : Value) (W' : Wd), Same (W.S F) (W'.S F) → Rel F W' σ Γ1 → Qe c → E c none W'.H) {x dx : Addr} (hx : W1.H x = none) (hdx : W1.H dx = none) (ne : dx ≠ x) :
    GSp K true C (.ref x :: vs) (upd (upd W1.H dx (.own x)) x (.ins cl dx [])) (fun v H2 => v = .non ∧ Q (.ref x) H2) E := by
  obtain ⟨ft0, hin, _⟩ := gIn_of R1 o1 ha (by rw [noRf_ix hn]; rfl)
  have nr0 : ∀ ft a, ¬ Rfs as ft a := fun ft a ⟨j, o, e, _⟩ => noRf_at hn e
  have old : ∀ a u, W1.H a = some u → upd (upd W1.H dx (.own x)) x (.ins cl dx []) a = some u := fun a u e => by
    rw [upd_ne (fun z => by rw [z, hx] at e; cases e), upd_ne (fun z => by rw [z, hdx] at e; cases e)]
    exact e
  have ex : upd (upd W1.H dx (.own x)) x (.ins cl dx []) x = some (.ins cl dx []) := upd_same
  have edx : upd (upd W1.H dx (.own x)) x (.ins cl dx []) dx = some (.own x) := by rw [upd_ne ne, upd_same]
  generalize hH : upd (upd W1.H dx (.own x)) x (.ins cl dx []) = H2 at old ex edx
  have tx : Tx W1.H H2 := fun a u _ e => old a u e
  let ft : Nat → List Addr := fun j => if j = 0 then [x, dx] else []
  have rf1 : ∀ a, Rfs (.rf (.ins cl .nil) :: as) ft a → a = x ∨ a = dx := fun a ⟨j, o, e, hj⟩ => by
    cases j with
    | zero => simpa [ft] using hj
    | succ j => exact (noRf_at hn (by simpa using e)).elim
  have nxd : ∀ a u, W1.H a = some u → ¬ (a = x ∨ a = dx) := fun a u e z => by
    rcases z with rfl | rfl
    · rw [hx] at e; cases e
    · rw [hdx] at e; cases e
  have inn : GIn K true (.ref x :: vs) H2 (.rf (.ins cl .nil) :: as) ft (fun a => Ex F W1.O a ∨ a = x ∨ a = dx) := by
    refine ⟨by simp [hin.len], fun j a e => ?_, fun a z => ?_, fun a z => .inr (rf1 a z), fun i j o o' a ni e1 e2 h1 h2 => ?_⟩
    · cases j with
      | zero =>
        simp at e
        subst e
        refine ⟨_, rfl, x, rfl, ?_⟩
        simp only [OwnO]
        exact ⟨dx, [], [], rfl, by simp [ft, Ne.symm ne], ex, edx, by simp only [FsOk]; exact ⟨trivial, trivial⟩, hcl, fun f hf => by simp [Fs.has] at hf⟩
      | succ j =>
        obtain ⟨v, g1, g2⟩ := hin.arg j a (by simpa using e)
        refine ⟨v, by simpa using g1, ?_⟩
        have sX : Same (less W1.H (Ex F W1.O)) (less H2 fun a => Ex F W1.O a ∨ a = x ∨ a = dx) := same_less fun b u nx e => ⟨fun z => z.elim nx (nxd b u e), old b u e⟩
        cases a with
        | d d z =>
          cases z with
          | true => exact Dq.same sX g2
          | false => exact Dq.same (same_less fun b u _ e => ⟨fun z => nxd b u e (rf1 b z), old b u e⟩) g2
        | rf o => exact (noRf_at hn (by simpa using e)).elim
        | ro o =>
          obtain ⟨q0, p, g, q1, q2, q3⟩ := g2
          have some_of : ∀ b ∈ g, ∃ u, W1.H b = some u := fun b hb => by
            cases w : W1.H b with
            | none => have m := R1.exmo (q2 b hb).2; rw [w] at m; exact m.elim
            | some u => exact ⟨u, rfl⟩
          refine ⟨q0, p, g, q1, fun b hb => ?_, q3.keep sX tx fun b hb => ?_⟩
          · obtain ⟨u, hu⟩ := some_of b hb
            exact ⟨fun z => nxd b u hu (rf1 b z), .inl (q2 b hb).2⟩
          · obtain ⟨u, hu⟩ := some_of b hb
            rw [old b u hu, hu]
    · rcases z with z | rfl | rfl
      · have m := R1.exmo z
        obtain ⟨u, hu⟩ := mo_some m
        rw [old a u hu, ← hu]
        exact m
      · rw [ex]; trivial
      · rw [edx]; trivial
    · cases i with
      | zero =>
        cases j with
        | zero => exact ni rfl
        | succ j => exact noRf_at hn (by simpa using e2)
      | succ i => exact noRf_at hn (by simpa using e1)
  have fin : ∀ {H' : Hp} {os : Nat → OD} {ft' : Nat → List Addr} {T : Addr → Prop}, GOut K (.ref x :: vs) H2 (.rf (.ins cl .nil) :: as) ft (fun a => Ex F W1.O a ∨ a = x ∨ a = dx) H' os ft' T → ∀ T' : Addr → Prop, (∀ a, T' a → a ∈ ft' 0) → ChOk F W1 σ Γ1 (fun _ => none) H' T' := fun {H' os ft' T} g T' hT => by
    refine ⟨fun a u _ e => g.fr a u (fun z => nxd a u e (rf1 a z)) (old a u e), (fun a ⟨_, _, _, e, _⟩ => nomatch e), fun a z => ?_, (fun i m e => nomatch e), (fun i k m n a _ e => nomatch e), fun a z => ?_, .inl fun i m s e => nomatch e⟩
    · rcases z with ⟨_, _, e, _⟩ | ⟨_, _, _, e, _⟩ <;> cases e
    · obtain ⟨p, _, q2, _⟩ := g.ob 0 _ rfl
      refine ⟨?_, (fun ⟨_, _, _, e, _⟩ => nomatch e), q2.mo a (hT a z)⟩
      cases w : W1.H a with
      | none => rfl
      | some u =>
        rcases g.nw a ⟨0, _, rfl, hT a z⟩ with y | y
        · exact (nxd a u w (rf1 a y)).elim
        · rw [old a u w] at y; cases y
  refine ⟨_, ft, _, _, _, inn, hc, fun v H' os ft' T r g ok ⟨er, o0, eo, q⟩ => ?_, fun c H' os ft' g q => ?_⟩
  · subst er
    cases (show some (os 0) = some o0 from congrArg List.head? eo)
    have ev : v = .non := by cases ok.1; rfl
    refine ⟨ev, ?_⟩
    have ch := fin g (fun a => a ∈ ft' 0) fun a z => z
    obtain ⟨R2, _⟩ := R1.objs ch
    have st := R1.objsM (m := false) ch (fun _ i n e => nomatch e) (fun _ a ⟨_, _, e, _⟩ => nomatch e)
    rw [chG_id] at R2 st
    have st2 := s1.trans st
    rw [Bool.or_false] at st2
    refine k (.nw (os 0)) _ Γ1 (.ref x) st2 R2 ?_ q
    obtain ⟨p, q1, q2, _⟩ := g.ob 0 _ rfl
    cases (show some (V.ref x) = some (V.ref p) from q1)
    refine ⟨x, ft' 0, rfl, q2.keep (same_less fun a u nx e => ⟨fun z => nx ?_, e⟩) (fun _ _ _ e => e) fun _ _ => rfl, fun a ha => ⟨?_, fun z => ?_⟩⟩
    · rcases z with z | z | z | z
      · exact .inl (.inl (.inl z))
      · exact .inl (.inl (.inr z))
      · obtain ⟨_, _, _, e, _⟩ := z; cases e
      · exact .inr (.inl ⟨0, _, rfl, z⟩)
    · have := ch.tm R1 ha
      rw [chG_id] at this
      exact this
    · have m := R1.mu a (s1.stx.tmp a z).1.1
      rw [(ch.tn a ha).1] at m
      exact m
  · have ch := fin g (fun _ => False) fun a z => z.elim
    obtain ⟨R2, kq⟩ := R1.objs ch
    rw [chG_id] at R2
    exact kx c _ (s1.stx.sh.trans kq.sh) R2 q
instance seg_make {cl : Addr} {C : Ct} {E : XK} {m1 : Bool} {ts : TA} {d : TAXd} [A : SAX K Xw m1 ts d] : SEG K Xw m1 (tMake cl (GSp K true C) [] E ts) (dMake K cl C d) := ⟨fun F W σ Γ Q Qd Qx R q k kx => A.run F W σ Γ _ _ _ R q (fun xs W1 Γ1 vs s1 R1 o1 ⟨as, ha, hn, hcl, hc⟩ => by
  intro x dx hx hdx ne
  rw [List.append_nil]
  exact make_run (Qe := fun _ => False) s1 R1 o1 ha hn hcl hc k (fun c W' _ _ z => z.elim) hx hdx ne) kx⟩
end
end Dk

/-! more unknown numbers than equations: a solution that is not nought -/
namespace Sr
open Pt Mk
def dot : List Int → List Int → Int
  | a :: r, x :: s => a * x + dot r s
  | _, _ => 0
theorem dot_zero (e : List Int) : ∀ n : Nat, dot e (List.replicate n 0) = 0 := by
  induction e with
  | nil => intro n; cases n <;> rfl
  | cons a r ih =>
    intro n
    cases n with
    | zero => rfl
    | succ n => simp only [List.replicate_succ, dot, ih n]; omega
theorem dot_comb (c : Int) : ∀ (e f v : List Int), e.length = v.length → f.length = v.length → dot (List.zipWith (fun x y => x - c * y) e f) v = dot e v - c * dot f v
  | [], [], [], _, _ => by simp [dot]
  | a :: r, b :: s, x :: t, h1, h2 => by
    have ih := dot_comb c r s t (by simpa using h1) (by simpa using h2)
    simp only [List.zipWith_cons_cons, dot, ih]
    rw [Int.sub_mul, Int.mul_add, Int.mul_assoc]
    omega
  | [], [], _ :: _, h, _ => by simp at h
  | [], _ :: _, [], _, h => by simp at h
  | [], _ :: _, _ :: _, h, _ => by simp at h
  | _ :: _, _, [], h, _ => by simp at h
  | _ :: _, [], _ :: _, _, h => by simp at h
theorem sys_solve {p : Int} (hp : 1 < p) (hinv : ∀ x : Int, x % p ≠ 0 → ∃ c, x * c % p = 1) : ∀ (m n : Nat) (E : List (List Int)), E.length = m → m < n → (∀ e ∈ E, e.length = n) → ∃ v : List Int, v.length = n ∧ (∃ x ∈ v, x % p ≠ 0) ∧ ∀ e ∈ E, dot e v % p = 0 := by
  intro m
  induction m with
  | zero =>
    intro n E hE hn _
    have : E = [] := List.length_eq_zero_iff.mp hE
    subst this
    obtain ⟨n, rfl⟩ : ∃ k, n = k + 1 := ⟨n - 1, by omega⟩
    exact ⟨1 :: List.replicate n 0, by simp, ⟨1, by simp, by rw [Int.emod_eq_of_lt (by decide) hp]; decide⟩, fun e he => nomatch he⟩
  | succ m ih =>
    intro n E hE hn hl
    obtain ⟨n, rfl⟩ : ∃ k, n = k + 1 := ⟨n - 1, by omega⟩
    by_cases c : ∀ e ∈ E, e.headD 0 % p = 0
    · refine ⟨1 :: List.replicate n 0, by simp, ⟨1, by simp, by rw [Int.emod_eq_of_lt (by decide) hp]; decide⟩, fun e he => ?_⟩
      have h1 := c e he
      have h2 := hl e he
      cases e with
      | nil => simp at h2
      | cons a r =>
        simp only [dot, dot_zero]
        simpa using h1
    · obtain ⟨e0, h0, hne⟩ : ∃ e0 ∈ E, e0.headD 0 % p ≠ 0 := by
        by_cases z : ∃ e0 ∈ E, e0.headD 0 % p ≠ 0
        · exact z
        · exact absurd (fun e he => Decidable.byContradiction fun y => z ⟨e, he, y⟩) c
      obtain ⟨A, C, rfl⟩ := List.append_of_mem h0
      obtain ⟨a0, r0, rfl⟩ : ∃ a r, e0 = a :: r := by
        have := hl e0 h0
        cases e0 with
        | nil => simp at this
        | cons a r => exact ⟨a, r, rfl⟩
      have lr0 : r0.length = n := by simpa using hl _ h0
      obtain ⟨ci, hci⟩ := hinv a0 hne
      obtain ⟨v, hv1, hv2, hv3⟩ := ih n ((A ++ C).map fun e => List.zipWith (fun x y => x - (e.headD 0 * ci) * y) e.tail r0) (by simp at hE ⊢; omega) (by omega) (fun e he => by
        obtain ⟨f, hf, rfl⟩ := List.mem_map.mp he
        have := hl f (by simp at hf ⊢; rcases hf with z | z <;> simp [z])
        simp [lr0]
        omega)
      refine ⟨-(ci * dot r0 v) :: v, by simp [hv1], ?_, fun e he => ?_⟩
      · obtain ⟨x, hx, hxp⟩ := hv2
        exact ⟨x, by simp [hx], hxp⟩
      · have key : ∀ f ∈ A ++ C, dot f (-(ci * dot r0 v) :: v) % p = 0 := fun f hf => by
          have hlf := hl f (by simp at hf ⊢; rcases hf with z | z <;> simp [z])
          have h3 := hv3 _ (List.mem_map.mpr ⟨f, hf, rfl⟩)
          cases f with
          | nil => simp at hlf
          | cons b s =>
            have ls : s.length = n := by simpa using hlf
            rw [dot_comb _ _ _ _ (by simp [ls, hv1]) (by simp [lr0, hv1])] at h3
            simp only [dot]
            simp only [List.tail_cons, List.headD_cons] at h3
            rw [show b * -(ci * dot r0 v) + dot s v = dot s v - b * ci * dot r0 v by rw [Int.mul_neg, Int.mul_assoc]; omega]
            exact h3
        rcases List.mem_append.mp he with z | z
        · exact key e (List.mem_append_left _ z)
        · rcases List.mem_cons.mp z with rfl | z
          · simp only [dot]
            rw [show a0 * -(ci * dot r0 v) + dot r0 v = -(a0 * ci - 1) * dot r0 v by rw [Int.mul_neg, ← Int.mul_assoc, Int.neg_mul, Int.sub_mul]; omega]
            have h5 : (a0 * ci - 1) % p = 0 := by
              rw [Int.sub_emod, hci, Int.emod_eq_of_lt (by decide) hp]
              simp
            obtain ⟨t, ht⟩ := Int.dvd_of_emod_eq_zero h5
            rw [ht, show -(p * t) * dot r0 v = p * (-(t * dot r0 v)) by rw [Int.mul_neg, Int.neg_mul, Int.mul_assoc]]
            exact Int.mul_emod_right p _
          · exact key e (List.mem_append_right _ z)
theorem ws_zip (g : Pr → Int) : ∀ (U : List Pr) (v : List Int), ws g (U.zip v) = dot (U.map g) v
  | [], v => by cases v <;> rfl
  | u :: U, [] => rfl
  | u :: U, x :: v => by
    show g u * x + ws g (U.zip v) = _
    rw [ws_zip g U v]
    rfl
/-- a copy-sum that is dark at fewer places than it has copies -/
theorem copy_dark {p st : Int} (hp : 1 < p) (hinv : ∀ x : Int, x % p ≠ 0 → ∃ c, x * c % p = 1) (B : Int → Pat) (U : List Pr) (Ks : List Int) (h : Ks.length < U.length) : ∃ m : M, m.map (·.1) = U ∧ (∃ q ∈ m, q.2 % p ≠ 0) ∧ ∀ k ∈ Ks, Lin st B m k % p = 0 := by
  obtain ⟨v, hv1, ⟨x, hx, hxp⟩, hv3⟩ := sys_solve hp hinv Ks.length U.length (Ks.map fun k => U.map fun q => at_ (B q.1) (k - st * q.2)) (by simp) h (fun e he => by obtain ⟨k, _, rfl⟩ := List.mem_map.mp he; simp)
  refine ⟨U.zip v, List.map_fst_zip (by omega), ?_, fun k hk => ?_⟩
  · have : x ∈ (U.zip v).map (·.2) := by
      have e := List.map_snd_zip (l₁ := U) (l₂ := v) (by omega)
      have e2 : (U.zip v).map (·.2) = v := e
      rw [e2]
      exact hx
    obtain ⟨q, hq, rfl⟩ := List.mem_map.mp this
    exact ⟨q, hq, hxp⟩
  · unfold Lin
    rw [ws_zip]
    exact hv3 _ (List.mem_map.mpr ⟨k, hk, rfl⟩)
end Sr

/-! how long stairs are, and how far they reach, by counting -/
namespace Sr
open Pt Mk
def Span (p st : Int) (S : Int → Pat) (n : Nat) (f : Int → Int) : Prop := ∃ m : M, (∀ q ∈ m, 0 ≤ q.1.1 ∧ q.1.1 < n ∧ (st = 0 → q.1.2 = 0)) ∧ ∀ k, f k % p = Lin st S m k % p
section
variable {p st : Int} {S : Int → Pat} {n : Nat}
theorem Span.zero : Span p st S n fun _ => 0 := ⟨[], (fun _ h => nomatch h), fun k => rfl⟩
theorem Span.congr {f g : Int → Int} (h : Span p st S n f) (e : ∀ k, g k % p = f k % p) : Span p st S n g := by
  obtain ⟨m, h1, h2⟩ := h
  exact ⟨m, h1, fun k => (e k).trans (h2 k)⟩
theorem Span.add {f g : Int → Int} (hf : Span p st S n f) (hg : Span p st S n g) : Span p st S n fun k => f k + g k := by
  obtain ⟨m1, a1, a2⟩ := hf
  obtain ⟨m2, b1, b2⟩ := hg
  refine ⟨m1 ++ m2, fun q hq => (List.mem_append.mp hq).elim (a1 q) (b1 q), fun k => ?_⟩
  show (f k + g k) % p = ws _ (m1 ++ m2) % p
  rw [ws_app, Int.add_emod, a2 k, b2 k, ← Int.add_emod]
  rfl
theorem lin_shift (S : Int → Pat) (m : M) (s k : Int) : Lin st S (m.map fun x => ((x.1.1, x.1.2 + s), x.2)) k = Lin st S m (k - st * s) := by
  unfold Lin
  rw [ws_shift]
  congr 1
  funext q
  show at_ (S q.1) (k - st * (q.2 + s)) = at_ (S q.1) (k - st * s - st * q.2)
  rw [Int.mul_add]
  congr 1
  omega
theorem lin_mul (S : Int → Pat) (m : M) (c k : Int) : Lin st S (m.map fun x => (x.1, x.2 * c)) k = Lin st S m k * c := by
  unfold Lin
  rw [ws_mul]
theorem Span.copy {f : Int → Int} (hf : Span p st S n f) (s c : Int) (hs : st = 0 → s = 0) : Span p st S n fun k => f (k - st * s) * c := by
  obtain ⟨m, a1, a2⟩ := hf
  refine ⟨(m.map fun x => ((x.1.1, x.1.2 + s), x.2)).map fun x => (x.1, x.2 * c), fun q hq => ?_, fun k => ?_⟩
  · rw [List.map_map] at hq
    obtain ⟨x, hx, rfl⟩ := List.mem_map.mp hq
    have := a1 x hx
    exact ⟨this.1, this.2.1, fun z => by show x.1.2 + s = 0; rw [this.2.2 z, hs z]; rfl⟩
  · rw [lin_mul, lin_shift, Int.mul_emod, a2, ← Int.mul_emod]
theorem Span.lin {B : Int → Pat} : ∀ {m : M}, (∀ q ∈ m, Span p st S n (at_ (B q.1.1)) ∧ (st = 0 → q.1.2 = 0)) → Span p st S n (Lin st B m)
  | [], _ => Span.zero
  | x :: r, h => by
    have hx := h x (by simp)
    exact (hx.1.copy x.1.2 x.2 hx.2).add (Span.lin fun q hq => h q (by simp [hq]))
/-- what the stairs make and what lies low under all of them is dark -/
theorem Span.null {f : Int → Int} (hf : Span p st S n f) (hp : 1 < p) (hz : NoZero p) (h0 : 0 ≤ st) (hS : ∀ i : Nat, i < n → Stair p st (S i)) (hr : ∀ i j : Nat, i < j → j < n → firstC st (S i) < firstC st (S j))
    (hl : ∀ i : Nat, i < n → ∀ k, col st k = firstC st (S i) → f k % p ≠ 0 → firstC st (S i) ≤ k ∧ k < topC st (S i)) : ∀ k, f k % p = 0 := by
  obtain ⟨m, a1, a2⟩ := hf
  intro k
  rw [a2 k]
  refine all_null hp hz h0 hS hr n m (Nat.le_refl _) (fun q hq => ?_) (fun i hi k hk hne => hl i hi k hk (by rw [a2 k]; exact hne)) k
  have := a1 q hq
  exact ⟨by rw [Nat.sub_self]; exact this.1, this.2⟩
end
/-! copies of some patterns -/
def copiesOf (J : List Int) (s0 : Int) (N : Nat) : List Pr := J.flatMap fun t => (List.range N).map fun (a : Nat) => (t, s0 + (a : Int))
theorem mem_copies {J : List Int} {s0 : Int} {N : Nat} {q : Pr} : q ∈ copiesOf J s0 N ↔ q.1 ∈ J ∧ s0 ≤ q.2 ∧ q.2 < s0 + N := by
  unfold copiesOf
  rw [List.mem_flatMap]
  constructor
  · rintro ⟨t, ht, h⟩
    obtain ⟨a, ha, rfl⟩ := List.mem_map.mp h
    have := List.mem_range.mp ha
    exact ⟨ht, by simp only; omega, by simp only; omega⟩
  · rintro ⟨h1, h2, h3⟩
    refine ⟨q.1, h1, List.mem_map.mpr ⟨(q.2 - s0).toNat, List.mem_range.mpr (by omega), ?_⟩⟩
    exact Prod.ext rfl (by show s0 + ((q.2 - s0).toNat : Int) = q.2; omega)
theorem copies_len (J : List Int) (s0 : Int) (N : Nat) : (copiesOf J s0 N).length = J.length * N := by
  unfold copiesOf
  induction J with
  | nil => simp
  | cons t r ih => rw [List.flatMap_cons, List.length_append, ih, List.length_map, List.length_range, List.length_cons, Nat.succ_mul]; omega
theorem copies_nodup {J : List Int} (hJ : J.Nodup) (s0 : Int) (N : Nat) : (copiesOf J s0 N).Nodup := by
  induction J with
  | nil => exact .nil
  | cons t r ih =>
    have h := List.nodup_cons.mp hJ
    show ((List.range N).map (fun (a : Nat) => (t, s0 + (a : Int))) ++ copiesOf r s0 N).Nodup
    rw [List.nodup_append]
    refine ⟨?_, ih h.2, fun a ha b hb e => ?_⟩
    · refine List.Pairwise.map _ (fun a b hab z => hab ?_) List.nodup_range
      have := congrArg Prod.snd z
      simp only at this
      omega
    · obtain ⟨x, _, rfl⟩ := List.mem_map.mp ha
      subst e
      exact h.1 (mem_copies.mp hb).1
/-- no copy-sum of them is dark but the one without copies -/
def Ind (p st : Int) (B : Int → Pat) (J : List Int) : Prop := ∀ m : M, (∀ q ∈ m, q.1.1 ∈ J ∧ (st = 0 → q.1.2 = 0)) → (∀ k, Lin st B m k % p = 0) → ∀ q ∈ m, sumM m q.1 % p = 0
theorem sumM_nodup : ∀ {m : M}, (m.map (·.1)).Nodup → ∀ q ∈ m, sumM m q.1 = q.2
  | [], _, q, h => nomatch h
  | x :: r, nd, q, h => by
    have hn := List.nodup_cons.mp nd
    show (if x.1 = q.1 then x.2 else 0) + sumM r q.1 = q.2
    rcases List.mem_cons.mp h with rfl | h
    · rw [if_pos rfl, sumM_none fun y hy e => hn.1 (List.mem_map.mpr ⟨y, hy, e⟩), Int.add_zero]
    · have ne : ¬ x.1 = q.1 := fun e => hn.1 (List.mem_map.mpr ⟨q, h, e.symm⟩)
      rw [if_neg ne, sumM_nodup hn.2 q h, Int.zero_add]
/-- where a copy-sum can be lit -/
theorem lin_out {st : Int} {B : Int → Pat} {k : Int} : ∀ {m : M}, (∀ q ∈ m, at_ (B q.1.1) (k - st * q.1.2) = 0) → Lin st B m k = 0
  | [], _ => rfl
  | x :: r, h => by
    show at_ (B x.1.1) (k - st * x.1.2) * x.2 + Lin st B r k = 0
    rw [h x (by simp), lin_out fun q hq => h q (by simp [hq])]
    simp
/-- the places of some columns, rows 0 to N - 1 -/
def placesOf (st : Int) (cs : List Int) (N : Nat) : List Int := cs.flatMap fun c => (List.range N).map fun (a : Nat) => c + st * (a : Int)
theorem places_len (st : Int) (cs : List Int) (N : Nat) : (placesOf st cs N).length = cs.length * N := by
  unfold placesOf
  induction cs with
  | nil => simp
  | cons t r ih => rw [List.flatMap_cons, List.length_append, ih, List.length_map, List.length_range, List.length_cons, Nat.succ_mul]; omega
theorem mem_places {st : Int} (h0 : 0 < st) {cs : List Int} {N : Nat} {k : Int} (hc : k % st ∈ cs) (hk : 0 ≤ k) (hk2 : k < st * N) : k ∈ placesOf st cs N := by
  unfold placesOf
  rw [List.mem_flatMap]
  refine ⟨k % st, hc, List.mem_map.mpr ⟨(k / st).toNat, List.mem_range.mpr ?_, ?_⟩⟩
  · have h1 : k / st < N := Int.ediv_lt_of_lt_mul h0 (by rw [Int.mul_comm]; exact hk2)
    have h2 : 0 ≤ k / st := Int.ediv_nonneg hk (by omega)
    omega
  · have h2 : 0 ≤ k / st := Int.ediv_nonneg hk (by omega)
    rw [Int.toNat_of_nonneg h2]
    exact Int.emod_add_mul_ediv k st
end Sr
namespace Sr
open Pt Mk
theorem col_pos {st : Int} (h : 0 < st) (k : Int) : col st k = k % st := by
  unfold col
  rw [if_neg (by omega)]
theorem lin_lit {st : Int} {B : Int → Pat} {m : M} {k : Int} (h : Lin st B m k ≠ 0) : ∃ q ∈ m, at_ (B q.1.1) (k - st * q.1.2) ≠ 0 := by
  by_cases c : ∃ q ∈ m, at_ (B q.1.1) (k - st * q.1.2) ≠ 0
  · exact c
  · exact absurd (lin_out fun q hq => Decidable.byContradiction fun z => c ⟨q, hq, z⟩) h
theorem ne_of_mod {p a : Int} (h : a % p ≠ 0) : a ≠ 0 := fun z => h (by rw [z]; exact Int.zero_emod p)
/-- no stair is longer than what as many patterns as there are stairs span -/
theorem len_bound {p st : Int} (hp : 1 < p) (hz : NoZero p) (hinv : ∀ x : Int, x % p ≠ 0 → ∃ c, x * c % p = 1) (h0 : 0 < st) {S : Int → Pat} {n : Nat} (hS : ∀ i : Nat, i < n → Stair p st (S i)) (hr : ∀ i j : Nat, i < j → j < n → firstC st (S i) < firstC st (S j))
    {B : Int → Pat} {J : List Int} (nd : J.Nodup) (hJ : J.length = n) (ind : Ind p st B J) (hsp : ∀ t ∈ J, Span p st S n (at_ (B t))) {lo hi : Int} (hw : lo ≤ hi) (hB : ∀ t ∈ J, ∀ k, at_ (B t) k ≠ 0 → st * lo ≤ k ∧ k < st * (hi + 1)) : ∀ i : Nat, i < n → lenC st (S i) ≤ n * (hi - lo) := by
  intro i hi2
  refine Decidable.byContradiction fun hcon => ?_
  obtain ⟨W, hW⟩ : ∃ W : Nat, (W : Int) = hi - lo := ⟨(hi - lo).toNat, by omega⟩
  obtain ⟨n', rfl⟩ : ∃ n', n = n' + 1 := ⟨n - 1, by omega⟩
  have hlen : ((n' + 1 : Nat) : Int) * W < lenC st (S i) := by rw [hW]; omega
  have e1 : n' * ((n' + 1) * W) = (n' + 1) * (n' * W) := Nat.mul_left_comm _ _ _
  obtain ⟨cs, hcs⟩ : ∃ cs, cs = ((List.range (n' + 1)).filter fun j => decide (j ≠ i)).map fun j : Nat => firstC st (S j) := ⟨_, rfl⟩
  have lcs : cs.length ≤ n' := by
    rw [hcs, List.length_map]
    have h1 : ((List.range (n' + 1)).filter fun j => decide (j ≠ i)).length < (List.range (n' + 1)).length := by
      refine List.length_filter_lt_length_iff_exists.mpr ⟨i, List.mem_range.mpr hi2, by simp⟩
    rw [List.length_range] at h1
    omega
  obtain ⟨m, m1, ⟨q0, hq0, hq1⟩, m3⟩ := copy_dark (st := st) hp hinv B (copiesOf J (-lo) (n' * W + 1)) (placesOf st cs ((n' + 1) * W + 1)) (by
    rw [places_len, copies_len, hJ]
    have h1 : cs.length * ((n' + 1) * W + 1) ≤ n' * ((n' + 1) * W + 1) := Nat.mul_le_mul_right _ lcs
    have h2 : n' * ((n' + 1) * W + 1) = (n' + 1) * (n' * W) + n' := by rw [Nat.mul_add, e1, Nat.mul_one]
    have h3 : (n' + 1) * (n' * W + 1) = (n' + 1) * (n' * W) + (n' + 1) := by rw [Nat.mul_add (n' + 1), Nat.mul_one]
    rw [h2] at h1
    rw [h3]
    exact Nat.lt_of_le_of_lt h1 (Nat.add_lt_add_left (Nat.lt_succ_self n') _))
  have keys : ∀ q ∈ m, q.1.1 ∈ J ∧ -lo ≤ q.1.2 ∧ q.1.2 < -lo + ((n' * W + 1 : Nat) : Int) := fun q hq => by
    have : q.1 ∈ copiesOf J (-lo) (n' * W + 1) := by rw [← m1]; exact List.mem_map.mpr ⟨q, hq, rfl⟩
    exact mem_copies.mp this
  have sp : Span p st S (n' + 1) (Lin st B m) := Span.lin fun q hq => ⟨hsp _ (keys q hq).1, fun z => by omega⟩
  have win : ∀ k, Lin st B m k ≠ 0 → 0 ≤ k ∧ k < st * (((n' + 1) * W + 1 : Nat) : Int) := fun k hk => by
    obtain ⟨q, hq, hl⟩ := lin_lit hk
    obtain ⟨b1, b2, b3⟩ := keys q hq
    obtain ⟨c1, c2⟩ := hB _ b1 _ hl
    have d1 : st * (-lo) ≤ st * q.1.2 := Int.mul_le_mul_of_nonneg_left b2 (by omega)
    have d2 : st * q.1.2 ≤ st * (-lo + (n' * W : Nat)) := Int.mul_le_mul_of_nonneg_left (by omega) (by omega)
    have d3 : st * (((n' + 1) * W + 1 : Nat) : Int) = st * (hi + 1) + st * (-lo + (n' * W : Nat)) := by
      rw [← Int.mul_add]
      congr 1
      rw [Nat.succ_mul]
      omega
    rw [Int.mul_neg] at d1
    omega
  have null := sp.null hp hz (by omega) hS hr fun j hj k hk hne => by
    obtain ⟨w1, w2⟩ := win k (ne_of_mod hne)
    have ck : k % st = firstC st (S j) := by rw [← col_pos h0]; exact hk
    by_cases c : j = i
    · subst c
      have ek := Int.emod_add_mul_ediv k st
      have r1 : 0 ≤ k / st := Int.ediv_nonneg w1 (by omega)
      have r2 : k / st < (((n' + 1) * W + 1 : Nat) : Int) := Int.ediv_lt_of_lt_mul h0 (by rw [Int.mul_comm]; exact w2)
      have r3 : k / st < lenC st (S j) := by
        have : (((n' + 1) * W + 1 : Nat) : Int) = ((n' + 1 : Nat) : Int) * W + 1 := by rw [Int.natCast_add, Int.natCast_mul]; rfl
        omega
      have r4 : 0 ≤ st * (k / st) := Int.mul_nonneg (by omega) r1
      have r5 : st * (k / st) < st * lenC st (S j) := Int.mul_lt_mul_of_pos_left r3 h0
      show _ ∧ k < firstC st (S j) + st * lenC st (S j)
      omega
    · exact absurd (m3 k (mem_places h0 (by rw [ck, hcs]; exact List.mem_map.mpr ⟨j, List.mem_filter.mpr ⟨List.mem_range.mpr hj, by simpa using c⟩, rfl⟩) w1 w2)) hne
  have h5 := ind m (fun q hq => ⟨(keys q hq).1, fun z => by omega⟩) null q0 hq0
  rw [sumM_nodup (by rw [m1]; exact copies_nodup nd _ _) q0 hq0] at h5
  exact hq1 h5
end Sr
namespace Sr
open Pt Mk
theorem least {α : Type} {P : α → Prop} {f : α → Int} : ∀ {l : List α}, (∃ x ∈ l, P x) → ∃ x ∈ l, P x ∧ ∀ y ∈ l, P y → f x ≤ f y
  | [], ⟨_, h, _⟩ => nomatch h
  | a :: r, h => by
    by_cases c : ∃ x ∈ r, P x
    · obtain ⟨x, hx, px, hm⟩ := least (f := f) c
      by_cases d : P a ∧ f a ≤ f x
      · refine ⟨a, by simp, d.1, fun y hy py => ?_⟩
        rcases List.mem_cons.mp hy with rfl | hy
        · omega
        · have := hm y hy py
          omega
      · refine ⟨x, by simp [hx], px, fun y hy py => ?_⟩
        rcases List.mem_cons.mp hy with rfl | hy
        · have : ¬ f y ≤ f x := fun z => d ⟨py, z⟩
          omega
        · exact hm y hy py
    · obtain ⟨x, hx, px⟩ := h
      rcases List.mem_cons.mp hx with rfl | hx
      · refine ⟨x, by simp, px, fun y hy py => ?_⟩
        rcases List.mem_cons.mp hy with rfl | hy
        · omega
        · exact absurd ⟨y, hy, py⟩ c
      · exact absurd ⟨x, hx, px⟩ c
/-- one term of a copy-sum stands alone -/
theorem ws_alone {p : Int} {g : Pr → Int} : ∀ {m : M}, (m.map (·.1)).Nodup → ∀ q ∈ m, (∀ x ∈ m, x.1 ≠ q.1 → g x.1 * x.2 % p = 0) → ws g m % p = g q.1 * q.2 % p
  | [], _, q, h, _ => nomatch h
  | x :: r, nd, q, h, hx => by
    have hn := List.nodup_cons.mp nd
    show (g x.1 * x.2 + ws g r) % p = _
    have rest : ∀ {r : M}, (∀ x ∈ r, g x.1 * x.2 % p = 0) → ws g r % p = 0 := by
      intro r
      induction r with
      | nil => intro _; exact Int.zero_emod p
      | cons y r ih =>
        intro h
        show (g y.1 * y.2 + ws g r) % p = 0
        rw [Int.add_emod, h y (by simp), ih fun z hz => h z (by simp [hz])]
        simp
    rcases List.mem_cons.mp h with rfl | h
    · rw [Int.add_emod, rest fun y hy => hx y (by simp [hy]) fun e => hn.1 (List.mem_map.mpr ⟨y, hy, e⟩)]
      simp
    · have ne : x.1 ≠ q.1 := fun e => hn.1 (List.mem_map.mpr ⟨q, h, e.symm⟩)
      rw [Int.add_emod, hx x (by simp) ne, ws_alone hn.2 q h fun y hy => hx y (by simp [hy])]
      simp
/-- no stair reaches farther than what is given, and its first columns, let it -/
theorem reach_bound {p st : Int} (hp : 1 < p) (hz : NoZero p) (hinv : ∀ x : Int, x % p ≠ 0 → ∃ c, x * c % p = 1) (h0 : 0 < st) {S : Int → Pat} {n : Nat} (hS : ∀ i : Nat, i < n → Stair p st (S i)) (hr : ∀ i j : Nat, i < j → j < n → firstC st (S i) < firstC st (S j))
    {B : Int → Pat} {J : List Int} (nd : J.Nodup) (hpos : ∀ t ∈ J, 0 ≤ t) (hJ : J.length = n) (ind : Ind p st B J) (hsp : ∀ t ∈ J, Span p st S n (at_ (B t))) {lo hi : Int} (hw : lo ≤ hi) (hB : ∀ t ∈ J, ∀ k, at_ (B t) k ≠ 0 → st * lo ≤ k ∧ k < st * (hi + 1))
    {Bk : Nat} (hred : ∀ i j : Nat, i < n → j < n → ∀ k, col st k = firstC st (S j) → at_ (S i) k ≠ 0 → 0 ≤ k ∧ k < st * ((Bk : Int) + 1)) : ∀ i : Nat, i < n → ∀ k, at_ (S i) k ≠ 0 → -(st * (n * (hi - lo))) ≤ k ∧ k < st * (n * (hi - lo) + Bk + 1) := by
  intro i hi2
  obtain ⟨W, hW⟩ : ∃ W : Nat, (W : Int) = hi - lo := ⟨(hi - lo).toNat, by omega⟩
  rw [← hW]
  obtain ⟨D, hD⟩ : ∃ D : Nat, D = n * W := ⟨_, rfl⟩
  rw [show ((n : Int) * (W : Int)) = (D : Int) by rw [hD, Int.natCast_mul]]
  have hWD : W ≤ D := by rw [hD]; exact Nat.le_mul_of_pos_left W (by omega)
  obtain ⟨C, hC⟩ : ∃ C : Int → Pat, C = fun t => if t = -1 then S i else B t := ⟨_, rfl⟩
  have C1 : C (-1) = S i := by rw [hC]; rfl
  have C2 : ∀ t ∈ J, C t = B t := fun t ht => by rw [hC]; simp only; rw [if_neg (by have := hpos t ht; omega)]
  obtain ⟨U, hU⟩ : ∃ U, U = copiesOf [-1] 0 (D + 1) ++ copiesOf J (-lo) (D + Bk + 1 - W) := ⟨_, rfl⟩
  have ndU : U.Nodup := by
    rw [hU, List.nodup_append]
    refine ⟨copies_nodup (by simp) _ _, copies_nodup nd _ _, fun a ha b hb e => ?_⟩
    have h1 := (mem_copies.mp ha).1
    have h2 := hpos _ (mem_copies.mp hb).1
    rw [← e] at h2
    have h3 : a.1 = -1 := by simpa using h1
    omega
  obtain ⟨cs, hcs⟩ : ∃ cs, cs = (List.range n).map fun j : Nat => firstC st (S j) := ⟨_, rfl⟩
  obtain ⟨m, m1, ⟨q0, hq0, hq1⟩, m3⟩ := copy_dark (st := st) hp hinv C U (placesOf st cs (D + Bk + 1)) (by
    rw [places_len, hcs, List.length_map, List.length_range, hU, List.length_append, copies_len, copies_len, hJ, Nat.mul_sub]
    have h1 : n * W ≤ n * (D + Bk + 1) := Nat.mul_le_mul_left _ (by omega)
    simp only [List.length_cons, List.length_nil]
    omega)
  have keys : ∀ q ∈ m, (q.1.1 = -1 ∧ 0 ≤ q.1.2 ∧ q.1.2 < 0 + ((D + 1 : Nat) : Int)) ∨ (q.1.1 ∈ J ∧ -lo ≤ q.1.2 ∧ q.1.2 < -lo + ((D + Bk + 1 - W : Nat) : Int)) := fun q hq => by
    have h1 : q.1 ∈ U := by rw [← m1]; exact List.mem_map.mpr ⟨q, hq, rfl⟩
    rw [hU] at h1
    rcases List.mem_append.mp h1 with h1 | h1
    · have := mem_copies.mp h1
      exact .inl ⟨by simpa using this.1, this.2⟩
    · exact .inr (mem_copies.mp h1)
  have spS : Span p st S n (at_ (S i)) := ⟨[(((i : Int), 0), 1)], (fun q hq => by simp at hq; rw [hq]; exact ⟨by simp only; omega, by simp only; omega, fun _ => rfl⟩), fun k => by
    show _ = (at_ (S i) (k - st * 0) * 1 + 0) % p
    rw [Int.mul_zero, Int.sub_zero, Int.mul_one, Int.add_zero]⟩
  have sp : Span p st S n (Lin st C m) := Span.lin fun q hq => by
    rcases keys q hq with ⟨e, _⟩ | ⟨e, _⟩
    · rw [e, C1]
      exact ⟨spS, fun z => by omega⟩
    · rw [C2 _ e]
      exact ⟨hsp _ e, fun z => by omega⟩
  /- where the copies of the given ones are lit -/
  have winJ : ∀ q ∈ m, q.1.1 ∈ J → ∀ k, at_ (C q.1.1) (k - st * q.1.2) ≠ 0 → 0 ≤ k ∧ k < st * ((D : Int) + Bk + 1) := fun q hq hJq k hl => by
    rw [C2 _ hJq] at hl
    obtain ⟨c1, c2⟩ := hB _ hJq _ hl
    have b : -lo ≤ q.1.2 ∧ q.1.2 < -lo + ((D + Bk + 1 - W : Nat) : Int) := by
      rcases keys q hq with ⟨e, _⟩ | ⟨_, h⟩
      · have := hpos _ hJq; omega
      · exact h
    have d1 : st * (-lo) ≤ st * q.1.2 := Int.mul_le_mul_of_nonneg_left b.1 (by omega)
    have d2 : st * q.1.2 ≤ st * (-lo + (D + Bk - W : Nat)) := Int.mul_le_mul_of_nonneg_left (by omega) (by omega)
    have d3 : st * ((D : Int) + Bk + 1) = st * (hi + 1) + st * (-lo + (D + Bk - W : Nat)) := by
      rw [← Int.mul_add]
      congr 1
      omega
    rw [Int.mul_neg] at d1
    omega
  have winP : ∀ (j : Nat) (k : Int), j < n → col st k = firstC st (S j) → Lin st C m k ≠ 0 → 0 ≤ k ∧ k < st * ((D : Int) + Bk + 1) := fun j k hj hk hl => by
    obtain ⟨q, hq, hl⟩ := lin_lit hl
    rcases keys q hq with ⟨e, b1, b2⟩ | ⟨e, _⟩
    · rw [e, C1] at hl
      obtain ⟨c1, c2⟩ := hred i j hi2 hj _ (by rw [col_sub]; exact hk) hl
      have d1 : 0 ≤ st * q.1.2 := Int.mul_nonneg (by omega) b1
      have d2 : st * q.1.2 ≤ st * (D : Int) := Int.mul_le_mul_of_nonneg_left (by omega) (by omega)
      have d3 : st * ((D : Int) + Bk + 1) = st * (D : Int) + st * ((Bk : Int) + 1) := by
        rw [← Int.mul_add, Int.add_assoc]
      omega
    · exact winJ q hq e k hl
  have null := sp.null hp hz (by omega) hS hr fun j hj k hk hne => by
    obtain ⟨w1, w2⟩ := winP j k hj hk (ne_of_mod hne)
    exact absurd (m3 k (mem_places h0 (by rw [hcs, ← col_pos h0, hk]; exact List.mem_map.mpr ⟨j, List.mem_range.mpr hj, rfl⟩) w1 (by rw [show ((D + Bk + 1 : Nat) : Int) = (D : Int) + Bk + 1 by omega]; exact w2))) hne
  have ndm : (m.map (·.1)).Nodup := by rw [m1]; exact ndU
  /- some copy of the stair itself is there -/
  have some1 : ∃ q ∈ m, q.1.1 = -1 ∧ q.2 % p ≠ 0 := by
    refine Decidable.byContradiction fun hcon => ?_
    have no : ∀ q ∈ m, q.1.1 = -1 → q.2 % p = 0 := fun q hq e => Decidable.byContradiction fun z => hcon ⟨q, hq, e, z⟩
    obtain ⟨mJ, hmJ⟩ : ∃ mJ, mJ = m.filter fun q => !decide (q.1.1 = -1) := ⟨_, rfl⟩
    have inJ : ∀ q ∈ mJ, q ∈ m ∧ q.1.1 ∈ J := fun q hq => by
      rw [hmJ, List.mem_filter] at hq
      refine ⟨hq.1, ?_⟩
      rcases keys q hq.1 with ⟨e, _⟩ | ⟨e, _⟩
      · simp [e] at hq
      · exact e
    have same : ∀ k, Lin st B mJ k % p = 0 := fun k => by
      have h1 := ws_filter (fun q => at_ (C q.1) (k - st * q.2)) (fun q => decide (q.1.1 = -1)) m
      rw [← hmJ] at h1
      have h2 : ws (fun q => at_ (C q.1) (k - st * q.2)) (m.filter fun q => decide (q.1.1 = -1)) % p = 0 := by
        refine ws_null fun q hq => ?_
        have hq2 := List.mem_filter.mp hq
        have ndf : ((m.filter fun q => decide (q.1.1 = -1)).map (·.1)).Nodup := List.Nodup.sublist (List.Sublist.map _ List.filter_sublist) ndm
        rw [sumM_nodup ndf q hq]
        exact no q hq2.1 (of_decide_eq_true hq2.2)
      have h3 : ws (fun q => at_ (C q.1) (k - st * q.2)) mJ = Lin st B mJ k := by
        unfold Lin
        have : ∀ r : M, (∀ q ∈ r, q.1.1 ∈ J) → ws (fun q => at_ (C q.1) (k - st * q.2)) r = ws (fun q => at_ (B q.1) (k - st * q.2)) r := by
          intro r
          induction r with
          | nil => intro _; rfl
          | cons x r ih =>
            intro h
            show at_ (C x.1.1) _ * x.2 + ws _ r = at_ (B x.1.1) _ * x.2 + ws _ r
            rw [C2 _ (h x (by simp)), ih fun q hq => h q (by simp [hq])]
        exact this mJ fun q hq => (inJ q hq).2
      have h4 := null k
      unfold Lin at h4
      rw [h1, Int.add_emod, h2, Int.zero_add, Int.emod_emod, h3] at h4
      exact h4
    have h5 := ind mJ (fun q hq => ⟨(inJ q hq).2, fun z => by omega⟩) same
    have e1 : ¬ q0.1.1 = -1 := fun e => hq1 (no q0 hq0 e)
    have hin : q0 ∈ mJ := by rw [hmJ]; exact List.mem_filter.mpr ⟨hq0, by simpa using e1⟩
    have ndf : (mJ.map (·.1)).Nodup := by rw [hmJ]; exact List.Nodup.sublist (List.Sublist.map _ List.filter_sublist) ndm
    have h6 := h5 q0 hin
    rw [sumM_nodup ndf q0 hin] at h6
    exact hq1 h6
  have SI := hS i hi2
  /- the value at a place where one copy of the stair stands alone -/
  have alone : ∀ q ∈ m, q.1.1 = -1 → q.2 % p ≠ 0 → ∀ k, at_ (S i) k ≠ 0 → (∀ x ∈ m, x.1 ≠ q.1 → at_ (C x.1.1) (k + st * q.1.2 - st * x.1.2) * x.2 % p = 0) → False := fun q hq e hqp k hk hx => by
    have h1 := ws_alone (p := p) (g := fun y => at_ (C y.1) (k + st * q.1.2 - st * y.2)) ndm q hq hx
    have h2 := null (k + st * q.1.2)
    unfold Lin at h2
    rw [h2, e, C1, show k + st * q.1.2 - st * q.1.2 = k by omega] at h1
    rcases hz _ _ h1.symm with c | c
    · exact hqp c
    · have r := SI.pat.at_rng (by omega) k
      rw [Int.emod_eq_of_lt r.1 r.2] at c
      exact hk c
  intro k hk
  constructor
  · refine Decidable.byContradiction fun hcon => ?_
    obtain ⟨x0, hx0, ⟨a1, a2⟩, amin⟩ := least (P := fun x : Int × Int => col st x.1 = col st k ∧ at_ (S i) x.1 ≠ 0) (f := fun x => x.1) (l := S i) ⟨_, at_mem hk, rfl, hk⟩
    obtain ⟨q, hq, ⟨e1, e2⟩, qmin⟩ := least (P := fun q : Pr × Int => q.1.1 = -1 ∧ q.2 % p ≠ 0) (f := fun q => q.1.2) some1
    have kx : x0.1 ≤ k := amin (k, at_ (S i) k) (at_mem hk) ⟨rfl, hk⟩
    have qb : 0 ≤ q.1.2 ∧ q.1.2 ≤ D := by
      rcases keys q hq with ⟨_, h⟩ | ⟨h, _⟩
      · omega
      · have := hpos _ h; omega
    have d2 : st * q.1.2 ≤ st * (D : Int) := Int.mul_le_mul_of_nonneg_left qb.2 (by omega)
    refine alone q hq e1 e2 x0.1 a2 fun x hx hne => ?_
    rcases keys x hx with ⟨e, _⟩ | ⟨e, _⟩
    · by_cases c : x.2 % p = 0
      · rw [Int.mul_emod, c]; simp
      · have h1 := qmin x hx ⟨e, c⟩
        have h2 : x.1.2 ≠ q.1.2 := fun z => hne (Prod.ext (by rw [e, e1]) z)
        have h3 : at_ (S i) (x0.1 + st * q.1.2 - st * x.1.2) = 0 := Decidable.byContradiction fun z => by
          have h4 := amin (x0.1 + st * q.1.2 - st * x.1.2, _) (at_mem z) ⟨by simp only; rw [col_sub, col_add, a1], z⟩
          simp only at h4
          have : st * q.1.2 < st * x.1.2 := Int.mul_lt_mul_of_pos_left (by omega) h0
          omega
        rw [e, C1, h3]
        simp
    · have h3 : at_ (C x.1.1) (x0.1 + st * q.1.2 - st * x.1.2) = 0 := Decidable.byContradiction fun z => by
        have := winJ x hx e _ z
        omega
      rw [h3]
      simp
  · refine Decidable.byContradiction fun hcon => ?_
    obtain ⟨x0, hx0, ⟨a1, a2⟩, amin⟩ := least (P := fun x : Int × Int => col st x.1 = col st k ∧ at_ (S i) x.1 ≠ 0) (f := fun x => -x.1) (l := S i) ⟨_, at_mem hk, rfl, hk⟩
    obtain ⟨q, hq, ⟨e1, e2⟩, qmin⟩ := least (P := fun q : Pr × Int => q.1.1 = -1 ∧ q.2 % p ≠ 0) (f := fun q => -q.1.2) some1
    have kx : -x0.1 ≤ -k := amin (k, at_ (S i) k) (at_mem hk) ⟨rfl, hk⟩
    have qb : 0 ≤ q.1.2 ∧ q.1.2 ≤ D := by
      rcases keys q hq with ⟨_, h⟩ | ⟨h, _⟩
      · omega
      · have := hpos _ h; omega
    have d2 : 0 ≤ st * q.1.2 := Int.mul_nonneg (by omega) qb.1
    refine alone q hq e1 e2 x0.1 a2 fun x hx hne => ?_
    rcases keys x hx with ⟨e, _⟩ | ⟨e, _⟩
    · by_cases c : x.2 % p = 0
      · rw [Int.mul_emod, c]; simp
      · have h1 := qmin x hx ⟨e, c⟩
        have h2 : x.1.2 ≠ q.1.2 := fun z => hne (Prod.ext (by rw [e, e1]) z)
        have h3 : at_ (S i) (x0.1 + st * q.1.2 - st * x.1.2) = 0 := Decidable.byContradiction fun z => by
          have h4 := amin (x0.1 + st * q.1.2 - st * x.1.2, _) (at_mem z) ⟨by simp only; rw [col_sub, col_add, a1], z⟩
          simp only at h4
          have : st * x.1.2 < st * q.1.2 := Int.mul_lt_mul_of_pos_left (by omega) h0
          omega
        rw [e, C1, h3]
        simp
    · have h3 : at_ (C x.1.1) (x0.1 + st * q.1.2 - st * x.1.2) = 0 := Decidable.byContradiction fun z => by
        have := winJ x hx e _ z
        omega
      rw [h3]
      simp
end Sr
namespace Sr
open Pt Mk
/-- copies of one thing -/
def Cop (st : Int) (f : Int → Int) (m : M) (k : Int) : Int := ws (fun q => f (k - st * q.2)) m
theorem cop_cons (st : Int) (f : Int → Int) (x : Pr × Int) (m : M) (k : Int) : Cop st f (x :: m) k = f (k - st * x.1.2) * x.2 + Cop st f m k := rfl
theorem cop_mod {p st : Int} {f g : Int → Int} (h : ∀ k, f k % p = g k % p) : ∀ (m : M) (k : Int), Cop st f m k % p = Cop st g m k % p
  | [], _ => rfl
  | x :: r, k => by
    rw [cop_cons, cop_cons, Int.add_emod, Int.mul_emod, h, ← Int.mul_emod, cop_mod h r k, ← Int.add_emod]
theorem cop_add (st : Int) (f g : Int → Int) : ∀ (m : M) (k : Int), Cop st (fun k => f k + g k) m k = Cop st f m k + Cop st g m k
  | [], _ => rfl
  | x :: r, k => by
    rw [cop_cons, cop_cons, cop_cons, cop_add st f g r k, Int.add_mul]
    omega
theorem cop_zero (st : Int) : ∀ (m : M) (k : Int), Cop st (fun _ => 0) m k = 0
  | [], _ => rfl
  | x :: r, k => by rw [cop_cons, cop_zero st r k]; omega
theorem cop_copy (st : Int) (f : Int → Int) (s c : Int) : ∀ (m : M) (k : Int), Cop st (fun k => f (k - st * s) * c) m k = Cop st f m (k - st * s) * c
  | [], _ => by show (0 : Int) = 0 * c; omega
  | x :: r, k => by
    rw [cop_cons, cop_cons, cop_copy st f s c r k, Int.add_mul, show k - st * x.1.2 - st * s = k - st * s - st * x.1.2 by omega]
    congr 1
    rw [Int.mul_assoc, Int.mul_comm c, ← Int.mul_assoc]
/-- copies of copies, either way about -/
theorem cop_comm (st : Int) (f : Int → Int) (a : M) : ∀ (b : M) (k : Int), Cop st (Cop st f b) a k = Cop st (Cop st f a) b k
  | [], k => by
    have : Cop st f [] = fun _ => 0 := rfl
    rw [this, cop_zero]
    rfl
  | x :: r, k => by
    have e : Cop st f (x :: r) = fun k => f (k - st * x.1.2) * x.2 + Cop st f r k := rfl
    rw [e, cop_add, cop_copy, cop_comm st f a r k]
    rfl
theorem Span.cop {p st : Int} {S : Int → Pat} {n : Nat} {f : Int → Int} (hf : Span p st S n f) : ∀ {m : M}, (∀ q ∈ m, st = 0 → q.1.2 = 0) → Span p st S n (Cop st f m)
  | [], _ => Span.zero
  | x :: r, h => (hf.copy x.1.2 x.2 (h x (by simp))).add (Span.cop hf fun q hq => h q (by simp [hq]))
theorem Span.neg {p st : Int} {S : Int → Pat} {n : Nat} {f : Int → Int} (hf : Span p st S n f) : Span p st S n fun k => -(f k) := by
  have := hf.copy 0 (-1) fun _ => rfl
  exact this.congr fun k => by rw [Int.mul_zero, Int.sub_zero, Int.mul_neg, Int.mul_one]
/-- where stairs make something, it is not first lit in a column where none of them begins -/
theorem Span.first {p st : Int} {S : Int → Pat} {n : Nat} {f : Int → Int} (hf : Span p st S n f) (hp : 1 < p) (hz : NoZero p) (h0 : 0 ≤ st) (hS : ∀ i : Nat, i < n → Stair p st (S i)) (hr : ∀ i j : Nat, i < j → j < n → firstC st (S i) < firstC st (S j))
    {c : Int} (hc : ∀ i : Nat, i < n → firstC st (S i) ≠ c) (hd : ∀ k, col st k < c → f k % p = 0) : ∀ k, col st k = c → f k % p = 0 := by
  obtain ⟨m, a1, a2⟩ := hf
  /- the stairs that begin ahead of c -/
  have cut : ∃ i0 : Nat, i0 ≤ n ∧ (∀ i : Nat, i < i0 → firstC st (S i) < c) ∧ ∀ i : Nat, i0 ≤ i → i < n → c < firstC st (S i) := by
    have go : ∀ d : Nat, d ≤ n → (∀ i : Nat, i < d → firstC st (S i) < c) ∨ ∃ i0 : Nat, i0 ≤ n ∧ (∀ i : Nat, i < i0 → firstC st (S i) < c) ∧ ∀ i : Nat, i0 ≤ i → i < n → c < firstC st (S i) := by
      intro d
      induction d with
      | zero => intro _; exact .inl fun i hi => absurd hi (Nat.not_lt_zero i)
      | succ d ih =>
        intro hd
        rcases ih (by omega) with h | h
        · by_cases z : firstC st (S d) < c
          · refine .inl fun i hi => ?_
            by_cases e : i = d
            · subst e; exact z
            · exact h i (by omega)
          · refine .inr ⟨d, by omega, h, fun i h1 h2 => ?_⟩
            have n1 := hc d (by omega)
            by_cases e : i = d
            · subst e; omega
            · have := hr d i (by omega) h2
              omega
        · exact .inr h
    rcases go n (Nat.le_refl n) with h | h
    · exact ⟨n, Nat.le_refl n, h, fun i h1 h2 => absurd h2 (by omega)⟩
    · exact h
  obtain ⟨i0, hi0, lt, gt⟩ := cut
  have split : ∀ k, Lin st S m k = Lin st S (m.filter fun q => decide (q.1.1 < (i0 : Int))) k + Lin st S (m.filter fun q => !decide (q.1.1 < (i0 : Int))) k := fun k => ws_filter _ _ m
  have dark2 : ∀ k, col st k ≤ c → Lin st S (m.filter fun q => !decide (q.1.1 < (i0 : Int))) k = 0 := fun k hk => lin_out fun q hq => by
    have hq2 := List.mem_filter.mp hq
    have h1 := a1 q hq2.1
    have h2 : ¬ q.1.1 < (i0 : Int) := by simpa using hq2.2
    obtain ⟨j, hj⟩ : ∃ j : Nat, q.1.1 = (j : Int) := ⟨q.1.1.toNat, by omega⟩
    rw [hj]
    refine dark_col (st := st) ?_
    rw [col_sub]
    have := gt j (by omega) (by omega)
    omega
  have sp1 : Span p st S i0 (Lin st S (m.filter fun q => decide (q.1.1 < (i0 : Int)))) := ⟨_, fun q hq => by
    have hq2 := List.mem_filter.mp hq
    have h1 := a1 q hq2.1
    exact ⟨h1.1, of_decide_eq_true hq2.2, h1.2.2⟩, fun _ => rfl⟩
  have null1 := sp1.null hp hz h0 (fun i hi => hS i (by omega)) (fun i j h1 h2 => hr i j h1 (by omega)) fun i hi k hk hne => by
    have h1 := lt i hi
    have h2 := hd k (by omega)
    rw [a2 k, split k, dark2 k (by omega), Int.add_zero] at h2
    exact absurd h2 hne
  intro k hk
  rw [a2 k, split k, Int.add_emod, null1 k, dark2 k (by omega)]
  simp
/-- copies of what is lit in a column are lit there -/
theorem cop_lit {p st : Int} (hp : 1 < p) (hz : NoZero p) (h0 : 0 < st) {x : Pat} (hx : IsPat p x) {m : M} {w : Int} (hw : ∀ q ∈ m, q.1.1 = w) {q0 : Pr × Int} (hq0 : q0 ∈ m) (hne : sumM m q0.1 % p ≠ 0) {k0 : Int} (hk0 : at_ x k0 ≠ 0) : ∃ k, col st k = col st k0 ∧ Cop st (at_ x) m k % p ≠ 0 := by
  obtain ⟨y, hy, ⟨a1, a2⟩, amin⟩ := least (P := fun y : Int × Int => col st y.1 = col st k0 ∧ at_ x y.1 ≠ 0) (f := fun y => y.1) (l := x) ⟨_, at_mem hk0, rfl, hk0⟩
  obtain ⟨q, hq, e2, qmin⟩ := least (P := fun q : Pr × Int => sumM m q.1 % p ≠ 0) (f := fun q => q.1.2) ⟨q0, hq0, hne⟩
  refine ⟨y.1 + st * q.1.2, by rw [col_add, a1], fun z => ?_⟩
  have h1 : Cop st (at_ x) m (y.1 + st * q.1.2) % p = at_ x (y.1 + st * q.1.2 - st * q.1.2) * sumM m q.1 % p := by
    unfold Cop
    refine ws_single (g := fun v : Pr => at_ x (y.1 + st * q.1.2 - st * v.2)) (k0 := q.1) fun v hv hvn => ?_
    by_cases c : sumM m v.1 % p = 0
    · rw [Int.mul_emod, c]; simp
    · have h2 := qmin v hv c
      have h3 : v.1.2 ≠ q.1.2 := fun e => hvn (Prod.ext (by rw [hw v hv, hw q hq]) e)
      have h4 : at_ x (y.1 + st * q.1.2 - st * v.1.2) = 0 := Decidable.byContradiction fun u => by
        have h5 := amin (y.1 + st * q.1.2 - st * v.1.2, _) (at_mem u) ⟨by simp only; rw [col_sub, col_add, a1], u⟩
        simp only at h5
        have : st * q.1.2 < st * v.1.2 := Int.mul_lt_mul_of_pos_left (by omega) h0
        omega
      rw [h4]
      simp
  rw [z, show y.1 + st * q.1.2 - st * q.1.2 = y.1 by omega] at h1
  rcases hz _ _ h1.symm with c | c
  · exact e2 c
  · have r := hx.at_rng (by omega) y.1
    rw [Int.emod_eq_of_lt r.1 r.2] at c
    exact a2 c
/-- a pattern that brings a first column is independent of those ahead of it -/
theorem ind_more {p st : Int} (hp : 1 < p) (hz : NoZero p) (h0 : 0 < st) {S : Int → Pat} {n : Nat} (hS : ∀ i : Nat, i < n → Stair p st (S i)) (hr : ∀ i j : Nat, i < j → j < n → firstC st (S i) < firstC st (S j))
    {B : Int → Pat} {J : List Int} (ind : Ind p st B J) (hsp : ∀ t ∈ J, Span p st S n (at_ (B t))) {t : Int} (ht : t ∉ J) {one : Pat} (ho : IsPat p one) (hne : one ≠ []) (hc : ∀ i : Nat, i < n → firstC st (S i) ≠ firstC st one)
    {g : Int → Int} (hg : Span p st S n g) {mv : M} (hone : ∀ k, at_ one k % p = (g k + Cop st (at_ (B t)) mv k) % p) : Ind p st B (J ++ [t]) := by
  intro m hm hnull
  have split : ∀ k, Lin st B m k = Lin st B (m.filter fun q => decide (q.1.1 = t)) k + Lin st B (m.filter fun q => !decide (q.1.1 = t)) k := fun k => ws_filter _ _ m
  have kx : ∀ q ∈ m.filter (fun q => decide (q.1.1 = t)), q.1.1 = t := fun q hq => of_decide_eq_true (List.mem_filter.mp hq).2
  have kJ : ∀ q ∈ m.filter (fun q => !decide (q.1.1 = t)), q.1.1 ∈ J := fun q hq => by
    have h1 := List.mem_filter.mp hq
    have h2 := (hm q h1.1).1
    have h3 : ¬ q.1.1 = t := by simpa using h1.2
    simpa [h3] using h2
  have sums : ∀ k0 : Pr, sumM m k0 = if k0.1 = t then sumM (m.filter fun q => decide (q.1.1 = t)) k0 else sumM (m.filter fun q => !decide (q.1.1 = t)) k0 := fun k0 => by
    clear hm hnull split kx kJ
    induction m with
    | nil => simp [sumM]
    | cons x r ih =>
      show (if x.1 = k0 then x.2 else 0) + sumM r k0 = _
      rw [ih, List.filter_cons, List.filter_cons]
      by_cases c1 : x.1 = k0
      · subst c1
        by_cases c2 : x.1.1 = t
        · simp [c2, sumM]
        · simp [c2, sumM]
      · rw [if_neg c1]
        by_cases c2 : x.1.1 = t <;> by_cases c3 : k0.1 = t <;> simp [c2, c3, sumM, c1]
  by_cases c : ∃ q ∈ m.filter (fun q => decide (q.1.1 = t)), sumM (m.filter fun q => decide (q.1.1 = t)) q.1 % p ≠ 0
  · exfalso
    obtain ⟨q, hq, hqn⟩ := c
    obtain ⟨a, ha⟩ : ∃ a, a = m.filter fun q => decide (q.1.1 = t) := ⟨_, rfl⟩
    rw [← ha] at hq hqn kx split
    have linx : ∀ (m' : M), (∀ q ∈ m', q.1.1 = t) → ∀ k, Lin st B m' k = Cop st (at_ (B t)) m' k := by
      intro m'
      induction m' with
      | nil => exact fun _ _ => rfl
      | cons x r ih =>
        intro h k
        show at_ (B x.1.1) _ * x.2 + Lin st B r k = _
        rw [h x (by simp), ih (fun q hq => h q (by simp [hq])) k]
        rfl
    /- a times the pattern is made by the stairs -/
    have s1 : Span p st S n (Cop st (at_ (B t)) a) := by
      have sJ : Span p st S n (Lin st B (m.filter fun q => !decide (q.1.1 = t))) := Span.lin fun q hq => ⟨hsp _ (kJ q hq), fun z => by omega⟩
      refine sJ.neg.congr fun k => ?_
      have h1 := hnull k
      rw [split k, linx a kx k] at h1
      obtain ⟨u, hu⟩ := Int.dvd_of_emod_eq_zero h1
      rw [show Cop st (at_ (B t)) a k = -(Lin st B (m.filter fun q => !decide (q.1.1 = t)) k) + p * u by omega, Int.add_mul_emod_self_left]
    have s2 : Span p st S n (Cop st (at_ one) a) := by
      have s3 := (hg.cop (m := a) fun _ _ z => by omega).add (s1.cop (m := mv) fun _ _ z => by omega)
      refine s3.congr fun k => ?_
      rw [cop_mod (g := fun k => g k + Cop st (at_ (B t)) mv k) hone a k, cop_add, cop_comm]
    obtain ⟨k0, hk0, hk1⟩ : ∃ k0, col st k0 = firstC st one ∧ at_ one k0 ≠ 0 := by
      have h1 := spots_first (st := st) hne
      obtain ⟨k0, hk0⟩ := List.exists_mem_of_ne_nil _ h1
      obtain ⟨⟨x, hx, rfl⟩, h2⟩ := mem_spots.mp hk0
      exact ⟨x.1, h2, (mem_at ho).mp (List.mem_map.mpr ⟨x, hx, rfl⟩)⟩
    obtain ⟨k, hk, hkn⟩ := cop_lit hp hz h0 ho kx hq hqn hk1
    refine hkn (s2.first hp hz (by omega) hS hr hc (fun j hj => ?_) k (by rw [hk, hk0]))
    have : Cop st (at_ one) a j = 0 := by
      unfold Cop
      have : ∀ m' : M, ws (fun q => at_ one (j - st * q.2)) m' = 0 := by
        intro m'
        induction m' with
        | nil => rfl
        | cons x r ih =>
          show at_ one (j - st * x.1.2) * x.2 + ws _ r = 0
          rw [ih, dark_col (by rw [col_sub]; exact hj)]
          simp
      exact this a
    rw [this]
    exact Int.zero_emod p
  · have no : ∀ q ∈ m.filter (fun q => decide (q.1.1 = t)), sumM (m.filter fun q => decide (q.1.1 = t)) q.1 % p = 0 := fun q hq => Decidable.byContradiction fun z => c ⟨q, hq, z⟩
    have hJ := ind (m.filter fun q => !decide (q.1.1 = t)) (fun q hq => ⟨kJ q hq, fun z => by omega⟩) fun k => by
      have h1 := hnull k
      have h2 : Lin st B (m.filter fun q => decide (q.1.1 = t)) k % p = 0 := ws_null no
      rw [split k, Int.add_emod, h2, Int.zero_add, Int.emod_emod] at h1
      exact h1
    intro q hq
    rw [sums]
    by_cases d : q.1.1 = t
    · rw [if_pos d]
      exact no q (List.mem_filter.mpr ⟨hq, by simpa using d⟩)
    · rw [if_neg d]
      exact hJ q (List.mem_filter.mpr ⟨hq, by simpa using d⟩)
end Sr

/-! the lengths of stairs together, by counting -/
namespace Sr
open Pt Mk
def sumN (f : Nat → Nat) : Nat → Nat
  | 0 => 0
  | n + 1 => sumN f n + f n
theorem le_sumN (f : Nat → Nat) : ∀ {n i : Nat}, i < n → f i ≤ sumN f n
  | 0, i, h => absurd h (Nat.not_lt_zero i)
  | n + 1, i, h => by
    show _ ≤ sumN f n + f n
    by_cases c : i = n
    · subst c; omega
    · have := le_sumN f (show i < n by omega); omega
def placesIn (st : Int) (S : Int → Pat) (l : Nat → Nat) (N : Nat) : Nat → List Int
  | 0 => []
  | n + 1 => placesIn st S l N n ++ (List.range (N - l n)).map fun (a : Nat) => firstC st (S n) + st * ((l n + a : Nat) : Int)
theorem placesIn_len (st : Int) (S : Int → Pat) (l : Nat → Nat) (N : Nat) : ∀ n, (∀ i, i < n → l i ≤ N) → (placesIn st S l N n).length + sumN l n = n * N
  | 0, _ => by simp [placesIn, sumN]
  | n + 1, h => by
    have ih := placesIn_len st S l N n fun i hi => h i (by omega)
    have h1 := h n (by omega)
    show (placesIn st S l N n ++ _).length + (sumN l n + l n) = _
    rw [List.length_append, List.length_map, List.length_range, Nat.succ_mul]
    omega
theorem mem_placesIn {st : Int} {S : Int → Pat} {l : Nat → Nat} {N : Nat} {j r : Nat} (h1 : l j ≤ r) (h2 : r < N) : ∀ {n : Nat}, j < n → firstC st (S j) + st * (r : Int) ∈ placesIn st S l N n
  | 0, h => absurd h (Nat.not_lt_zero j)
  | n + 1, h => by
    show _ ∈ placesIn st S l N n ++ _
    rw [List.mem_append]
    by_cases c : j = n
    · subst c
      exact .inr (List.mem_map.mpr ⟨r - l j, List.mem_range.mpr (by omega), by rw [show l j + (r - l j) = r by omega]⟩)
    · exact .inl (mem_placesIn h1 h2 (by omega))
theorem len_sum {p st : Int} (hp : 1 < p) (hz : NoZero p) (hinv : ∀ x : Int, x % p ≠ 0 → ∃ c, x * c % p = 1) (h0 : 0 < st) {S : Int → Pat} {n : Nat} (hS : ∀ i : Nat, i < n → Stair p st (S i)) (hr : ∀ i j : Nat, i < j → j < n → firstC st (S i) < firstC st (S j))
    {B : Int → Pat} {J : List Int} (nd : J.Nodup) (hJ : J.length = n) (ind : Ind p st B J) (hsp : ∀ t ∈ J, Span p st S n (at_ (B t))) {lo hi : Int} (hw : lo ≤ hi) (hB : ∀ t ∈ J, ∀ k, at_ (B t) k ≠ 0 → st * lo ≤ k ∧ k < st * (hi + 1)) : (sumN (fun i => (lenC st (S i)).toNat) n : Int) ≤ n * (hi - lo) := by
  refine Decidable.byContradiction fun hcon => ?_
  obtain ⟨W, hW⟩ : ∃ W : Nat, (W : Int) = hi - lo := ⟨(hi - lo).toNat, by omega⟩
  obtain ⟨l, hl⟩ : ∃ l : Nat → Nat, l = fun i : Nat => (lenC st (S i)).toNat := ⟨_, rfl⟩
  rw [← hl, ← hW, ← Int.natCast_mul] at hcon
  have hcon2 : n * W < sumN l n := by omega
  obtain ⟨N, hN⟩ : ∃ N, N = sumN l n := ⟨_, rfl⟩
  have lN : ∀ i, i < n → l i ≤ N + W := fun i hi => by have := le_sumN l hi; omega
  have len := placesIn_len st S l (N + W) n lN
  obtain ⟨m, m1, ⟨q0, hq0, hq1⟩, m3⟩ := copy_dark (st := st) hp hinv B (copiesOf J (-lo) N) (placesIn st S l (N + W) n) (by
    rw [copies_len, hJ]
    rw [Nat.mul_add] at len
    omega)
  have keys : ∀ q ∈ m, q.1.1 ∈ J ∧ -lo ≤ q.1.2 ∧ q.1.2 < -lo + (N : Int) := fun q hq => by
    have : q.1 ∈ copiesOf J (-lo) N := by rw [← m1]; exact List.mem_map.mpr ⟨q, hq, rfl⟩
    exact mem_copies.mp this
  have sp : Span p st S n (Lin st B m) := Span.lin fun q hq => ⟨hsp _ (keys q hq).1, fun z => by omega⟩
  have win : ∀ k, Lin st B m k ≠ 0 → 0 ≤ k ∧ k < st * ((N + W : Nat) : Int) := fun k hk => by
    obtain ⟨q, hq, hl⟩ := lin_lit hk
    obtain ⟨b1, b2, b3⟩ := keys q hq
    obtain ⟨c1, c2⟩ := hB _ b1 _ hl
    have d1 : st * (-lo) ≤ st * q.1.2 := Int.mul_le_mul_of_nonneg_left b2 (by omega)
    have d2 : st * q.1.2 ≤ st * (-lo + (N : Int) - 1) := Int.mul_le_mul_of_nonneg_left (by omega) (by omega)
    have d3 : st * ((N + W : Nat) : Int) = st * (hi + 1) + st * (-lo + (N : Int) - 1) := by
      rw [← Int.mul_add]
      congr 1
      omega
    rw [Int.mul_neg] at d1
    omega
  have null := sp.null hp hz (by omega) hS hr fun j hj k hk hne => by
    obtain ⟨w1, w2⟩ := win k (ne_of_mod hne)
    have ck : k % st = firstC st (S j) := by rw [← col_pos h0]; exact hk
    have ek := Int.emod_add_mul_ediv k st
    have r1 : 0 ≤ k / st := Int.ediv_nonneg w1 (by omega)
    have r2 : k / st < ((N + W : Nat) : Int) := Int.ediv_lt_of_lt_mul h0 (by rw [Int.mul_comm]; exact w2)
    obtain ⟨r, hr2⟩ : ∃ r : Nat, (r : Int) = k / st := ⟨(k / st).toNat, by omega⟩
    have r4 : 0 ≤ st * (k / st) := Int.mul_nonneg (by omega) r1
    by_cases c : r < l j
    · have ln := (hS j hj).ln
      have r3 : k / st < lenC st (S j) := by
        have : l j = (lenC st (S j)).toNat := by rw [hl]
        omega
      have r5 : st * (k / st) < st * lenC st (S j) := Int.mul_lt_mul_of_pos_left r3 h0
      show _ ∧ k < firstC st (S j) + st * lenC st (S j)
      omega
    · have hm := mem_placesIn (st := st) (S := S) (l := l) (N := N + W) (j := j) (r := r) (by omega) (by omega) hj
      rw [hr2, ← ck, ek] at hm
      exact absurd (m3 k hm) hne
  have h5 := ind m (fun q hq => ⟨(keys q hq).1, fun z => by omega⟩) null q0 hq0
  rw [sumM_nodup (by rw [m1]; exact copies_nodup nd _ _) q0 hq0] at h5
  exact hq1 h5
end Sr

/-! stairs built of patterns: rows, windows -/
namespace Sr
open Pt Mk
def row (st k : Int) : Int := k / st
theorem row_add {st k q : Int} (h : st = 0 → q = 0) : row st (k + st * q) = row st k + q := by
  unfold row
  by_cases z : st = 0
  · rw [h z, z]
    simp
  · rw [Int.add_mul_ediv_left _ _ z]
theorem row_sub {st k q : Int} (h : st = 0 → q = 0) : row st (k - st * q) = row st k - q := by
  have := row_add (st := st) (k := k - st * q) (q := q) h
  rw [show k - st * q + st * q = k by omega] at this
  omega
theorem col_row {st : Int} (h : st ≠ 0) (k : Int) : k = col st k + st * row st k := by
  unfold col row
  rw [if_neg h]
  have := Int.emod_add_mul_ediv k st
  omega
theorem row_zero {k : Int} : row 0 k = 0 := by simp [row]
/-- a column's own place is in row 0 -/
theorem row_col {st c : Int} (h0 : 0 ≤ st) (h : col st c = c) : row st c = 0 := by
  by_cases z : st = 0
  · rw [z]; exact row_zero
  · have := col_row z c
    rw [h] at this
    have h1 : st * row st c = 0 := by omega
    rcases Int.mul_eq_zero.mp h1 with q | q
    · exact absurd q z
    · exact q
theorem row_mono {st j k : Int} (h0 : 0 ≤ st) (h : j ≤ k) : row st j ≤ row st k := by
  by_cases z : st = 0
  · rw [z, row_zero, row_zero]; exact Int.le_refl _
  · exact Int.ediv_le_ediv (by omega) h
/-! the bottom and the top in the first column -/
def bot (st : Int) (x : Pat) : Int := headD (spots st x (firstC st x))
def tip (st : Int) (x : Pat) : Int := lastD (spots st x (firstC st x))
def brow (st : Int) (x : Pat) : Int := row st (bot st x)
structure Ends (p st : Int) (x : Pat) : Prop where
  b1 : col st (bot st x) = firstC st x
  b2 : at_ x (bot st x) ≠ 0
  t1 : col st (tip st x) = firstC st x
  t2 : at_ x (tip st x) ≠ 0
  inn : ∀ k, col st k = firstC st x → at_ x k ≠ 0 → bot st x ≤ k ∧ k ≤ tip st x
  cc : col st (firstC st x) = firstC st x
  ln : 0 ≤ lenC st x
  eb : bot st x = firstC st x + st * brow st x
  et : tip st x = bot st x + st * lenC st x
theorem col_col {st : Int} (h0 : 0 ≤ st) (k : Int) : col st (col st k) = col st k := by
  unfold col
  by_cases z : st = 0
  · simp [z]
  · simp only [if_neg z]
    exact Int.emod_emod_of_dvd k (Int.dvd_refl st)
theorem ends_of {p st : Int} (h0 : 0 ≤ st) {x : Pat} (hx : IsPat p x) (hn : x ≠ []) : Ends p st x := by
  have hs := spots_first (st := st) hn
  obtain ⟨m1, m2⟩ := head_mem hs
  have lit : ∀ {k}, k ∈ spots st x (firstC st x) → col st k = firstC st x ∧ at_ x k ≠ 0 := fun {k} hk => by
    obtain ⟨⟨y, hy, rfl⟩, hc⟩ := mem_spots.mp hk
    refine ⟨hc, ?_⟩
    rw [hx.at_of_mem hy]
    have := hx.rng y hy
    omega
  have srt := spots_srt (st := st) hx (firstC st x)
  have b1 := lit m1
  have t1 := lit m2
  have cc : col st (firstC st x) = firstC st x := by rw [← b1.1, col_col h0]
  have bt := (srt_last srt m2).1
  have eb : bot st x = firstC st x + st * brow st x := by
    by_cases z : st = 0
    · have := b1.1
      unfold brow
      rw [z] at this ⊢
      simp only [col, if_true] at this
      show headD (spots 0 x (firstC 0 x)) = _
      rw [this]; omega
    · have := col_row z (bot st x)
      rw [show col st (bot st x) = firstC st x from b1.1] at this
      exact this
  have el : tip st x = bot st x + st * lenC st x ∧ 0 ≤ lenC st x := by
    unfold lenC
    by_cases z : st = 0
    · have e1 := b1.1
      have e2 := t1.1
      rw [z] at e1 e2
      simp only [col, if_true] at e1 e2
      subst z
      rw [if_pos rfl]
      refine ⟨?_, Int.le_refl _⟩
      show lastD (spots 0 x (firstC 0 x)) = headD (spots 0 x (firstC 0 x)) + _
      rw [e1, e2]; omega
    · rw [if_neg z]
      have e1 := col_row z (bot st x)
      have e2 := col_row z (tip st x)
      rw [show col st (bot st x) = firstC st x from b1.1] at e1
      rw [show col st (tip st x) = firstC st x from t1.1] at e2
      have e3 : lastD (spots st x (firstC st x)) - headD (spots st x (firstC st x)) = st * (row st (tip st x) - row st (bot st x)) := by
        rw [Int.mul_sub]
        show tip st x - bot st x = _
        omega
      rw [e3, Int.mul_ediv_cancel_left _ z]
      have := row_mono (st := st) h0 bt
      refine ⟨?_, by show 0 ≤ row st (lastD _) - row st (headD _); omega⟩
      rw [Int.mul_sub]
      omega
  exact ⟨b1.1, b1.2, t1.1, t1.2, fun k hk hl => srt_last srt (mem_spots.mpr ⟨⟨_, at_mem hl, rfl⟩, hk⟩), cc, el.2, eb, el.1⟩
theorem stair_ends {p st : Int} (h0 : 0 ≤ st) {s : Pat} (S : Stair p st s) : bot st s = firstC st s ∧ tip st s = topC st s := by
  have e := ends_of h0 S.pat S.ne
  have h1 := (e.inn _ S.cc S.bot).1
  have h2 : ¬ bot st s < firstC st s := fun z => e.b2 (S.low _ e.b1 z)
  have h3 : bot st s = firstC st s := by omega
  refine ⟨h3, ?_⟩
  show _ = firstC st s + st * lenC st s
  rw [e.et, h3]
/-- the first column is where something is lit, and nothing is lit ahead of it -/
theorem first_is {p st c : Int} (h0 : 0 ≤ st) {x : Pat} (hx : IsPat p x) {k0 : Int} (h1 : col st k0 = c) (h2 : at_ x k0 ≠ 0) (h3 : ∀ k, at_ x k ≠ 0 → c ≤ col st k) : firstC st x = c := by
  have hn : x ≠ [] := fun z => by rw [z] at h2; exact h2 rfl
  have e := ends_of h0 hx hn
  have a1 := first_le (st := st) h2
  have a2 := h3 _ e.b2
  rw [e.b1] at a2
  omega
/-- where bottom and top are told -/
theorem ends_is {p st c b l : Int} (h0 : 0 ≤ st) {x : Pat} (hx : IsPat p x) (hc : firstC st x = c) (b1 : col st b = c) (b2 : at_ x b ≠ 0) (t2 : at_ x (b + st * l) ≠ 0) (l0 : 0 ≤ l) (lz : st = 0 → l = 0) (inn : ∀ k, col st k = c → at_ x k ≠ 0 → b ≤ k ∧ k ≤ b + st * l) : bot st x = b ∧ lenC st x = l := by
  have hn : x ≠ [] := fun z => by rw [z] at b2; exact b2 rfl
  have e := ends_of h0 hx hn
  have a1 := (e.inn b (by rw [hc]; exact b1) b2).1
  have a2 := (inn _ (by rw [e.b1, hc]) e.b2).1
  have a3 : bot st x = b := by omega
  refine ⟨a3, ?_⟩
  have a4 := (e.inn (b + st * l) (by rw [col_add, hc]; exact b1) t2).2
  have a5 := (inn _ (by rw [e.t1, hc]) e.t2).2
  have a6 : st * lenC st x = st * l := by have := e.et; omega
  by_cases z : st = 0
  · rw [lz z]
    unfold lenC
    rw [if_pos z]
  · exact Int.eq_of_mul_eq_mul_left z a6
end Sr

/-! one normal step, one lowering; windows -/
namespace Sr
open Pt Mk
/-- a made pattern -/
structure MP (p st : Int) (B : Int → Pat) (Kw : Int) (x : Pat) (m : M) : Prop where
  pat : IsPat p x
  rng : Rng p m
  nd : (m.map (·.1)).Nodup
  keys : ∀ y ∈ m, 0 ≤ y.1.1 ∧ y.1.1 < Kw ∧ (st = 0 → y.1.2 = 0)
  made : Made p st B m [] x
  pl : ∀ k, at_ x k ≠ 0 → st = 0 → -1000 ≤ k ∧ k ≤ 1000
/-- moved and turned to a stair -/
structure Norm (p st : Int) (x : Pat) (m : M) (x' : Pat) (m' : M) (sh : Int) : Prop where
  stair : Stair p st x'
  first : firstC st x' = firstC st x
  len : lenC st x' = lenC st x
  ev : sh = -(brow st x)
  z : st = 0 → sh = 0
  lamps : ∀ k, at_ x' k ≠ 0 → at_ x (k - st * sh) ≠ 0
  rng : Rng p m'
  nd : (m'.map (·.1)).Nodup
  keys : ∀ y ∈ m', ∃ a ∈ m, a.1.1 = y.1.1 ∧ a.1.2 + sh = y.1.2
  made : ∀ B, Made p st B m [] x → Made p st B m' [] x'
  dif : ∃ v, ∀ k, at_ x' k % p = at_ x (k - st * sh) * v % p
  back : ∃ v, ∀ k, at_ x k % p = at_ x' (k + st * sh) * v % p
theorem mix_nil {p st : Int} (hp : 0 < p) {x : Pat} (hx : IsPat p x) (sh v k : Int) : at_ (mixP p st [] x sh v) k = at_ x (k - st * sh) * v % p := by
  rw [mixP_at hp (IsPat.nil p) hx]
  show (0 + _) % p = _
  rw [Int.zero_add]
theorem norm_of {p st : Int} (hp : 1 < p) (hz : NoZero p) (h0 : 0 ≤ st) {x : Pat} {m m' : M} (hx : IsPat p x) (hn : x ≠ []) {sh v : Int} (hsh : sh = -(brow st x)) (hv : v * at_ x (tip st x) % p = 1) (hm : Mix p [] m sh v m') : Norm p st x m (mixP p st [] x sh v) m' sh := by
  have hp0 : 0 < p := by omega
  have e := ends_of h0 hx hn
  have z : st = 0 → sh = 0 := fun z => by rw [hsh]; unfold brow; rw [z, row_zero]; rfl
  have hpat : IsPat p (mixP p st [] x sh v) := mixP_pat hp0 _ _ _ _ _
  have lit : ∀ k, at_ (mixP p st [] x sh v) k ≠ 0 → at_ x (k - st * sh) ≠ 0 := fun k hk hq => by
    rw [mix_nil hp0 hx, hq, Int.zero_mul, Int.zero_emod] at hk
    exact hk rfl
  have vne : v % p ≠ 0 := fun q => by
    rw [Int.mul_emod, q, Int.zero_mul, Int.zero_emod] at hv
    omega
  have unlit : ∀ k, at_ x (k - st * sh) ≠ 0 → at_ (mixP p st [] x sh v) k ≠ 0 := fun k hk hq => by
    rw [mix_nil hp0 hx] at hq
    rcases hz _ _ hq with c | c
    · exact vne c
    · have r := hx.at_rng hp0 (k - st * sh)
      rw [Int.emod_eq_of_lt r.1 r.2] at c
      exact hk c
  have bsh : bot st x + st * sh = firstC st x := by rw [hsh, Int.mul_neg, e.eb]; omega
  have b2 : at_ (mixP p st [] x sh v) (firstC st x) ≠ 0 := unlit _ (by rw [← bsh, show bot st x + st * sh - st * sh = bot st x by omega]; exact e.b2)
  have tsh : firstC st x + st * lenC st x - st * sh = tip st x := by rw [e.et]; omega
  have t2 : at_ (mixP p st [] x sh v) (firstC st x + st * lenC st x) = 1 := by
    rw [mix_nil hp0 hx, tsh, Int.mul_comm]
    exact hv
  have f : firstC st (mixP p st [] x sh v) = firstC st x := first_is h0 hpat e.cc b2 fun k hk => by
    have := first_le (st := st) (lit k hk)
    rw [col_sub] at this
    exact this
  have inn : ∀ k, col st k = firstC st x → at_ (mixP p st [] x sh v) k ≠ 0 → firstC st x ≤ k ∧ k ≤ firstC st x + st * lenC st x := fun k hk hl => by
    have := e.inn (k - st * sh) (by rw [col_sub]; exact hk) (lit k hl)
    have := e.et
    omega
  have el := (ends_is h0 hpat f e.cc b2 (by rw [t2]; decide) e.ln (fun z => by unfold lenC; rw [if_pos z]) inn).2
  have htop : topC st (mixP p st [] x sh v) = firstC st x + st * lenC st x := by
    show firstC st _ + st * lenC st _ = _
    rw [f, el]
  refine ⟨⟨hpat, fun q => by rw [q] at b2; exact b2 rfl, by rw [f]; exact e.cc, by rw [el]; exact e.ln, fun k hk hkc => ?_, fun k hk hkc => ?_, by rw [f]; exact b2, by rw [htop]; exact t2⟩, f, el, hsh, z, lit, hm.rng, hm.nd, fun y hy => ?_, fun B hB => ?_, ⟨v, fun k => by rw [mix_nil hp0 hx, Int.emod_emod]⟩, ⟨at_ x (tip st x), fun k => ?_⟩⟩
  · rw [f] at hk hkc
    exact Decidable.byContradiction fun q => by have := (inn k hk q).1; omega
  · rw [f] at hk
    rw [htop] at hkc
    exact Decidable.byContradiction fun q => by have := (inn k hk q).2; omega
  · rcases hm.keys y hy with ⟨a, ha, _⟩ | ⟨a, ha, q⟩
    · cases ha
    · exact ⟨a, ha, by rw [← q], by rw [← q]⟩
  · exact made_mix hp0 (IsPat.nil p) hx (fun k => rfl) hB hm
  · rw [mix_nil hp0 hx, show k + st * sh - st * sh = k by omega, Int.mul_emod, Int.emod_emod, ← Int.mul_emod, Int.mul_assoc, Int.mul_emod, hv, Int.mul_one, Int.emod_emod]
/-- so much taken away that it lies low -/
structure Low2 (p st U V : Int) (s : Pat) (ms : M) (x : Pat) (mx : M) (x' : Pat) (mx' : M) : Prop where
  pat : IsPat p x'
  rng : Rng p mx'
  nd : (mx'.map (·.1)).Nodup
  ahead : ∀ k, col st k < firstC st s → at_ x' k = at_ x k
  made : ∀ B x0, Made p st B ms [] s → Made p st B mx x0 x → Made p st B mx' x0 x'
  lamps : ∀ C : Int → Prop, (∀ k, at_ x k ≠ 0 → C k) → (∀ k, at_ s k ≠ 0 → ∀ q, (st = 0 → q = 0) → -U ≤ q → q ≤ V → C (k + st * q)) → ∀ k, at_ x' k ≠ 0 → C k
  keys : ∀ C : Pr → Prop, (∀ y ∈ mx, C y.1) → (∀ y ∈ ms, ∀ q, (st = 0 → q = 0) → -U ≤ q → q ≤ V → C (y.1.1, y.1.2 + q)) → ∀ y ∈ mx', C y.1
  dif : ∃ mq : M, (∀ q ∈ mq, st = 0 → q.1.2 = 0) ∧ ∀ k, at_ x' k % p = (at_ x k + Cop st (at_ s) mq k) % p
theorem low2_init {p st U V : Int} {s x : Pat} {ms mx : M} (hx : IsPat p x) (hr : Rng p mx) (nd : (mx.map (·.1)).Nodup) : Low2 p st U V s ms x mx x mx :=
  ⟨hx, hr, nd, fun _ _ => rfl, fun _ _ _ h => h, fun _ h _ => h, fun _ h _ => h, [], (fun _ h => nomatch h), fun k => by show _ = (_ + 0) % p; rw [Int.add_zero]⟩
theorem low2_mix {p st U V sh v : Int} {s x y : Pat} {ms mx my mz : M} (hp : 0 < p) (S : Stair p st s) (h : Low2 p st U V s ms x mx y my) (m : Mix p my ms sh v mz) (hz : st = 0 → sh = 0) (hz1 : -U ≤ sh) (hz2 : sh ≤ V) : Low2 p st U V s ms x mx (mixP p st y s sh v) mz := by
  refine ⟨mixP_pat hp _ _ _ _ _, m.rng, m.nd, fun k hk => ?_, fun B x0 h1 h2 => made_mix hp h.pat S.pat (h.made B x0 h1 h2) h1 m, fun C c1 c2 k hk => ?_, fun C c1 c2 y hy => ?_, ?_⟩
  · rw [mixP_ahead hp h.pat S.pat hk, h.ahead k hk]
  · rcases mixP_lit hp h.pat S.pat hk with c | c
    · exact h.lamps C c1 c2 k c
    · have := c2 _ c sh hz hz1 hz2
      rw [show k - st * sh + st * sh = k by omega] at this
      exact this
  · rcases m.keys y hy with ⟨a, ha, e⟩ | ⟨a, ha, e⟩
    · rw [← e]
      exact h.keys C c1 c2 a ha
    · rw [← e]
      exact c2 a ha sh hz hz1 hz2
  · obtain ⟨mq, q1, q2⟩ := h.dif
    refine ⟨((0, sh), v) :: mq, fun q hq => ?_, fun k => ?_⟩
    · rcases List.mem_cons.mp hq with rfl | hq
      · exact hz
      · exact q1 q hq
    · rw [mixP_at hp h.pat S.pat, Int.emod_emod, cop_cons, Int.add_emod, q2 k, ← Int.add_emod]
      congr 1
      show _ = at_ x k + (at_ s (k - st * sh) * v + _)
      omega
end Sr

/-! windows of rows; one column of put_in -/
namespace Sr
open Pt Mk
abbrev Fam := Int → Int → Pat → M → Prop
structure IsFam (p st : Int) (W : Fam) : Prop where
  mono : ∀ {a f a' f' : Int} {x : Pat} {m : M}, W a f x m → a ≤ a' → f ≤ f' → W a' f' x m
  norm : ∀ {x : Pat} {m : M} {x' : Pat} {m' : M} {sh a f : Int}, Norm p st x m x' m' sh → W a f x m → W (a - sh) (f + sh) x' m'
  low : ∀ {U V : Int} {s : Pat} {ms : M} {x : Pat} {mx : M} {x' : Pat} {mx' : M} {a f b g : Int}, Low2 p st U V s ms x mx x' mx' → W a f x mx → W b g s ms → W (max a (b + U)) (max f (g + V)) x' mx'
/-- rows in the first columns; L: what a column is allowed -/
def CWf (st : Int) (C : Int → Prop) (L : Int → Int) : Fam := fun a f x _ => ∀ k, at_ x k ≠ 0 → C (col st k) → -a ≤ row st k ∧ row st k ≤ f + L (col st k)
/-- all rows -/
def RWf (st : Int) : Fam := fun a f x _ => ∀ k, at_ x k ≠ 0 → -a ≤ row st k ∧ row st k ≤ f
/-- makers' shifts -/
def KWf : Fam := fun a f _ m => ∀ y ∈ m, -a ≤ y.1.2 ∧ y.1.2 ≤ f
theorem cwf_fam (p st : Int) (C : Int → Prop) (L : Int → Int) : IsFam p st (CWf st C L) := by
  refine ⟨fun h h1 h2 k hk hc => ?_, fun {x m x' m' sh a f} h w k hk hc => ?_, fun {U V s ms x mx x' mx' a f b g} h w1 w2 k hk hc => ?_⟩
  · have := h k hk hc; omega
  · have := w _ (h.lamps k hk) (by rw [col_sub]; exact hc)
    rw [row_sub h.z, col_sub] at this
    omega
  · refine h.lamps (fun k => C (col st k) → -(max a (b + U)) ≤ row st k ∧ row st k ≤ max f (g + V) + L (col st k)) (fun k hk hc => ?_) (fun k hk q hz q1 q2 hc => ?_) k hk hc
    · have := w1 k hk hc; omega
    · rw [col_add] at hc ⊢
      rw [row_add hz]
      have := w2 k hk hc
      omega
theorem rwf_fam (p st : Int) : IsFam p st (RWf st) := by
  refine ⟨fun h h1 h2 k hk => ?_, fun {x m x' m' sh a f} h w k hk => ?_, fun {U V s ms x mx x' mx' a f b g} h w1 w2 k hk => ?_⟩
  · have := h k hk; omega
  · have := w _ (h.lamps k hk)
    rw [row_sub h.z] at this
    omega
  · refine h.lamps (fun k => -(max a (b + U)) ≤ row st k ∧ row st k ≤ max f (g + V)) (fun k hk => ?_) (fun k hk q hz q1 q2 => ?_) k hk
    · have := w1 k hk; omega
    · rw [row_add hz]
      have := w2 k hk
      omega
theorem kwf_fam (p st : Int) : IsFam p st KWf := by
  refine ⟨fun h h1 h2 y hy => ?_, fun {x m x' m' sh a f} h w y hy => ?_, fun {U V s ms x mx x' mx' a f b g} h w1 w2 y hy => ?_⟩
  · have := h y hy; omega
  · obtain ⟨z, hz, _, e⟩ := h.keys y hy
    have := w z hz
    omega
  · refine h.keys (fun q => -(max a (b + U)) ≤ q.2 ∧ q.2 ≤ max f (g + V)) (fun y hy => ?_) (fun y hy q hz q1 q2 => ?_) y hy
    · have := w1 y hy; omega
    · have := w2 y hy
      show _ ≤ y.1.2 + q ∧ y.1.2 + q ≤ _
      omega
/-- the windows of both in a column: lc the length at first -/
def ColW (W : Fam) (lc Ka Kf lX lY : Int) (x : Pat) (m : M) (y : Pat) (n : M) : Prop := ∃ aX fX aY fY : Int, W aX fX x m ∧ W aY fY y n ∧ aX + min lX lc ≤ Ka ∧ aY + min lY lc ≤ Ka ∧ fX + lY ≤ Kf ∧ fY + lX ≤ Kf
theorem ColW.swap {W : Fam} {lc Ka Kf lX lY : Int} {x y : Pat} {m n : M} (h : ColW W lc Ka Kf lX lY x m y n) : ColW W lc Ka Kf lY lX y n x m := by
  obtain ⟨a, f, b, g, h1, h2, h3, h4, h5, h6⟩ := h
  exact ⟨b, g, a, f, h2, h1, h4, h3, h6, h5⟩
section
variable {p st : Int} {W : Fam} {lc Ka Kf ly lt : Int} {y t r : Pat} {my mt mr : M}
/-- what stays in the steps -/
theorem ColW.right (F : IsFam p st W) (h : ColW W lc Ka Kf ly lt y my t mt) (l0 : 0 ≤ lt) (l1 : 0 ≤ ly) (l2 : 0 ≤ lc) : W Ka Kf t mt := by
  obtain ⟨a, f, b, g, h1, h2, h3, h4, h5, h6⟩ := h
  exact F.mono h2 (by omega) (by omega)
theorem ColW.out (F : IsFam p st W) (h : ColW W lc Ka Kf ly lt y my t mt) (l0 : 0 ≤ lt) (l1 : lt ≤ ly) (l2 : lt ≤ lc) (hl : Low2 p st 0 (ly - lt) t mt y my r mr) : W Ka Kf r mr := by
  obtain ⟨a, f, b, g, h1, h2, h3, h4, h5, h6⟩ := h
  exact F.mono (F.low hl h1 h2) (by omega) (by omega)
theorem ColW.on (F : IsFam p st W) (h : ColW W lc Ka Kf ly lt y my t mt) (l0 : 0 ≤ lt) (l1 : lt ≤ ly) (l2 : lt ≤ lc) (hl : Low2 p st 0 (ly - lt) t mt y my r mr) {r' : Pat} {mr' : M} {sh lr : Int} (hn : Norm p st r mr r' mr' sh) (b0 : 0 ≤ -sh) (b1 : -sh + lr < lt) (lr0 : 0 ≤ lr) : ColW W lc Ka Kf lr lt r' mr' t mt := by
  obtain ⟨a, f, b, g, h1, h2, h3, h4, h5, h6⟩ := h
  exact ⟨_, _, b, g, F.norm hn (F.low hl h1 h2), h2, by omega, h4, by omega, by omega⟩
end
/-- where a lowered one is lit in the stair's column -/
theorem low_ends {p st : Int} (h0 : 0 ≤ st) {t r : Pat} (S : Stair p st t) (hr : IsPat p r) (hn : r ≠ []) (hl : LowAt st t r) (hc : firstC st r = firstC st t) : 0 < st ∧ 0 ≤ brow st r ∧ brow st r + lenC st r < lenC st t := by
  have e := ends_of h0 hr hn
  have h1 := hl _ (by rw [e.b1, hc]) e.b2
  have h2 := hl _ (by rw [e.t1, hc]) e.t2
  have e1 := e.eb
  have e2 := e.et
  rw [hc] at e1
  have ht : topC st t = firstC st t + st * lenC st t := rfl
  by_cases z : st = 0
  · rw [z, Int.zero_mul] at ht
    rw [z] at h1
    omega
  · have hst : 0 < st := by omega
    refine ⟨hst, ?_, ?_⟩
    · have : 0 ≤ st * brow st r := by omega
      exact Int.nonneg_of_mul_nonneg_right this hst
    · have : st * (brow st r + lenC st r) < st * lenC st t := by rw [Int.mul_add]; omega
      exact Int.lt_of_mul_lt_mul_left this h0
end Sr

/-! steps by their columns; what is generated -/
namespace Sr
open Pt Mk
abbrev Steps := List (Int × (Pat × M))
def keysS (T : Steps) : List Int := T.map (·.1)
def getS : Steps → Int → Option (Pat × M)
  | [], _ => none
  | e :: r, c => if e.1 = c then some e.2 else getS r c
def putS (T : Steps) (c : Int) (v : Pat × M) : Steps := if c ∈ keysS T then T.map (fun e => if e.1 = c then (c, v) else e) else T ++ [(c, v)]
theorem get_none : ∀ {T : Steps} {c : Int}, getS T c = none ↔ c ∉ keysS T
  | [], c => by simp [getS, keysS]
  | e :: r, c => by
    have ih := get_none (T := r) (c := c)
    unfold getS
    by_cases h : e.1 = c
    · rw [if_pos h]
      simp [keysS, h]
    · rw [if_neg h, ih]
      simp [keysS, Ne.symm h]
theorem get_mem : ∀ {T : Steps} {c : Int} {v : Pat × M}, getS T c = some v → (c, v) ∈ T
  | [], c, v, h => by cases h
  | e :: r, c, v, h => by
    unfold getS at h
    by_cases q : e.1 = c
    · rw [if_pos q] at h
      cases h
      subst q
      exact List.mem_cons_self
    · rw [if_neg q] at h
      exact List.mem_cons_of_mem _ (get_mem h)
theorem mem_get : ∀ {T : Steps} {c : Int} {v : Pat × M}, (keysS T).Nodup → (c, v) ∈ T → getS T c = some v
  | [], c, v, _, h => by cases h
  | e :: r, c, v, nd, h => by
    obtain ⟨n1, n2⟩ := List.nodup_cons.mp (show (e.1 :: keysS r).Nodup from nd)
    unfold getS
    rcases List.mem_cons.mp h with q | q
    · subst q
      rw [if_pos rfl]
    · have : e.1 ≠ c := fun z => n1 (by rw [z]; exact List.mem_map.mpr ⟨_, q, rfl⟩)
      rw [if_neg this]
      exact mem_get n2 q
theorem mem_put {T : Steps} {c : Int} {v : Pat × M} {e : Int × (Pat × M)} : e ∈ putS T c v ↔ e = (c, v) ∨ (e ∈ T ∧ e.1 ≠ c) := by
  unfold putS
  by_cases h : c ∈ keysS T
  · rw [if_pos h, List.mem_map]
    constructor
    · rintro ⟨a, ha, rfl⟩
      by_cases q : a.1 = c
      · rw [if_pos q]; exact .inl rfl
      · rw [if_neg q]; exact .inr ⟨ha, q⟩
    · rintro (rfl | ⟨h1, h2⟩)
      · obtain ⟨a, ha, q⟩ := List.mem_map.mp h
        exact ⟨a, ha, by rw [if_pos q]⟩
      · exact ⟨e, h1, by rw [if_neg h2]⟩
  · rw [if_neg h, List.mem_append]
    constructor
    · rintro (h1 | h1)
      · exact .inr ⟨h1, fun z => h (List.mem_map.mpr ⟨e, h1, z⟩)⟩
      · exact .inl (by simpa using h1)
    · rintro (h1 | h1)
      · exact .inr (by simpa using h1)
      · exact .inl h1.1
theorem keys_put (T : Steps) (c : Int) (v : Pat × M) : keysS (putS T c v) = if c ∈ keysS T then keysS T else keysS T ++ [c] := by
  unfold putS
  by_cases h : c ∈ keysS T
  · rw [if_pos h, if_pos h]
    unfold keysS
    rw [List.map_map]
    refine List.map_congr_left fun e he => ?_
    by_cases q : e.1 = c
    · simp [q]
    · simp [q]
  · rw [if_neg h, if_neg h]
    simp [keysS]
theorem keys_put_nd {T : Steps} {c : Int} {v : Pat × M} (nd : (keysS T).Nodup) : (keysS (putS T c v)).Nodup := by
  rw [keys_put]
  by_cases h : c ∈ keysS T
  · rw [if_pos h]; exact nd
  · rw [if_neg h]
    exact List.nodup_append.mpr ⟨nd, by simp, fun a ha b hb z => by simp at hb; subst hb; subst z; exact h ha⟩
theorem get_put {T : Steps} {c d : Int} {v : Pat × M} (nd : (keysS T).Nodup) : getS (putS T c v) d = if d = c then some v else getS T d := by
  by_cases h : d = c
  · subst h
    rw [if_pos rfl]
    exact mem_get (keys_put_nd nd) (mem_put.mpr (.inl rfl))
  · rw [if_neg h]
    cases q : getS T d with
    | none =>
      rw [get_none] at q ⊢
      rw [keys_put]
      by_cases z : c ∈ keysS T
      · rw [if_pos z]; exact q
      · rw [if_neg z]
        simp [q, h]
    | some u => exact mem_get (keys_put_nd nd) (mem_put.mpr (.inr ⟨get_mem q, h⟩))
/-! what of the steps stands at a column or behind it -/
def remS (st : Int) : Steps → Int → Int
  | [], _ => 0
  | e :: r, c => (if c ≤ e.1 then lenC st e.2.1 else 0) + remS st r c
def cntS : Steps → Int → Int
  | [], _ => 0
  | e :: r, c => (if c ≤ e.1 then 1 else 0) + cntS r c
theorem rem_anti {st : Int} : ∀ {T : Steps} {c d : Int}, (∀ e ∈ T, 0 ≤ lenC st e.2.1) → c ≤ d → 0 ≤ remS st T d ∧ remS st T d ≤ remS st T c
  | [], c, d, _, _ => by simp [remS]
  | e :: r, c, d, h, hc => by
    have ih := rem_anti (T := r) (fun e he => h e (by simp [he])) hc
    have h1 := h e (by simp)
    unfold remS
    split <;> split <;> omega
theorem rem_at {st : Int} : ∀ {T : Steps} {c : Int} {v : Pat × M}, (∀ e ∈ T, 0 ≤ lenC st e.2.1) → (c, v) ∈ T → lenC st v.1 + remS st T (c + 1) ≤ remS st T c
  | [], c, v, _, h => by cases h
  | e :: r, c, v, h, hm => by
    have h1 := h e (by simp)
    unfold remS
    rcases List.mem_cons.mp hm with q | q
    · subst q
      have := (rem_anti (T := r) (fun e he => h e (by simp [he])) (show c ≤ c + 1 by omega)).2
      rw [if_neg (by simp only; omega), if_pos (by simp only; omega)]
      simp only
      omega
    · have ih := rem_at (T := r) (fun e he => h e (by simp [he])) q
      split <;> split <;> omega
theorem cnt_anti : ∀ {T : Steps} {c d : Int}, c ≤ d → 0 ≤ cntS T d ∧ cntS T d ≤ cntS T c ∧ cntS T c ≤ T.length
  | [], c, d, _ => by simp [cntS]
  | e :: r, c, d, hc => by
    have ih := cnt_anti (T := r) hc
    unfold cntS
    rw [List.length_cons]
    split <;> split <;> omega
theorem cnt_at : ∀ {T : Steps} {c : Int} {v : Pat × M}, (c, v) ∈ T → 1 + cntS T (c + 1) ≤ cntS T c
  | [], c, v, h => by cases h
  | e :: r, c, v, hm => by
    unfold cntS
    rcases List.mem_cons.mp hm with q | q
    · subst q
      have := (cnt_anti (T := r) (show c ≤ c + 1 by omega)).2.1
      rw [if_neg (by simp only; omega), if_pos (by simp only; omega)]
      omega
    · have ih := cnt_at (T := r) q
      split <;> split <;> omega
/-! what some patterns make -/
inductive Gen (p st : Int) (L : Pat → Prop) : (Int → Int) → Prop
  | zero : Gen p st L fun _ => 0
  | copy {s : Pat} {f : Int → Int} (q v : Int) (hs : L s) (hq : st = 0 → q = 0) (hf : Gen p st L f) : Gen p st L fun k => at_ s (k - st * q) * v + f k
  | cong {f g : Int → Int} (hf : Gen p st L f) (h : ∀ k, g k % p = f k % p) : Gen p st L g
section
variable {p st : Int} {L : Pat → Prop}
theorem Gen.one {s : Pat} (h : L s) : Gen p st L (at_ s) := .cong (.copy 0 1 h (fun _ => rfl) .zero) fun k => by rw [Int.mul_zero, Int.sub_zero, Int.mul_one, Int.add_zero]
theorem Gen.add {f g : Int → Int} (hf : Gen p st L f) (hg : Gen p st L g) : Gen p st L fun k => f k + g k := by
  induction hf with
  | zero => exact .cong hg fun k => by rw [Int.zero_add]
  | copy q v hs hq _ ih => exact .cong (.copy q v hs hq ih) fun k => by rw [Int.add_assoc]
  | cong _ h ih => exact .cong ih fun k => by rw [Int.add_emod, h k, ← Int.add_emod]
theorem Gen.moved {f : Int → Int} (hf : Gen p st L f) (q v : Int) (hq : st = 0 → q = 0) : Gen p st L fun k => f (k - st * q) * v := by
  induction hf with
  | zero => exact .cong .zero fun k => by rw [Int.zero_mul]
  | @copy s f a b hs ha _ ih =>
    refine .cong (.copy (q + a) (b * v) hs (fun z => by rw [hq z, ha z]; rfl) ih) fun k => ?_
    show (at_ s (k - st * q - st * a) * b + f (k - st * q)) * v % p = _
    rw [Int.add_mul, Int.mul_assoc, Int.mul_add, show k - (st * q + st * a) = k - st * q - st * a by omega]
  | cong _ h ih => exact .cong ih fun k => by rw [Int.mul_emod, h _, ← Int.mul_emod]
theorem Gen.trans {L' : Pat → Prop} {f : Int → Int} (hf : Gen p st L f) (h : ∀ s, L s → Gen p st L' (at_ s)) : Gen p st L' f := by
  induction hf with
  | zero => exact .zero
  | copy q v hs hq _ ih => exact ((h _ hs).moved q v hq).add ih
  | cong _ h ih => exact .cong ih h
theorem Gen.cop {f : Int → Int} (hf : Gen p st L f) : ∀ {m : M}, (∀ q ∈ m, st = 0 → q.1.2 = 0) → Gen p st L (Cop st f m)
  | [], _ => .zero
  | x :: r, h => ((hf.moved x.1.2 x.2 (h x (by simp))).add (hf.cop (m := r) fun q hq => h q (by simp [hq]))).cong fun k => rfl
theorem Gen.neg {f : Int → Int} (hf : Gen p st L f) : Gen p st L fun k => -(f k) := (hf.moved 0 (-1) fun _ => rfl).cong fun k => by rw [Int.mul_zero, Int.sub_zero, Int.mul_neg, Int.mul_one]
/-- a normal one and what it was -/
theorem Norm.gen {x x' : Pat} {m m' : M} {sh : Int} (h : Norm p st x m x' m' sh) (hx : Gen p st L (at_ x')) : Gen p st L (at_ x) := by
  obtain ⟨v, hv⟩ := h.back
  refine (hx.moved (-sh) v fun z => by rw [h.z z]; rfl).cong fun k => ?_
  rw [hv k, Int.mul_neg, Int.sub_neg]
/-- what was ahead of a lowering -/
theorem Low2.gen {U V : Int} {s x x' : Pat} {ms mx mx' : M} (h : Low2 p st U V s ms x mx x' mx') (hs : Gen p st L (at_ s)) (hx : Gen p st L (at_ x')) : Gen p st L (at_ x) := by
  obtain ⟨mq, q1, q2⟩ := h.dif
  refine (hx.add (hs.cop (m := mq) q1).neg).cong fun k => ?_
  rw [Int.add_emod, q2 k, ← Int.add_emod]
  congr 1
  omega
/-- what a lowering makes -/
theorem Low2.gen' {U V : Int} {s x x' : Pat} {ms mx mx' : M} (h : Low2 p st U V s ms x mx x' mx') (hs : Gen p st L (at_ s)) (hx : Gen p st L (at_ x)) : Gen p st L (at_ x') := by
  obtain ⟨mq, q1, q2⟩ := h.dif
  exact (hx.add (hs.cop (m := mq) q1)).cong q2
end
end Sr

/-! put_in: what stands while it runs -/
namespace Sr
open Pt Mk
structure StepsOk (p st : Int) (B : Int → Pat) (Kw : Int) (T : Steps) : Prop where
  nd : (keysS T).Nodup
  ok : ∀ e ∈ T, Stair p st e.2.1 ∧ firstC st e.2.1 = e.1 ∧ MP p st B Kw e.2.1 e.2.2
theorem StepsOk.put {p st : Int} {B : Int → Pat} {Kw : Int} {T : Steps} (h : StepsOk p st B Kw T) {c : Int} {x : Pat} {m : M} (S : Stair p st x) (hc : firstC st x = c) (hm : MP p st B Kw x m) : StepsOk p st B Kw (putS T c (x, m)) := ⟨keys_put_nd h.nd, fun e he => by
  rcases mem_put.mp he with rfl | q
  · exact ⟨S, hc, hm⟩
  · exact h.ok e q.1⟩
theorem MP.norm {p st : Int} {B : Int → Pat} {Kw : Int} {x : Pat} {m : M} (h : MP p st B Kw x m) {x' : Pat} {m' : M} {sh : Int} (n : Norm p st x m x' m' sh) : MP p st B Kw x' m' := ⟨n.stair.pat, n.rng, n.nd, fun y hy => by
  obtain ⟨a, ha, e1, e2⟩ := n.keys y hy
  have := h.keys a ha
  exact ⟨by omega, by omega, fun z => by rw [← e2, this.2.2 z, n.z z]; rfl⟩, n.made B h.made, fun k hk z => by
  have := h.pl _ (n.lamps k hk) z
  rw [z, Int.zero_mul] at this
  omega⟩
theorem MP.low {p st : Int} {B : Int → Pat} {Kw U V : Int} {x t : Pat} {m mt : M} (h : MP p st B Kw x m) (ht : MP p st B Kw t mt) {x' : Pat} {m' : M} (l : Low2 p st U V t mt x m x' m') : MP p st B Kw x' m' := ⟨l.pat, l.rng, l.nd, fun y hy => l.keys (fun q => 0 ≤ q.1 ∧ q.1 < Kw ∧ (st = 0 → q.2 = 0)) (fun y hy => h.keys y hy) (fun y hy q hz _ _ => by
  have := ht.keys y hy
  exact ⟨this.1, this.2.1, fun z => by show y.1.2 + q = 0; rw [this.2.2 z, hz z]; rfl⟩) y hy, l.made B [] ht.made h.made, l.lamps (fun k => st = 0 → -1000 ≤ k ∧ k ≤ 1000) h.pl fun k hk q _ _ _ z => by
  have := ht.pl k hk z
  rw [z, Int.zero_mul]
  omega⟩
def lenAt (st : Int) (O : Steps) (c : Int) : Int := match getS O c with
  | some v => lenC st v.1
  | none => 0
/-- the numbers: E, Lb lengths; A rows, D shifts at first -/
structure Nums where
  E : Int
  Lb : Int
  A : Int
  D : Int
def Nums.G (N : Nums) : Int := N.E + 2 * N.Lb
structure Old (p st : Int) (B : Int → Pat) (Kw : Int) (N : Nums) (O : Steps) : Prop where
  ok : StepsOk p st B Kw O
  cw : ∀ e ∈ O, CWf st (· ∈ keysS O) (lenAt st O) 0 0 e.2.1 e.2.2
  rw : ∀ e ∈ O, RWf st N.A N.A e.2.1 e.2.2
  kw : ∀ e ∈ O, KWf N.D N.D e.2.1 e.2.2
  len : ∀ e ∈ O, lenC st e.2.1 ≤ N.Lb
  pos : 0 ≤ N.E ∧ 0 ≤ N.Lb ∧ 0 ≤ N.A ∧ 0 ≤ N.D
/-- what always stands -/
structure PBase (p st : Int) (B : Int → Pat) (Kw : Int) (N : Nums) (O : Steps) (x0 : Pat) (T : Steps) (x : Pat) (m : M) : Prop where
  mp : MP p st B Kw x m
  ok : StepsOk p st B Kw T
  keys : keysS T = keysS O
  rw : ∀ e ∈ T, RWf st (N.A + O.length * N.G) (N.A + O.length * N.G) e.2.1 e.2.2
  kw : ∀ e ∈ T, KWf (N.D + O.length * N.G) (N.D + O.length * N.G) e.2.1 e.2.2
  gen0 : Gen p st (fun s => s = x ∨ ∃ e ∈ T, e.2.1 = s) (at_ x0)
  gen : ∀ o ∈ O, Gen p st (fun s => s = x ∨ ∃ e ∈ T, e.2.1 = s) (at_ o.2.1)
structure Fresh (p st : Int) (N : Nums) (O T : Steps) (x : Pat) (m : M) (c : Int) : Prop where
  cw : ∃ a e : Int, 0 ≤ a ∧ 0 ≤ e ∧ CWf st (· ∈ keysS O) (lenAt st O) a e x m ∧ a + e + 2 * remS st O c ≤ N.E
  rw : ∃ j : Int, 0 ≤ j ∧ j + cntS O c ≤ O.length ∧ RWf st (N.A + j * N.G) (N.A + j * N.G) x m ∧ KWf (N.D + j * N.G) (N.D + j * N.G) x m
  dark : ∀ k, at_ x k ≠ 0 → c ≤ col st k
  same : ∀ d, c ≤ d → getS T d = getS O d
structure Prog (p st : Int) (N : Nums) (O T : Steps) (x : Pat) (m : M) (c : Int) (lc : Int) (y : Pat) (ny : M) : Prop where
  ne : x ≠ []
  first : firstC st x = c
  old : ∃ v, (c, v) ∈ O ∧ lenC st v.1 = lc
  get : getS T c = some (y, ny)
  ly : lenC st y ≤ lc
  same : ∀ d, c < d → getS T d = getS O d
  cw : ∃ Ka Kf : Int, 0 ≤ Ka ∧ 0 ≤ Kf ∧ Ka + Kf + 2 * remS st O (c + 1) ≤ N.E ∧ ∀ x1 m1 sh, Norm p st x m x1 m1 sh → ColW (CWf st (· ∈ keysS O) (lenAt st O)) lc Ka Kf (lenC st x) (lenC st y) x1 m1 y ny
  rw : ∃ j : Int, 0 ≤ j ∧ j + cntS O (c + 1) ≤ O.length ∧ ∀ x1 m1 sh, Norm p st x m x1 m1 sh → ColW (RWf st) lc (N.A + j * N.G) (N.A + j * N.G) (lenC st x) (lenC st y) x1 m1 y ny ∧ ColW KWf lc (N.D + j * N.G) (N.D + j * N.G) (lenC st x) (lenC st y) x1 m1 y ny
section
variable {p st : Int} {B : Int → Pat} {Kw : Int} {N : Nums} {O T : Steps} {x0 x : Pat} {m : M}
theorem lenAt_of (h : (keysS O).Nodup) {c : Int} {v : Pat × M} (hv : (c, v) ∈ O) : lenAt st O c = lenC st v.1 := by
  unfold lenAt
  rw [mem_get h hv]
theorem Old.len0 (h : Old p st B Kw N O) : ∀ e ∈ O, 0 ≤ lenC st e.2.1 := fun e he => (h.ok.ok e he).1.ln
/-- a column is entered -/
theorem enter (h0 : 0 ≤ st) (ho : Old p st B Kw N O) (hb : PBase p st B Kw N O x0 T x m) {c : Int} (hf : Fresh p st N O T x m c) (hn : x ≠ []) {y : Pat} {ny : M} (hy : getS T (firstC st x) = some (y, ny)) : c ≤ firstC st x ∧ Prog p st N O T x m (firstC st x) (lenC st y) y ny ∧ lenC st x ≤ N.E + N.Lb := by
  have e := ends_of h0 hb.mp.pat hn
  have hc : c ≤ firstC st x := by rw [← e.b1]; exact hf.dark _ e.b2
  obtain ⟨c0, hc0⟩ : ∃ c0, c0 = firstC st x := ⟨_, rfl⟩
  rw [← hc0] at hc hy ⊢
  have hO : getS O c0 = some (y, ny) := by rw [← hf.same c0 hc]; exact hy
  have hm := get_mem hO
  have kin : c0 ∈ keysS O := List.mem_map.mpr ⟨_, hm, rfl⟩
  have la : lenAt st O c0 = lenC st y := lenAt_of ho.ok.nd hm
  have l0 := ho.len0 _ hm
  have l1 := ho.len _ hm
  simp only at l0 l1
  obtain ⟨a, e', a0, e0, w, hE⟩ := hf.cw
  obtain ⟨j, j0, j1, r1, k1⟩ := hf.rw
  have wb := w _ e.b2 (by rw [e.b1, ← hc0]; exact kin)
  have wt := w _ e.t2 (by rw [e.t1, ← hc0]; exact kin)
  have rt : row st (tip st x) = brow st x + lenC st x := by
    rw [e.et, row_add fun z => by unfold lenC; rw [if_pos z]]
    rfl
  rw [e.b1, ← hc0, la] at wb
  rw [e.t1, ← hc0, la, rt] at wt
  replace wb : -a ≤ brow st x ∧ brow st x ≤ e' + lenC st y := wb
  have lx0 := e.ln
  have rm := rem_at (st := st) ho.len0 hm
  simp only at rm
  have ra := (rem_anti (st := st) ho.len0 hc).2
  have rz := (rem_anti (st := st) (T := O) (c := c0 + 1) (d := c0 + 1) ho.len0 (Int.le_refl _)).1
  have ca := (cnt_anti (T := O) hc).2.1
  have cm := cnt_at hm
  obtain ⟨E0, L0, A0, D0⟩ := ho.pos
  have hG : N.G = N.E + 2 * N.Lb := rfl
  have jG : 0 ≤ j * N.G := Int.mul_nonneg j0 (by omega)
  have jG1 : (j + 1) * N.G = j * N.G + N.G := by rw [Int.add_mul, Int.one_mul]
  refine ⟨hc, ⟨hn, hc0.symm, ⟨_, hm, rfl⟩, hy, Int.le_refl _, fun d hd => hf.same d (by omega), ⟨a + brow st x + lenC st y, e' - brow st x + lenC st y, by omega, by omega, by omega, fun x1 m1 sh hN => ?_⟩, ⟨j + 1, by omega, by omega, fun x1 m1 sh hN => ⟨?_, ?_⟩⟩⟩, by omega⟩
  · have hs := hN.ev
    exact ⟨_, _, 0, 0, (cwf_fam p st _ _).norm hN w, ho.cw _ hm, by omega, by omega, by omega, by omega⟩
  · have hs := hN.ev
    exact ⟨_, _, _, _, (rwf_fam p st).norm hN r1, ho.rw _ hm, by omega, by omega, by omega, by omega⟩
  · have hs := hN.ev
    exact ⟨_, _, _, _, (kwf_fam p st).norm hN k1, ho.kw _ hm, by omega, by omega, by omega, by omega⟩
end
end Sr

/-! put_in: one turn -/
namespace Sr
open Pt Mk
/-- ahead of lowering: yy will be lowered by t, which lies among the steps -/
structure Turn (p st : Int) (B : Int → Pat) (Kw : Int) (N : Nums) (O : Steps) (x0 : Pat) (c lc : Int) (T : Steps) (y : Pat) (my : M) (t : Pat) (mt : M) : Prop where
  old : ∃ v, (c, v) ∈ O ∧ lenC st v.1 = lc
  mpY : MP p st B Kw y my
  SY : Stair p st y
  fY : firstC st y = c
  mpT : MP p st B Kw t mt
  S : Stair p st t
  fT : firstC st t = c
  get : getS T c = some (t, mt)
  ok : StepsOk p st B Kw T
  keys : keysS T = keysS O
  rwT : ∀ e ∈ T, RWf st (N.A + O.length * N.G) (N.A + O.length * N.G) e.2.1 e.2.2
  kwT : ∀ e ∈ T, KWf (N.D + O.length * N.G) (N.D + O.length * N.G) e.2.1 e.2.2
  same : ∀ d, c < d → getS T d = getS O d
  l1 : lenC st t ≤ lenC st y
  l2 : lenC st t ≤ lc
  cw : ∃ Ka Kf : Int, 0 ≤ Ka ∧ 0 ≤ Kf ∧ Ka + Kf + 2 * remS st O (c + 1) ≤ N.E ∧ ColW (CWf st (· ∈ keysS O) (lenAt st O)) lc Ka Kf (lenC st y) (lenC st t) y my t mt
  rw : ∃ j : Int, 0 ≤ j ∧ j + cntS O (c + 1) ≤ O.length ∧ ColW (RWf st) lc (N.A + j * N.G) (N.A + j * N.G) (lenC st y) (lenC st t) y my t mt ∧ ColW KWf lc (N.D + j * N.G) (N.D + j * N.G) (lenC st y) (lenC st t) y my t mt
  gen0 : Gen p st (fun s => s = y ∨ ∃ e ∈ T, e.2.1 = s) (at_ x0)
  gen : ∀ o ∈ O, Gen p st (fun s => s = y ∨ ∃ e ∈ T, e.2.1 = s) (at_ o.2.1)
section
variable {p st : Int} {B : Int → Pat} {Kw : Int} {N : Nums} {O T : Steps} {x0 x : Pat} {m : M} {c lc : Int} {y : Pat} {ny : M} {x1 : Pat} {m1 : M} {sh : Int}
theorem j_le (ho : Old p st B Kw N O) {j : Int} (hj : j + cntS O (c + 1) ≤ O.length) : j * N.G ≤ O.length * N.G := by
  have := (cnt_anti (T := O) (Int.le_refl (c + 1))).1
  obtain ⟨E0, L0, _⟩ := ho.pos
  have hG : N.G = N.E + 2 * N.Lb := rfl
  exact Int.mul_le_mul_of_nonneg_right (by omega) (by omega)
/-- the shorter one is the new one -/
theorem turn_a (ho : Old p st B Kw N O) (hb : PBase p st B Kw N O x0 T x m) (hp : Prog p st N O T x m c lc y ny) (hn : Norm p st x m x1 m1 sh) (hl : lenC st x1 < lenC st y) : Turn p st B Kw N O x0 c lc (putS T c (x1, m1)) y ny x1 m1 := by
  have hy := get_mem hp.get
  have oy := hb.ok.ok _ hy
  have f1 : firstC st x1 = c := by rw [hn.first, hp.first]
  have mp1 := hb.mp.norm hn
  have ly := hp.ly
  obtain ⟨v, hv, hlc⟩ := hp.old
  have hlc0 := ho.len0 _ hv
  simp only at hlc0
  obtain ⟨Ka, Kf, ka0, kf0, hE, cw⟩ := hp.cw
  obtain ⟨j, j0, j1, rw1⟩ := hp.rw
  obtain ⟨cr, ck⟩ := rw1 _ _ _ hn
  have jG := j_le ho j1
  have x0' := hn.stair.ln
  have y0' := oy.1.ln
  simp only at y0'
  rw [← hn.len] at cr ck
  have eG : ∀ {f : Int → Int}, Gen p st (fun s => s = x ∨ ∃ e ∈ T, e.2.1 = s) f → Gen p st (fun s => s = y ∨ ∃ e ∈ putS T c (x1, m1), e.2.1 = s) f := fun hf => hf.trans fun s hs => by
    rcases hs with rfl | ⟨e, he, rfl⟩
    · exact hn.gen (.one (.inr ⟨(c, (x1, m1)), mem_put.mpr (.inl rfl), rfl⟩))
    · by_cases q : e.1 = c
      · have : getS T e.1 = some e.2 := mem_get hb.ok.nd he
        rw [q, hp.get] at this
        rw [show e.2 = (y, ny) from (Option.some.inj this).symm]
        exact .one (.inl rfl)
      · exact .one (.inr ⟨e, mem_put.mpr (.inr ⟨he, q⟩), rfl⟩)
  refine ⟨⟨v, hv, hlc⟩, oy.2.2, oy.1, oy.2.1, mp1, hn.stair, f1, by rw [get_put hb.ok.nd, if_pos rfl], hb.ok.put hn.stair f1 mp1, ?_, fun e he => ?_, fun e he => ?_, fun d hd => ?_, by omega, by omega, ⟨Ka, Kf, ka0, kf0, hE, ?_⟩, ⟨j, j0, j1, cr.swap, ck.swap⟩, eG hb.gen0, fun o ho => eG (hb.gen o ho)⟩
  · rw [keys_put, if_pos (show c ∈ keysS T from List.mem_map.mpr ⟨_, hy, rfl⟩), hb.keys]
  · rcases mem_put.mp he with rfl | q
    · exact (rwf_fam p st).mono (cr.swap.right (rwf_fam p st) x0' y0' (by omega)) (by omega) (by omega)
    · exact hb.rw e q.1
  · rcases mem_put.mp he with rfl | q
    · exact (kwf_fam p st).mono (ck.swap.right (kwf_fam p st) x0' y0' (by omega)) (by omega) (by omega)
    · exact hb.kw e q.1
  · rw [get_put hb.ok.nd, if_neg (by omega)]
    exact hp.same d hd
  · have := cw _ _ _ hn
    rw [← hn.len] at this
    exact this.swap
/-- the shorter one lies there -/
theorem turn_b (ho : Old p st B Kw N O) (hb : PBase p st B Kw N O x0 T x m) (hp : Prog p st N O T x m c lc y ny) (hn : Norm p st x m x1 m1 sh) (hl : ¬ lenC st x1 < lenC st y) : Turn p st B Kw N O x0 c lc T x1 m1 y ny := by
  have hy := get_mem hp.get
  have oy := hb.ok.ok _ hy
  have f1 : firstC st x1 = c := by rw [hn.first, hp.first]
  have mp1 := hb.mp.norm hn
  obtain ⟨Ka, Kf, ka0, kf0, hE, cw⟩ := hp.cw
  obtain ⟨j, j0, j1, rw1⟩ := hp.rw
  obtain ⟨cr, ck⟩ := rw1 _ _ _ hn
  rw [← hn.len] at cr ck
  have eG : ∀ {f : Int → Int}, Gen p st (fun s => s = x ∨ ∃ e ∈ T, e.2.1 = s) f → Gen p st (fun s => s = x1 ∨ ∃ e ∈ T, e.2.1 = s) f := fun hf => hf.trans fun s hs => by
    rcases hs with rfl | ⟨e, he, rfl⟩
    · exact hn.gen (.one (.inl rfl))
    · exact .one (.inr ⟨e, he, rfl⟩)
  refine ⟨hp.old, mp1, hn.stair, f1, oy.2.2, oy.1, oy.2.1, hp.get, hb.ok, hb.keys, hb.rw, hb.kw, hp.same, by omega, hp.ly, ⟨Ka, Kf, ka0, kf0, hE, ?_⟩, ⟨j, j0, j1, cr, ck⟩, eG hb.gen0, fun o ho => eG (hb.gen o ho)⟩
  have := cw _ _ _ hn
  rw [← hn.len] at this
  exact this

/-- how far the two reach, and so all that lowering makes on its way -/
theorem Turn.win (h0 : 0 ≤ st) (ho : Old p st B Kw N O) {t : Pat} {my mt : M} (h : Turn p st B Kw N O x0 c lc T y my t mt) :
    (∀ k, col st k = firstC st t → at_ y k ≠ 0 → firstC st t - st * 0 ≤ k ∧ k ≤ topC st t + st * (lenC st y - lenC st t)) ∧
    (RWf st (N.A + O.length * N.G) (N.A + O.length * N.G) y my ∧ ∀ k, at_ t k ≠ 0 → -(N.A + O.length * N.G) ≤ row st k - 0 ∧ row st k + (lenC st y - lenC st t) ≤ N.A + O.length * N.G) ∧
    (KWf (N.D + O.length * N.G) (N.D + O.length * N.G) y my ∧ ∀ q ∈ mt, -(N.D + O.length * N.G) ≤ q.1.2 - 0 ∧ q.1.2 + (lenC st y - lenC st t) ≤ N.D + O.length * N.G) := by
  obtain ⟨j, j0, j1, ⟨a, f, b, g, w1, w2, w3, w4, w5, w6⟩, a', f', b', g', v1, v2, v3, v4, v5, v6⟩ := h.rw
  have jG := j_le ho j1
  have l0 := h.S.ln
  have l1 := h.l1
  obtain ⟨v, hv, hlc⟩ := h.old
  have hlc0 := ho.len0 _ hv
  simp only at hlc0
  refine ⟨fun k hk hl => ?_, ⟨fun k hk => ?_, fun k hk => ?_⟩, ⟨fun q hq => ?_, fun q hq => ?_⟩⟩
  · have e := ends_of h0 h.mpY.pat h.SY.ne
    have e1 := stair_ends h0 h.SY
    have := e.inn k (by rw [hk, h.fT, h.fY]) hl
    have t1 : topC st y = firstC st y + st * lenC st y := rfl
    have t2 : topC st t = firstC st t + st * lenC st t := rfl
    have f1 := h.fT
    have f2 := h.fY
    rw [Int.mul_sub, Int.mul_zero]
    omega
  · have := w1 k hk; omega
  · have := w2 k hk; omega
  · have := v1 q hq; omega
  · have := v2 q hq; omega
/-- behind lowering -/
theorem Turn.post (hp1 : 1 < p) (h0 : 0 ≤ st) (ho : Old p st B Kw N O) {t r : Pat} {my mt mr : M} (h : Turn p st B Kw N O x0 c lc T y my t mt) (hl : Low2 p st 0 (lenC st y - lenC st t) t mt y my r mr) (hlow : LowAt st t r) :
    PBase p st B Kw N O x0 T r mr ∧ (Fresh p st N O T r mr (c + 1) ∨ (Prog p st N O T r mr c lc t mt ∧ lenC st r < lenC st t)) := by
  have l0 := h.S.ln
  have ht := get_mem h.get
  obtain ⟨j, j0, j1, cr, ck⟩ := h.rw
  obtain ⟨Ka, Kf, ka0, kf0, hE, cw⟩ := h.cw
  have eG : ∀ {f : Int → Int}, Gen p st (fun s => s = y ∨ ∃ e ∈ T, e.2.1 = s) f → Gen p st (fun s => s = r ∨ ∃ e ∈ T, e.2.1 = s) f := fun hf => hf.trans fun s hs => by
    rcases hs with rfl | ⟨e, he, rfl⟩
    · exact hl.gen (.one (.inr ⟨_, ht, rfl⟩)) (.one (.inl rfl))
    · exact .one (.inr ⟨e, he, rfl⟩)
  refine ⟨⟨h.mpY.low h.mpT hl, h.ok, h.keys, h.rwT, h.kwT, eG h.gen0, fun o ho => eG (h.gen o ho)⟩, ?_⟩
  have dark : ∀ k, at_ r k ≠ 0 → c ≤ col st k := fun k hk => by
    refine Decidable.byContradiction fun z => ?_
    rw [hl.ahead k (by rw [h.fT]; omega)] at hk
    have := first_le (st := st) hk
    rw [h.fY] at this
    omega
  by_cases hc : r ≠ [] ∧ firstC st r = c
  · right
    obtain ⟨hn, hc⟩ := hc
    obtain ⟨s1, s2, s3⟩ := low_ends h0 h.S hl.pat hn hlow (by rw [hc, h.fT])
    have e := ends_of h0 hl.pat hn
    have ln := e.ln
    refine ⟨⟨hn, hc, h.old, h.get, h.l2, h.same, ⟨Ka, Kf, ka0, kf0, hE, fun x1 m1 sh hN => ?_⟩, ⟨j, j0, j1, fun x1 m1 sh hN => ⟨?_, ?_⟩⟩⟩, by omega⟩
    · have := hN.ev
      exact cw.on (cwf_fam p st _ _) l0 h.l1 h.l2 hl hN (by omega) (by omega) ln
    · have := hN.ev
      exact cr.on (rwf_fam p st) l0 h.l1 h.l2 hl hN (by omega) (by omega) ln
    · have := hN.ev
      exact ck.on (kwf_fam p st) l0 h.l1 h.l2 hl hN (by omega) (by omega) ln
  · left
    refine ⟨⟨Ka, Kf, ka0, kf0, cw.out (cwf_fam p st _ _) l0 h.l1 h.l2 hl, hE⟩, ⟨j, j0, j1, cr.out (rwf_fam p st) l0 h.l1 h.l2 hl, ck.out (kwf_fam p st) l0 h.l1 h.l2 hl⟩, fun k hk => ?_, fun d hd => h.same d (by omega)⟩
    have := dark k hk
    refine Decidable.byContradiction fun z => hc ?_
    have hk2 : col st k = c := by omega
    exact ⟨fun q => by rw [q] at hk; exact hk rfl, first_is h0 hl.pat hk2 hk dark⟩
end
end Sr

/-! put_in: from its beginning to its end -/
namespace Sr
open Pt Mk
def Nums.M (N : Nums) : Nat := (N.E + 2 * N.Lb + 5).toNat
structure PutInv (p st : Int) (B : Int → Pat) (Kw : Int) (N : Nums) (O : Steps) (x0 : Pat) (n : Nat) (T : Steps) (x : Pat) (m : M) : Prop where
  base : PBase p st B Kw N O x0 T x m
  way : (∃ c, Fresh p st N O T x m c ∧ (1001 - c).toNat * N.M ≤ n) ∨ (∃ c lc y ny, Prog p st N O T x m c lc y ny ∧ (1001 - c - 1).toNat * N.M + (lenC st x + lenC st y).toNat + 1 ≤ n)
section
variable {p st : Int} {B : Int → Pat} {Kw : Int} {N : Nums} {O T : Steps} {x0 x : Pat} {m : M} {n : Nat}
theorem col_small (h0 : 0 ≤ st) (h8 : st ≤ 8) (hm : MP p st B Kw x m) {k : Int} (hk : at_ x k ≠ 0) : -1000 ≤ col st k ∧ col st k ≤ 1000 := by
  by_cases z : st = 0
  · have := hm.pl k hk z
    unfold col
    rw [if_pos z]
    exact this
  · unfold col
    rw [if_neg z]
    have h1 := Int.emod_nonneg k z
    have h2 := Int.emod_lt_of_pos k (show 0 < st by omega)
    omega
/-- one more turn: what stands there -/
theorem PutInv.prog (h0 : 0 ≤ st) (h8 : st ≤ 8) (ho : Old p st B Kw N O) (h : PutInv p st B Kw N O x0 n T x m) (hn : x ≠ []) {y : Pat} {ny : M} (hy : getS T (firstC st x) = some (y, ny)) : ∃ lc, Prog p st N O T x m (firstC st x) lc y ny ∧ (1001 - firstC st x - 1).toNat * N.M + (lenC st x + lenC st y).toNat + 1 ≤ n ∧ 1 ≤ 1001 - firstC st x := by
  have e := ends_of h0 h.base.mp.pat hn
  have cs := col_small h0 h8 h.base.mp e.b2
  rw [e.b1] at cs
  rcases h.way with ⟨c, hf, hc⟩ | ⟨c, lc, y', ny', hp, hc⟩
  · obtain ⟨h1, h2, h3⟩ := enter h0 ho h.base hf hn hy
    obtain ⟨v, hv, hlc⟩ := h2.old
    have l1 := ho.len _ hv
    have l0 := ho.len0 _ hv
    simp only at l1 l0
    refine ⟨_, h2, Nat.le_trans ?_ hc, by omega⟩
    have e1 : (1001 - c).toNat = (1001 - firstC st x - 1).toNat + 1 + (firstC st x - c).toNat := by omega
    rw [e1, Nat.add_mul, Nat.add_mul, Nat.one_mul]
    obtain ⟨E0, L0, _⟩ := ho.pos
    have eM : N.M = (N.E + 2 * N.Lb + 5).toNat := rfl
    omega
  · have f := hp.first
    subst f
    have := hp.get
    rw [hy] at this
    cases this
    exact ⟨lc, hp, hc, by omega⟩
theorem PutInv.fresh (h : PutInv p st B Kw N O x0 n T x m) (hy : getS T (firstC st x) = none) : ∃ c, Fresh p st N O T x m c := by
  rcases h.way with ⟨c, hf, hc⟩ | ⟨c, lc, y', ny', hp, hc⟩
  · exact ⟨c, hf⟩
  · have f := hp.first
    subst f
    have := hp.get
    rw [hy] at this
    cases this
/-- behind a turn -/
theorem Turn.next (hp1 : 1 < p) (h0 : 0 ≤ st) (ho : Old p st B Kw N O) {c lc ln : Int} {y t r : Pat} {my mt mr : M} (h : Turn p st B Kw N O x0 c lc T y my t mt) (hl : Low2 p st 0 (lenC st y - lenC st t) t mt y my r mr) (hlow : LowAt st t r) (hc : 1 ≤ 1001 - c) (hn : (1001 - c - 1).toNat * N.M + (lenC st y + lenC st t).toNat + 1 ≤ n) : ∃ n', n' < n ∧ PutInv p st B Kw N O x0 n' T r mr := by
  obtain ⟨h1, h2⟩ := h.post hp1 h0 ho hl hlow
  rcases h2 with h2 | ⟨h2, h3⟩
  · refine ⟨(1001 - (c + 1)).toNat * N.M, ?_, h1, .inl ⟨_, h2, Nat.le_refl _⟩⟩
    rw [show 1001 - (c + 1) = 1001 - c - 1 by omega]
    omega
  · refine ⟨_, ?_, h1, .inr ⟨_, _, _, _, h2, Nat.le_refl _⟩⟩
    have l1 := h.S.ln
    have l2 := h.l1
    have l3 := (ends_of h0 hl.pat h2.ne).ln
    omega
/-- what put_in leaves -/
structure PutOut (p st : Int) (B : Int → Pat) (Kw : Int) (N : Nums) (O : Steps) (x0 : Pat) (T : Steps) : Prop where
  ok : StepsOk p st B Kw T
  keys : keysS T = keysS O ∨ ∃ c, c ∉ keysS O ∧ keysS T = keysS O ++ [c]
  rw : ∀ e ∈ T, RWf st (2 * (N.A + O.length * N.G)) (2 * (N.A + O.length * N.G)) e.2.1 e.2.2
  kw : ∀ e ∈ T, KWf (N.D + O.length * N.G + (N.A + O.length * N.G)) (N.D + O.length * N.G + (N.A + O.length * N.G)) e.2.1 e.2.2
  gen0 : Gen p st (fun s => ∃ e ∈ T, e.2.1 = s) (at_ x0)
  gen : ∀ o ∈ O, Gen p st (fun s => ∃ e ∈ T, e.2.1 = s) (at_ o.2.1)
theorem nG (ho : Old p st B Kw N O) : 0 ≤ (O.length : Int) * N.G := by
  obtain ⟨E0, L0, _⟩ := ho.pos
  have hG : N.G = N.E + 2 * N.Lb := rfl
  exact Int.mul_nonneg (by omega) (by omega)
theorem PutInv.dark (ho : Old p st B Kw N O) (h : PutInv p st B Kw N O x0 n T x m) (hn : x = []) : PutOut p st B Kw N O x0 T := by
  have g0 := nG ho
  obtain ⟨E0, L0, A0, D0⟩ := ho.pos
  have eG : ∀ {f : Int → Int}, Gen p st (fun s => s = x ∨ ∃ e ∈ T, e.2.1 = s) f → Gen p st (fun s => ∃ e ∈ T, e.2.1 = s) f := fun hf => hf.trans fun s hs => by
    rcases hs with rfl | hs
    · rw [hn]; exact .zero
    · exact .one hs
  exact ⟨h.base.ok, .inl h.base.keys, fun e he => (rwf_fam p st).mono (h.base.rw e he) (by omega) (by omega), fun e he => (kwf_fam p st).mono (h.base.kw e he) (by omega) (by omega), eG h.base.gen0, fun o ho => eG (h.base.gen o ho)⟩
theorem PutInv.new (h0 : 0 ≤ st) (ho : Old p st B Kw N O) (h : PutInv p st B Kw N O x0 n T x m) (hn : x ≠ []) {x1 : Pat} {m1 : M} {sh : Int} (hN : Norm p st x m x1 m1 sh) (hy : getS T (firstC st x1) = none) : PutOut p st B Kw N O x0 (putS T (firstC st x1) (x1, m1)) := by
  have g0 := nG ho
  obtain ⟨E0, L0, A0, D0⟩ := ho.pos
  obtain ⟨c, hf⟩ := h.fresh (by rw [← hN.first]; exact hy)
  have mp1 := h.base.mp.norm hN
  have e := ends_of h0 h.base.mp.pat hn
  obtain ⟨j, j0, j1, w, wk⟩ := hf.rw
  have jG : j * N.G ≤ O.length * N.G := by
    have := (cnt_anti (T := O) (Int.le_refl c)).1
    have hG : N.G = N.E + 2 * N.Lb := rfl
    exact Int.mul_le_mul_of_nonneg_right (by omega) (by omega)
  have wb := w _ e.b2
  replace wb : -(N.A + j * N.G) ≤ brow st x ∧ brow st x ≤ N.A + j * N.G := wb
  have ev := hN.ev
  have hk := get_none.mp hy
  have eG : ∀ {f : Int → Int}, Gen p st (fun s => s = x ∨ ∃ e ∈ T, e.2.1 = s) f → Gen p st (fun s => ∃ e ∈ putS T (firstC st x1) (x1, m1), e.2.1 = s) f := fun hf => hf.trans fun s hs => by
    rcases hs with rfl | ⟨e, he, rfl⟩
    · exact hN.gen (.one ⟨_, mem_put.mpr (.inl rfl), rfl⟩)
    · exact .one ⟨e, mem_put.mpr (.inr ⟨he, fun z => hk (List.mem_map.mpr ⟨e, he, z⟩)⟩), rfl⟩
  refine ⟨h.base.ok.put hN.stair rfl mp1, .inr ⟨firstC st x1, ?_, ?_⟩, fun e he => ?_, fun e he => ?_, eG h.base.gen0, fun o ho => eG (h.base.gen o ho)⟩
  · rw [← h.base.keys]; exact hk
  · rw [keys_put, if_neg hk, h.base.keys]
  · rcases mem_put.mp he with rfl | q
    · exact (rwf_fam p st).mono ((rwf_fam p st).norm hN w) (by omega) (by omega)
    · exact (rwf_fam p st).mono (h.base.rw e q.1) (by omega) (by omega)
  · rcases mem_put.mp he with rfl | q
    · exact (kwf_fam p st).mono ((kwf_fam p st).norm hN wk) (by omega) (by omega)
    · exact (kwf_fam p st).mono (h.base.kw e q.1) (by omega) (by omega)
/-- at its beginning -/
theorem put_begin (ho : Old p st B Kw N O) (hx : MP p st B Kw x m) {a f : Int} (a0 : 0 ≤ a) (f0 : 0 ≤ f) (hw : RWf st a f x m) (hA : a ≤ N.A ∧ f ≤ N.A) (hD : KWf N.D N.D x m) (hE : ∀ c, a + f + 2 * remS st O c ≤ N.E) (h0 : 0 ≤ st) (h8 : st ≤ 8) : ∃ n, PutInv p st B Kw N O x n O x m := by
  have g0 := nG ho
  obtain ⟨c0, hc0⟩ : ∃ c0 : Int, c0 = -1000 := ⟨_, rfl⟩
  obtain ⟨n, hn⟩ : ∃ n : Nat, n = (1001 - c0).toNat * N.M := ⟨_, rfl⟩
  refine ⟨n, ⟨hx, ho.ok, rfl, fun e he => (rwf_fam p st).mono (ho.rw e he) (by omega) (by omega), fun e he => (kwf_fam p st).mono (ho.kw e he) (by omega) (by omega), .one (.inl rfl), fun o ho => .one (.inr ⟨o, ho, rfl⟩)⟩, .inl ⟨c0, ⟨⟨a, f, a0, f0, fun k hk hc => ?_, hE _⟩, ⟨0, Int.le_refl 0, ?_, ?_, ?_⟩, fun k hk => by rw [hc0]; exact (col_small h0 h8 hx hk).1, fun d _ => rfl⟩, Nat.le_of_eq hn.symm⟩⟩
  · have := hw k hk
    have : 0 ≤ lenAt st O (col st k) := by
      unfold lenAt
      cases q : getS O (col st k) with
      | none => exact Int.le_refl 0
      | some v =>
        have := ho.len0 (col st k, v) (get_mem q)
        exact this
    omega
  · rw [Int.zero_add]
    exact (cnt_anti (T := O) (c := c0) (d := c0) (Int.le_refl _)).2.2
  · rw [Int.zero_mul, Int.add_zero]
    exact (rwf_fam p st).mono hw hA.1 hA.2
  · rw [Int.zero_mul, Int.add_zero]
    exact hD
end
end Sr

/-! settle -/
namespace Sr
open Pt Mk
/-- steps settled from the k-th column on -/
structure SetT (p st : Int) (B : Int → Pat) (Kw F D : Int) (O : Steps) (cols : List Int) (k : Nat) (T : Steps) : Prop where
  ok : StepsOk p st B Kw T
  keys : keysS T = keysS O
  rest : ∀ i c, i < k → cols[i]? = some c → getS T c = getS O c
  low : ∀ i j a b va vb, k ≤ i → i < j → cols[i]? = some a → cols[j]? = some b → getS T a = some va → getS T b = some vb → LowAt st vb.1 va.1
  win : ∀ i a va, k ≤ i → cols[i]? = some a → getS T a = some va → RWf st (((cols.length : Int) - i) * F) (((cols.length : Int) - i) * F) va.1 va.2 ∧ KWf (D + ((cols.length : Int) - 1 - i) * F) (D + ((cols.length : Int) - 1 - i) * F) va.1 va.2
  gen : ∀ o ∈ O, Gen p st (fun s => ∃ e ∈ T, e.2.1 = s) (at_ o.2.1)
/-- one of them while it is laid low under those from the (k+1)-th to the one ahead of the q-th -/
structure SetX (p st : Int) (B : Int → Pat) (Kw F D : Int) (cols : List Int) (T : Steps) (k q : Nat) (c : Int) (x0 : Pat) (x : Pat) (m : M) : Prop where
  mp : MP p st B Kw x m
  stair : Stair p st x
  first : firstC st x = c
  cw : ∀ j b vb, k < j → cols[j]? = some b → getS T b = some vb → ∀ i, at_ x i ≠ 0 → col st i = b → -F ≤ row st i ∧ row st i ≤ F + lenC st vb.1
  low : ∀ j b vb, k < j → j < q → cols[j]? = some b → getS T b = some vb → LowAt st vb.1 x
  rw : RWf st (((cols.length : Int) - k) * F) (((cols.length : Int) - k) * F) x m
  kw : KWf (D + ((cols.length : Int) - 1 - k) * F) (D + ((cols.length : Int) - 1 - k) * F) x m
  gen : Gen p st (fun s => s = x ∨ ∃ j b vb, k < j ∧ cols[j]? = some b ∧ getS T b = some vb ∧ vb.1 = s) (at_ x0)
section
variable {p st : Int} {B : Int → Pat} {Kw F D : Int} {O T : Steps} {cols : List Int} {k : Nat}
theorem srt_at (hs : cols.Pairwise (· < ·)) {i j : Nat} {a b : Int} (h : i < j) (ha : cols[i]? = some a) (hb : cols[j]? = some b) : a < b := by
  obtain ⟨h1, rfl⟩ := List.getElem?_eq_some_iff.mp ha
  obtain ⟨h2, rfl⟩ := List.getElem?_eq_some_iff.mp hb
  exact List.pairwise_iff_getElem.mp hs i j h1 h2 h
/-- a settled one in the later first columns -/
theorem SetT.cw (h0 : 0 ≤ st) (hs : cols.Pairwise (· < ·)) (h : SetT p st B Kw F D O cols k T) {i j : Nat} {a b : Int} {va vb : Pat × M} (hi : k ≤ i) (hij : i ≤ j) (ha : cols[i]? = some a) (hb : cols[j]? = some b) (ga : getS T a = some va) (gb : getS T b = some vb) : ∀ r, at_ va.1 r ≠ 0 → col st r = b → 0 ≤ row st r ∧ row st r ≤ lenC st vb.1 := fun r hr hc => by
  have ob := h.ok.ok _ (get_mem gb)
  have hbc := ob.2.1
  have Sb := ob.1
  simp only at hbc Sb
  have base : firstC st vb.1 ≤ r ∧ r ≤ topC st vb.1 := by
    by_cases e : i = j
    · subst e
      rw [ha] at hb
      cases hb
      rw [ga] at gb
      cases gb
      have e1 := ends_of h0 Sb.pat Sb.ne
      have e2 := stair_ends h0 Sb
      have := e1.inn r (by rw [hc, hbc]) hr
      omega
    · have := h.low i j a b va vb hi (by omega) ha hb ga gb r (by rw [hc, hbc]) hr
      omega
  have r1 := row_mono (st := st) h0 base.1
  have r2 := row_mono (st := st) h0 base.2
  rw [row_col h0 Sb.cc] at r1
  have e3 : row st (topC st vb.1) = lenC st vb.1 := by
    show row st (firstC st vb.1 + st * lenC st vb.1) = _
    rw [row_add fun z => by unfold lenC; rw [if_pos z], row_col h0 Sb.cc, Int.zero_add]
  omega
theorem setx_begin (hF : 0 ≤ F) (hs : cols.Pairwise (· < ·)) (h : SetT p st B Kw F D O cols (k + 1) T) {c : Int} {x : Pat} {m : M} (hk : cols[k]? = some c) (hg : getS T c = some (x, m)) (hr : RWf st F F x m) (hd : KWf D D x m) : SetX p st B Kw F D cols T k (k + 1) c x x m := by
  have o := h.ok.ok _ (get_mem hg)
  obtain ⟨hl, _⟩ := List.getElem?_eq_some_iff.mp hk
  have e1 : F ≤ ((cols.length : Int) - k) * F := by
    have : 1 * F ≤ ((cols.length : Int) - k) * F := Int.mul_le_mul_of_nonneg_right (by omega) hF
    omega
  have e2 : 0 ≤ ((cols.length : Int) - 1 - k) * F := Int.mul_nonneg (by omega) hF
  refine ⟨o.2.2, o.1, o.2.1, fun j b vb hj hb gb i hi hc => ?_, fun j b vb h1 h2 => by omega, (rwf_fam p st).mono hr e1 e1, (kwf_fam p st).mono hd (by omega) (by omega), .one (.inl rfl)⟩
  have := hr i hi
  have := (h.ok.ok _ (get_mem gb)).1.ln
  simp only at this
  omega
/-- what is wanted ahead of a lowering -/
theorem SetX.win (h0 : 0 ≤ st) (hF : 0 ≤ F) (hs : cols.Pairwise (· < ·)) (h : SetT p st B Kw F D O cols (k + 1) T) {c : Int} {x0 x : Pat} {m : M} {q : Nat} (hx : SetX p st B Kw F D cols T k q c x0 x m) (hkq : k < q) {b : Int} {t : Pat} {mt : M} (hb : cols[q]? = some b) (gb : getS T b = some (t, mt)) :
    (∀ i, col st i = firstC st t → at_ x i ≠ 0 → firstC st t - st * F ≤ i ∧ i ≤ topC st t + st * F) ∧
    (∀ i, at_ t i ≠ 0 → -(((cols.length : Int) - k) * F) ≤ row st i - F ∧ row st i + F ≤ ((cols.length : Int) - k) * F) ∧
    (∀ y ∈ mt, -(D + ((cols.length : Int) - 1 - k) * F) ≤ y.1.2 - F ∧ y.1.2 + F ≤ D + ((cols.length : Int) - 1 - k) * F) := by
  have ob := h.ok.ok _ (get_mem gb)
  have hbc := ob.2.1
  have Sb := ob.1
  simp only at hbc Sb
  obtain ⟨w1, w2⟩ := h.win q b _ (by omega) hb gb
  have e1 : ((cols.length : Int) - q) * F + F ≤ ((cols.length : Int) - k) * F := by
    have : ((cols.length : Int) - q + 1) * F ≤ ((cols.length : Int) - k) * F := Int.mul_le_mul_of_nonneg_right (by omega) hF
    rw [Int.add_mul] at this
    omega
  have e2 : ((cols.length : Int) - 1 - q) * F + F ≤ ((cols.length : Int) - 1 - k) * F := by
    have : ((cols.length : Int) - 1 - q + 1) * F ≤ ((cols.length : Int) - 1 - k) * F := Int.mul_le_mul_of_nonneg_right (by omega) hF
    rw [Int.add_mul] at this
    omega
  refine ⟨fun i hi hl => ?_, fun i hi => ?_, fun y hy => ?_⟩
  · have := hx.cw q b _ hkq hb gb i hl (by rw [hi, hbc])
    simp only at this
    have htop : topC st t = firstC st t + st * lenC st t := rfl
    by_cases z : st = 0
    · have cc : col st i = i := by unfold col; rw [if_pos z]
      rw [cc] at hi
      rw [z] at htop ⊢
      rw [z] at hi
      omega
    · have e := col_row z i
      rw [hi] at e
      have a1 : st * (-F) ≤ st * row st i := Int.mul_le_mul_of_nonneg_left this.1 h0
      have a2 : st * row st i ≤ st * (F + lenC st t) := Int.mul_le_mul_of_nonneg_left this.2 h0
      rw [Int.mul_neg] at a1
      rw [Int.mul_add] at a2
      omega
  · have := w1 i hi; omega
  · have := w2 y hy; omega
/-- one lowering -/
theorem setx_step (h0 : 0 ≤ st) (hF : 0 ≤ F) (hs : cols.Pairwise (· < ·)) (h : SetT p st B Kw F D O cols (k + 1) T) {c : Int} {x0 x : Pat} {m : M} {q : Nat} (hc : cols[k]? = some c) (hx : SetX p st B Kw F D cols T k q c x0 x m) (hkq : k < q) {b : Int} {t : Pat} {mt : M} (hb : cols[q]? = some b) (gb : getS T b = some (t, mt)) {r : Pat} {mr : M} (hl : Low2 p st F F t mt x m r mr) (hlow : LowAt st t r) : SetX p st B Kw F D cols T k (q + 1) c x0 r mr := by
  have ob := h.ok.ok _ (get_mem gb)
  have hbc := ob.2.1
  have Sb := ob.1
  have mpt := ob.2.2
  simp only at hbc Sb mpt
  have hcb := srt_at hs hkq hc hb
  have ah : ∀ i, col st i < b → at_ r i = at_ x i := fun i hi => hl.ahead i (by rw [hbc]; exact hi)
  have S := hx.stair
  have f := hx.first
  have e := ends_of h0 S.pat S.ne
  obtain ⟨sb, stp⟩ := stair_ends h0 S
  have ct : col st (topC st x) = c := by rw [top_col S, f]
  have cc : col st c = c := by rw [← f]; exact S.cc
  have bl : at_ r c ≠ 0 := by rw [ah c (by omega), ← f]; exact S.bot
  have fr : firstC st r = c := first_is h0 hl.pat cc bl fun i hi => by
    by_cases z : col st i < b
    · rw [ah i z] at hi
      have := first_le (st := st) hi
      omega
    · omega
  have tl : at_ r (topC st x) = 1 := by rw [ah _ (by omega)]; exact S.top
  have htx : topC st x = c + st * lenC st x := by rw [← f]; rfl
  have inn : ∀ i, col st i = c → at_ r i ≠ 0 → c ≤ i ∧ i ≤ c + st * lenC st x := fun i hi hr => by
    rw [ah i (by omega)] at hr
    have := e.inn i (by rw [hi, f]) hr
    omega
  have el := (ends_is h0 hl.pat fr cc bl (by rw [← htx, tl]; decide) S.ln (fun z => by unfold lenC; rw [if_pos z]) inn).2
  have htr : topC st r = topC st x := by
    show firstC st r + st * lenC st r = _
    rw [fr, el, htx]
  have Sr : Stair p st r := ⟨hl.pat, fun z => by rw [z] at bl; exact bl rfl, by rw [fr]; exact cc, by rw [el]; exact S.ln, fun i hi hic => by
    rw [fr] at hi hic
    exact Decidable.byContradiction fun z => by have := (inn i hi z).1; omega, fun i hi hic => by
    rw [fr] at hi
    rw [htr, htx] at hic
    exact Decidable.byContradiction fun z => by have := (inn i hi z).2; omega, by rw [fr]; exact bl, by rw [htr]; exact tl⟩
  obtain ⟨w1, w2, w3⟩ := hx.win h0 hF hs h hkq hb gb
  refine ⟨hx.mp.low mpt hl, Sr, fr, fun j b' vb hj hb' gb' => ?_, fun j b' vb h1 h2 hb' gb' => ?_, ?_, ?_, ?_⟩
  · refine hl.lamps (fun i => col st i = b' → -F ≤ row st i ∧ row st i ≤ F + lenC st vb.1) (fun i hi hc' => hx.cw j b' vb hj hb' gb' i hi hc') (fun i hi q' hz q1 q2 hc' => ?_)
    rw [col_add] at hc'
    rw [row_add hz]
    have : q ≤ j := by
      refine Decidable.byContradiction fun z => ?_
      have hlt := srt_at hs (show j < q by omega) hb' hb
      have := first_le (st := st) hi
      omega
    have := h.cw h0 hs (show k + 1 ≤ q by omega) this hb hb' gb gb' i hi hc'
    omega
  · by_cases z : j = q
    · subst z
      rw [hb] at hb'
      cases hb'
      rw [gb] at gb'
      cases gb'
      exact hlow
    · intro i hi hil
      have hlt := srt_at hs (show j < q by omega) hb' hb
      have ob' := (h.ok.ok _ (get_mem gb')).2.1
      simp only at ob'
      rw [ah i (by omega)] at hil
      exact hx.low j b' vb h1 (by omega) hb' gb' i hi hil
  · intro i
    refine hl.lamps (fun i => -(((cols.length : Int) - k) * F) ≤ row st i ∧ row st i ≤ ((cols.length : Int) - k) * F) hx.rw (fun i hi q' hz q1 q2 => ?_) i
    rw [row_add hz]
    have := w2 i hi
    omega
  · intro y
    refine hl.keys (fun q => -(D + ((cols.length : Int) - 1 - k) * F) ≤ q.2 ∧ q.2 ≤ D + ((cols.length : Int) - 1 - k) * F) hx.kw (fun y hy q' hz q1 q2 => ?_) y
    have := w3 y hy
    show _ ≤ y.1.2 + q' ∧ y.1.2 + q' ≤ _
    omega
  · refine hx.gen.trans fun s hs => ?_
    rcases hs with rfl | hs
    · exact hl.gen (.one (.inr ⟨q, b, _, hkq, hb, gb, rfl⟩)) (.one (.inl rfl))
    · exact .one (.inr hs)
/-- one of them is settled -/
theorem sett_step (hF : 0 ≤ F) (hs : cols.Pairwise (· < ·)) (hkeys : ∀ c, c ∈ keysS O → c ∈ cols) (h : SetT p st B Kw F D O cols (k + 1) T) {c : Int} {x0 : Pat} {m0 : M} {x : Pat} {m : M} (hc : cols[k]? = some c) (g0 : getS T c = some (x0, m0)) (hx : SetX p st B Kw F D cols T k cols.length c x0 x m) : SetT p st B Kw F D O cols k (putS T c (x, m)) := by
  have gp : ∀ d, getS (putS T c (x, m)) d = if d = c then some (x, m) else getS T d := fun d => get_put h.ok.nd
  have cin : c ∈ keysS T := Decidable.byContradiction fun z => by rw [get_none.mpr z] at g0; cases g0
  have idx : ∀ {i : Nat} {a : Int}, cols[i]? = some a → a = c → i = k := fun {i a} ha e => by
    subst e
    refine Decidable.byContradiction fun z => ?_
    rcases Nat.lt_or_gt_of_ne z with z | z
    · have := srt_at hs z ha hc; omega
    · have := srt_at hs z hc ha; omega
  refine ⟨h.ok.put hx.stair hx.first hx.mp, by rw [keys_put, if_pos cin, h.keys], fun i a hi ha => ?_, fun i j a b va vb hi hij ha hb ga gb => ?_, fun i a va hi ha ga => ?_, fun o ho => ?_⟩
  · rw [gp, if_neg fun z => by have := idx ha z; omega]
    exact h.rest i a (by omega) ha
  · rw [gp] at ga gb
    have nb : b ≠ c := fun z => by have := idx hb z; omega
    rw [if_neg nb] at gb
    obtain ⟨hjl, _⟩ := List.getElem?_eq_some_iff.mp hb
    by_cases z : a = c
    · rw [if_pos z] at ga
      cases ga
      exact hx.low j b vb (by have := idx ha z; omega) hjl hb gb
    · rw [if_neg z] at ga
      have : i ≠ k := fun e => by subst e; rw [hc] at ha; cases ha; exact z rfl
      exact h.low i j a b va vb (by omega) hij ha hb ga gb
  · rw [gp] at ga
    by_cases z : a = c
    · rw [if_pos z] at ga
      cases ga
      have := idx ha z
      subst this
      exact ⟨hx.rw, hx.kw⟩
    · rw [if_neg z] at ga
      have : i ≠ k := fun e => by subst e; rw [hc] at ha; cases ha; exact z rfl
      exact h.win i a va (by omega) ha ga
  · refine (h.gen o ho).trans fun s hs2 => ?_
    obtain ⟨e, he, rfl⟩ := hs2
    by_cases z : e.1 = c
    · have : getS T e.1 = some e.2 := mem_get h.ok.nd he
      rw [z, g0] at this
      rw [show e.2 = (x0, m0) from (Option.some.inj this).symm]
      refine hx.gen.trans fun s hs3 => ?_
      rcases hs3 with rfl | ⟨j, b, vb, h1, h2, h3, rfl⟩
      · exact .one ⟨_, mem_put.mpr (.inl rfl), rfl⟩
      · refine .one ⟨(b, vb), mem_put.mpr (.inr ⟨get_mem h3, fun z => ?_⟩), rfl⟩
        have := idx h2 z
        omega
    · exact .one ⟨e, mem_put.mpr (.inr ⟨he, z⟩), rfl⟩
theorem sett_begin (h : StepsOk p st B Kw O) : SetT p st B Kw F D O cols cols.length O := by
  refine ⟨h, rfl, fun _ _ _ _ => rfl, fun i j a b va vb hi hij ha hb => ?_, fun i a va hi ha => ?_, fun o ho => .one ⟨o, ho, rfl⟩⟩
  · obtain ⟨h1, _⟩ := List.getElem?_eq_some_iff.mp ha
    omega
  · obtain ⟨h1, _⟩ := List.getElem?_eq_some_iff.mp ha
    omega
end
end Sr

/-! built: pattern by pattern -/
namespace Sr
open Pt Mk
theorem Gen.span {p st : Int} {L : Pat → Prop} {S : Int → Pat} {n : Nat} {f : Int → Int} (hf : Gen p st L f) (h : ∀ s, L s → ∃ i : Nat, i < n ∧ S (i : Int) = s) : Span p st S n f := by
  induction hf with
  | zero => exact Span.zero
  | @copy s f q v hs hq _ ih =>
    obtain ⟨i, hi, rfl⟩ := h s hs
    have one : Span p st S n (at_ (S i)) := ⟨[(((i : Int), 0), 1)], (fun q hq => by simp at hq; rw [hq]; exact ⟨by simp only; omega, by simp only; omega, fun _ => rfl⟩), fun k => by
      show _ = (at_ (S i) (k - st * 0) * 1 + 0) % p
      rw [Int.mul_zero, Int.sub_zero, Int.mul_one, Int.add_zero]⟩
    exact (one.copy q v hq).add ih
  | cong _ h ih => exact ih.congr h
/-- the columns in their order, and the stairs by their numbers -/
structure Ord (T : Steps) (cols : List Int) : Prop where
  perm : cols.Perm (keysS T)
  srt : cols.Pairwise (· < ·)
def stairAt (T : Steps) (cols : List Int) (i : Int) : Pat := match cols[i.toNat]? with
  | some c => match getS T c with
    | some v => v.1
    | none => []
  | none => []
section
variable {p st : Int} {B : Int → Pat} {Kw : Int} {T : Steps} {cols : List Int}
theorem Ord.len (h : Ord T cols) : cols.length = T.length := by
  rw [h.perm.length_eq]
  exact List.length_map _
theorem Ord.get (h : Ord T cols) {i : Nat} {c : Int} (hc : cols[i]? = some c) : ∃ v, getS T c = some v ∧ stairAt T cols i = v.1 := by
  have hk : c ∈ keysS T := h.perm.mem_iff.mp (List.mem_of_getElem? hc)
  cases q : getS T c with
  | none => exact absurd hk (get_none.mp q)
  | some v =>
    refine ⟨v, rfl, ?_⟩
    unfold stairAt
    rw [Int.toNat_natCast, hc]
    simp only [q]
theorem Ord.at (h : Ord T cols) {i : Nat} (hi : i < T.length) : ∃ c v, cols[i]? = some c ∧ getS T c = some v ∧ stairAt T cols i = v.1 := by
  have hl : i < cols.length := by rw [h.len]; exact hi
  obtain ⟨v, h1, h2⟩ := h.get (List.getElem?_eq_getElem hl)
  exact ⟨_, v, List.getElem?_eq_getElem hl, h1, h2⟩
theorem Ord.of (h : Ord T cols) (nd : (keysS T).Nodup) {e : Int × (Pat × M)} (he : e ∈ T) : ∃ i : Nat, i < T.length ∧ cols[i]? = some e.1 ∧ stairAt T cols i = e.2.1 := by
  have hk : e.1 ∈ cols := h.perm.mem_iff.mpr (List.mem_map.mpr ⟨e, he, rfl⟩)
  obtain ⟨i, hi, q⟩ := List.getElem_of_mem hk
  have hc : cols[i]? = some e.1 := by rw [List.getElem?_eq_getElem hi, q]
  obtain ⟨v, h1, h2⟩ := h.get hc
  have := mem_get (v := e.2) nd (show (e.1, e.2) ∈ T from he)
  rw [h1] at this
  cases this
  exact ⟨i, by rw [← h.len]; exact hi, hc, h2⟩
theorem ord_stair (h : Ord T cols) (ok : StepsOk p st B Kw T) : (∀ i : Nat, i < T.length → Stair p st (stairAt T cols i)) ∧ ∀ i j : Nat, i < j → j < T.length → firstC st (stairAt T cols i) < firstC st (stairAt T cols j) := by
  refine ⟨fun i hi => ?_, fun i j hij hj => ?_⟩
  · obtain ⟨c, v, h1, h2, h3⟩ := h.at hi
    rw [h3]
    exact (ok.ok _ (get_mem h2)).1
  · obtain ⟨c, v, h1, h2, h3⟩ := h.at (show i < T.length by omega)
    obtain ⟨d, u, g1, g2, g3⟩ := h.at hj
    have e1 := (ok.ok _ (get_mem h2)).2.1
    have e2 := (ok.ok _ (get_mem g2)).2.1
    simp only at e1 e2
    rw [h3, g3, e1, e2]
    exact srt_at h.srt hij h1 g1
end
/-- the columns can be put in order -/
theorem ord_there {T : Steps} (nd : (keysS T).Nodup) : ∃ cols, Ord T cols := by
  refine ⟨(keysS T).mergeSort (fun a b => decide (a ≤ b)), List.mergeSort_perm _ _, ?_⟩
  have pm := List.mergeSort_perm (keysS T) (fun a b => decide (a ≤ b))
  have srt := List.pairwise_mergeSort (le := fun a b : Int => decide (a ≤ b)) (by intro a b c h1 h2; simp at *; omega) (by intro a b; simp; omega) (keysS T)
  exact Pt.sorted_strict pm nd (srt.imp fun h => by simpa using h)

/-- the given patterns: their rows -/
structure Giv (p st : Int) (B : Int → Pat) (lo hi : Int) (K : Nat) : Prop where
  pat : ∀ t : Int, 0 ≤ t → t < K → IsPat p (B t)
  row : ∀ t : Int, 0 ≤ t → t < K → ∀ k, at_ (B t) k ≠ 0 → lo ≤ row st k ∧ row st k ≤ hi
  pl : ∀ t : Int, 0 ≤ t → t < K → ∀ k, at_ (B t) k ≠ 0 → st = 0 → -1000 ≤ k ∧ k ≤ 1000
  l0 : lo ≤ 0 ∧ 0 ≤ hi
/-- what stands when k patterns are built in -/
structure Bt (p st : Int) (B : Int → Pat) (k : Nat) (D : Int) (T : Steps) : Prop where
  ok : StepsOk p st B k T
  low : ∀ a b va vb, a < b → getS T a = some va → getS T b = some vb → LowAt st vb.1 va.1
  kw : ∀ e ∈ T, KWf D D e.2.1 e.2.2
  span : ∀ t : Int, 0 ≤ t → t < k → Gen p st (fun s => ∃ e ∈ T, e.2.1 = s) (at_ (B t))
  ind : ∃ J : List Int, J.Nodup ∧ (∀ t ∈ J, 0 ≤ t ∧ t < k) ∧ J.length = T.length ∧ (0 < st → Ind p st B J)
def numsOf (w m D : Int) : Nums := ⟨w + 2 * (m * w), m * w, 2 * (m * w) + w, D⟩
theorem MP.mono {p st : Int} {B : Int → Pat} {Kw Kw' : Int} {x : Pat} {m : M} (h : MP p st B Kw x m) (hk : Kw ≤ Kw') : MP p st B Kw' x m := ⟨h.pat, h.rng, h.nd, fun y hy => by have := h.keys y hy; exact ⟨this.1, by omega, this.2.2⟩, h.made, h.pl⟩
theorem StepsOk.mono {p st : Int} {B : Int → Pat} {Kw Kw' : Int} {T : Steps} (h : StepsOk p st B Kw T) (hk : Kw ≤ Kw') : StepsOk p st B Kw' T := ⟨h.nd, fun e he => by have := h.ok e he; exact ⟨this.1, this.2.1, this.2.2.mono hk⟩⟩
theorem row_place {st lo hi k : Int} (h0 : 0 < st) (h : lo ≤ row st k ∧ row st k ≤ hi) : st * lo ≤ k ∧ k < st * (hi + 1) := by
  have e := col_row (show st ≠ 0 by omega) k
  have c0 : 0 ≤ col st k ∧ col st k < st := by
    rw [col_pos h0]
    exact ⟨Int.emod_nonneg _ (by omega), Int.emod_lt_of_pos _ h0⟩
  have a1 : st * lo ≤ st * row st k := Int.mul_le_mul_of_nonneg_left h.1 (by omega)
  have a2 : st * row st k ≤ st * hi := Int.mul_le_mul_of_nonneg_left h.2 (by omega)
  rw [Int.mul_add]
  omega
theorem place_row {st a b k : Int} (h0 : 0 < st) (h1 : st * a ≤ k) (h2 : k < st * b) : a ≤ row st k ∧ row st k < b := by
  unfold row
  refine ⟨?_, Int.ediv_lt_of_lt_mul h0 (by rw [Int.mul_comm]; exact h2)⟩
  have := Int.ediv_le_ediv h0 h1
  rw [Int.mul_ediv_cancel_left a (by omega)] at this
  exact this
section
variable {p st : Int} {B : Int → Pat} {lo hi : Int} {K k : Nat} {D : Int} {T : Steps}
/-- the lengths together, and all rows -/
theorem bt_size (hp : 1 < p) (hz : NoZero p) (hinv : ∀ x : Int, x % p ≠ 0 → ∃ c, x * c % p = 1) (h0 : 0 < st) (hg : Giv p st B lo hi K) (hk : k ≤ K) (h : Bt p st B k D T) {cols : List Int} (ho : Ord T cols) :
    (sumN (fun i => (lenC st (stairAt T cols i)).toNat) T.length : Int) ≤ T.length * (hi - lo) ∧ ∀ i : Nat, i < T.length → ∀ r, at_ (stairAt T cols i) r ≠ 0 → -(T.length * (hi - lo)) ≤ row st r ∧ row st r ≤ 2 * (T.length * (hi - lo)) := by
  obtain ⟨J, nd, hJ, lJ, ind⟩ := h.ind
  obtain ⟨hS, hr⟩ := ord_stair ho h.ok
  have sp : ∀ t ∈ J, Span p st (stairAt T cols) T.length (at_ (B t)) := fun t ht => by
    have := hJ t ht
    refine (h.span t this.1 this.2).span fun s hs => ?_
    obtain ⟨e, he, rfl⟩ := hs
    obtain ⟨i, h1, _, h3⟩ := ho.of h.ok.nd he
    exact ⟨i, h1, h3⟩
  have hB : ∀ t ∈ J, ∀ k, at_ (B t) k ≠ 0 → st * lo ≤ k ∧ k < st * (hi + 1) := fun t ht r hr => by
    have := hJ t ht
    exact row_place h0 (hg.row t this.1 (by omega) r hr)
  have l0 := hg.l0
  have s1 := len_sum hp hz hinv h0 hS hr nd lJ (ind h0) sp (show lo ≤ hi by omega) hB
  refine ⟨s1, ?_⟩
  have nn : 0 ≤ (T.length : Int) * (hi - lo) := Int.mul_nonneg (by omega) (by omega)
  obtain ⟨Bk, hBk⟩ : ∃ Bk : Nat, (Bk : Int) = T.length * (hi - lo) := ⟨((T.length : Int) * (hi - lo)).toNat, by omega⟩
  have s2 := reach_bound hp hz hinv h0 hS hr nd (fun t ht => (hJ t ht).1) lJ (ind h0) sp (show lo ≤ hi by omega) hB (Bk := Bk) fun i j hi2 hj r hc hl => by
    obtain ⟨c, v, a1, a2, a3⟩ := ho.at hi2
    obtain ⟨d, u, b1, b2, b3⟩ := ho.at hj
    have ov := h.ok.ok _ (get_mem a2)
    have ou := h.ok.ok _ (get_mem b2)
    simp only at ov ou
    have Su := ou.1
    have hlen : lenC st u.1 ≤ Bk := by
      have := le_sumN (fun i : Nat => (lenC st (stairAt T cols i)).toNat) hj
      simp only [b3] at this
      have := Su.ln
      omega
    rw [b3] at hc
    rw [a3] at hl
    have fd := ou.2.1
    have cc := Su.cc
    have c0 : 0 ≤ firstC st u.1 ∧ firstC st u.1 < st := by
      rw [← cc, col_pos h0]
      exact ⟨Int.emod_nonneg _ (by omega), Int.emod_lt_of_pos _ h0⟩
    have base : firstC st u.1 ≤ r ∧ r ≤ topC st u.1 := by
      rcases Int.lt_trichotomy c d with q | q | q
      · have := h.low c d v u q a2 b2 r hc hl
        omega
      · subst q
        rw [a2] at b2
        cases b2
        have e1 := ends_of (st := st) (by omega) Su.pat Su.ne
        have e2 := stair_ends (st := st) (by omega) Su
        have := e1.inn r hc hl
        omega
      · have := first_le (st := st) hl
        have := ov.2.1
        omega
    have t2 : topC st u.1 = firstC st u.1 + st * lenC st u.1 := rfl
    have t3 : st * lenC st u.1 ≤ st * Bk := Int.mul_le_mul_of_nonneg_left hlen (by omega)
    rw [Int.mul_add, Int.mul_one]
    omega
  intro i hi2 r hl
  obtain ⟨r1, r2⟩ := s2 i hi2 r hl
  rw [← Int.mul_neg] at r1
  have := place_row h0 r1 r2
  omega
end

theorem sumN_left (F : Nat → Nat) : ∀ n, sumN F (n + 1) = F 0 + sumN (fun i => F (i + 1)) n
  | 0 => by simp [sumN]
  | n + 1 => by
    show sumN F (n + 1) + F (n + 1) = F 0 + (sumN (fun i => F (i + 1)) n + F (n + 1))
    rw [sumN_left F n]
    omega
theorem sumN_list (f : Int → Nat) : ∀ (cols : List Int) (F : Nat → Nat), (∀ i c, cols[i]? = some c → F i = f c) → sumN F cols.length = (cols.map f).sum
  | [], F, _ => rfl
  | c :: r, F, h => by
    rw [List.length_cons, sumN_left, sumN_list f r (fun i => F (i + 1)) fun i c hc => h (i + 1) c (by simpa using hc), h 0 c rfl]
    simp
theorem rem_sum (st : Int) : ∀ (T : Steps) (c : Int), (∀ e ∈ T, 0 ≤ lenC st e.2.1) → remS st T c ≤ ((T.map fun e => (lenC st e.2.1).toNat).sum : Nat)
  | [], c, _ => by simp [remS]
  | e :: r, c, h => by
    have ih := rem_sum st r c fun e he => h e (by simp [he])
    have h1 := h e (by simp)
    unfold remS
    rw [List.map_cons, List.sum_cons]
    split <;> omega
section
variable {p st : Int} {B : Int → Pat} {lo hi : Int} {K k : Nat} {D : Int} {T : Steps}
theorem ord_sum {Kw : Int} (h : StepsOk p st B Kw T) {cols : List Int} (ho : Ord T cols) : sumN (fun i => (lenC st (stairAt T cols i)).toNat) T.length = (T.map fun e => (lenC st e.2.1).toNat).sum := by
  rw [← ho.len, sumN_list (fun c => (lenAt st T c).toNat) cols _ fun i c hc => ?_]
  · have e1 : (cols.map fun c => (lenAt st T c).toNat).sum = ((keysS T).map fun c => (lenAt st T c).toNat).sum := (ho.perm.map _).sum_nat
    rw [e1]
    unfold keysS
    rw [List.map_map]
    congr 1
    refine List.map_congr_left fun e he => ?_
    show (lenAt st T e.1).toNat = _
    rw [lenAt_of (st := st) (v := e.2) h.nd he]
  · obtain ⟨v, h1, h2⟩ := ho.get hc
    rw [h2]
    unfold lenAt
    rw [h1]
end

section
variable {p st : Int} {B : Int → Pat} {lo hi : Int} {K k : Nat} {D : Int} {T : Steps}
theorem bt_old (hp : 1 < p) (hz : NoZero p) (hinv : ∀ x : Int, x % p ≠ 0 → ∃ c, x * c % p = 1) (h0 : 0 ≤ st) (hg : Giv p st B lo hi K) (hk : k ≤ K) (h : Bt p st B k D T) (hD : 0 ≤ D) {Kw m : Int} (hKw : (k : Int) ≤ Kw) (hm : (T.length : Int) ≤ m) : Old p st B Kw (numsOf (hi - lo) m D) T ∧ ∀ c, (hi - lo) + 2 * remS st T c ≤ (numsOf (hi - lo) m D).E := by
  have l0 := hg.l0
  have mw : (T.length : Int) * (hi - lo) ≤ m * (hi - lo) := Int.mul_le_mul_of_nonneg_right hm (by omega)
  have nw : 0 ≤ (T.length : Int) * (hi - lo) := Int.mul_nonneg (by omega) (by omega)
  have len0 : ∀ e ∈ T, 0 ≤ lenC st e.2.1 := fun e he => (h.ok.ok e he).1.ln
  obtain ⟨cols, ho⟩ := ord_there h.ok.nd
  have size : ((T.map fun e => (lenC st e.2.1).toNat).sum : Int) ≤ m * (hi - lo) ∧ ∀ e ∈ T, RWf st (2 * (m * (hi - lo))) (2 * (m * (hi - lo))) e.2.1 e.2.2 := by
    by_cases z : st = 0
    · subst z
      refine ⟨?_, fun e he r hr => by rw [row_zero]; omega⟩
      have : (T.map fun e => (lenC 0 e.2.1).toNat).sum = 0 := by
        have e1 : (T.map fun e => (lenC 0 e.2.1).toNat) = T.map fun _ => 0 := List.map_congr_left fun e he => by unfold lenC; rw [if_pos rfl]; rfl
        rw [e1]
        clear e1 ho len0 nw mw hm h
        induction T with
        | nil => rfl
        | cons e r ih => simpa using ih
      rw [this]
      omega
    · obtain ⟨s1, s2⟩ := bt_size hp hz hinv (by omega) hg hk h ho
      rw [ord_sum h.ok ho] at s1
      refine ⟨by omega, fun e he r hr => ?_⟩
      obtain ⟨i, i1, i2, i3⟩ := ho.of h.ok.nd he
      have := s2 i i1 r (by rw [i3]; exact hr)
      omega
  have rem : ∀ c, remS st T c ≤ m * (hi - lo) := fun c => Int.le_trans (rem_sum st T c len0) size.1
  refine ⟨⟨h.ok.mono hKw, fun e he r hr hc => ?_, fun e he => (rwf_fam p st).mono (size.2 e he) (show _ ≤ 2 * (m * (hi - lo)) + (hi - lo) by omega) (show _ ≤ 2 * (m * (hi - lo)) + (hi - lo) by omega), h.kw, fun e he => ?_, by show 0 ≤ (hi - lo) + 2 * (m * (hi - lo)) ∧ 0 ≤ m * (hi - lo) ∧ 0 ≤ 2 * (m * (hi - lo)) + (hi - lo) ∧ 0 ≤ D; omega⟩, fun c => ?_⟩
  · obtain ⟨u, hu⟩ : ∃ u, getS T (col st r) = some u := by
      cases q : getS T (col st r) with
      | none => exact absurd hc (get_none.mp q)
      | some u => exact ⟨u, rfl⟩
    have la : lenAt st T (col st r) = lenC st u.1 := by unfold lenAt; rw [hu]
    have ou := h.ok.ok _ (get_mem hu)
    have oe := h.ok.ok e he
    simp only at ou
    have Su := ou.1
    have ge := mem_get (v := e.2) h.ok.nd (show (e.1, e.2) ∈ T from he)
    have base : firstC st u.1 ≤ r ∧ r ≤ topC st u.1 := by
      rcases Int.lt_trichotomy e.1 (col st r) with q | q | q
      · have := h.low e.1 (col st r) e.2 u q ge hu r (by rw [ou.2.1]) hr
        omega
      · rw [← q, ge] at hu
        cases hu
        have e1 := ends_of (st := st) h0 Su.pat Su.ne
        have e2 := stair_ends (st := st) h0 Su
        have := e1.inn r (by rw [ou.2.1]) hr
        omega
      · have := first_le (st := st) hr
        have := oe.2.1
        omega
    have r1 := row_mono (st := st) h0 base.1
    have r2 := row_mono (st := st) h0 base.2
    rw [row_col h0 Su.cc] at r1
    have e3 : row st (topC st u.1) = lenC st u.1 := by
      show row st (firstC st u.1 + st * lenC st u.1) = _
      rw [row_add fun z => by unfold lenC; rw [if_pos z], row_col h0 Su.cc, Int.zero_add]
    rw [la]
    omega
  · have h1 := rem_at (st := st) (T := T) (c := e.1) (v := e.2) len0 he
    have h2 := rem e.1
    have h3 := (rem_anti (st := st) (T := T) (c := e.1 + 1) (d := e.1 + 1) len0 (Int.le_refl _)).1
    show _ ≤ m * (hi - lo)
    omega
  · have := rem c
    show _ ≤ (hi - lo) + 2 * (m * (hi - lo))
    omega
end

theorem lin_one {st : Int} {B : Int → Pat} {t : Int} : ∀ {m : M}, (∀ q ∈ m, q.1.1 = t) → ∀ k, Lin st B m k = Cop st (at_ (B t)) m k
  | [], _, _ => rfl
  | x :: r, h, k => by
    show at_ (B x.1.1) _ * x.2 + Lin st B r k = _
    rw [h x (by simp), lin_one (m := r) (fun q hq => h q (by simp [hq])) k]
    rfl
section
variable {p st : Int} {B : Int → Pat} {lo hi : Int} {K k : Nat} {D : Int} {T T1 T2 : Steps}
theorem bt_next (hp : 1 < p) (hz : NoZero p) (h0 : 0 ≤ st) (h : Bt p st B k D T) {N : Nums} (ho : Old p st B ((k + 1 : Nat) : Int) N T) (hpo : PutOut p st B ((k + 1 : Nat) : Int) N T (B k) T1) {cols : List Int} (hc : Ord T1 cols) {F D1 : Int} (hF : 0 ≤ F) (hs : SetT p st B ((k + 1 : Nat) : Int) F D1 T1 cols 0 T2) : Bt p st B (k + 1) (D1 + cols.length * F) T2 ∧ (T2.length = T.length ∨ T2.length = T.length + 1) ∧ T2.length = cols.length := by
  have idx : ∀ {a : Int} {v : Pat × M}, getS T2 a = some v → ∃ i : Nat, cols[i]? = some a := fun {a v} ga => by
    have h1 : a ∈ keysS T2 := List.mem_map.mpr ⟨_, get_mem ga, rfl⟩
    rw [hs.keys] at h1
    obtain ⟨i, hi, e⟩ := List.getElem_of_mem (hc.perm.mem_iff.mpr h1)
    exact ⟨i, by rw [List.getElem?_eq_getElem hi, e]⟩
  have lenT : T2.length = T1.length := by
    have := congrArg List.length hs.keys
    unfold keysS at this
    rwa [List.length_map, List.length_map] at this
  have eG : ∀ {f : Int → Int}, Gen p st (fun s => ∃ e ∈ T1, e.2.1 = s) f → Gen p st (fun s => ∃ e ∈ T2, e.2.1 = s) f := fun hf => hf.trans fun s hs2 => by
    obtain ⟨e, he, rfl⟩ := hs2
    exact hs.gen e he
  refine ⟨⟨hs.ok, fun a b va vb hab ga gb => ?_, fun e he => ?_, fun t t0 t1 => ?_, ?_⟩, ?_, by rw [lenT, hc.len]⟩
  · obtain ⟨i, hi⟩ := idx ga
    obtain ⟨j, hj⟩ := idx gb
    refine hs.low i j a b va vb (Nat.zero_le _) ?_ hi hj ga gb
    refine Decidable.byContradiction fun z => ?_
    rcases Nat.lt_or_ge j i with q | q
    · have := srt_at hc.srt q hj hi; omega
    · have : i = j := by omega
      subst this
      rw [hi] at hj
      cases hj
      omega
  · have ge := mem_get (v := e.2) hs.ok.nd (show (e.1, e.2) ∈ T2 from he)
    obtain ⟨i, hi⟩ := idx ge
    have := (hs.win i e.1 e.2 (Nat.zero_le _) hi ge).2
    have h2 : ((cols.length : Int) - 1 - i) * F ≤ cols.length * F := Int.mul_le_mul_of_nonneg_right (by omega) hF
    exact (kwf_fam p st).mono this (by omega) (by omega)
  · by_cases z : t = k
    · subst z
      exact eG hpo.gen0
    · refine (h.span t t0 (by omega)).trans fun s hs2 => ?_
      obtain ⟨e, he, rfl⟩ := hs2
      exact eG (hpo.gen e he)
  · obtain ⟨J, nd, hJ, lJ, ind⟩ := h.ind
    rcases hpo.keys with hk | ⟨c, c1, c2⟩
    · refine ⟨J, nd, fun t ht => by have := hJ t ht; omega, ?_, ind⟩
      have := congrArg List.length hk
      unfold keysS at this
      rw [List.length_map, List.length_map] at this
      omega
    · have hl := congrArg List.length c2
      rw [List.length_append] at hl
      unfold keysS at hl
      rw [List.length_map, List.length_map, List.length_singleton] at hl
      refine ⟨J ++ [(k : Int)], ?_, fun t ht => ?_, by rw [List.length_append, List.length_singleton]; omega, fun hst => ?_⟩
      · refine List.nodup_append.mpr ⟨nd, by simp, fun a ha b hb z => ?_⟩
        have := hJ a ha
        simp at hb
        omega
      · rcases List.mem_append.mp ht with q | q
        · have := hJ t q; omega
        · simp at q; omega
      · obtain ⟨colsT, oT⟩ := ord_there h.ok.nd
        obtain ⟨hS, hr⟩ := ord_stair oT h.ok
        have spn : ∀ t : Int, 0 ≤ t → t < k → Span p st (stairAt T colsT) T.length (at_ (B t)) := fun t t0 t1 => (h.span t t0 t1).span fun s hs2 => by
          obtain ⟨e, he, rfl⟩ := hs2
          obtain ⟨i, h1, _, h3⟩ := oT.of h.ok.nd he
          exact ⟨i, h1, h3⟩
        have cin : c ∈ keysS T1 := by rw [c2]; simp
        obtain ⟨e, he, rfl⟩ := List.mem_map.mp cin
        obtain ⟨S1, f1, mp1⟩ := hpo.ok.ok e he
        have sp : ∀ r, Lin st B e.2.2 r = Lin st B (e.2.2.filter fun q => decide (q.1.1 = (k : Int))) r + Lin st B (e.2.2.filter fun q => !decide (q.1.1 = (k : Int))) r := fun r => ws_filter _ _ e.2.2
        refine ind_more hp hz hst hS hr (ind hst) (fun t ht => spn t (hJ t ht).1 (hJ t ht).2) (t := (k : Int)) (fun z => by have := hJ _ z; omega) mp1.pat S1.ne (fun i hi z => ?_) (g := Lin st B (e.2.2.filter fun q => !decide (q.1.1 = (k : Int)))) (Span.lin fun q hq => ?_) (mv := e.2.2.filter fun q => decide (q.1.1 = (k : Int))) fun r => ?_
        · obtain ⟨d, v, d1, d2, d3⟩ := oT.at hi
          have := (h.ok.ok _ (get_mem d2)).2.1
          simp only at this
          rw [d3, this, f1] at z
          exact c1 (List.mem_map.mpr ⟨_, get_mem d2, z⟩)
        · have h1 := List.mem_filter.mp hq
          have h2 := mp1.keys q h1.1
          have h3 : ¬ q.1.1 = (k : Int) := by simpa using h1.2
          exact ⟨spn _ h2.1 (by omega), h2.2.2⟩
        · have h1 := mp1.made r
          rw [h1]
          show (0 + Lin st B e.2.2 r) % p = _
          rw [Int.zero_add, sp r, lin_one (fun q hq => of_decide_eq_true (List.mem_filter.mp hq).2) r, Int.add_comm]
  · rw [lenT]
    rcases hpo.keys with hk | ⟨c, c1, c2⟩
    · have := congrArg List.length hk
      unfold keysS at this
      rw [List.length_map, List.length_map] at this
      omega
    · have hl := congrArg List.length c2
      rw [List.length_append] at hl
      unfold keysS at hl
      rw [List.length_map, List.length_map, List.length_singleton] at hl
      omega
end
end Sr

/-! built: sizes -/
namespace Sr
open Pt Mk
theorem ints_width {lo hi : Int} {ks : List Int} (nd : ks.Nodup) (h : ∀ k ∈ ks, lo ≤ k ∧ k ≤ hi) : (ks.length : Int) ≤ max 0 (hi - lo + 1) := by
  have e : ks.length = (ks.mergeSort (fun a b => decide (a ≤ b))).length := by rw [List.length_mergeSort]
  rw [e]
  have pm := List.mergeSort_perm ks (fun a b => decide (a ≤ b))
  have srt : (ks.mergeSort (fun a b => decide (a ≤ b))).Pairwise (· ≤ ·) := by
    have := List.pairwise_mergeSort (le := fun a b : Int => decide (a ≤ b)) (by intro a b c h1 h2; simp at *; omega) (by intro a b; simp; omega) ks
    exact this.imp fun h => by simpa using h
  have srt2 := Pt.sorted_strict pm nd srt
  have h2 : ∀ k ∈ ks.mergeSort (fun a b => decide (a ≤ b)), lo ≤ k ∧ k ≤ hi := fun k hk => h k (pm.mem_iff.mp hk)
  generalize ks.mergeSort (fun a b => decide (a ≤ b)) = xs at srt2 h2
  clear e pm srt h nd
  induction xs generalizing lo with
  | nil => simp; omega
  | cons x r ih =>
    have h1 := h2 x (by simp)
    have := ih (lo := x + 1) (List.pairwise_cons.mp srt2).2 fun k hk => ⟨by have := (List.pairwise_cons.mp srt2).1 k hk; omega, (h2 k (by simp [hk])).2⟩
    simp only [List.length_cons]
    omega
theorem pat_nodup {p : Int} {x : Pat} (h : IsPat p x) : (x.map (·.1)).Nodup := by
  have := h.srt
  refine List.pairwise_map.mpr (this.imp fun {a b} hab => ?_)
  omega
/-- lamps by the rows -/
theorem len_rows {p st a : Int} {x : Pat} {m : M} (h0 : 0 ≤ st) (ha : 0 ≤ a) (hx : IsPat p x) (hr : RWf st a a x m) (hpl : ∀ k, at_ x k ≠ 0 → st = 0 → -1000 ≤ k ∧ k ≤ 1000) : (x.length : Int) ≤ st * (2 * a + 1) + 2001 := by
  have lit : ∀ k ∈ x.map (·.1), at_ x k ≠ 0 := fun k hk => (mem_at hx).mp hk
  have e : (x.map (·.1)).length = x.length := List.length_map _
  have nn : 0 ≤ st * (2 * a + 1) := Int.mul_nonneg h0 (by omega)
  by_cases z : st = 0
  · have := ints_width (pat_nodup hx) fun k hk => hpl k (lit k hk) z
    omega
  · have := ints_width (lo := st * -a) (hi := st * (a + 1) - 1) (pat_nodup hx) fun k hk => by
      have := row_place (by omega) (hr k (lit k hk))
      omega
    have e1 : st * (a + 1) - 1 - st * -a + 1 = st * (2 * a + 1) := by
      rw [show 2 * a + 1 = (a + 1) + a by omega, Int.mul_add st (a + 1) a, Int.mul_neg]
      omega
    omega
/-- makers by their keys -/
theorem len_keys {Kw b : Int} {m : M} (hk : 0 ≤ Kw) (hb : 0 ≤ b) (nd : (m.map (·.1)).Nodup) (h1 : ∀ y ∈ m, 0 ≤ y.1.1 ∧ y.1.1 < Kw) (h2 : ∀ y ∈ m, -b ≤ y.1.2 ∧ y.1.2 ≤ b) : (m.length : Int) ≤ Kw * (2 * b + 1) := by
  have nd2 : (m.map fun y => y.1.1 * (2 * b + 1) + (y.1.2 + b)).Nodup := by
    have nd' : m.Pairwise fun x y => x.1 ≠ y.1 := List.pairwise_map.mp nd
    refine List.pairwise_map.mpr (List.Pairwise.imp_of_mem (R := fun x y => x.1 ≠ y.1) ?_ nd')
    intro x y hx hy hne e
    apply hne
    have a1 := h2 x hx
    have a2 := h2 y hy
    have hd : x.1.1 = y.1.1 := by
      rcases Int.lt_trichotomy x.1.1 y.1.1 with z | z | z
      · have : (x.1.1 + 1) * (2 * b + 1) ≤ y.1.1 * (2 * b + 1) := Int.mul_le_mul_of_nonneg_right (by omega) (by omega)
        rw [Int.add_mul, Int.one_mul] at this
        omega
      · exact z
      · have : (y.1.1 + 1) * (2 * b + 1) ≤ x.1.1 * (2 * b + 1) := Int.mul_le_mul_of_nonneg_right (by omega) (by omega)
        rw [Int.add_mul, Int.one_mul] at this
        omega
    rw [hd] at e
    exact Prod.ext hd (by omega)
  have w := ints_width (lo := 0) (hi := Kw * (2 * b + 1) - 1) nd2 fun k hk => by
    obtain ⟨y, hy, rfl⟩ := List.mem_map.mp hk
    have a1 := h1 y hy
    have a2 := h2 y hy
    have m0 : 0 ≤ y.1.1 * (2 * b + 1) := Int.mul_nonneg a1.1 (by omega)
    have m1 : (y.1.1 + 1) * (2 * b + 1) ≤ Kw * (2 * b + 1) := Int.mul_le_mul_of_nonneg_right (by omega) (by omega)
    rw [Int.add_mul, Int.one_mul] at m1
    omega
  rw [List.length_map] at w
  have : 0 ≤ Kw * (2 * b + 1) := Int.mul_nonneg hk (by omega)
  omega
/-! how far a pattern reaches in a stair's column -/
def Win (st U V : Int) (s x : Pat) : Prop := ∀ k, col st k = firstC st s → at_ x k ≠ 0 → firstC st s - st * U ≤ k ∧ k ≤ topC st s + st * V
theorem win_mix {p st U V sh v : Int} {s x : Pat} (hp : 0 < p) (h0 : 0 ≤ st) (hx : IsPat p x) (S : Stair p st s) (h : Win st U V s x) (h1 : -U ≤ sh) (h2 : sh ≤ V) : Win st U V s (mixP p st x s sh v) := fun k hk hl => by
  rcases mixP_lit hp hx S.pat hl with z | z
  · exact h k hk z
  · have a1 : ¬ k - st * sh < firstC st s := fun y => z (S.low _ (by rw [col_sub]; exact hk) y)
    have a2 : ¬ topC st s < k - st * sh := fun y => z (S.high _ (by rw [col_sub]; exact hk) y)
    have b1 : st * -U ≤ st * sh := Int.mul_le_mul_of_nonneg_left h1 h0
    have b2 : st * sh ≤ st * V := Int.mul_le_mul_of_nonneg_left h2 h0
    rw [Int.mul_neg] at b1
    omega
theorem quo_le {st a b : Int} (h0 : 0 < st) (h : st * a ≤ st * b) : a ≤ b := by
  rcases Int.lt_or_le b a with z | z
  · have : st * b < st * a := Int.mul_lt_mul_of_pos_left z h0
    omega
  · exact z
/-- windows by rows -/
theorem win_rows {p st a : Int} {s x : Pat} {m : M} (h0 : 0 ≤ st) (S : Stair p st s) (ha : 0 ≤ a) (hr : RWf st a a x m) : Win st a a s x := fun k hk hl => by
  by_cases z : st = 0
  · subst z
    have e1 : k = firstC 0 s := by simpa [col] using hk
    have ht : topC 0 s = firstC 0 s + 0 * lenC 0 s := rfl
    rw [Int.zero_mul] at ht ⊢
    omega
  · have := hr k hl
    have e := col_row z k
    have e2 := col_row z (firstC st s)
    rw [S.cc, row_col h0 S.cc] at e2
    have b1 : st * -a ≤ st * row st k := Int.mul_le_mul_of_nonneg_left this.1 h0
    have b2 : st * row st k ≤ st * a := Int.mul_le_mul_of_nonneg_left this.2 h0
    rw [Int.mul_neg] at b1
    have hl := Int.mul_nonneg h0 S.ln
    have ht : topC st s = firstC st s + st * lenC st s := rfl
    omega
/-! how many stairs -/
def mB (st : Int) (k : Nat) : Int := if st = 0 then (k : Int) else min (k : Int) st
theorem bt_count {p st : Int} {B : Int → Pat} {k : Nat} {D : Int} {T : Steps} (h0 : 0 ≤ st) (h : Bt p st B k D T) : (T.length : Int) ≤ mB st k := by
  obtain ⟨J, nd, hJ, lJ, _⟩ := h.ind
  have w := ints_width (lo := 0) (hi := (k : Int) - 1) nd fun t ht => by have := hJ t ht; omega
  have lk : (T.length : Int) ≤ k := by omega
  unfold mB
  by_cases z : st = 0
  · rw [if_pos z]; exact lk
  · rw [if_neg z]
    have w2 := ints_width (lo := 0) (hi := st - 1) h.ok.nd fun c hc => by
      obtain ⟨e, he, rfl⟩ := List.mem_map.mp hc
      obtain ⟨S, f, _⟩ := h.ok.ok e he
      have cc := S.cc
      rw [f] at cc
      unfold col at cc
      rw [if_neg z] at cc
      have h1 := Int.emod_nonneg e.1 z
      have h2 := Int.emod_lt_of_pos e.1 (show 0 < st by omega)
      omega
    have : (keysS T).length = T.length := List.length_map _
    omega
theorem mB_pos {st : Int} (h0 : 0 ≤ st) (k : Nat) : 0 ≤ mB st k := by unfold mB; split <;> omega
theorem mB_step {st : Int} (h0 : 0 ≤ st) (k : Nat) : mB st k ≤ mB st (k + 1) := by unfold mB; split <;> omega
/-- rows and shifts behind put_in, behind settle -/
def gN (w m : Int) : Int := w + 4 * (m * w)
def rN (w m : Int) : Int := 2 * (m * w) + w + m * gN w m
def dK (st w : Int) : Nat → Int
  | 0 => 0
  | k + 1 => dK st w k + mB st k * gN w (mB st k) + rN w (mB st k) + mB st (k + 1) * (2 * rN w (mB st k))
theorem gN_pos {w m : Int} (hw : 0 ≤ w) (hm : 0 ≤ m) : 0 ≤ m * w ∧ 0 ≤ gN w m ∧ 0 ≤ m * gN w m ∧ 0 ≤ rN w m := by
  have h1 := Int.mul_nonneg hm hw
  have h2 : 0 ≤ gN w m := by unfold gN; omega
  have h3 := Int.mul_nonneg hm h2
  exact ⟨h1, h2, h3, by unfold rN; omega⟩
theorem dK_pos {st w : Int} (h0 : 0 ≤ st) (hw : 0 ≤ w) : ∀ k, 0 ≤ dK st w k
  | 0 => Int.le_refl _
  | k + 1 => by
    have ih := dK_pos h0 hw k
    obtain ⟨_, _, h3, h4⟩ := gN_pos hw (mB_pos h0 k)
    have h5 : 0 ≤ mB st (k + 1) * (2 * rN w (mB st k)) := Int.mul_nonneg (mB_pos h0 _) (by omega)
    show 0 ≤ dK st w k + mB st k * gN w (mB st k) + rN w (mB st k) + mB st (k + 1) * (2 * rN w (mB st k))
    omega
/-- no list grows longer than this -/
def lim : Int := 4000000
def SizeOk (st w : Int) (K : Nat) : Prop := ∀ k : Nat, k < K → st * (2 * (mB st (k + 1) * (2 * rN w (mB st k))) + 1) + 2001 ≤ lim ∧ ((k : Int) + 1) * (2 * dK st w (k + 1) + 1) ≤ lim
theorem Bt.mono {p st : Int} {B : Int → Pat} {k : Nat} {D D' : Int} {T : Steps} (h : Bt p st B k D T) (hd : D ≤ D') : Bt p st B k D' T := ⟨h.ok, h.low, fun e he => (kwf_fam p st).mono (h.kw e he) hd hd, h.span, h.ind⟩
theorem bt_zero {p st : Int} {B : Int → Pat} : Bt p st B 0 0 [] := ⟨⟨.nil, (fun _ h => nomatch h)⟩, (fun a b va vb _ ga => nomatch ga), (fun _ h => nomatch h), (fun t t0 t1 => absurd t1 (by show ¬ t < ((0 : Nat) : Int); omega)), ⟨[], .nil, (fun _ h => nomatch h), rfl, fun _ m hm _ q hq => nomatch (hm q hq).1⟩⟩
section
variable {p st : Int} {B : Int → Pat} {lo hi : Int} {K k : Nat} {D : Int} {T T1 T2 : Steps}
/-- ahead of putting in the k-th pattern -/
theorem bt_put (hp : 1 < p) (hz : NoZero p) (hinv : ∀ x : Int, x % p ≠ 0 → ∃ c, x * c % p = 1) (h0 : 0 ≤ st) (h8 : st ≤ 8) (hg : Giv p st B lo hi K) (hk : k < K) (h : Bt p st B k (dK st (hi - lo) k) T) :
    Old p st B ((k + 1 : Nat) : Int) (numsOf (hi - lo) (mB st k) (dK st (hi - lo) k)) T ∧ ∃ n, PutInv p st B ((k + 1 : Nat) : Int) (numsOf (hi - lo) (mB st k) (dK st (hi - lo) k)) T (B k) n T (B k) [(((k : Int), 0), 1)] := by
  have l0 := hg.l0
  have dp := dK_pos h0 (show 0 ≤ hi - lo by omega) k
  have mp := mB_pos h0 k
  obtain ⟨ho, hE⟩ := bt_old hp hz hinv h0 hg (by omega) h dp (Kw := ((k + 1 : Nat) : Int)) (by omega) (bt_count h0 h)
  have k0 : (0 : Int) ≤ (k : Int) := by omega
  have k1 : (k : Int) < (K : Int) := by omega
  refine ⟨ho, put_begin ho ⟨hg.pat _ k0 k1, fun y hy => ?_, by simp, fun y hy => ?_, fun j => ?_, hg.pl _ k0 k1⟩ (a := -lo) (f := hi) (by omega) (by omega) (fun j hj => ?_) ?_ (fun y hy => ?_) (fun c => ?_) h0 h8⟩
  · simp only [List.mem_cons, List.not_mem_nil, or_false] at hy
    subst hy
    exact ⟨by show (0 : Int) < 1; decide, hp⟩
  · simp only [List.mem_cons, List.not_mem_nil, or_false] at hy
    subst hy
    exact ⟨k0, by show (k : Int) < ((k + 1 : Nat) : Int); omega, fun _ => rfl⟩
  · show at_ (B k) j % p = (0 + (at_ (B k) (j - st * 0) * 1 + 0)) % p
    rw [Int.mul_zero, Int.sub_zero, Int.mul_one, Int.add_zero, Int.zero_add]
  · have := hg.row _ k0 k1 j hj
    omega
  · have := (gN_pos (show 0 ≤ hi - lo by omega) mp).1
    show -lo ≤ 2 * (mB st k * (hi - lo)) + (hi - lo) ∧ hi ≤ 2 * (mB st k * (hi - lo)) + (hi - lo)
    omega
  · simp only [List.mem_cons, List.not_mem_nil, or_false] at hy
    subst hy
    show -(dK st (hi - lo) k) ≤ 0 ∧ 0 ≤ dK st (hi - lo) k
    omega
  · have := hE c
    omega
/-- behind it -/
theorem bt_put_out (h0 : 0 ≤ st) (hg : Giv p st B lo hi K) (h : Bt p st B k (dK st (hi - lo) k) T) (hpo : PutOut p st B ((k + 1 : Nat) : Int) (numsOf (hi - lo) (mB st k) (dK st (hi - lo) k)) T (B k) T1) :
    (∀ e ∈ T1, RWf st (2 * rN (hi - lo) (mB st k)) (2 * rN (hi - lo) (mB st k)) e.2.1 e.2.2) ∧ ∀ e ∈ T1, KWf (dK st (hi - lo) k + mB st k * gN (hi - lo) (mB st k) + rN (hi - lo) (mB st k)) (dK st (hi - lo) k + mB st k * gN (hi - lo) (mB st k) + rN (hi - lo) (mB st k)) e.2.1 e.2.2 := by
  have l0 := hg.l0
  have mp := mB_pos h0 k
  have c := bt_count h0 h
  obtain ⟨g1, g2, g3, g4⟩ := gN_pos (show 0 ≤ hi - lo by omega) mp
  have eG : (numsOf (hi - lo) (mB st k) (dK st (hi - lo) k)).G = gN (hi - lo) (mB st k) := by
    show (hi - lo) + 2 * (mB st k * (hi - lo)) + 2 * (mB st k * (hi - lo)) = (hi - lo) + 4 * (mB st k * (hi - lo))
    omega
  have le : (T.length : Int) * gN (hi - lo) (mB st k) ≤ mB st k * gN (hi - lo) (mB st k) := Int.mul_le_mul_of_nonneg_right c g2
  have eA : (numsOf (hi - lo) (mB st k) (dK st (hi - lo) k)).A = 2 * (mB st k * (hi - lo)) + (hi - lo) := rfl
  have eD : (numsOf (hi - lo) (mB st k) (dK st (hi - lo) k)).D = dK st (hi - lo) k := rfl
  have er : rN (hi - lo) (mB st k) = 2 * (mB st k * (hi - lo)) + (hi - lo) + mB st k * gN (hi - lo) (mB st k) := rfl
  have h1 := hpo.rw
  have h2 := hpo.kw
  rw [eG, eA] at h1 h2
  rw [eD] at h2
  exact ⟨fun e he => (rwf_fam p st).mono (h1 e he) (by omega) (by omega), fun e he => (kwf_fam p st).mono (h2 e he) (by omega) (by omega)⟩
theorem bt_turn (hp : 1 < p) (hz : NoZero p) (h0 : 0 ≤ st) (hg : Giv p st B lo hi K) (h : Bt p st B k (dK st (hi - lo) k) T) (ho : Old p st B ((k + 1 : Nat) : Int) (numsOf (hi - lo) (mB st k) (dK st (hi - lo) k)) T) (hpo : PutOut p st B ((k + 1 : Nat) : Int) (numsOf (hi - lo) (mB st k) (dK st (hi - lo) k)) T (B k) T1) {cols : List Int} (hc : Ord T1 cols)
    (hs : SetT p st B ((k + 1 : Nat) : Int) (2 * rN (hi - lo) (mB st k)) (dK st (hi - lo) k + mB st k * gN (hi - lo) (mB st k) + rN (hi - lo) (mB st k)) T1 cols 0 T2) : Bt p st B (k + 1) (dK st (hi - lo) (k + 1)) T2 := by
  have l0 := hg.l0
  have g4 := (gN_pos (show 0 ≤ hi - lo by omega) (mB_pos h0 k)).2.2.2
  obtain ⟨h1, h2, h3⟩ := bt_next hp hz h0 h ho hpo hc (F := 2 * rN (hi - lo) (mB st k)) (by omega) hs
  refine h1.mono ?_
  have c := bt_count h0 h1
  have : (cols.length : Int) * (2 * rN (hi - lo) (mB st k)) ≤ mB st (k + 1) * (2 * rN (hi - lo) (mB st k)) := Int.mul_le_mul_of_nonneg_right (by omega) (by omega)
  show _ ≤ dK st (hi - lo) k + mB st k * gN (hi - lo) (mB st k) + rN (hi - lo) (mB st k) + mB st (k + 1) * (2 * rN (hi - lo) (mB st k))
  omega
end
end Sr

namespace Dk
open PySem PySem.Spec PyProof.Rows L2
/-! ### made stairs, kept by their columns -/
def eSteps (T : Sr.Steps) : List (Key × PyData) := T.map fun e => (.inl e.1, eMd e.2.1 e.2.2)
theorem steps_val (T : Sr.Steps) (c : Int) : valD (eSteps T) (.inl c) = (Sr.getS T c).map fun v => eMd v.1 v.2 := by
  induction T with
  | nil => rfl
  | cons e r ih =>
    unfold eSteps at ih ⊢
    simp only [Sr.getS]
    by_cases z : e.1 = c
    · rw [if_pos z]
      simp [valD, List.find?_cons, z]
    · rw [if_neg z, ← ih]
      have : ¬ (Sum.inl e.1 : Key) = Sum.inl c := fun q => z (Sum.inl.inj q)
      simp [valD, List.find?_cons, this]
theorem steps_put (T : Sr.Steps) (c : Int) (x : Pt.Pat) (m : Mk.M) : putD (eSteps T) (.inl c) (eMd x m) = eSteps (Sr.putS T c (x, m)) := by
  have ha : ((eSteps T).any fun kv => decide (kv.1 = (Sum.inl c : Key))) = decide (c ∈ Sr.keysS T) := by
    rw [Bool.eq_iff_iff]
    simp only [eSteps, Sr.keysS, List.any_eq_true, List.mem_map, decide_eq_true_eq]
    constructor
    · rintro ⟨x, ⟨e, he, rfl⟩, q⟩
      exact ⟨e, he, Sum.inl.inj q⟩
    · rintro ⟨e, he, q⟩
      exact ⟨_, ⟨e, he, rfl⟩, by rw [q]⟩
  unfold putD Sr.putS
  rw [ha]
  by_cases h : c ∈ Sr.keysS T
  · simp only [h, decide_true, if_true]
    unfold eSteps
    rw [List.map_map, List.map_map]
    refine List.map_congr_left fun e he => ?_
    simp only [Function.comp]
    by_cases z : e.1 = c
    · subst z
      simp
    · have : ¬ (Sum.inl e.1 : Key) = Sum.inl c := fun q => z (Sum.inl.inj q)
      rw [if_neg this, if_neg z]
  · simp only [h, decide_false, if_false, Bool.false_eq_true]
    simp [eSteps]
theorem steps_keys (T : Sr.Steps) : (eSteps T).map (·.1) = (Sr.keysS T).map Sum.inl := by
  unfold eSteps Sr.keysS
  rw [List.map_map, List.map_map]
  rfl
theorem steps_len (T : Sr.Steps) : (eSteps T).length = T.length := by unfold eSteps; exact List.length_map _
/-! ### a measure that a proof tells -/
theorem least {P : Nat → Prop} : ∀ n, P n → ∃ k, P k ∧ ∀ m, P m → k ≤ m := by
  intro n
  induction n using Nat.strongRecOn with
  | _ n ih =>
    intro h
    by_cases z : ∃ m, m < n ∧ P m
    · obtain ⟨m, h1, h2⟩ := z
      exact ih m h1 h2
    · exact ⟨n, h, fun m hm => Nat.le_of_not_lt fun q => z ⟨m, q, hm⟩⟩
open Classical in
noncomputable def muJ (J : Nat → G → Prop) (Γ : G) : Nat := if h : ∃ k, J k Γ ∧ ∀ m, J m Γ → k ≤ m then choose h else 0
theorem muJ_spec {J : Nat → G → Prop} {Γ : G} (h : ∃ n, J n Γ) : J (muJ J Γ) Γ := by
  have h' := h.elim least
  unfold muJ
  rw [dif_pos h']
  exact (Classical.choose_spec h').1
theorem muJ_step {J : Nat → G → Prop} {Γ Γ' : G} {n' : Nat} (h1 : J n' Γ') (h2 : n' < muJ J Γ) : (∃ n, J n Γ') ∧ muJ J Γ' < muJ J Γ := by
  refine ⟨⟨n', h1⟩, Nat.lt_of_le_of_lt ?_ h2⟩
  have h' := least (P := fun n => J n Γ') n' h1
  unfold muJ
  rw [dif_pos h']
  exact (Classical.choose_spec h').2 n' h1
theorem cut_behind2 (ds : List PyData) (k : Nat) : cutD ds (some (k : Int)) none = ds.drop k := by
  unfold cutD
  rw [HT.sIx_nat]
  show (ds.drop (min k ds.length)).take (ds.length - min k ds.length) = _
  by_cases h : k ≤ ds.length
  · rw [Nat.min_eq_left h, List.take_of_length_le (by simp)]
  · rw [Nat.min_eq_right (by omega), List.drop_length, List.drop_of_length_le (by omega), List.take_nil]
/-! ### contracts -/
def cMix2 : List PyData → (PyData → Prop) → Prop := fun ds Qd => ∃ (p st : Int) (x s : Pt.Pat) (mx ms : Mk.M) (sh v : Int), ds = [.int p, .int st, eMd x mx, eMd s ms, .int sh, .int v] ∧ GoodP p ∧ 0 ≤ st ∧ st ≤ 8 ∧ x.length ≤ 4000000 ∧ s.length ≤ 4000000 ∧ mx.length ≤ 4000000 ∧ ms.length ≤ 4000000 ∧ -1000 < v ∧ v < 1000 ∧
  ∀ mz, Sr.Mix p mx ms sh v mz → Qd (eMd (Sr.mixP p st x s sh v) mz)
def cNormal : List PyData → (PyData → Prop) → Prop := fun ds Qd => ∃ (p st : Int) (x : Pt.Pat) (m : Mk.M), ds = [.int p, .int st, eMd x m] ∧ GoodP p ∧ 0 ≤ st ∧ st ≤ 8 ∧ Pt.IsPat p x ∧ x ≠ [] ∧ x.length ≤ 4000000 ∧ m.length ≤ 4000000 ∧
  ∀ x' m' sh, Sr.Norm p st x m x' m' sh → x'.length ≤ x.length → m'.length ≤ m.length → Qd (eMd x' m')
def cLower : List PyData → (PyData → Prop) → Prop := fun ds Qd => ∃ (p st U V : Int) (x s : Pt.Pat) (mx ms : Mk.M), ds = [.int p, .int st, eMd s ms, eMd x mx] ∧ GoodP p ∧ 0 ≤ st ∧ st ≤ 8 ∧ 0 ≤ U ∧ 0 ≤ V ∧ Sr.Stair p st s ∧ Pt.IsPat p x ∧ Sr.Rng p mx ∧ (mx.map (·.1)).Nodup ∧ Sr.Win st U V s x ∧ s.length ≤ 4000000 ∧ ms.length ≤ 4000000 ∧
  (∀ y my, Sr.Low2 p st U V s ms x mx y my → y.length ≤ 4000000 ∧ my.length ≤ 4000000) ∧
  ∀ x' mx', Sr.Low2 p st U V s ms x mx x' mx' → Sr.LowAt st s x' → Qd (eMd x' mx')
/-- room for rows within a and shifts within b -/
def Fits (st Kw a b : Int) : Prop := 0 ≤ a ∧ 0 ≤ b ∧ 0 ≤ Kw ∧ st * (2 * a + 1) + 2001 ≤ 4000000 ∧ Kw * (2 * b + 1) ≤ 4000000
theorem Fits.len {p st Kw a b : Int} {B : Int → Pt.Pat} {x : Pt.Pat} {m : Mk.M} (h : Fits st Kw a b) (h0 : 0 ≤ st) (hm : Sr.MP p st B Kw x m) (h1 : Sr.RWf st a a x m) (h2 : Sr.KWf b b x m) : x.length ≤ 4000000 ∧ m.length ≤ 4000000 := by
  obtain ⟨a0, b0, k0, f1, f2⟩ := h
  have l1 := Sr.len_rows h0 a0 hm.pat h1 hm.pl
  have l2 := Sr.len_keys k0 b0 hm.nd (fun y hy => ⟨(hm.keys y hy).1, (hm.keys y hy).2.1⟩) h2
  omega
/-- what lowering within a turn leaves fits -/
theorem turn_fits {p st Kw c lc : Int} {B : Int → Pt.Pat} {N : Sr.Nums} {O T : Sr.Steps} {x0 y t : Pt.Pat} {my mt : Mk.M} (st0 : 0 ≤ st) (ho : Sr.Old p st B Kw N O) (hf : Fits st Kw (N.A + O.length * N.G) (N.D + O.length * N.G)) (h : Sr.Turn p st B Kw N O x0 c lc T y my t mt) :
    Sr.Win st 0 (Sr.lenC st y - Sr.lenC st t) t y ∧ ∀ r mr, Sr.Low2 p st 0 (Sr.lenC st y - Sr.lenC st t) t mt y my r mr → r.length ≤ 4000000 ∧ mr.length ≤ 4000000 := by
  obtain ⟨w1, ⟨w2, w3⟩, w4, w5⟩ := h.win st0 ho
  refine ⟨w1, fun r mr hl => hf.len st0 (h.mpY.low h.mpT hl) (fun k hk => ?_) fun q hq => ?_⟩
  · refine hl.lamps (fun k => -(N.A + O.length * N.G) ≤ Sr.row st k ∧ Sr.row st k ≤ N.A + O.length * N.G) (fun k hk => w2 k hk) (fun k hk q hz q1 q2 => ?_) k hk
    have := w3 k hk
    rw [Sr.row_add hz]
    omega
  · refine hl.keys (fun q => -(N.D + O.length * N.G) ≤ q.2 ∧ q.2 ≤ N.D + O.length * N.G) (fun y hy => w4 y hy) (fun y hy q hz q1 q2 => ?_) q hq
    have := w5 y hy
    simp only
    omega
def cPutIn : Ct := fun as Qd _ => ∃ (p st Kw : Int) (B : Int → Pt.Pat) (N : Sr.Nums) (O : Sr.Steps) (x : Pt.Pat) (m : Mk.M), as = [.d (.int p) true, .d (.int st) true, .rf (.dK (eSteps O)), .d (eMd x m) true] ∧ GoodP p ∧ 0 ≤ st ∧ st ≤ 8 ∧ Sr.Old p st B Kw N O ∧ (∃ n, Sr.PutInv p st B Kw N O x n O x m) ∧ x.length ≤ 4000000 ∧ m.length ≤ 4000000 ∧ Fits st Kw (N.A + O.length * N.G) (N.D + O.length * N.G) ∧ O.length ≤ 3000 ∧
  ∀ T, Sr.PutOut p st B Kw N O x T → Qd (.d .none) [.dK (eSteps T)]
/-- what lowering within settle leaves fits -/
theorem setx_fits {p st Kw F D : Int} {B : Int → Pt.Pat} {O T : Sr.Steps} {cols : List Int} {k q : Nat} {c b : Int} {x0 x t : Pt.Pat} {m mt : Mk.M} (st0 : 0 ≤ st) (f0 : 0 ≤ F) (hs : cols.Pairwise (· < ·)) (hf : Fits st Kw (cols.length * F) (D + cols.length * F)) (h : Sr.SetT p st B Kw F D O cols (k + 1) T) (hx : Sr.SetX p st B Kw F D cols T k q c x0 x m) (hkq : k < q) (hb : cols[q]? = some b) (gb : Sr.getS T b = some (t, mt)) :
    Sr.Win st F F t x ∧ ∀ r mr, Sr.Low2 p st F F t mt x m r mr → r.length ≤ 4000000 ∧ mr.length ≤ 4000000 := by
  obtain ⟨w1, w3, w5⟩ := hx.win st0 f0 hs h hkq hb gb
  have ok := (h.ok.ok _ (Sr.get_mem gb)).2.2
  simp only at ok
  have e1 : ((cols.length : Int) - k) * F ≤ cols.length * F := Int.mul_le_mul_of_nonneg_right (by omega) f0
  have e2 : ((cols.length : Int) - 1 - k) * F ≤ cols.length * F := Int.mul_le_mul_of_nonneg_right (by omega) f0
  refine ⟨w1, fun r mr hl => hf.len st0 (hx.mp.low ok hl) (fun i hi => ?_) fun y hy => ?_⟩
  · refine hl.lamps (fun i => -(cols.length * F) ≤ Sr.row st i ∧ Sr.row st i ≤ cols.length * F) (fun i hi => ?_) (fun i hi s hz q1 q2 => ?_) i hi
    · have := hx.rw i hi
      omega
    · have := w3 i hi
      rw [Sr.row_add hz]
      omega
  · refine hl.keys (fun y => -(D + cols.length * F) ≤ y.2 ∧ y.2 ≤ D + cols.length * F) (fun y hy => ?_) (fun y hy s hz q1 q2 => ?_) y hy
    · have := hx.kw y hy
      omega
    · have := w5 y hy
      simp only
      omega
def cSettle : Ct := fun as Qd _ => ∃ (p st Kw F D : Int) (B : Int → Pt.Pat) (O : Sr.Steps), as = [.d (.int p) true, .d (.int st) true, .rf (.dK (eSteps O))] ∧ GoodP p ∧ 0 ≤ st ∧ st ≤ 8 ∧ 0 ≤ F ∧ 0 ≤ D ∧ Sr.StepsOk p st B Kw O ∧ (∀ e ∈ O, Sr.RWf st F F e.2.1 e.2.2) ∧ (∀ e ∈ O, Sr.KWf D D e.2.1 e.2.2) ∧ Fits st Kw (O.length * F) (D + O.length * F) ∧ O.length ≤ 3000 ∧
  ∀ cols T, Sr.Ord O cols → Sr.SetT p st B Kw F D O cols 0 T → Qd (.d .none) [.dK (eSteps T)]
/-- what is built -/
structure Built (p st A D : Int) (ps ss : List Pt.Pat) (ms : List Mk.M) : Prop where
  len : ms.length = ss.length
  cnt : (ss.length : Int) ≤ Sr.mB st ps.length
  stair : ∀ s ∈ ss, Sr.Stair p st s
  rise : ss.Pairwise fun a b => Sr.firstC st a < Sr.firstC st b
  low : ∀ (i j : Nat) a b, i < j → ss[i]? = some a → ss[j]? = some b → Sr.LowAt st b a
  rows : ∀ s ∈ ss, ∀ k, Pt.at_ s k ≠ 0 → -A ≤ Sr.row st k ∧ Sr.row st k ≤ A
  pl : ∀ s ∈ ss, ∀ k, Pt.at_ s k ≠ 0 → st = 0 → -1000 ≤ k ∧ k ≤ 1000
  mak : ∀ (i : Nat) s m, ss[i]? = some s → ms[i]? = some m → Sr.Rng p m ∧ (m.map (·.1)).Nodup ∧ (∀ y ∈ m, 0 ≤ y.1.1 ∧ y.1.1 < ps.length ∧ (st = 0 → y.1.2 = 0) ∧ -D ≤ y.1.2 ∧ y.1.2 ≤ D) ∧ Sr.Made p st (baseS ps) m [] s
  span : ∀ x ∈ ps, Sr.Gen p st (fun s => s ∈ ss) (Pt.at_ x)
def eMakers (ms : List Mk.M) : PyData := .list (ms.map eParts)
def cBuilt : List PyData → (PyData → Prop) → Prop := fun ds Qd => ∃ (p st lo hi : Int) (ps : List Pt.Pat), ds = [.int p, .int st, .list (ps.map ePat)] ∧ GoodP p ∧ 0 ≤ st ∧ st ≤ 8 ∧ Sr.Giv p st (baseS ps) lo hi ps.length ∧ Sr.SizeOk st (hi - lo) ps.length ∧ ps.length ≤ 2000 ∧ (∀ x ∈ ps, x.length ≤ 4000000) ∧
  ∀ ss ms, Built p st (2 * (Sr.mB st ps.length * (hi - lo))) (Sr.dK st (hi - lo) ps.length) ps ss ms → Qd (.tuple [eStairs ss, eMakers ms])
theorem invP {p : Int} (hp : GoodP p) : ∀ x : Int, x % p ≠ 0 → ∃ c, x * c % p = 1 := fun x h => by
  have hp0 := hp.pos
  have r0 := Int.emod_nonneg x (show p ≠ 0 by omega)
  have r1 := Int.emod_lt_of_pos x hp0
  obtain ⟨n, _, _, n2⟩ := inv_there (s := x % p) hp (by omega) r1
  exact ⟨n, by rw [Int.mul_comm, Int.mul_emod, ← n2, Int.mul_emod _ (x % p), Int.emod_emod, ← Int.mul_emod]⟩
def stOf (T : Sr.Steps) (c : Int) : Pt.Pat := match Sr.getS T c with
  | some v => v.1
  | none => []
def mkOf (T : Sr.Steps) (c : Int) : Mk.M := match Sr.getS T c with
  | some v => v.2
  | none => []
theorem built_of {p st lo hi D : Int} {ps : List Pt.Pat} {T : Sr.Steps} {cols : List Int} (hp : GoodP p) (st0 : 0 ≤ st) (hg : Sr.Giv p st (baseS ps) lo hi ps.length) (bt : Sr.Bt p st (baseS ps) ps.length D T) (ho : Sr.Ord T cols) :
    Built p st (2 * (Sr.mB st ps.length * (hi - lo))) D ps (cols.map (stOf T)) (cols.map (mkOf T)) := by
  have hp2 : 1 < p := by have := hp.two; omega
  have l0 := hg.l0
  have cnt := Sr.bt_count st0 bt
  have hl := ho.len
  have at' : ∀ {i : Nat} {c : Int}, cols[i]? = some c → ∃ x m, Sr.getS T c = some (x, m) ∧ stOf T c = x ∧ mkOf T c = m ∧ Sr.stairAt T cols i = x ∧ Sr.Stair p st x ∧ Sr.firstC st x = c ∧ Sr.MP p st (baseS ps) ps.length x m ∧ Sr.KWf D D x m := fun {i c} hc => by
    obtain ⟨⟨x, m⟩, h1, h2⟩ := ho.get hc
    obtain ⟨o1, o2, o3⟩ := bt.ok.ok _ (Sr.get_mem h1)
    exact ⟨x, m, h1, by unfold stOf; rw [h1], by unfold mkOf; rw [h1], h2, o1, o2, o3, bt.kw _ (Sr.get_mem h1)⟩
  have mem : ∀ {s : Pt.Pat}, s ∈ cols.map (stOf T) → ∃ (i : Nat) (c : Int), cols[i]? = some c ∧ stOf T c = s := fun {s} h => by
    obtain ⟨c, hc, e⟩ := List.mem_map.mp h
    obtain ⟨i, hi, rfl⟩ := List.getElem_of_mem hc
    exact ⟨i, _, List.getElem?_eq_getElem hi, e⟩
  have A0 := (Sr.gN_pos (show 0 ≤ hi - lo by omega) (Sr.mB_pos st0 ps.length)).1
  refine ⟨by simp, by rw [List.length_map, hl]; exact cnt, fun s hs => ?_, ?_, fun i j a b hij ha hb => ?_, fun s hs k hk => ?_, fun s hs => ?_, fun i s m hs hm => ?_, fun x hx => ?_⟩
  · obtain ⟨i, c, hc, rfl⟩ := mem hs
    obtain ⟨x, m, h1, h2, h3, h4, h5, h6, h7, h8⟩ := at' hc
    rw [h2]
    exact h5
  · rw [List.pairwise_map]
    refine List.Pairwise.imp_of_mem (R := (· < ·)) (fun {a b} ha hb hab => ?_) ho.srt
    obtain ⟨i, hi, rfl⟩ := List.getElem_of_mem ha
    obtain ⟨j, hj, rfl⟩ := List.getElem_of_mem hb
    obtain ⟨x, m, h1, h2, h3, h4, h5, h6, _⟩ := at' (List.getElem?_eq_getElem hi)
    obtain ⟨x', m', g1, g2, g3, g4, g5, g6, _⟩ := at' (List.getElem?_eq_getElem hj)
    rw [h2, g2, h6, g6]
    exact hab
  · rw [List.getElem?_map] at ha hb
    obtain ⟨c, hc, rfl⟩ := Option.map_eq_some_iff.mp ha
    obtain ⟨d, hd, rfl⟩ := Option.map_eq_some_iff.mp hb
    obtain ⟨x, m, h1, h2, _⟩ := at' hc
    obtain ⟨x', m', g1, g2, _⟩ := at' hd
    rw [h2, g2]
    exact bt.low c d _ _ (Sr.srt_at ho.srt hij hc hd) h1 g1
  · by_cases z : st = 0
    · rw [z, Sr.row_zero]
      subst z
      omega
    · obtain ⟨i, c, hc, rfl⟩ := mem hs
      obtain ⟨x, m, h1, h2, h3, h4, _⟩ := at' hc
      rw [h2] at hk
      have := (Sr.bt_size hp2 (noZero hp) (invP hp) (by omega) hg (Nat.le_refl _) bt ho).2 i (by rw [← hl]; exact lt_of_get hc) k (by rw [h4]; exact hk)
      have le : (T.length : Int) * (hi - lo) ≤ Sr.mB st ps.length * (hi - lo) := Int.mul_le_mul_of_nonneg_right cnt (by omega)
      omega
  · obtain ⟨i, c, hc, rfl⟩ := mem hs
    obtain ⟨x, m, h1, h2, h3, h4, h5, h6, h7, h8⟩ := at' hc
    rw [h2]
    exact h7.pl
  · rw [List.getElem?_map] at hs hm
    obtain ⟨c, hc, rfl⟩ := Option.map_eq_some_iff.mp hs
    obtain ⟨d, hd, rfl⟩ := Option.map_eq_some_iff.mp hm
    rw [hc] at hd
    cases hd
    obtain ⟨x, m, h1, h2, h3, h4, h5, h6, h7, h8⟩ := at' hc
    rw [h2, h3]
    exact ⟨h7.rng, h7.nd, fun y hy => by have := h7.keys y hy; have := h8 y hy; omega, h7.made⟩
  · obtain ⟨t, ht, rfl⟩ := List.getElem_of_mem hx
    have := bt.span (t : Int) (by omega) (by omega)
    rw [Option.some.inj ((baseS_at ht).symm.trans (List.getElem?_eq_getElem ht))] at this
    refine this.trans fun s hs => .one ?_
    obtain ⟨e, he, rfl⟩ := hs
    obtain ⟨i, hi, hc, hs⟩ := ho.of bt.ok.nd he
    obtain ⟨x, m, h1, h2, h3, h4, _⟩ := at' hc
    refine List.mem_map.mpr ⟨e.1, List.mem_of_getElem? hc, ?_⟩
    rw [h2, ← h4, hs]
theorem Fits.mono {st Kw a b a' b' : Int} (st0 : 0 ≤ st) (h : Fits st Kw a b) (a0 : 0 ≤ a') (b0 : 0 ≤ b') (ha : a' ≤ a) (hb : b' ≤ b) : Fits st Kw a' b' := by
  obtain ⟨_, _, k0, h1, h2⟩ := h
  have e1 : st * (2 * a' + 1) ≤ st * (2 * a + 1) := Int.mul_le_mul_of_nonneg_left (by omega) st0
  have e2 : Kw * (2 * b' + 1) ≤ Kw * (2 * b + 1) := Int.mul_le_mul_of_nonneg_left (by omega) k0
  exact ⟨a0, b0, k0, by omega, by omega⟩
theorem fits_step {st w : Int} {K k : Nat} (st0 : 0 ≤ st) (w0 : 0 ≤ w) (h : Sr.SizeOk st w K) (hk : k < K) : Fits st ((k + 1 : Nat) : Int) (Sr.mB st (k + 1) * (2 * Sr.rN w (Sr.mB st k))) (Sr.dK st w (k + 1)) := by
  obtain ⟨h1, h2⟩ := h k hk
  have g := (Sr.gN_pos w0 (Sr.mB_pos st0 k)).2.2.2
  exact ⟨Int.mul_nonneg (Sr.mB_pos st0 _) (by omega), Sr.dK_pos st0 w0 _, by omega, h1, h2⟩
theorem mB_one {st : Int} (st0 : 0 ≤ st) (k : Nat) : 1 ≤ Sr.mB st (k + 1) := by unfold Sr.mB; split <;> omega
theorem fits_put {p st lo hi : Int} {B : Int → Pt.Pat} {T : Sr.Steps} {K k : Nat} (st0 : 0 ≤ st) (w0 : 0 ≤ hi - lo) (h : Sr.SizeOk st (hi - lo) K) (hk : k < K) (bt : Sr.Bt p st B k (Sr.dK st (hi - lo) k) T) :
    Fits st ((k + 1 : Nat) : Int) ((Sr.numsOf (hi - lo) (Sr.mB st k) (Sr.dK st (hi - lo) k)).A + T.length * (Sr.numsOf (hi - lo) (Sr.mB st k) (Sr.dK st (hi - lo) k)).G) ((Sr.numsOf (hi - lo) (Sr.mB st k) (Sr.dK st (hi - lo) k)).D + T.length * (Sr.numsOf (hi - lo) (Sr.mB st k) (Sr.dK st (hi - lo) k)).G) := by
  have mp := Sr.mB_pos st0 k
  have c := Sr.bt_count st0 bt
  obtain ⟨g1, g2, g3, g4⟩ := Sr.gN_pos w0 mp
  have eG : (Sr.numsOf (hi - lo) (Sr.mB st k) (Sr.dK st (hi - lo) k)).G = Sr.gN (hi - lo) (Sr.mB st k) := by
    show (hi - lo) + 2 * (Sr.mB st k * (hi - lo)) + 2 * (Sr.mB st k * (hi - lo)) = (hi - lo) + 4 * (Sr.mB st k * (hi - lo))
    omega
  have le : (T.length : Int) * Sr.gN (hi - lo) (Sr.mB st k) ≤ Sr.mB st k * Sr.gN (hi - lo) (Sr.mB st k) := Int.mul_le_mul_of_nonneg_right c g2
  have nn : 0 ≤ (T.length : Int) * Sr.gN (hi - lo) (Sr.mB st k) := Int.mul_nonneg (by omega) g2
  have eA : (Sr.numsOf (hi - lo) (Sr.mB st k) (Sr.dK st (hi - lo) k)).A = 2 * (Sr.mB st k * (hi - lo)) + (hi - lo) := rfl
  have eD : (Sr.numsOf (hi - lo) (Sr.mB st k) (Sr.dK st (hi - lo) k)).D = Sr.dK st (hi - lo) k := rfl
  have er : Sr.rN (hi - lo) (Sr.mB st k) = 2 * (Sr.mB st k * (hi - lo)) + (hi - lo) + Sr.mB st k * Sr.gN (hi - lo) (Sr.mB st k) := rfl
  have dp := Sr.dK_pos st0 w0 k
  have m1 := mB_one st0 k
  have l1 : 1 * (2 * Sr.rN (hi - lo) (Sr.mB st k)) ≤ Sr.mB st (k + 1) * (2 * Sr.rN (hi - lo) (Sr.mB st k)) := Int.mul_le_mul_of_nonneg_right m1 (by omega)
  have ed : Sr.dK st (hi - lo) (k + 1) = Sr.dK st (hi - lo) k + Sr.mB st k * Sr.gN (hi - lo) (Sr.mB st k) + Sr.rN (hi - lo) (Sr.mB st k) + Sr.mB st (k + 1) * (2 * Sr.rN (hi - lo) (Sr.mB st k)) := rfl
  rw [eG, eA, eD]
  refine (fits_step st0 w0 h hk).mono st0 (by omega) (by omega) (by omega) (by omega)
theorem steps_count {p st Kw : Int} {B : Int → Pt.Pat} {T : Sr.Steps} {k : Nat} (st0 : 0 ≤ st) (h : Sr.StepsOk p st B Kw T) (hk : T.length ≤ k) : (T.length : Int) ≤ Sr.mB st k := by
  unfold Sr.mB
  by_cases z : st = 0
  · rw [if_pos z]; omega
  · rw [if_neg z]
    have w2 := Sr.ints_width (lo := 0) (hi := st - 1) h.nd fun c hc => by
      obtain ⟨e, he, rfl⟩ := List.mem_map.mp hc
      obtain ⟨S, f, _⟩ := h.ok e he
      have cc := S.cc
      rw [f] at cc
      unfold Sr.col at cc
      rw [if_neg z] at cc
      have h1 := Int.emod_nonneg e.1 z
      have h2 := Int.emod_lt_of_pos e.1 (show 0 < st by omega)
      omega
    have : (Sr.keysS T).length = T.length := List.length_map _
    omega
theorem fits_set {p st lo hi : Int} {B : Int → Pt.Pat} {T T1 : Sr.Steps} {K k : Nat} {x0 : Pt.Pat} {N : Sr.Nums} (st0 : 0 ≤ st) (w0 : 0 ≤ hi - lo) (h : Sr.SizeOk st (hi - lo) K) (hk : k < K) (bt : Sr.Bt p st B k (Sr.dK st (hi - lo) k) T) (hpo : Sr.PutOut p st B ((k + 1 : Nat) : Int) N T x0 T1) :
    (T1.length : Int) ≤ Sr.mB st (k + 1) ∧ Fits st ((k + 1 : Nat) : Int) (T1.length * (2 * Sr.rN (hi - lo) (Sr.mB st k))) ((Sr.dK st (hi - lo) k + Sr.mB st k * Sr.gN (hi - lo) (Sr.mB st k) + Sr.rN (hi - lo) (Sr.mB st k)) + T1.length * (2 * Sr.rN (hi - lo) (Sr.mB st k))) := by
  have c := Sr.bt_count st0 bt
  have ck : Sr.mB st k ≤ k := by unfold Sr.mB; split <;> omega
  have l1 : T1.length ≤ k + 1 := by
    have e1 : (Sr.keysS T1).length = T1.length := List.length_map _
    have e2 : (Sr.keysS T).length = T.length := List.length_map _
    rcases hpo.keys with z | ⟨c, _, z⟩
    · rw [z] at e1; omega
    · rw [z, List.length_append] at e1; simp at e1; omega
  have c1 := steps_count st0 hpo.ok l1
  obtain ⟨g1, g2, g3, g4⟩ := Sr.gN_pos w0 (Sr.mB_pos st0 k)
  have l2 : (T1.length : Int) * (2 * Sr.rN (hi - lo) (Sr.mB st k)) ≤ Sr.mB st (k + 1) * (2 * Sr.rN (hi - lo) (Sr.mB st k)) := Int.mul_le_mul_of_nonneg_right c1 (by omega)
  have l3 : 0 ≤ (T1.length : Int) * (2 * Sr.rN (hi - lo) (Sr.mB st k)) := Int.mul_nonneg (by omega) (by omega)
  have dp := Sr.dK_pos st0 w0 k
  have ed : Sr.dK st (hi - lo) (k + 1) = Sr.dK st (hi - lo) k + Sr.mB st k * Sr.gN (hi - lo) (Sr.mB st k) + Sr.rN (hi - lo) (Sr.mB st k) + Sr.mB st (k + 1) * (2 * Sr.rN (hi - lo) (Sr.mB st k)) := rfl
  exact ⟨c1, (fits_step st0 w0 h hk).mono st0 l3 (by omega) l2 (by omega)⟩
end Dk

namespace Dk
open PySem PySem.Spec PyProof.Rows L2
/-! ### taken down by stairs of any size -/
def RowsIn (st A : Int) (x : Pt.Pat) : Prop := ∀ k, Pt.at_ x k ≠ 0 → -A ≤ Sr.row st k ∧ Sr.row st k ≤ A
def PlIn (st : Int) (x : Pt.Pat) : Prop := ∀ k, Pt.at_ x k ≠ 0 → st = 0 → -1000 ≤ k ∧ k ≤ 1000
structure StairsR (p st A : Int) (ss : List Pt.Pat) : Prop where
  one : ∀ s ∈ ss, Sr.Stair p st s ∧ RowsIn st A s ∧ PlIn st s
  rise : ss.Pairwise fun a b => Sr.firstC st a < Sr.firstC st b
  low : ∀ (i j : Nat) a b, i < j → ss[i]? = some a → ss[j]? = some b → Sr.LowAt st b a
structure TakenR (p st A R : Int) (ss : List Pt.Pat) (x x' : Pt.Pat) (m : Mk.M) : Prop where
  pat : Pt.IsPat p x'
  low : ∀ s ∈ ss, Sr.LowAt st s x'
  rng : Sr.Rng p m
  nd : (m.map (·.1)).Nodup
  keys : ∀ y ∈ m, 0 ≤ y.1.1 ∧ y.1.1 < ss.length ∧ (st = 0 → y.1.2 = 0) ∧ -R ≤ y.1.2 ∧ y.1.2 ≤ R
  sum : ∀ k, Pt.at_ x k % p = (Pt.at_ x' k + Sr.Lin st (baseS ss) m k) % p
  rows : RowsIn st (A + R) x'
  pl : PlIn st x'
theorem TakenR.rest {p st A R : Int} {ss : List Pt.Pat} {x r : Pt.Pat} {m : Mk.M} (h : TakenR p st A R ss x r m) : Rest p st ss x r := ⟨h.pat, h.low, m, fun y hy => by have := h.keys y hy; exact ⟨this.1, this.2.1, this.2.2.1⟩, h.sum⟩
structure TkIn (p st A R : Int) (ss : List Pt.Pat) (x : Pt.Pat) : Prop where
  good : GoodP p
  st0 : 0 ≤ st
  st8 : st ≤ 8
  A0 : 0 ≤ A
  R0 : 0 ≤ R
  str : StairsR p st A ss
  len : ss.length ≤ 2000
  pat : Pt.IsPat p x
  rows : RowsIn st R x
  pl : PlIn st x
  fits : Fits st ss.length (A + R) R
def cTakeR : List PyData → (PyData → Prop) → Prop := fun ds Qd => ∃ (p st A R : Int) (ss : List Pt.Pat) (x : Pt.Pat), ds = [.int p, .int st, eStairs ss, ePat x] ∧ TkIn p st A R ss x ∧ ∀ x' m, TakenR p st A R ss x x' m → Qd (.tuple [ePat x', eParts m])
def cRestR : List PyData → (PyData → Prop) → Prop := fun ds Qd => ∃ (p st A R : Int) (ss : List Pt.Pat) (x : Pt.Pat), ds = [.int p, .int st, eStairs ss, ePat x] ∧ TkIn p st A R ss x ∧ ∀ x' m, TakenR p st A R ss x x' m → Qd (ePat x')
/-- what stands when k stairs are done -/
structure TkTo (p st A R : Int) (ss : List Pt.Pat) (x : Pt.Pat) (k : Nat) (y : Pt.Pat) (m : Mk.M) : Prop where
  pat : Pt.IsPat p y
  rng : Sr.Rng p m
  nd : (m.map (·.1)).Nodup
  low : ∀ (i : Nat) (s : Pt.Pat), i < k → ss[i]? = some s → Sr.LowAt st s y
  made : Sr.Made p st (baseS ss) m x y
  keys : ∀ q ∈ m, 0 ≤ q.1.1 ∧ q.1.1 < k ∧ (st = 0 → q.1.2 = 0) ∧ -R ≤ q.1.2 ∧ q.1.2 ≤ R
  rows : RowsIn st (A + R) y
  cw : ∀ (j : Nat) (s : Pt.Pat), ss[j]? = some s → ∀ i, Pt.at_ y i ≠ 0 → Sr.col st i = Sr.firstC st s → -R ≤ Sr.row st i ∧ Sr.row st i ≤ R + Sr.lenC st s
  pl : PlIn st y
theorem tk_init {p st A R : Int} {ss : List Pt.Pat} {x : Pt.Pat} (h : TkIn p st A R ss x) : TkTo p st A R ss x 0 x [] := by
  have A0 := h.A0
  refine ⟨h.pat, (fun _ h => nomatch h), .nil, (fun i s h => absurd h (by omega)), fun k => ?_, (fun _ h => nomatch h), fun k hk => ?_, fun j s hs i hi hc => ?_, h.pl⟩
  · show _ = (Pt.at_ x k + 0) % p
    rw [Int.add_zero]
  · have := h.rows k hk
    omega
  · have := h.rows i hi
    have := (h.str.one s (List.mem_of_getElem? hs)).1.ln
    omega
section
variable {p st A R : Int} {ss : List Pt.Pat} {x y s : Pt.Pat} {my : Mk.M} {k : Nat}
theorem StairsR.order (h : StairsR p st A ss) {i j : Nat} {a b : Pt.Pat} (hij : i < j) (ha : ss[i]? = some a) (hb : ss[j]? = some b) : Sr.firstC st a < Sr.firstC st b := by
  have h1 := lt_of_get ha
  have h2 := lt_of_get hb
  have := List.pairwise_iff_getElem.mp h.rise i j h1 h2 hij
  rw [List.getElem?_eq_getElem h1] at ha
  rw [List.getElem?_eq_getElem h2] at hb
  cases ha
  cases hb
  exact this
/-- a settled stair in another one's first column -/
theorem StairsR.cw (st0 : 0 ≤ st) (h : StairsR p st A ss) {i j : Nat} {a b : Pt.Pat} (ha : ss[i]? = some a) (hb : ss[j]? = some b) {r : Int} (hr : Pt.at_ a r ≠ 0) (hc : Sr.col st r = Sr.firstC st b) : 0 ≤ Sr.row st r ∧ Sr.row st r ≤ Sr.lenC st b := by
  have Sa := (h.one a (List.mem_of_getElem? ha)).1
  have Sb := (h.one b (List.mem_of_getElem? hb)).1
  by_cases z : st = 0
  · rw [z, Sr.row_zero]
    have := Sb.ln
    rw [z] at this
    omega
  have ht : Sr.topC st b = Sr.firstC st b + st * Sr.lenC st b := rfl
  have inn : Sr.firstC st b ≤ r ∧ r ≤ Sr.topC st b := by
    rcases Nat.lt_trichotomy i j with q | q | q
    · have := h.low i j a b q ha hb r hc hr
      omega
    · subst q
      rw [ha] at hb
      cases hb
      exact ⟨by
        rcases Int.lt_or_le r (Sr.firstC st a) with w | w
        · exact absurd (Sa.low r hc w) hr
        · exact w, by
        rcases Int.lt_or_le (Sr.topC st a) r with w | w
        · exact absurd (Sa.high r hc w) hr
        · exact w⟩
    · have := h.order q hb ha
      have := Sr.first_le (st := st) hr
      omega
  have e := Sr.col_row z r
  rw [hc] at e
  have q0 : 0 ≤ Sr.row st r := Sr.quo_le (st := st) (by omega) (by rw [Int.mul_zero]; omega)
  have q1 : Sr.row st r ≤ Sr.lenC st b := Sr.quo_le (st := st) (by omega) (by omega)
  exact ⟨q0, q1⟩
theorem TkTo.win (st0 : 0 ≤ st) (hst : StairsR p st A ss) (h : TkTo p st A R ss x k y my) (hs : ss[k]? = some s) : Sr.Win st R R s y := fun i hi hl => by
  have S := (hst.one s (List.mem_of_getElem? hs)).1
  have := h.cw k s hs i hl hi
  have ht : Sr.topC st s = Sr.firstC st s + st * Sr.lenC st s := rfl
  by_cases z : st = 0
  · subst z
    have e1 : i = Sr.firstC 0 s := by simpa [Sr.col] using hi
    rw [Int.zero_mul] at ht ⊢
    omega
  · have e := Sr.col_row z i
    rw [hi] at e
    have b1 : st * -R ≤ st * Sr.row st i := Int.mul_le_mul_of_nonneg_left this.1 st0
    have b2 : st * Sr.row st i ≤ st * (R + Sr.lenC st s) := Int.mul_le_mul_of_nonneg_left this.2 st0
    rw [Int.mul_neg] at b1
    rw [Int.mul_add] at b2
    omega
theorem TkTo.low2 (hi0 : TkIn p st A R ss x) (h : TkTo p st A R ss x k y my) (hs : ss[k]? = some s) {z : Pt.Pat} {mz : Mk.M} (hl : Sr.Low2 p st R R s [((0 + (k : Int), 0), 1)] y my z mz) : RowsIn st (A + R) z ∧ PlIn st z ∧ (∀ q ∈ mz, 0 ≤ q.1.1 ∧ q.1.1 < ((k + 1 : Nat) : Int) ∧ (st = 0 → q.1.2 = 0) ∧ -R ≤ q.1.2 ∧ q.1.2 ≤ R) ∧ ∀ (j : Nat) (t : Pt.Pat), ss[j]? = some t → ∀ i, Pt.at_ z i ≠ 0 → Sr.col st i = Sr.firstC st t → -R ≤ Sr.row st i ∧ Sr.row st i ≤ R + Sr.lenC st t := by
  have hst := hi0.str
  have R0 := hi0.R0
  have A0 := hi0.A0
  obtain ⟨S, hr, hpl⟩ := hst.one s (List.mem_of_getElem? hs)
  refine ⟨fun i hi => ?_, fun i hi => ?_, fun q hq => ?_, fun j t ht i hi => ?_⟩
  · refine hl.lamps (fun i => -(A + R) ≤ Sr.row st i ∧ Sr.row st i ≤ A + R) (fun i hi => h.rows i hi) (fun i hi q hz q1 q2 => ?_) i hi
    have := hr i hi
    rw [Sr.row_add hz]
    omega
  · refine hl.lamps (fun i => st = 0 → -1000 ≤ i ∧ i ≤ 1000) (fun i hi => h.pl i hi) (fun i hi q hz q1 q2 z => ?_) i hi
    rw [z, Int.zero_mul, Int.add_zero]
    exact hpl i hi z
  · refine hl.keys (fun q => 0 ≤ q.1 ∧ q.1 < ((k + 1 : Nat) : Int) ∧ (st = 0 → q.2 = 0) ∧ -R ≤ q.2 ∧ q.2 ≤ R) (fun a ha => ?_) (fun a ha q hz q1 q2 => ?_) q hq
    · have := h.keys a ha
      exact ⟨this.1, by omega, this.2.2.1, by omega, by omega⟩
    · simp only [List.mem_cons, List.not_mem_nil, or_false] at ha
      subst ha
      refine ⟨by show 0 ≤ 0 + (k : Int); omega, by show 0 + (k : Int) < _; omega, fun z => ?_, by show _ ≤ 0 + q; omega, by show 0 + q ≤ _; omega⟩
      show 0 + q = 0
      rw [hz z]
      rfl
  · refine hl.lamps (fun i => Sr.col st i = Sr.firstC st t → -R ≤ Sr.row st i ∧ Sr.row st i ≤ R + Sr.lenC st t) (fun i hi => h.cw j t ht i hi) (fun i hi q hz q1 q2 hc => ?_) i hi
    rw [Sr.col_add] at hc
    have := hst.cw hi0.st0 hs ht hi hc
    rw [Sr.row_add hz]
    omega
theorem tk_fits (hi0 : TkIn p st A R ss x) {z : Pt.Pat} {mz : Mk.M} (hk : k ≤ ss.length) (hz : Pt.IsPat p z) (nd : (mz.map (·.1)).Nodup) (h1 : RowsIn st (A + R) z) (h2 : PlIn st z) (h3 : ∀ q ∈ mz, 0 ≤ q.1.1 ∧ q.1.1 < (k : Int) ∧ (st = 0 → q.1.2 = 0) ∧ -R ≤ q.1.2 ∧ q.1.2 ≤ R) : z.length ≤ 4000000 ∧ mz.length ≤ 4000000 := by
  obtain ⟨a0, b0, k0, f1, f2⟩ := hi0.fits
  have l1 := Sr.len_rows (m := mz) hi0.st0 a0 hz h1 h2
  have l2 := Sr.len_keys k0 b0 nd (fun y hy => by have := h3 y hy; omega) (fun y hy => by have := h3 y hy; omega)
  omega
theorem tk_stair (hi0 : TkIn p st A R ss x) (hs : ss[k]? = some s) : s.length ≤ 4000000 := by
  obtain ⟨S, hr, hpl⟩ := hi0.str.one s (List.mem_of_getElem? hs)
  have R0 := hi0.R0
  exact (tk_fits (z := s) (mz := []) (k := 0) hi0 (by omega) S.pat .nil (fun i hi => by have := hr i hi; omega) hpl (fun _ h => nomatch h)).1
theorem tk_step (hi0 : TkIn p st A R ss x) (h : TkTo p st A R ss x k y my) (hs : ss[k]? = some s) {z : Pt.Pat} {mz : Mk.M} (hl : Sr.Low2 p st R R s [((0 + (k : Int), 0), 1)] y my z mz) (hlow : Sr.LowAt st s z) : TkTo p st A R ss x (k + 1) z mz := by
  obtain ⟨h1, h2, h3, h4⟩ := h.low2 hi0 hs hl
  refine ⟨hl.pat, hl.rng, hl.nd, fun i t hi ht => ?_, hl.made _ _ (one_made hs) h.made, h3, h1, h4, h2⟩
  by_cases c : i = k
  · subst c
    rw [hs] at ht
    cases ht
    exact hlow
  · have hr := hi0.str.order (show i < k by omega) ht hs
    intro j hj hjl
    rw [hl.ahead j (by omega)] at hjl
    exact h.low i t (by omega) ht j hj hjl
theorem tk_done (h : TkTo p st A R ss x ss.length y my) {zs : Mk.M} (hz : Mk.Tidy p (my.map fun x => (x.1, x.2 * -1)) zs) : TakenR p st A R ss x y zs := by
  refine ⟨h.pat, fun s hs => ?_, hz.rng, hz.nd, fun q hq => ?_, fun k => ?_, h.rows, h.pl⟩
  · obtain ⟨i, hi, e⟩ := List.getElem_of_mem hs
    exact h.low i s hi (by rw [List.getElem?_eq_getElem hi, e])
  · obtain ⟨a, ha, e⟩ := hz.from' q hq
    obtain ⟨b, hb, rfl⟩ := List.mem_map.mp ha
    rw [← e]
    exact h.keys b hb
  · have e1 := hz.same fun q => Pt.at_ (baseS ss q.1) (k - st * q.2)
    rw [Mk.ws_mul] at e1
    have e2 := h.made k
    have e3 : Sr.Lin st (baseS ss) zs k % p = (Sr.Lin st (baseS ss) my k * -1) % p := e1
    rw [Int.add_emod, e3, e2, ← Int.add_emod]
    congr 1
    omega
end
theorem Built.stairs {p st A D : Int} {ps ss : List Pt.Pat} {ms : List Mk.M} (h : Built p st A D ps ss ms) : StairsR p st A ss := ⟨fun s hs => ⟨h.stair s hs, h.rows s hs, h.pl s hs⟩, h.rise, h.low⟩
end Dk

namespace Dk
open PySem PySem.Spec PyProof.Rows L2
/-! ### is True, is not True -/
def dIsB (f : Bool → Bool) (da db : TEd) : TEd := fun Γ Q => da Γ fun x Γ1 => db Γ1 fun y Γ2 => ∃ a b, dat Γ2 x = some (.bool a) ∧ dat Γ2 y = some (.bool b) ∧ Q (.sh (.bool (f (decide (a = b))))) Γ2
section
variable {K : Fg} {ta tb : TE} {da db : TEd}
instance se_isB [SE K ta da] [SE K tb db] : SE K (tOp rIsB ta tb) (dIsB id da db) := ⟨fun F W σ Γ Q Qd R q k => two R q fun x y W' Γ' u v s' R' o1 o2 ⟨a, b, e1, e2, q⟩ => by
  have h1 := o1.full R' e1
  have h2 := o2.full R' e2
  cases h1
  cases h2
  exact ⟨a, b, rfl, rfl, k _ W' Γ' _ s' R' (.bl _) q⟩⟩
instance se_notB [SE K ta da] [SE K tb db] : SE K (tOp rNotB ta tb) (dIsB not da db) := ⟨fun F W σ Γ Q Qd R q k => two R q fun x y W' Γ' u v s' R' o1 o2 ⟨a, b, e1, e2, q⟩ => by
  have h1 := o1.full R' e1
  have h2 := o2.full R' e2
  cases h1
  cases h2
  exact ⟨a, b, rfl, rfl, k _ W' Γ' _ s' R' (.bl _) q⟩⟩
end
/-! ### the law's side of stairs -/
def ePats (ps : List Pt.Pat) : PyData := .list (ps.map ePat)
theorem ePats_shp (ps : List Pt.Pat) : Shp 3 (ePats ps) := Shp.list fun d hd => by
  obtain ⟨x, _, rfl⟩ := List.mem_map.mp hd
  exact ePat_shp x
theorem eStairs_shp (ps : List Pt.Pat) : Shp 3 (eStairs ps) := Shp.tup fun d hd => by
  obtain ⟨x, _, rfl⟩ := List.mem_map.mp hd
  exact ePat_shp x
instance eqe_stairs : EqE eStairs := ⟨fun x y => by
  simp only [eStairs, PyData.eqv]
  exact eqvAll_map x y⟩
instance eqe_pats : EqE ePats := ⟨fun x y => by
  simp only [ePats, PyData.eqv]
  exact eqvAll_map x y⟩
def cDrawPats : List PyData → (OD → Prop) → Prop := fun ds Qd => ∃ p most : Int, ds = [.int p, .int most] ∧ GoodP p ∧ 0 ≤ most ∧ most ≤ 20 ∧ ∀ ps : List Pt.Pat, (∀ x ∈ ps, Pt.IsPat p x ∧ x.length ≤ 4 ∧ ∀ y ∈ x, -6 ≤ y.1 ∧ y.1 ≤ 6) → (ps.length : Int) ≤ most → Qd (.lst (ps.map ePat))
/-- stairs of any size that are stairs -/
structure SsIn (p st : Int) (ss : List Pt.Pat) : Prop where
  good : GoodP p
  st0 : 0 ≤ st
  st8 : st ≤ 8
  one : ∀ s ∈ ss, Sr.Stair p st s ∧ s.length ≤ 3000000
  rise : ss.Pairwise fun a b => Sr.firstC st a < Sr.firstC st b
  len : ss.length ≤ 2000
def cAreStairs : List PyData → (PyData → Prop) → Prop := fun ds Qd => ∃ (p st : Int) (ss : List Pt.Pat), ds = [.int p, .int st, eStairs ss] ∧ SsIn p st ss ∧ Qd (.bool true)
def cTrimStairs : List PyData → (PyData → Prop) → Prop := fun ds Qd => ∃ (p st : Int) (ss : List Pt.Pat), ds = [.int st, eStairs ss] ∧ SsIn p st ss ∧ (∀ (i j : Nat) a b, i < j → ss[i]? = some a → ss[j]? = some b → Sr.LowAt st b a) ∧ Qd (.bool true)
def cLawLower : List PyData → (PyData → Prop) → Prop := fun ds Qd => ∃ (p st U V : Int) (x s : Pt.Pat) (mx ms : Mk.M), ds = [.int p, .int st, ePat s, ePat x] ∧ GoodP p ∧ 0 ≤ st ∧ st ≤ 8 ∧ 0 ≤ U ∧ 0 ≤ V ∧ Sr.Stair p st s ∧ Pt.IsPat p x ∧ Sr.Rng p mx ∧ (mx.map (·.1)).Nodup ∧ Sr.Win st U V s x ∧ s.length ≤ 4000000 ∧
  (∀ y my, Sr.Low2 p st U V s ms x mx y my → y.length ≤ 4000000) ∧
  ∀ x' mx', Sr.Low2 p st U V s ms x mx x' mx' → Sr.LowAt st s x' → Qd (ePat x')
def cLawRest : List PyData → (PyData → Prop) → Prop := fun ds Qd => ∃ (p st A R : Int) (ss : List Pt.Pat) (x : Pt.Pat), ds = [.int p, .int st, eStairs ss, ePat x] ∧ TkIn p st A R ss x ∧ ∀ x', Rest p st ss x x' → Qd (ePat x')
/-- parts that are put together -/
structure PutIn2 (p st W : Int) (L : Nat) (bs : List Pt.Pat) (m : Mk.M) : Prop where
  good : GoodP p
  st0 : 0 ≤ st
  st8 : st ≤ 8
  pat : ∀ s ∈ bs, Pt.IsPat p s ∧ s.length ≤ L
  rng : Sr.Rng p m
  key : ∀ y ∈ m, 0 ≤ y.1.1 ∧ y.1.1 < bs.length
  win : ∀ y ∈ m, ∀ k, Pt.at_ (baseS bs y.1.1) k ≠ 0 → -W ≤ k + st * y.1.2 ∧ k + st * y.1.2 ≤ W
  len : m.length * L ≤ 16000000
  W0 : 0 ≤ W
  W1 : 2 * W + 1 ≤ 8000000
def cPutPartsR : List PyData → (PyData → Prop) → Prop := fun ds Qd => ∃ (p st W : Int) (L : Nat) (bs : List Pt.Pat) (m : Mk.M), ds = [.int p, .int st, eStairs bs, eParts m] ∧ PutIn2 p st W L bs m ∧ ∀ z, Pt.IsPat p z → (∀ k, Pt.at_ z k = Sr.Lin st (baseS bs) m k % p) → Qd (ePat z)
def cPutPartsL : List PyData → (PyData → Prop) → Prop := fun ds Qd => ∃ (p st W : Int) (L : Nat) (bs : List Pt.Pat) (m : Mk.M), ds = [.int p, .int st, ePats bs, eParts m] ∧ PutIn2 p st W L bs m ∧ ∀ z, Pt.IsPat p z → (∀ k, Pt.at_ z k = Sr.Lin st (baseS bs) m k % p) → Qd (ePat z)
def cTakenDown : List PyData → (PyData → Prop) → Prop := fun ds Qd => ∃ (p st A R : Int) (ss : List Pt.Pat) (x : Pt.Pat), ds = [.int p, .int st, eStairs ss, ePat x] ∧ TkIn p st A R ss x ∧ Rest p st ss x [] ∧ (∀ m, TakenR p st A R ss x [] m → ∃ (W : Int) (L : Nat), PutIn2 p st W L ss m) ∧ Qd (.bool true)
theorem TkIn.uniq {p st A R : Int} {ss : List Pt.Pat} {x x1 x2 : Pt.Pat} (h : TkIn p st A R ss x) (t1 : Rest p st ss x x1) (t2 : Rest p st ss x x2) : x1 = x2 := rest_one0 h.good h.st0 (fun s hs => (h.str.one s hs).1) h.str.rise t1 t2
/-- a pattern that stairs make leaves nothing -/
theorem gen_rest {p st : Int} {ss : List Pt.Pat} {x : Pt.Pat} (h : Sr.Gen p st (fun s => s ∈ ss) (Pt.at_ x)) : Rest p st ss x [] := by
  obtain ⟨m, hk, hm⟩ := h.span (S := baseS ss) (n := ss.length) fun s hs => by
    obtain ⟨i, hi, rfl⟩ := List.getElem_of_mem hs
    exact ⟨i, hi, Option.some.inj ((baseS_at hi).symm.trans (List.getElem?_eq_getElem hi))⟩
  refine ⟨Pt.IsPat.nil p, fun s hs k hc hl => absurd rfl hl, m, hk, fun k => ?_⟩
  rw [hm k]
  show _ = (0 + _) % p
  rw [Int.zero_add]
/-- a mixing is there -/
theorem mix_there {p : Int} (hp : 0 < p) (mx ms : Mk.M) (sh v : Int) : ∃ mz, Sr.Mix p mx ms sh v mz := ⟨_, Sr.mix_of (Mk.pick_tidy hp (List.Perm.refl _)) (Mk.pick_tidy hp (List.Perm.refl _))⟩
/-- the law's sum is a mixing -/
theorem sum_mix {p st : Int} (hp : 0 < p) {x s : Pt.Pat} (hx : Pt.IsPat p x) (hs : Pt.IsPat p s) (sh v : Int) : Pt.tidy p (x ++ s.map fun y => (y.1 + st * sh, y.2 * v)) = Sr.mixP p st x s sh v := by
  refine Pt.pat_ext (Pt.tidy_pat hp _) (Sr.mixP_pat hp _ _ _ _ _) fun k => ?_
  rw [Pt.tidy_at hp, Pt.sumAt_app, sumAt_mapmul, hx.at_sum, hs.at_sum, Sr.mixP_at hp hx hs]
def muP (st : Int) (s : Pt.Pat) (i : Nat) (Γ : G) : Nat := match Γ[i]? with
  | some (.sh (.tuple ds)) => Sr.mu st s (ds.map decP)
  | _ => 0
/-- makers put together are their stair -/
theorem made_is {p st : Int} (hp : 0 < p) {B : Int → Pt.Pat} {m : Mk.M} {s z : Pt.Pat} (hs : Pt.IsPat p s) (hz : Pt.IsPat p z) (h : Sr.Made p st B m [] s) (hat : ∀ k, Pt.at_ z k = Sr.Lin st B m k % p) : z = s := by
  refine Pt.pat_ext hz hs fun k => ?_
  have e := h k
  have r := hs.at_rng hp k
  have e0 : Pt.at_ ([] : Pt.Pat) k = 0 := rfl
  rw [e0, Int.zero_add, Int.emod_eq_of_lt r.1 r.2] at e
  rw [hat, ← e]
theorem fm_head {α : Type} {xs : List α} {h : α → Option PyData} (e : ∃ x ∈ xs, (h x).isSome = true) : ∃ x ∈ xs, ∃ d, h x = some d ∧ atI (xs.filterMap h) 0 = some d := by
  have hn : ∃ d r, xs.filterMap h = d :: r := by
    cases c : xs.filterMap h with
    | nil =>
      obtain ⟨x, hx, hs⟩ := e
      obtain ⟨d, hd⟩ := Option.isSome_iff_exists.mp hs
      have : d ∈ xs.filterMap h := List.mem_filterMap.mpr ⟨x, hx, hd⟩
      rw [c] at this
      cases this
    | cons d r => exact ⟨d, r, rfl⟩
  obtain ⟨d, r, hc⟩ := hn
  have hm : d ∈ xs.filterMap h := by rw [hc]; simp
  obtain ⟨x, hx, hd⟩ := List.mem_filterMap.mp hm
  refine ⟨x, hx, d, hd, ?_⟩
  rw [hc]
  unfold atI
  rw [show (0 : Int) = ((0 : Nat) : Int) from rfl, ixN_at (by simp)]
  rfl
end Dk

namespace Dk
open PySem PySem.Spec PyProof.Rows L2
/-! ### patterns within 60, at most eight: sizes -/
def lo60 (st : Int) : Int := -60 / st
def hi60 (st : Int) : Int := 60 / st
def A60 (st : Int) : Int := 2 * (Sr.mB st 8 * (hi60 st - lo60 st))
def D60 (st : Int) : Int := Sr.dK st (hi60 st - lo60 st) 8
def R60 (st : Int) : Int := -(lo60 st)
def W60 (st : Int) : Int := st * (A60 st + R60 st + 1) + 1000
theorem st_cases {st : Int} (h0 : 0 ≤ st) (h8 : st ≤ 8) : st = 0 ∨ st = 1 ∨ st = 2 ∨ st = 3 ∨ st = 4 ∨ st = 5 ∨ st = 6 ∨ st = 7 ∨ st = 8 := by omega
theorem size60 {st : Int} (h0 : 0 ≤ st) (h8 : st ≤ 8) : Sr.SizeOk st (hi60 st - lo60 st) 8 := by
  rcases st_cases h0 h8 with rfl | rfl | rfl | rfl | rfl | rfl | rfl | rfl | rfl <;> (unfold Sr.SizeOk; decide +kernel)
theorem nums60 {st : Int} (h0 : 0 ≤ st) (h8 : st ≤ 8) : 0 ≤ A60 st ∧ 0 ≤ R60 st ∧ hi60 st ≤ R60 st ∧ 0 ≤ D60 st ∧ lo60 st ≤ 0 ∧ 0 ≤ hi60 st ∧ st * (2 * (A60 st + R60 st) + 1) + 2001 ≤ 3000000 ∧ Sr.mB st 8 * (2 * R60 st + 1) ≤ 4000000 ∧ Sr.mB st 8 * (2 * R60 st + 1) * (st * (2 * A60 st + 1) + 2001) ≤ 16000000 ∧ 0 ≤ W60 st ∧ 2 * W60 st + 1 ≤ 8000000 ∧ 2 * (60 + st * D60 st) + 1 ≤ 8000000 ∧ 8 * (2 * D60 st + 1) ≤ 4000000 ∧ Sr.mB st 8 ≤ 8 := by
  rcases st_cases h0 h8 with rfl | rfl | rfl | rfl | rfl | rfl | rfl | rfl | rfl <;> decide +kernel
def In60 (x : Pt.Pat) : Prop := ∀ y ∈ x, -60 ≤ y.1 ∧ y.1 ≤ 60
theorem row60 {st k : Int} (h0 : 0 ≤ st) (h : -60 ≤ k ∧ k ≤ 60) : lo60 st ≤ Sr.row st k ∧ Sr.row st k ≤ hi60 st := by
  unfold lo60 hi60 Sr.row
  by_cases z : st = 0
  · subst z
    simp
  · exact ⟨Int.ediv_le_ediv (by omega) h.1, Int.ediv_le_ediv (by omega) h.2⟩
structure Ps60 (p st : Int) (ps : List Pt.Pat) : Prop where
  good : GoodP p
  st0 : 0 ≤ st
  st8 : st ≤ 8
  one : ∀ x ∈ ps, Pt.IsPat p x ∧ x.length ≤ 4000 ∧ In60 x
  len : ps.length ≤ 8
theorem in60_at {p : Int} {x : Pt.Pat} (hx : Pt.IsPat p x) (h : In60 x) {k : Int} (hk : Pt.at_ x k ≠ 0) : -60 ≤ k ∧ k ≤ 60 := h _ (Pt.at_mem hk)
section
variable {p st : Int} {ps : List Pt.Pat}
theorem baseS_nat {bs : List Pt.Pat} {t : Int} (h0 : 0 ≤ t) (h1 : t < bs.length) : baseS bs t ∈ bs := by
  obtain ⟨n, rfl⟩ : ∃ n : Nat, t = (n : Int) := ⟨t.toNat, by omega⟩
  exact List.mem_of_getElem? (baseS_at (by omega))
theorem Ps60.giv (h : Ps60 p st ps) : Sr.Giv p st (baseS ps) (lo60 st) (hi60 st) ps.length := by
  obtain ⟨_, _, _, _, l0, h0, _⟩ := nums60 h.st0 h.st8
  refine ⟨fun t t0 t1 => (h.one _ (baseS_nat t0 t1)).1, fun t t0 t1 k hk => ?_, fun t t0 t1 k hk _ => ?_, l0, h0⟩
  · obtain ⟨a, b, c⟩ := h.one _ (baseS_nat t0 t1)
    exact row60 h.st0 (in60_at a c hk)
  · obtain ⟨a, b, c⟩ := h.one _ (baseS_nat t0 t1)
    have := in60_at a c hk
    omega
theorem Ps60.size (h : Ps60 p st ps) : Sr.SizeOk st (hi60 st - lo60 st) ps.length := fun k hk => size60 h.st0 h.st8 k (by have := h.len; omega)
theorem mB_mono {st : Int} (h0 : 0 ≤ st) {a b : Nat} (h : a ≤ b) : Sr.mB st a ≤ Sr.mB st b := by unfold Sr.mB; split <;> omega
theorem dK_mono {st w : Int} (h0 : 0 ≤ st) (hw : 0 ≤ w) {a b : Nat} (h : a ≤ b) : Sr.dK st w a ≤ Sr.dK st w b := by
  induction h with
  | refl => exact Int.le_refl _
  | @step k _ ih =>
    refine Int.le_trans ih ?_
    obtain ⟨_, _, h3, h4⟩ := Sr.gN_pos hw (Sr.mB_pos h0 k)
    have h5 : 0 ≤ Sr.mB st (k + 1) * (2 * Sr.rN w (Sr.mB st k)) := Int.mul_nonneg (Sr.mB_pos h0 _) (by omega)
    show _ ≤ Sr.dK st w k + Sr.mB st k * Sr.gN w (Sr.mB st k) + Sr.rN w (Sr.mB st k) + Sr.mB st (k + 1) * (2 * Sr.rN w (Sr.mB st k))
    omega
theorem Ps60.built (h : Ps60 p st ps) {ss : List Pt.Pat} {ms : List Mk.M} (hb : Built p st (2 * (Sr.mB st ps.length * (hi60 st - lo60 st))) (Sr.dK st (hi60 st - lo60 st) ps.length) ps ss ms) : Built p st (A60 st) (D60 st) ps ss ms ∧ (ss.length : Int) ≤ Sr.mB st 8 := by
  obtain ⟨_, _, _, _, l0, h0, _⟩ := nums60 h.st0 h.st8
  have hw : 0 ≤ hi60 st - lo60 st := by omega
  have m1 := mB_mono h.st0 h.len
  have a1 : Sr.mB st ps.length * (hi60 st - lo60 st) ≤ Sr.mB st 8 * (hi60 st - lo60 st) := Int.mul_le_mul_of_nonneg_right m1 hw
  have d1 := dK_mono h.st0 hw h.len
  have eA : A60 st = 2 * (Sr.mB st 8 * (hi60 st - lo60 st)) := rfl
  have eD : D60 st = Sr.dK st (hi60 st - lo60 st) 8 := rfl
  exact ⟨⟨hb.len, hb.cnt, hb.stair, hb.rise, hb.low, fun s hs k hk => by have := hb.rows s hs k hk; omega, hb.pl, fun i s m hs hm => by
    obtain ⟨b1, b2, b3, b4⟩ := hb.mak i s m hs hm
    exact ⟨b1, b2, fun y hy => by have := b3 y hy; exact ⟨this.1, this.2.1, this.2.2.1, by omega, by omega⟩, b4⟩, hb.span⟩, Int.le_trans hb.cnt m1⟩
variable {ss : List Pt.Pat} {ms : List Mk.M} {x : Pt.Pat}
theorem Ps60.tk (h : Ps60 p st ps) (hb : Built p st (A60 st) (D60 st) ps ss ms) (hc : (ss.length : Int) ≤ Sr.mB st 8) (hx : Pt.IsPat p x) (h60 : In60 x) : TkIn p st (A60 st) (R60 st) ss x := by
  obtain ⟨a0, r0, hr, d0, l0, h0, n1, n2, n3, n4, n5, n6, n7, n8⟩ := nums60 h.st0 h.st8
  have rr : R60 st = -(lo60 st) := rfl
  refine ⟨h.good, h.st0, h.st8, a0, r0, hb.stairs, by omega, hx, fun k hk => ?_, fun k hk _ => ?_, by omega, r0, by omega, by omega, ?_⟩
  · have := row60 h.st0 (in60_at hx h60 hk)
    omega
  · have := in60_at hx h60 hk
    omega
  · have : (ss.length : Int) * (2 * R60 st + 1) ≤ Sr.mB st 8 * (2 * R60 st + 1) := Int.mul_le_mul_of_nonneg_right hc (by omega)
    omega
theorem Ps60.stair_len (h : Ps60 p st ps) (hb : Built p st (A60 st) (D60 st) ps ss ms) {s : Pt.Pat} (hs : s ∈ ss) : (s.length : Int) ≤ st * (2 * A60 st + 1) + 2001 := by
  obtain ⟨a0, _⟩ := nums60 h.st0 h.st8
  exact Sr.len_rows (m := []) h.st0 a0 (hb.stair s hs).pat (hb.rows s hs) (hb.pl s hs)
theorem Ps60.ssIn (h : Ps60 p st ps) (hb : Built p st (A60 st) (D60 st) ps ss ms) (hc : (ss.length : Int) ≤ Sr.mB st 8) : SsIn p st ss := by
  obtain ⟨a0, r0, hr, d0, l0, h0, n1, n2, n3, n4, n5, n6, n7, n8⟩ := nums60 h.st0 h.st8
  refine ⟨h.good, h.st0, h.st8, fun s hs => ⟨hb.stair s hs, ?_⟩, hb.rise, by omega⟩
  have := h.stair_len hb hs
  have m1 : st * (2 * A60 st + 1) ≤ st * (2 * (A60 st + R60 st) + 1) := Int.mul_le_mul_of_nonneg_left (by omega) h.st0
  omega
/-- a stair's places -/
theorem Ps60.place (h : Ps60 p st ps) (hb : Built p st (A60 st) (D60 st) ps ss ms) {s : Pt.Pat} (hs : s ∈ ss) {k q : Int} (hk : Pt.at_ s k ≠ 0) (hz : st = 0 → q = 0) (h1 : -(R60 st) ≤ q) (h2 : q ≤ R60 st) : -(W60 st) ≤ k + st * q ∧ k + st * q ≤ W60 st := by
  obtain ⟨a0, r0, _⟩ := nums60 h.st0 h.st8
  have eW : W60 st = st * (A60 st + R60 st + 1) + 1000 := rfl
  by_cases z : st = 0
  · have := hb.pl s hs k hk z
    have e1 : st * q = 0 := by rw [z, Int.zero_mul]
    have e2 : st * (A60 st + R60 st + 1) = 0 := by rw [z, Int.zero_mul]
    omega
  · have h0 := h.st0
    have hr := hb.rows s hs k hk
    have := Sr.row_place (by omega) hr
    have b1 : st * -(R60 st) ≤ st * q := Int.mul_le_mul_of_nonneg_left h1 h0
    have b2 : st * q ≤ st * R60 st := Int.mul_le_mul_of_nonneg_left h2 h0
    rw [Int.mul_neg] at b1
    rw [Int.mul_neg] at this
    rw [Int.mul_add] at this
    rw [Int.mul_add, Int.mul_add] at eW
    omega
theorem Ps60.putS (h : Ps60 p st ps) (hb : Built p st (A60 st) (D60 st) ps ss ms) (hc : (ss.length : Int) ≤ Sr.mB st 8) {m : Mk.M} {x' : Pt.Pat} (tk : TakenR p st (A60 st) (R60 st) ss x x' m) : PutIn2 p st (W60 st) (st * (2 * A60 st + 1) + 2001).toNat ss m := by
  obtain ⟨a0, r0, hr, d0, l0, h0, n1, n2, n3, n4, n5, n6, n7, n8⟩ := nums60 h.st0 h.st8
  have nn : 0 ≤ st * (2 * A60 st + 1) := Int.mul_nonneg h.st0 (by omega)
  refine ⟨h.good, h.st0, h.st8, fun s hs => ⟨(hb.stair s hs).pat, ?_⟩, tk.rng, fun y hy => ⟨(tk.keys y hy).1, (tk.keys y hy).2.1⟩, fun y hy k hk => ?_, ?_, n4, n5⟩
  · have := h.stair_len hb hs
    omega
  · have := tk.keys y hy
    exact h.place hb (baseS_nat this.1 this.2.1) hk this.2.2.1 this.2.2.2.1 this.2.2.2.2
  · have l1 := Sr.len_keys (Kw := ss.length) (by omega) r0 tk.nd (fun y hy => ⟨(tk.keys y hy).1, (tk.keys y hy).2.1⟩) fun y hy => (tk.keys y hy).2.2.2
    have l2 : (ss.length : Int) * (2 * R60 st + 1) ≤ Sr.mB st 8 * (2 * R60 st + 1) := Int.mul_le_mul_of_nonneg_right hc (by omega)
    have l3 : (m.length : Int) * (st * (2 * A60 st + 1) + 2001) ≤ Sr.mB st 8 * (2 * R60 st + 1) * (st * (2 * A60 st + 1) + 2001) := Int.mul_le_mul_of_nonneg_right (by omega) (by omega)
    have e : ((m.length * (st * (2 * A60 st + 1) + 2001).toNat : Nat) : Int) = (m.length : Int) * (st * (2 * A60 st + 1) + 2001) := by
      rw [Int.natCast_mul, Int.toNat_of_nonneg (by omega)]
    omega
theorem Ps60.putM (h : Ps60 p st ps) (hb : Built p st (A60 st) (D60 st) ps ss ms) (h4 : ∀ x ∈ ps, x.length ≤ 4) {i : Nat} {s : Pt.Pat} {m : Mk.M} (hs : ss[i]? = some s) (hm : ms[i]? = some m) : PutIn2 p st (60 + st * D60 st) 4 ps m := by
  obtain ⟨a0, r0, hr, d0, l0, h0, n1, n2, n3, n4, n5, n6, n7, n8⟩ := nums60 h.st0 h.st8
  obtain ⟨b1, b2, b3, b4⟩ := hb.mak i s m hs hm
  have nn : 0 ≤ st * D60 st := Int.mul_nonneg h.st0 d0
  refine ⟨h.good, h.st0, h.st8, fun x hx => ⟨(h.one x hx).1, h4 x hx⟩, b1, fun y hy => ⟨(b3 y hy).1, (b3 y hy).2.1⟩, fun y hy k hk => ?_, ?_, by omega, n6⟩
  · have := b3 y hy
    obtain ⟨c1, c2, c3⟩ := h.one _ (baseS_nat this.1 this.2.1)
    have := in60_at c1 c3 hk
    have e1 : st * -(D60 st) ≤ st * y.1.2 := Int.mul_le_mul_of_nonneg_left (by omega) h.st0
    have e2 : st * y.1.2 ≤ st * D60 st := Int.mul_le_mul_of_nonneg_left (by omega) h.st0
    rw [Int.mul_neg] at e1
    omega
  · have l1 := Sr.len_keys (Kw := ps.length) (by omega) d0 b2 (fun y hy => ⟨(b3 y hy).1, (b3 y hy).2.1⟩) fun y hy => (b3 y hy).2.2.2
    have l2 : (ps.length : Int) * (2 * D60 st + 1) ≤ 8 * (2 * D60 st + 1) := Int.mul_le_mul_of_nonneg_right (by have := h.len; omega) (by omega)
    omega
theorem Ps60.mak_len (h : Ps60 p st ps) (hb : Built p st (A60 st) (D60 st) ps ss ms) {i : Nat} {s : Pt.Pat} {m : Mk.M} (hs : ss[i]? = some s) (hm : ms[i]? = some m) : m.length ≤ 4000000 := by
  obtain ⟨a0, r0, hr, d0, l0, h0, n1, n2, n3, n4, n5, n6, n7, n8⟩ := nums60 h.st0 h.st8
  obtain ⟨b1, b2, b3, b4⟩ := hb.mak i s m hs hm
  have l1 := Sr.len_keys (Kw := ps.length) (by omega) d0 b2 (fun y hy => ⟨(b3 y hy).1, (b3 y hy).2.1⟩) fun y hy => (b3 y hy).2.2.2
  have l2 : (ps.length : Int) * (2 * D60 st + 1) ≤ 8 * (2 * D60 st + 1) := Int.mul_le_mul_of_nonneg_right (by have := h.len; omega) (by omega)
  omega
end
theorem stairs_at0 {ss : List Pt.Pat} {s : Pt.Pat} (h : ss[0]? = some s) : atI (ss.map ePat) 0 = some (ePat s) := stairs_at (k := 0) h
end Dk

namespace Dk
open PySem PySem.Spec PyProof.Rows L2
/-! ### rests are there; one form of stairs -/
theorem win_there {p st : Int} {s x : Pt.Pat} (h0 : 0 ≤ st) (S : Sr.Stair p st s) : ∃ U, 0 ≤ U ∧ Sr.Win st U U s x := by
  have key : ∀ xs : Pt.Pat, ∃ U : Int, 0 ≤ U ∧ ∀ y ∈ xs, -U ≤ Sr.row st y.1 ∧ Sr.row st y.1 ≤ U := by
    intro xs
    induction xs with
    | nil => exact ⟨0, Int.le_refl _, fun y h => nomatch h⟩
    | cons y r ih =>
      obtain ⟨U, h1, h2⟩ := ih
      refine ⟨U + (Sr.row st y.1).natAbs, by omega, fun z hz => ?_⟩
      rcases List.mem_cons.mp hz with rfl | hz
      · omega
      · have := h2 z hz
        omega
  obtain ⟨U, h1, h2⟩ := key x
  exact ⟨U, h1, Sr.win_rows (m := []) h0 S h1 fun k hk => h2 _ (Pt.at_mem hk)⟩
theorem lower_there {p st : Int} (hp : GoodP p) (h0 : 0 ≤ st) {s x : Pt.Pat} {ms mx : Mk.M} {U V : Int} (u0 : 0 ≤ U) (v0 : 0 ≤ V) (S : Sr.Stair p st s) : ∀ (n : Nat) (y : Pt.Pat) (my : Mk.M), muX st s y ≤ n → Sr.Low2 p st U V s ms x mx y my → Sr.Win st U V s y → ∃ z mz, Sr.Low2 p st U V s ms x mx z mz ∧ Sr.LowAt st s z := by
  have hp0 := hp.pos
  have hp2 : 1 < p := by have := hp.two; omega
  intro n
  induction n with
  | zero =>
    intro y my hn lo wy
    rcases Sr.out_len (st := st) (s := s) (x := y) with ho | ⟨k, ho⟩
    · exact ⟨y, my, lo, (Sr.low_out lo.pat).mp ho⟩
    · exfalso
      obtain ⟨hk, hl, hcase⟩ := Sr.out_one lo.pat ho
      have h1 : Sr.upF st s k ≤ Sr.hiM (Sr.upF st s) (y.map (·.1)) := Sr.le_hiM ((Sr.mem_at lo.pat).mpr hl)
      have h2 : Sr.dnF st s k ≤ Sr.hiM (Sr.dnF st s) (y.map (·.1)) := Sr.le_hiM ((Sr.mem_at lo.pat).mpr hl)
      unfold muX Sr.mu at hn
      have e1 : Sr.upF st s k = (k - Sr.topC st s + 1).toNat := by unfold Sr.upF; rw [if_pos hk]
      have e2 : Sr.dnF st s k = (Sr.firstC st s - k).toNat := by unfold Sr.dnF; rw [if_pos hk]
      rcases hcase with ⟨c, _⟩ | ⟨c, _⟩ <;> omega
  | succ n ih =>
    intro y my hn lo wy
    rcases Sr.out_len (st := st) (s := s) (x := y) with ho | ⟨k, ho⟩
    · exact ⟨y, my, lo, (Sr.low_out lo.pat).mp ho⟩
    · obtain ⟨hk, hl, hcase⟩ := Sr.out_one lo.pat ho
      have ykr := wy k hk hl
      have tg := Sr.top_ge h0 S
      rcases hcase with ⟨h1, h2⟩ | ⟨h1, h2, h3⟩
      · obtain ⟨sh, hsh⟩ : ∃ sh, sh = (if 0 < st then (k - Sr.firstC st s) / st else 0) - (if Sr.firstC st s < k then Sr.lenC st s else 0) := ⟨_, rfl⟩
        have he : st * sh = k - Sr.topC st s := by rw [hsh]; exact Sr.shift_top h0 S hk h1
        have hz : st = 0 → sh = 0 := fun z => by
          have hk0 : k = Sr.firstC st s := by rw [z] at hk; rw [z, ← hk]; rfl
          rw [hsh, if_neg (by omega), if_neg (by omega)]
          rfl
        have hz1 : -U ≤ sh := by
          by_cases z : st = 0
          · rw [hz z]; omega
          · have : 0 ≤ sh := Sr.quo_le (st := st) (by omega) (by rw [Int.mul_zero]; omega)
            omega
        have hz2 : sh ≤ V := by
          by_cases z : st = 0
          · rw [hz z]; exact v0
          · exact Sr.quo_le (st := st) (by omega) (by omega)
        have hmu := Sr.mu_down hp2 lo.pat S hk hl h1 he h2
        obtain ⟨mz, hmix⟩ := mix_there hp0 my ms sh (-(Pt.at_ y k))
        refine ih _ mz ?_ (Sr.low2_mix hp0 S lo hmix hz hz1 hz2) (Sr.win_mix hp0 h0 lo.pat S wy hz1 hz2)
        unfold muX at hn ⊢
        omega
      · obtain ⟨z1, z2⟩ := Sr.shift_bot h0 S hk h1
        have b0 := S.pat.at_rng hp0 (Sr.firstC st s)
        have b1 := S.bot
        obtain ⟨u, _, _, u2⟩ := inv_there (s := Pt.at_ s (Sr.firstC st s)) hp (by omega) b0.2
        obtain ⟨sh, hsh⟩ : ∃ sh, sh = (k - Sr.firstC st s) / st := ⟨_, rfl⟩
        rw [← hsh] at z2
        have hz : st = 0 → sh = 0 := fun z => by omega
        have hz1 : -U ≤ sh := Sr.quo_le (st := st) z1 (by rw [Int.mul_neg]; omega)
        have hz2 : sh ≤ V := by
          have : sh ≤ 0 := Sr.quo_le (st := st) z1 (by rw [Int.mul_zero]; omega)
          omega
        have hmu := Sr.mu_up hp2 lo.pat S hk hl h1 z2 u2 h2
        obtain ⟨mz, hmix⟩ := mix_there hp0 my ms sh (-(Pt.at_ y k * u))
        refine ih _ mz ?_ (Sr.low2_mix hp0 S lo hmix hz hz1 hz2) (Sr.win_mix hp0 h0 lo.pat S wy hz1 hz2)
        unfold muX at hn ⊢
        omega
/-- stairs, not settled -/
structure StQ (p st : Int) (ss : List Pt.Pat) : Prop where
  one : ∀ s ∈ ss, Sr.Stair p st s
  rise : ss.Pairwise fun a b => Sr.firstC st a < Sr.firstC st b
theorem StQ.order {p st : Int} {ss : List Pt.Pat} (h : StQ p st ss) {i j : Nat} {a b : Pt.Pat} (hij : i < j) (ha : ss[i]? = some a) (hb : ss[j]? = some b) : Sr.firstC st a < Sr.firstC st b := by
  have h1 := lt_of_get ha
  have h2 := lt_of_get hb
  have := List.pairwise_iff_getElem.mp h.rise i j h1 h2 hij
  rw [List.getElem?_eq_getElem h1] at ha
  rw [List.getElem?_eq_getElem h2] at hb
  cases ha
  cases hb
  exact this
theorem cop_key {st : Int} {B : Int → Pt.Pat} (t : Int) (f : Int → Int) (hf : ∀ k, Pt.at_ (B t) k = f k) : ∀ (m : Mk.M) (k : Int), Sr.Lin st B (m.map fun q => ((t, q.1.2), q.2 * -1)) k = -(Sr.Cop st f m k)
  | [], _ => rfl
  | x :: r, k => by
    show Pt.at_ (B t) (k - st * x.1.2) * (x.2 * -1) + Sr.Lin st B (r.map fun q => ((t, q.1.2), q.2 * -1)) k = -(f (k - st * x.1.2) * x.2 + Sr.Cop st f r k)
    rw [cop_key t f hf r k, hf, show x.2 * -1 = -x.2 by omega, Int.mul_neg]
    omega
theorem rest_there {p st : Int} (hp : GoodP p) (h0 : 0 ≤ st) {ss : List Pt.Pat} (hs : StQ p st ss) {x : Pt.Pat} (hx : Pt.IsPat p x) : ∃ r, Rest p st ss x r := by
  have key : ∀ k : Nat, k ≤ ss.length → ∃ y, Pt.IsPat p y ∧ (∀ (i : Nat) (s : Pt.Pat), i < k → ss[i]? = some s → Sr.LowAt st s y) ∧ ∃ m : Mk.M, (∀ q ∈ m, 0 ≤ q.1.1 ∧ q.1.1 < ss.length ∧ (st = 0 → q.1.2 = 0)) ∧ ∀ j, Pt.at_ x j % p = (Pt.at_ y j + Sr.Lin st (baseS ss) m j) % p := by
    intro k
    induction k with
    | zero => exact fun _ => ⟨x, hx, fun i s h => absurd h (by omega), [], (fun _ h => nomatch h), fun j => by show _ = (_ + 0) % p; rw [Int.add_zero]⟩
    | succ k ih =>
      intro hk
      obtain ⟨y, y1, y2, m, m1, m2⟩ := ih (by omega)
      obtain ⟨s, hsk⟩ : ∃ s, ss[k]? = some s := ⟨_, List.getElem?_eq_getElem (by omega)⟩
      have S := hs.one s (List.mem_of_getElem? hsk)
      obtain ⟨U, u0, hw⟩ := win_there (x := y) h0 S
      obtain ⟨z, mz, hl, hlow⟩ := lower_there (ms := []) hp h0 u0 u0 S _ y [] (Nat.le_refl _) (Sr.low2_init y1 (fun _ h => nomatch h) .nil) hw
      obtain ⟨mq, q1, q2⟩ := hl.dif
      refine ⟨z, hl.pat, fun i t hi ht => ?_, m ++ mq.map (fun q => (((k : Int), q.1.2), q.2 * -1)), fun q hq => ?_, fun j => ?_⟩
      · by_cases c : i = k
        · subst c
          rw [hsk] at ht
          cases ht
          exact hlow
        · have hr := hs.order (show i < k by omega) ht hsk
          intro j hj hjl
          rw [hl.ahead j (by omega)] at hjl
          exact y2 i t (by omega) ht j hj hjl
      · rcases List.mem_append.mp hq with c | c
        · exact m1 q c
        · obtain ⟨a, ha, rfl⟩ := List.mem_map.mp c
          exact ⟨by show (0 : Int) ≤ k; omega, by show (k : Int) < _; omega, q1 a ha⟩
      · have eb : ∀ i, Pt.at_ (baseS ss (k : Int)) i = Pt.at_ s i := fun i => by rw [Option.some.inj ((baseS_at (by omega)).symm.trans hsk)]
        rw [m2 j, lin_app, cop_key (k : Int) (Pt.at_ s) eb]
        have e := q2 j
        have e' : (Pt.at_ z j + (Sr.Lin st (baseS ss) m j + -(Sr.Cop st (Pt.at_ s) mq j))) % p = (Pt.at_ y j + Sr.Cop st (Pt.at_ s) mq j + (Sr.Lin st (baseS ss) m j + -(Sr.Cop st (Pt.at_ s) mq j))) % p := by rw [Int.add_emod, e, ← Int.add_emod]
        rw [e']
        congr 1
        omega
  obtain ⟨r, r1, r2, r3⟩ := key ss.length (Nat.le_refl _)
  refine ⟨r, r1, fun s hs' => ?_, r3⟩
  obtain ⟨i, hi, e⟩ := List.getElem_of_mem hs'
  exact r2 i s hi (by rw [List.getElem?_eq_getElem hi, e])
/-- what stairs make and what lies low is nought -/
theorem null_low {p st : Int} (hp : GoodP p) (h0 : 0 ≤ st) {ss : List Pt.Pat} (hs : StQ p st ss) {f : Int → Int} (hf : Sr.Gen p st (fun s => s ∈ ss) f) (hl : ∀ s ∈ ss, ∀ k, Sr.col st k = Sr.firstC st s → f k % p ≠ 0 → Sr.firstC st s ≤ k ∧ k < Sr.topC st s) : ∀ k, f k % p = 0 := by
  have hp2 : 1 < p := by have := hp.two; omega
  obtain ⟨m, hk, hm⟩ := hf.span (S := baseS ss) (n := ss.length) fun s hs => by
    obtain ⟨i, hi, rfl⟩ := List.getElem_of_mem hs
    exact ⟨i, hi, Option.some.inj ((baseS_at hi).symm.trans (List.getElem?_eq_getElem hi))⟩
  have mem : ∀ i : Nat, i < ss.length → baseS ss (i : Int) ∈ ss := fun i hi => List.mem_of_getElem? (baseS_at hi)
  have nul := Sr.all_null (st := st) (B := baseS ss) (n := ss.length) hp2 (noZero hp) h0 (fun i hi => hs.one _ (mem i hi)) (fun i j hij hj => hs.order hij (baseS_at (by omega)) (baseS_at hj)) ss.length m (Nat.le_refl _) (fun q hq => by
    have := hk q hq
    exact ⟨by omega, this.2.1, this.2.2⟩) (fun i hi k hc hne => by
    rw [← hm k] at hne
    exact hl _ (mem i hi) k hc hne)
  exact fun k => by rw [hm k]; exact nul k
/-- a pattern's first column is a stair's, and it is no shorter -/
theorem first_in {p st : Int} (hp : GoodP p) (h0 : 0 ≤ st) {ss : List Pt.Pat} (hs : StQ p st ss) {x : Pt.Pat} (hx : Pt.IsPat p x) (hn : x ≠ []) (hg : Sr.Gen p st (fun s => s ∈ ss) (Pt.at_ x)) : ∃ s ∈ ss, Sr.firstC st s = Sr.firstC st x ∧ Sr.lenC st s ≤ Sr.lenC st x := by
  have hp0 := hp.pos
  have hp2 : 1 < p := by have := hp.two; omega
  have e := Sr.ends_of h0 hx hn
  apply Classical.byContradiction
  intro hno
  have no : ∀ s ∈ ss, Sr.firstC st s = Sr.firstC st x → Sr.lenC st x < Sr.lenC st s := fun s hs' hc => by
    rcases Int.lt_or_le (Sr.lenC st x) (Sr.lenC st s) with z | z
    · exact z
    · exact absurd ⟨s, hs', hc, z⟩ hno
  have zsh : st = 0 → -(Sr.brow st x) = 0 := fun z => by unfold Sr.brow; rw [z, Sr.row_zero]; rfl
  have hx1 : Pt.IsPat p (Pt.moved x (st * -(Sr.brow st x))) := Pt.moved_pat hx _
  have at1 : ∀ k, Pt.at_ (Pt.moved x (st * -(Sr.brow st x))) k = Pt.at_ x (k - st * -(Sr.brow st x)) := fun k => Pt.moved_at _ _ _
  obtain ⟨ss', hss'⟩ : ∃ ss', ss' = ss.filter fun s => decide (Sr.firstC st x < Sr.firstC st s) := ⟨_, rfl⟩
  have sub : ∀ s ∈ ss', s ∈ ss ∧ Sr.firstC st x < Sr.firstC st s := fun s h => by
    rw [hss', List.mem_filter] at h
    exact ⟨h.1, of_decide_eq_true h.2⟩
  have hs' : StQ p st ss' := ⟨fun s h => hs.one s (sub s h).1, by rw [hss']; exact hs.rise.filter _⟩
  obtain ⟨r, r1, r2, m, m1, m2⟩ := rest_there hp h0 hs' hx1
  have lin0 : ∀ k, Sr.col st k ≤ Sr.firstC st x → Sr.Lin st (baseS ss') m k = 0 := fun k hk => by
    have : ∀ m' : Mk.M, (∀ q ∈ m', 0 ≤ q.1.1 ∧ q.1.1 < ss'.length) → Sr.Lin st (baseS ss') m' k = 0 := by
      intro m'
      induction m' with
      | nil => exact fun _ => rfl
      | cons a t ih =>
        intro h
        show Pt.at_ (baseS ss' a.1.1) (k - st * a.1.2) * a.2 + Sr.Lin st (baseS ss') t k = 0
        rw [ih fun q hq => h q (by simp [hq])]
        have ha := h a (by simp)
        have := (sub _ (baseS_nat ha.1 ha.2)).2
        rw [Sr.dark_col (by rw [Sr.col_sub]; omega), Int.zero_mul]
        rfl
    exact this m fun q hq => ⟨(m1 q hq).1, (m1 q hq).2.1⟩
  have same : ∀ k, Sr.col st k ≤ Sr.firstC st x → Pt.at_ r k = Pt.at_ x (k - st * -(Sr.brow st x)) := fun k hk => by
    have := m2 k
    rw [lin0 k hk, Int.add_zero, at1] at this
    have a1 := r1.at_rng hp0 k
    have a2 := hx.at_rng hp0 (k - st * -(Sr.brow st x))
    rw [Int.emod_eq_of_lt a1.1 a1.2, Int.emod_eq_of_lt a2.1 a2.2] at this
    exact this.symm
  have gx1 : Sr.Gen p st (fun s => s ∈ ss) (Pt.at_ (Pt.moved x (st * -(Sr.brow st x)))) := (hg.moved (-(Sr.brow st x)) 1 zsh).cong fun k => by rw [at1, Int.mul_one]
  have gl : Sr.Gen p st (fun s => s ∈ ss) (Sr.Lin st (baseS ss') m) := by
    have : ∀ m' : Mk.M, (∀ q ∈ m', 0 ≤ q.1.1 ∧ q.1.1 < ss'.length ∧ (st = 0 → q.1.2 = 0)) → Sr.Gen p st (fun s => s ∈ ss) (Sr.Lin st (baseS ss') m') := by
      intro m'
      induction m' with
      | nil => exact fun _ => Sr.Gen.zero
      | cons a t ih =>
        intro h
        have ha := h a (by simp)
        exact .copy a.1.2 a.2 (sub _ (baseS_nat ha.1 ha.2.1)).1 ha.2.2 (ih fun q hq => h q (by simp [hq]))
    exact this m m1
  have gr : Sr.Gen p st (fun s => s ∈ ss) (Pt.at_ r) := (gx1.add gl.neg).cong fun k => by
    have := m2 k
    show Pt.at_ r k % p = (Pt.at_ (Pt.moved x (st * -(Sr.brow st x))) k + -(Sr.Lin st (baseS ss') m k)) % p
    rw [Int.add_emod, this, ← Int.add_emod]
    congr 1
    omega
  have nul := null_low hp h0 hs gr fun s hs1 k hc hne => by
    have hl : Pt.at_ r k ≠ 0 := fun z => hne (by rw [z]; exact Int.zero_emod p)
    rcases Int.lt_trichotomy (Sr.firstC st s) (Sr.firstC st x) with z | z | z
    · rw [same k (by omega)] at hl
      have := Sr.first_le (st := st) hl
      rw [Sr.col_sub] at this
      omega
    · rw [same k (by omega)] at hl
      have hin := e.inn _ (by rw [Sr.col_sub, hc, z]) hl
      have hlen := no s hs1 z
      have eb := e.eb
      have et := e.et
      rw [Int.mul_neg] at hin
      have ht : Sr.topC st s = Sr.firstC st s + st * Sr.lenC st s := rfl
      refine ⟨by omega, ?_⟩
      by_cases w : st = 0
      · have h1 := (hs.one s hs1).ln
        have : Sr.lenC st s = 0 := by unfold Sr.lenC; rw [if_pos w]
        have := e.ln
        omega
      · have : st * Sr.lenC st x < st * Sr.lenC st s := Int.mul_lt_mul_of_pos_left hlen (by omega)
        omega
    · exact r2 s (by rw [hss', List.mem_filter]; exact ⟨hs1, decide_eq_true z⟩) k hc hl
  have hb : Pt.at_ r (Sr.firstC st x) ≠ 0 := by
    rw [same _ (by rw [e.cc]; exact Int.le_refl _), Int.mul_neg]
    have eb := e.eb
    rw [show Sr.firstC st x - -(st * Sr.brow st x) = Sr.bot st x by omega]
    exact e.b2
  have := nul (Sr.firstC st x)
  have r := r1.at_rng hp0 (Sr.firstC st x)
  rw [Int.emod_eq_of_lt r.1 r.2] at this
  exact hb this
theorem sorted_same {α : Type} {f : α → Int} : ∀ {a b : List α}, a.Pairwise (fun x y => f x < f y) → b.Pairwise (fun x y => f x < f y) → (∀ x, x ∈ a ↔ x ∈ b) → a = b
  | [], [], _, _, _ => rfl
  | [], y :: b, _, _, h => by have := (h y).mpr (by simp); cases this
  | x :: a, [], _, _, h => by have := (h x).mp (by simp); cases this
  | x :: a, y :: b, ha, hb, h => by
    obtain ⟨a1, a2⟩ := List.pairwise_cons.mp ha
    obtain ⟨b1, b2⟩ := List.pairwise_cons.mp hb
    have e : x = y := by
      rcases List.mem_cons.mp ((h x).mp (by simp)) with z | z
      · exact z
      · rcases List.mem_cons.mp ((h y).mpr (by simp)) with w | w
        · exact w.symm
        · have := b1 x z
          have := a1 y w
          omega
    subst e
    rw [sorted_same a2 b2 fun z => ?_]
    constructor
    · intro hz
      rcases List.mem_cons.mp ((h z).mp (by simp [hz])) with w | w
      · subst w
        have := a1 z hz
        omega
      · exact w
    · intro hz
      rcases List.mem_cons.mp ((h z).mpr (by simp [hz])) with w | w
      · subst w
        have := b1 z hz
        omega
      · exact w
/-- settled stairs -/
structure StL (p st : Int) (ss : List Pt.Pat) : Prop extends StQ p st ss where
  low : ∀ (i j : Nat) a b, i < j → ss[i]? = some a → ss[j]? = some b → Sr.LowAt st b a
theorem StL.behind {p st : Int} {ss : List Pt.Pat} (h : StL p st ss) {a b : Pt.Pat} (ha : a ∈ ss) (hb : b ∈ ss) (hc : Sr.firstC st a < Sr.firstC st b) : Sr.LowAt st b a := by
  obtain ⟨i, hi, e1⟩ := List.getElem_of_mem ha
  obtain ⟨j, hj, e2⟩ := List.getElem_of_mem hb
  have g1 : ss[i]? = some a := by rw [List.getElem?_eq_getElem hi, e1]
  have g2 : ss[j]? = some b := by rw [List.getElem?_eq_getElem hj, e2]
  rcases Nat.lt_trichotomy i j with z | z | z
  · exact h.low i j a b z g1 g2
  · subst z
    rw [g1] at g2
    cases g2
    omega
  · have := h.order z g2 g1
    omega
theorem StQ.one_col {p st : Int} {ss : List Pt.Pat} (h : StQ p st ss) {a b : Pt.Pat} (ha : a ∈ ss) (hb : b ∈ ss) (hc : Sr.firstC st a = Sr.firstC st b) : a = b := by
  obtain ⟨i, hi, e1⟩ := List.getElem_of_mem ha
  obtain ⟨j, hj, e2⟩ := List.getElem_of_mem hb
  have g1 : ss[i]? = some a := by rw [List.getElem?_eq_getElem hi, e1]
  have g2 : ss[j]? = some b := by rw [List.getElem?_eq_getElem hj, e2]
  rcases Nat.lt_trichotomy i j with z | z | z
  · have := h.order z g1 g2; omega
  · subst z
    rw [g1] at g2
    exact Option.some.inj g2
  · have := h.order z g2 g1; omega
theorem stair_one {p st : Int} (hp : GoodP p) (h0 : 0 ≤ st) {ss tt : List Pt.Pat} (h1 : StL p st ss) (h2 : StL p st tt) (g1 : ∀ s ∈ ss, Sr.Gen p st (fun t => t ∈ tt) (Pt.at_ s)) (g2 : ∀ t ∈ tt, Sr.Gen p st (fun s => s ∈ ss) (Pt.at_ t)) : ∀ s ∈ ss, s ∈ tt := fun s hs => by
  have hp0 := hp.pos
  have pair : ∀ u ∈ ss, ∃ v ∈ tt, Sr.firstC st v = Sr.firstC st u ∧ Sr.lenC st v = Sr.lenC st u := fun u hu => by
    have Su := h1.one u hu
    obtain ⟨v, hv, c1, c2⟩ := first_in hp h0 h2.toStQ Su.pat Su.ne (g1 u hu)
    have Sv := h2.one v hv
    obtain ⟨w, hw, d1, d2⟩ := first_in hp h0 h1.toStQ Sv.pat Sv.ne (g2 v hv)
    have := h1.toStQ.one_col hw hu (by omega)
    subst this
    exact ⟨v, hv, c1, by omega⟩
  obtain ⟨t, ht, c1, c2⟩ := pair s hs
  have S := h1.one s hs
  have T := h2.one t ht
  have etop : Sr.topC st t = Sr.topC st s := by unfold Sr.topC; rw [c1, c2]
  have gd : Sr.Gen p st (fun s => s ∈ ss) fun k => Pt.at_ s k + -(Pt.at_ t k) := (Sr.Gen.one (p := p) (st := st) (L := fun s => s ∈ ss) hs).add (g2 t ht).neg
  have nul := null_low hp h0 h1.toStQ gd fun u hu k hc hne => by
    have hor : Pt.at_ s k ≠ 0 ∨ Pt.at_ t k ≠ 0 := by
      by_cases a : Pt.at_ s k = 0
      · by_cases b : Pt.at_ t k = 0
        · exfalso
          apply hne
          rw [a, b]
          exact Int.zero_emod p
        · exact .inr b
      · exact .inl a
    have hc0 : Sr.firstC st s ≤ Sr.col st k := by
      rcases hor with z | z
      · exact Sr.first_le z
      · have := Sr.first_le (st := st) z
        omega
    obtain ⟨v, hv, e1, e2⟩ := pair u hu
    have ev : Sr.topC st v = Sr.topC st u := by unfold Sr.topC; rw [e1, e2]
    by_cases q : Sr.firstC st u = Sr.firstC st s
    · have := h1.toStQ.one_col hu hs q
      subst this
      have inn : Sr.firstC st u ≤ k ∧ k ≤ Sr.topC st u := by
        rcases hor with z | z
        · refine ⟨?_, ?_⟩
          · rcases Int.lt_or_le k (Sr.firstC st u) with w | w
            · exact absurd (S.low k hc w) z
            · exact w
          · rcases Int.lt_or_le (Sr.topC st u) k with w | w
            · exact absurd (S.high k hc w) z
            · exact w
        · have hc' : Sr.col st k = Sr.firstC st t := by omega
          refine ⟨?_, ?_⟩
          · rcases Int.lt_or_le k (Sr.firstC st u) with w | w
            · exact absurd (T.low k hc' (by omega)) z
            · exact w
          · rcases Int.lt_or_le (Sr.topC st u) k with w | w
            · exact absurd (T.high k hc' (by omega)) z
            · exact w
      refine ⟨inn.1, ?_⟩
      rcases Int.lt_or_le k (Sr.topC st u) with w | w
      · exact w
      · exfalso
        have ek : k = Sr.topC st u := by omega
        apply hne
        have a1 := S.top
        have a2 := T.top
        rw [etop] at a2
        rw [ek, a1, a2]
        exact Int.zero_emod p
    · have hlt : Sr.firstC st s < Sr.firstC st u := by omega
      rcases hor with z | z
      · exact h1.behind hs hu hlt k hc z
      · have := h2.behind ht hv (by omega) k (by omega) z
        omega
  have est : s = t := by
    refine Pt.pat_ext S.pat T.pat fun k => ?_
    have := nul k
    have r1 := S.pat.at_rng hp0 k
    have r2 := T.pat.at_rng hp0 k
    by_cases c : Pt.at_ t k ≤ Pt.at_ s k
    · rw [Int.emod_eq_of_lt (by omega) (by omega)] at this
      omega
    · have e2 : (Pt.at_ s k + -(Pt.at_ t k) + p) % p = 0 := by rw [Int.add_emod_right]; exact this
      rw [Int.emod_eq_of_lt (by omega) (by omega)] at e2
      omega
  rw [est]
  exact ht
/-- stairs that make the same are the same -/
theorem stairs_one {p st : Int} (hp : GoodP p) (h0 : 0 ≤ st) {ss tt : List Pt.Pat} (h1 : StL p st ss) (h2 : StL p st tt) (g1 : ∀ s ∈ ss, Sr.Gen p st (fun t => t ∈ tt) (Pt.at_ s)) (g2 : ∀ t ∈ tt, Sr.Gen p st (fun s => s ∈ ss) (Pt.at_ t)) : ss = tt :=
  sorted_same (f := Sr.firstC st) h1.rise h2.rise fun x => ⟨stair_one hp h0 h1 h2 g1 g2 x, stair_one hp h0 h2 h1 g2 g1 x⟩
theorem Built.stL {p st A D : Int} {ps ss : List Pt.Pat} {ms : List Mk.M} (h : Built p st A D ps ss ms) : StL p st ss := ⟨⟨h.stair, h.rise⟩, h.low⟩
/-- what makers make -/
theorem made_gen {p st : Int} {bs : List Pt.Pat} {m : Mk.M} {s : Pt.Pat} (hk : ∀ y ∈ m, 0 ≤ y.1.1 ∧ y.1.1 < bs.length ∧ (st = 0 → y.1.2 = 0)) (h : Sr.Made p st (baseS bs) m [] s) : Sr.Gen p st (fun x => x ∈ bs) (Pt.at_ s) := by
  have : ∀ m' : Mk.M, (∀ q ∈ m', 0 ≤ q.1.1 ∧ q.1.1 < bs.length ∧ (st = 0 → q.1.2 = 0)) → Sr.Gen p st (fun s => s ∈ bs) (Sr.Lin st (baseS bs) m') := by
    intro m'
    induction m' with
    | nil => exact fun _ => Sr.Gen.zero
    | cons a t ih =>
      intro h
      have ha := h a (by simp)
      exact .copy a.1.2 a.2 (baseS_nat ha.1 ha.2.1) ha.2.2 (ih fun q hq => h q (by simp [hq]))
  refine (this m hk).cong fun k => ?_
  have := h k
  have e0 : Pt.at_ ([] : Pt.Pat) k = 0 := rfl
  rw [e0, Int.zero_add] at this
  exact this
theorem Built.gen {p st A D : Int} {ps ss : List Pt.Pat} {ms : List Mk.M} (h : Built p st A D ps ss ms) : ∀ s ∈ ss, Sr.Gen p st (fun x => x ∈ ps) (Pt.at_ s) := fun s hs => by
  obtain ⟨i, hi, e⟩ := List.getElem_of_mem hs
  have g1 : ss[i]? = some s := by rw [List.getElem?_eq_getElem hi, e]
  obtain ⟨m, g2⟩ : ∃ m, ms[i]? = some m := ⟨_, List.getElem?_eq_getElem (by have := h.len; omega)⟩
  obtain ⟨b1, b2, b3, b4⟩ := h.mak i s _ g1 g2
  exact made_gen (fun y hy => by have := b3 y hy; exact ⟨this.1, this.2.1, this.2.2.1⟩) b4
/-- patterns that make the same -/
def SameM (p st : Int) (ps qs : List Pt.Pat) : Prop := (∀ x ∈ qs, Sr.Gen p st (fun s => s ∈ ps) (Pt.at_ x)) ∧ ∀ x ∈ ps, Sr.Gen p st (fun s => s ∈ qs) (Pt.at_ x)
theorem SameM.refl (p st : Int) (ps : List Pt.Pat) : SameM p st ps ps := ⟨fun x h => .one h, fun x h => .one h⟩
theorem SameM.trans {p st : Int} {a b c : List Pt.Pat} (h1 : SameM p st a b) (h2 : SameM p st b c) : SameM p st a c := ⟨fun x hx => (h2.1 x hx).trans h1.1, fun x hx => (h1.2 x hx).trans h2.2⟩
theorem built_one {p st A A' D D' : Int} {ps qs ss tt : List Pt.Pat} {ms ns : List Mk.M} (hp : GoodP p) (h0 : 0 ≤ st) (h1 : Built p st A D ps ss ms) (h2 : Built p st A' D' qs tt ns) (h : SameM p st ps qs) : ss = tt :=
  stairs_one hp h0 h1.stL h2.stL (fun s hs => ((h1.gen s hs).trans h.2).trans h2.span) (fun t ht => ((h2.gen t ht).trans h.1).trans h1.span)
end Dk

/-! one column: sums as patterns -/
namespace Sr
open Pt Mk
def fS (s : List Int) (k : Int) : Int := if 0 ≤ k then Po.co s k.toNat else 0
def prsS (s : List Int) : Pat := (List.range s.length).map fun (k : Nat) => ((k : Int), Po.co s k)
def asP (p : Int) (s : List Int) : Pat := tidy p (prsS s)
theorem sumAt_range (g : Nat → Int) (k : Int) : ∀ n : Nat, sumAt ((List.range n).map fun (i : Nat) => ((i : Int), g i)) k = if 0 ≤ k ∧ k < n then g k.toNat else 0
  | 0 => by
    show (0 : Int) = _
    rw [if_neg (by omega)]
  | n + 1 => by
    rw [List.range_succ, List.map_append, sumAt_app, sumAt_range g k n]
    show _ + ((if (n : Int) = k then g n else 0) + 0) = _
    by_cases c : (n : Int) = k
    · subst c
      rw [if_neg (by omega), if_pos rfl, if_pos (by omega), Int.toNat_natCast]
      omega
    · rw [if_neg c]
      by_cases d : 0 ≤ k ∧ k < n
      · rw [if_pos d, if_pos (by omega)]
        omega
      · rw [if_neg d, if_neg (by omega)]
        rfl
theorem asP_at {p : Int} (hp : 0 < p) (s : List Int) (k : Int) : at_ (asP p s) k = fS s k % p := by
  unfold asP prsS
  rw [tidy_at hp, sumAt_range (fun i => Po.co s i)]
  unfold fS
  by_cases c : 0 ≤ k
  · rw [if_pos c]
    by_cases d : k < s.length
    · rw [if_pos ⟨c, d⟩]
    · rw [if_neg (fun z => d z.2), Po.co_ge (by omega)]
  · rw [if_neg c, if_neg (fun z => c z.1)]
theorem asP_pat {p : Int} (hp : 0 < p) (s : List Int) : IsPat p (asP p s) := tidy_pat hp _
theorem asP_place {p : Int} (hp : 0 < p) {s : List Int} {x : Int × Int} (h : x ∈ asP p s) : 0 ≤ x.1 ∧ x.1 < s.length := by
  obtain ⟨y, hy, e⟩ := tidy_mem hp h
  obtain ⟨i, hi, rfl⟩ := List.mem_map.mp hy
  rw [List.mem_range] at hi
  simp only at e
  omega
theorem asP_len (p : Int) (s : List Int) : (asP p s).length ≤ s.length := by
  have := tidy_len p (prsS s)
  unfold prsS at this
  rw [List.length_map, List.length_range] at this
  exact this
section
variable {p : Int} {L : Pat → Prop}
theorem gen_fS (hp : 0 < p) {s : List Int} : Gen p 1 L (at_ (asP p s)) ↔ Gen p 1 L (fS s) := ⟨fun h => h.cong fun k => by rw [asP_at hp, Int.emod_emod], fun h => h.cong fun k => by rw [asP_at hp, Int.emod_emod]⟩
def AsSum (p : Int) (x : Pat) (s : List Int) : Prop := Po.IsSum p s ∧ ∃ lo : Int, ∀ k, fS s k = at_ x (k + lo)
theorem AsSum.gen {x : Pat} {s : List Int} (h : AsSum p x s) : Gen p 1 L (at_ x) ↔ Gen p 1 L (fS s) := by
  obtain ⟨_, lo, e⟩ := h
  constructor
  · intro g
    refine (g.moved (-lo) 1 fun z => absurd z (by decide)).cong fun k => ?_
    rw [e, Int.one_mul, Int.sub_neg, Int.mul_one]
  · intro g
    refine (g.moved lo 1 fun z => absurd z (by decide)).cong fun k => ?_
    rw [Int.one_mul, Int.mul_one, e, show k - lo + lo = k by omega]
theorem fS_plus (hp : 0 < p) (a b : List Int) (k : Int) : fS (Po.plus p a b) k % p = (fS a k + fS b k) % p := by
  unfold fS
  by_cases c : 0 ≤ k
  · rw [if_pos c, if_pos c, if_pos c, Po.plus_co, Int.emod_emod]
  · rw [if_neg c, if_neg c, if_neg c]
    rfl
theorem conv_F (q b : List Int) (k : Int) (hk : 0 ≤ k) : Po.conv q b k.toNat = Po.wl (fun i => fS b (k - i)) q := by
  unfold Po.conv
  refine Po.wl_congr fun i hi => ?_
  by_cases c : i ≤ k.toNat
  · rw [Po.wl_at b c]
    unfold fS
    rw [if_pos (by omega), show (k - (i : Int)).toNat = k.toNat - i by omega]
  · rw [Po.wl_congr (g := fun _ => 0) fun j hj => if_neg (by omega), Po.wl_zero]
    unfold fS
    rw [if_neg (by omega)]
theorem gen_conv {b : List Int} (g : Gen p 1 L (fS b)) : ∀ (q : List Int) (c : Int), Gen p 1 L fun k => Po.wl (fun i => fS b (k - c - i)) q
  | [], _ => Gen.zero
  | x :: r, c => by
    refine ((g.moved c x fun z => absurd z (by decide)).add (gen_conv g r (c + 1))).cong fun k => ?_
    show (x * fS b (k - c - ((0 : Nat) : Int)) + Po.wl (fun n => fS b (k - c - ((n + 1 : Nat) : Int))) r) % p = _
    rw [Int.one_mul, Int.mul_comm (fS b (k - c)) x]
    congr 1
    congr 1
    · congr 2
      simp
    · refine Po.wl_congr fun i _ => ?_
      congr 1
      omega
theorem gen_mul {q b : List Int} (g : Gen p 1 L (fS b)) : Gen p 1 L (fS (Po.mul p q b)) := by
  refine (gen_conv g q 0).cong fun k => ?_
  by_cases c : 0 ≤ k
  · have : fS (Po.mul p q b) k = Po.conv q b k.toNat % p := by
      unfold fS
      rw [if_pos c, Po.mul_co]
    rw [this, Int.emod_emod, conv_F q b k c]
    simp
  · have e1 : fS (Po.mul p q b) k = 0 := by
      unfold fS
      rw [if_neg c]
    rw [e1, Po.wl_congr (g := fun _ => 0) fun i _ => by unfold fS; rw [if_neg (by omega)], Po.wl_zero]
/-- a division -/
theorem gen_here (hp : 0 < p) {q one left here : List Int} (e : Po.plus p (Po.mul p q one) left = here) (h1 : Gen p 1 L (fS one)) (h2 : Gen p 1 L (fS left)) : Gen p 1 L (fS here) :=
  ((gen_mul (q := q) h1).add h2).cong fun k => by rw [← e, fS_plus hp]
theorem gen_left (hp : 0 < p) {q one left here : List Int} (e : Po.plus p (Po.mul p q one) left = here) (h1 : Gen p 1 L (fS one)) (h2 : Gen p 1 L (fS here)) : Gen p 1 L (fS left) :=
  (h2.add (gen_mul (q := q) h1).neg).cong fun k => by
    have := fS_plus hp (Po.mul p q one) left k
    rw [e] at this
    show fS left k % p = (fS here k + -(fS (Po.mul p q one) k)) % p
    rw [Int.add_emod, this, ← Int.add_emod]
    congr 1
    omega
theorem gen_nought : Gen p 1 L (fS []) := Gen.zero.cong fun k => by
  unfold fS
  split
  · rw [Po.co_nil]
  · rfl
end
/-! the stair of a sum -/
theorem col_one (k : Int) : col 1 k = 0 := by
  unfold col
  rw [if_neg (by decide)]
  omega
theorem asP_ne {p : Int} (hp : 0 < p) {g : List Int} (hg : Po.IsSum p g) (hn : g ≠ []) : at_ (asP p g) ((g.length : Int) - 1) ≠ 0 := by
  rcases Po.snoc_cases g with z | ⟨ys, y, z⟩
  · exact absurd z hn
  · have yr := hg.rng y (by rw [z]; simp)
    have yt := hg.tip ys y z
    rw [asP_at hp]
    unfold fS
    have hl : g.length = ys.length + 1 := by rw [z]; simp
    rw [if_pos (by omega), show ((g.length : Int) - 1).toNat = ys.length by omega, z, Po.co_snoc, if_pos rfl, Int.emod_eq_of_lt yr.1 yr.2]
    exact yt
/-- the last number, and where it stands -/
theorem asP_tip {p : Int} (hp : 0 < p) {g : List Int} (hg : Po.IsSum p g) (hn : g ≠ []) : asP p g ≠ [] ∧ tip 1 (asP p g) = (g.length : Int) - 1 := by
  have h1 := asP_ne hp hg hn
  have hne : asP p g ≠ [] := fun z => h1 (by rw [z]; rfl)
  refine ⟨hne, ?_⟩
  have e := ends_of (st := 1) (by decide) (asP_pat hp g) hne
  have f0 : firstC 1 (asP p g) = 0 := by rw [← e.b1, col_one]
  have a1 := (e.inn ((g.length : Int) - 1) (by rw [col_one, f0]) h1).2
  have a2 := (asP_place hp (at_mem e.t2)).2
  simp only at a2
  omega
end Sr

namespace Dk
open PySem PySem.Spec PyProof.Rows L2
/-! ### one column: sums as patterns -/
def cAsSum : List PyData → (PyData → Prop) → Prop := fun ds Qd => ∃ (p W : Int) (x : Pt.Pat), ds = [ePat x] ∧ 1 < p ∧ Pt.IsPat p x ∧ 0 ≤ W ∧ W ≤ 1000 ∧ (∀ y ∈ x, -W ≤ y.1 ∧ y.1 ≤ W) ∧ ∀ s, Sr.AsSum p x s → (s.length : Int) ≤ 2 * W + 1 → Qd (eNums s)
def cAsPat : List PyData → (PyData → Prop) → Prop := fun ds Qd => ∃ (p : Int) (s : List Int), ds = [.int p, eNums s] ∧ 0 < p ∧ s.length ≤ 1000 ∧ Qd (ePat (Sr.asP p s))
def cAsPatL : List PyData → (PyData → Prop) → Prop := fun ds Qd => ∃ (p : Int) (s : List Int), ds = [.int p, eList s] ∧ 0 < p ∧ s.length ≤ 1000 ∧ Qd (ePat (Sr.asP p s))
def cDivisor : List PyData → (PyData → Prop) → Prop := fun ds Qd => ∃ (p W : Int) (ps : List Pt.Pat), ds = [.int p, ePats ps] ∧ GoodP p ∧ 0 ≤ W ∧ W ≤ 100 ∧ (∀ x ∈ ps, Pt.IsPat p x ∧ ∀ y ∈ x, -W ≤ y.1 ∧ y.1 ≤ W) ∧ ∀ g, Po.IsSum p g → SameM p 1 ps [Sr.asP p g] → (g.length : Int) ≤ 2 * W + 1 → Qd (eNums g)
def muT (i : Nat) (Γ : G) : Nat := match Γ[i]? with
  | some (.sh (.tuple ds)) => ds.length
  | _ => 0
section
variable {p : Int}
theorem gen_in {bs : List Pt.Pat} (hp : 0 < p) {s : List Int} (h : Sr.asP p s ∈ bs) : Sr.Gen p 1 (fun x => x ∈ bs) (Sr.fS s) := (Sr.gen_fS hp).mp (.one h)
theorem same_init (hp : 0 < p) : SameM p 1 [] [Sr.asP p []] := ⟨fun x hx => by
  rw [List.mem_singleton] at hx
  rw [hx]
  exact (Sr.gen_fS hp).mpr Sr.gen_nought, fun _ h => nomatch h⟩
theorem same_enter (hp : 0 < p) {pre : List Pt.Pat} {x : Pt.Pat} {here one : List Int} (h : SameM p 1 pre [Sr.asP p here]) (ho : Sr.AsSum p x one) : SameM p 1 (pre ++ [x]) [Sr.asP p here, Sr.asP p one] := by
  refine ⟨fun y hy => ?_, fun y hy => ?_⟩
  · simp only [List.mem_cons, List.not_mem_nil, or_false] at hy
    rcases hy with rfl | rfl
    · exact (h.1 _ (by simp)).trans fun s hs => .one (by simp [hs])
    · exact (Sr.gen_fS hp).mpr (ho.gen.mp (.one (by simp)))
  · rcases List.mem_append.mp hy with z | z
    · refine (h.2 y z).trans fun s hs => .one ?_
      rw [List.mem_singleton] at hs
      simp [hs]
    · rw [List.mem_singleton] at z
      rw [z]
      exact ho.gen.mpr (gen_in hp (by simp))
theorem same_step (hp : 0 < p) {here one left q : List Int} (e : Po.plus p (Po.mul p q one) left = here) : SameM p 1 [Sr.asP p here, Sr.asP p one] [Sr.asP p one, Sr.asP p left] := by
  refine ⟨fun y hy => ?_, fun y hy => ?_⟩
  · simp only [List.mem_cons, List.not_mem_nil, or_false] at hy
    rcases hy with rfl | rfl
    · exact .one (by simp)
    · exact (Sr.gen_fS hp).mpr (Sr.gen_left hp e (gen_in hp (by simp)) (gen_in hp (by simp)))
  · simp only [List.mem_cons, List.not_mem_nil, or_false] at hy
    rcases hy with rfl | rfl
    · exact (Sr.gen_fS hp).mpr (Sr.gen_here hp e (gen_in hp (by simp)) (gen_in hp (by simp)))
    · exact .one (by simp)
theorem same_swap (a b : Pt.Pat) : SameM p 1 [a, b] [b, a] := ⟨fun y hy => .one (by simp at hy ⊢; exact hy.symm), fun y hy => .one (by simp at hy ⊢; exact hy.symm)⟩
theorem same_exit (hp : 0 < p) (a : Pt.Pat) : SameM p 1 [a, Sr.asP p []] [a] := ⟨fun y hy => .one (by simp at hy ⊢; exact .inl hy), fun y hy => by
  simp only [List.mem_cons, List.not_mem_nil, or_false] at hy
  rcases hy with rfl | rfl
  · exact .one (by simp)
  · exact (Sr.gen_fS hp).mpr Sr.gen_nought⟩
/-- the due stair -/
theorem due_stair (hp : GoodP p) {g : List Int} (hg : Po.IsSum p g) {ys : List Int} {y u : Int} (eg : g = ys ++ [y]) (hu : u * y % p = 1) {a : Int × Int} {r : Pt.Pat} (hh : Sr.asP p (g.map (· * u)) = a :: r) :
    StL p 1 [Pt.tidy p ([] ++ (a :: r).map fun z => (z.1 + -a.1, z.2 * 1))] ∧ SameM p 1 [Sr.asP p g] [Pt.tidy p ([] ++ (a :: r).map fun z => (z.1 + -a.1, z.2 * 1))] := by
  have hp0 := hp.pos
  have hp2 : 1 < p := by have := hp.two; omega
  have gn : g ≠ [] := by rw [eg]; simp
  obtain ⟨xn, xt⟩ := Sr.asP_tip hp0 hg gn
  have px := Sr.asP_pat hp0 g
  have ph : Pt.IsPat p (a :: r) := by rw [← hh]; exact Sr.asP_pat hp0 _
  have e := Sr.ends_of (st := 1) (by decide) px xn
  have f0 : Sr.firstC 1 (Sr.asP p g) = 0 := by rw [← e.b1, Sr.col_one]
  have yr := hg.rng y (by rw [eg]; simp)
  have at1 : Pt.at_ (Sr.asP p g) (Sr.tip 1 (Sr.asP p g)) = y := by
    rw [xt, Sr.asP_at hp0]
    unfold Sr.fS
    have hl : g.length = ys.length + 1 := by rw [eg]; simp
    rw [if_pos (by omega), show ((g.length : Int) - 1).toNat = ys.length by omega, eg, Po.co_snoc, if_pos rfl, Int.emod_eq_of_lt yr.1 yr.2]
  have hat : ∀ j, Pt.at_ (a :: r) j = Pt.at_ (Sr.asP p g) j * u % p := fun j => by
    rw [← hh, Sr.asP_at hp0, Sr.asP_at hp0, Int.mul_emod, Int.emod_emod, ← Int.mul_emod]
    congr 1
    unfold Sr.fS
    split
    · exact Po.co_map (f := (· * u)) (by simp) g _
    · simp
  have uy : ∀ j, Pt.at_ (Sr.asP p g) j ≠ 0 → Pt.at_ (a :: r) j ≠ 0 := fun j hj z => by
    rw [hat] at z
    have r0 := px.at_rng hp0 j
    rcases noZero hp _ _ z with w | w
    · rw [Int.mul_emod, w, Int.zero_mul, Int.zero_emod] at hu
      cases hu
    · rw [Int.emod_eq_of_lt r0.1 r0.2] at w
      exact hj w
  have back : ∀ j, Pt.at_ (a :: r) j ≠ 0 → Pt.at_ (Sr.asP p g) j ≠ 0 := fun j hj z => hj (by rw [hat, z, Int.zero_mul]; exact Int.zero_emod p)
  have ha : Pt.at_ (a :: r) a.1 ≠ 0 := by
    rw [ph.at_of_mem (by simp)]
    have := ph.rng a (by simp)
    omega
  have ebot : Sr.bot 1 (Sr.asP p g) = a.1 := by
    have h1 := (e.inn a.1 (by rw [Sr.col_one, f0]) (back _ ha)).1
    have h2 := Pt.at_mem (uy _ e.b2)
    rcases List.mem_cons.mp h2 with z | z
    · have := congrArg (·.1) z
      exact this
    · have := ph.head _ z
      simp only at this
      omega
  have eb : Sr.brow 1 (Sr.asP p g) = a.1 := by
    have := e.eb
    rw [f0, ebot] at this
    omega
  obtain ⟨m', hm⟩ := mix_there hp0 [] [] (-(Sr.brow 1 (Sr.asP p g))) u
  have N := Sr.norm_of hp2 (noZero hp) (st := 1) (by decide) px xn rfl (by rw [at1]; exact hu) hm
  have ed : Pt.tidy p ([] ++ (a :: r).map fun z => (z.1 + -a.1, z.2 * 1)) = Sr.mixP p 1 [] (Sr.asP p g) (-(Sr.brow 1 (Sr.asP p g))) u := by
    refine Pt.pat_ext (Pt.tidy_pat hp0 _) (Sr.mixP_pat hp0 _ _ _ _ _) fun k => ?_
    rw [List.nil_append, Pt.tidy_at hp0, sumAt_mapmul, ph.at_sum, hat, Sr.mix_nil hp0 px, eb, Int.mul_one, Int.emod_emod, Int.one_mul]
  rw [ed]
  refine ⟨⟨⟨fun s hs => ?_, List.pairwise_singleton _ _⟩, fun i j a' b' hij h1 h2 => ?_⟩, fun s hs => ?_, fun s hs => ?_⟩
  · rw [List.mem_singleton] at hs
    rw [hs]
    exact N.stair
  · have := lt_of_get h2
    simp at this
    omega
  · rw [List.mem_singleton] at hs
    rw [hs]
    obtain ⟨v, hv⟩ := N.dif
    exact ((Sr.Gen.one (p := p) (st := 1) (L := fun x => x ∈ [Sr.asP p g]) (s := Sr.asP p g) (by simp)).moved (-(Sr.brow 1 (Sr.asP p g))) v fun z => absurd z (by decide)).cong hv
  · rw [List.mem_singleton] at hs
    rw [hs]
    exact N.gen (.one (by simp))
theorem built_due {ss ps tt : List Pt.Pat} {ms : List Mk.M} {A D : Int} (hp : GoodP p) (hb : Built p 1 A D ps ss ms) (ht : StL p 1 tt) (h : SameM p 1 ps tt) : ss = tt :=
  stairs_one hp (by decide) hb.stL ht (fun s hs => (hb.gen s hs).trans h.2) fun t ht => (h.1 t ht).trans hb.span
theorem built_none {ss ps : List Pt.Pat} {ms : List Mk.M} {A D : Int} (hp : GoodP p) (hb : Built p 1 A D ps ss ms) (h : SameM p 1 ps [Sr.asP p []]) : ss = [] :=
  built_due hp hb ⟨⟨(fun _ h => nomatch h), .nil⟩, fun i j a b _ h => by simp at h⟩ ⟨(fun _ h => nomatch h), fun x hx => (h.2 x hx).trans fun s hs => by
    rw [List.mem_singleton] at hs
    rw [hs]
    exact (Sr.gen_fS hp.pos).mpr Sr.gen_nought⟩
end
/-! as_sum -/
/-- what stands behind some pairs -/
def SumTo (p : Int) (pre : Pt.Pat) (R : List Int) : Prop := (pre = [] ∧ R = []) ∨ ∃ a r, pre = a :: r ∧ 0 < R.length ∧ (∀ x ∈ R, 0 ≤ x ∧ x < p) ∧ Po.Tip R ∧ (∀ k, Sr.fS R k = Pt.sumAt pre (k + a.1)) ∧ ∃ c ∈ pre, c.1 + 1 = a.1 + R.length
theorem tip_snoc {R : List Int} {v : Int} (h : v ≠ 0) : Po.Tip (R ++ [v]) := fun ys x e => by
  have := List.append_inj' e rfl
  simp only [List.cons.injEq, and_true] at this
  rw [← this.2]
  exact h
theorem co_pad (R : List Int) (n i : Nat) : Po.co (R ++ List.replicate n 0) i = Po.co R i := by
  unfold Po.co
  simp only [List.getD]
  by_cases c : i < R.length
  · rw [List.getElem?_append_left c]
  · rw [List.getElem?_append_right (by omega), List.getElem?_replicate, List.getElem?_eq_none (by omega)]
    split <;> rfl
theorem sum_zero_out {pre : Pt.Pat} {j : Int} (h : ∀ y ∈ pre, y.1 ≠ j) : Pt.sumAt pre j = 0 := by
  induction pre with
  | nil => rfl
  | cons y r ih =>
    show (if y.1 = j then y.2 else 0) + Pt.sumAt r j = 0
    rw [if_neg (h y (by simp)), ih fun z hz => h z (by simp [hz])]
    rfl
/-- one pair more -/
theorem sum_to_step {p : Int} {pre post : Pt.Pat} {b a0 : Int × Int} {R : List Int} (hx : Pt.IsPat p (pre ++ b :: post)) (h : SumTo p pre R) (h0 : (pre ++ b :: post)[0]? = some a0) : (R.length : Int) ≤ b.1 - a0.1 ∧ SumTo p (pre ++ [b]) (R ++ List.replicate (b.1 - a0.1 - R.length).toNat 0 ++ [b.2]) := by
  have rb := hx.rng b (by simp)
  rcases h with ⟨rfl, rfl⟩ | ⟨a, r, rfl, hl, hr, ht, hf, c, hc, ec⟩
  · simp at h0
    subst h0
    refine ⟨by simp, .inr ⟨b, [], rfl, by simp, fun x hx => ?_, tip_snoc (by omega), fun k => ?_, b, by simp, by simp⟩⟩
    · simp at hx
      rw [hx]
      omega
    · show Sr.fS ([] ++ List.replicate (b.1 - b.1 - (0 : Int)).toNat 0 ++ [b.2]) k = (if b.1 = k + b.1 then b.2 else 0) + 0
      rw [show (b.1 - b.1 - (0 : Int)).toNat = 0 by omega]
      unfold Sr.fS
      by_cases z : k = 0
      · subst z
        rw [if_pos (by omega), if_pos (by omega)]
        simp [Po.co]
      · rw [if_neg (show ¬ b.1 = k + b.1 by omega)]
        split
        · rw [Po.co_ge (by simp; omega)]
          rfl
        · rfl
  · simp at h0
    subst h0
    have srt := hx.srt
    have lt : ∀ y ∈ a :: r, y.1 < b.1 := fun y hy => by
      have := (List.pairwise_append.mp srt).2.2 y hy b (by simp)
      exact this
    have hcb := lt c hc
    refine ⟨by omega, .inr ⟨a, r ++ [b], rfl, by simp only [List.length_append, List.length_cons]; omega, fun x hx => ?_, tip_snoc (by omega), fun k => ?_, b, by simp, ?_⟩⟩
    · rcases List.mem_append.mp hx with z | z
      · rcases List.mem_append.mp z with z | z
        · exact hr x z
        · have := List.eq_of_mem_replicate z
          omega
      · simp at z
        rw [z]
        omega
    · have hn : ((R ++ List.replicate (b.1 - a.1 - R.length).toNat 0).length : Int) = b.1 - a.1 := by
        rw [List.length_append, List.length_replicate]
        omega
      rw [show a :: r ++ [b] = (a :: r) ++ [b] from rfl, Pt.sumAt_app]
      show _ = Pt.sumAt (a :: r) (k + a.1) + ((if b.1 = k + a.1 then b.2 else 0) + 0)
      rw [← hf k]
      unfold Sr.fS
      by_cases z : 0 ≤ k
      · rw [if_pos z, if_pos z, Po.co_snoc, co_pad]
        by_cases w : b.1 = k + a.1
        · rw [if_pos w, if_pos (by omega)]
          have : Po.co R k.toNat = 0 := by
            have := hf k
            unfold Sr.fS at this
            rw [if_pos z] at this
            rw [this]
            exact sum_zero_out fun y hy => by have := lt y hy; omega
          omega
        · rw [if_neg w, if_neg (by omega)]
          omega
      · rw [if_neg z, if_neg z, if_neg ?_]
        · rfl
        · have := lt a (by simp)
          omega
    · rw [List.length_append, List.length_append, List.length_replicate]
      simp
      omega
theorem sum_to_done {p : Int} {x : Pt.Pat} {R : List Int} {W : Int} (hx : Pt.IsPat p x) (h : SumTo p x R) (hW : ∀ y ∈ x, -W ≤ y.1 ∧ y.1 ≤ W) (w0 : 0 ≤ W) : Sr.AsSum p x R ∧ (R.length : Int) ≤ 2 * W + 1 := by
  rcases h with ⟨rfl, rfl⟩ | ⟨a, r, rfl, hl, hr, ht, hf, c, hc, ec⟩
  · refine ⟨⟨Po.IsSum.nil p, 0, fun k => ?_⟩, by simp; omega⟩
    unfold Sr.fS
    split
    · rw [Po.co_nil]; rfl
    · rfl
  · have h1 := hW a (by simp)
    have h2 := hW c hc
    exact ⟨⟨⟨hr, ht⟩, a.1, fun k => by rw [hf, hx.at_sum]⟩, by omega⟩
end Dk

local macro_rules | `(tactic| walk_at "ss") => `(tactic| ((try dsimp only [L2.cxOf, List.map]); refine ⟨_, inferInstance, ?_⟩))
local macro_rules | `(tactic| walk_at "s1") => `(tactic| first
  | refine ⟨_, rfl, ?_⟩
  | refine ⟨rfl, ?_⟩
  | refine ⟨_, _, rfl, rfl, ?_⟩
  | refine ⟨_, _, _, rfl, rfl, rfl, ?_⟩
  | refine ⟨_, fun _ h => h, ?_⟩
  | refine L2.iteT ?_
  | refine L2.iteF ?_
  | refine ⟨_, rfl, Nat.le_of_ble_eq_true rfl, ?_⟩
  | refine ⟨_, _, _, rfl, rfl, by assumption, ?_⟩
  | refine ⟨.inr rfl, ?_⟩
  | refine ⟨.inl rfl, ?_⟩)
local macro_rules | `(tactic| walk_at "w") => `(tactic| repeat walk_at "s1")

local macro_rules | `(tactic| walk_at "ln") => `(tactic| ((try simp only [List.length_append, List.length_map, List.length_cons, List.length_nil, List.length_range, List.length_replicate, Dk.fm_map, Pt.moved_len]); first | exact Dk.small100000 (by omega) | exact Nat.le_of_lt (Dk.small100000 (by omega)) | omega))
local macro_rules | `(tactic| walk_at "sd") => `(tactic| first | assumption | omega | (walk_at "ln") | rfl | trivial | decide | exact Nat.le_of_ble_eq_true rfl | exact (Dk.ePat_shp _).ok | exact (Dk.eRound_shp _).ok | exact (Dk.ePairs_shp _).ok | exact (Dk.ePair_shp _).ok | exact (Dk.eNums_shp _).ok | exact (Dk.eList_shp _).ok | walk_at "ln" | (exact Or.inl ⟨by first | decide | omega, by first | decide | omega⟩) | (exact Or.inr ⟨by first | decide | omega, by first | decide | omega⟩) | (intro kvs hne; (cases hne; done)) | exact Or.inl rfl | exact Or.inr (by assumption))
local macro_rules | `(tactic| walk_at "g1") => `(tactic| first
  | refine ⟨_, rfl, ?_⟩
  | refine ⟨rfl, ?_⟩
  | refine ⟨.inl rfl, ?_⟩
  | refine ⟨.inr rfl, ?_⟩
  | refine ⟨_, .inl rfl, rfl, ?_⟩
  | refine ⟨_, .inr rfl, rfl, ?_⟩
  | refine ⟨_, _, rfl, rfl, ?_⟩
  | refine ⟨_, _, rfl, ?_⟩
  | refine ⟨_, _, _, rfl, rfl, rfl, ?_⟩
  | refine ⟨_, _, _, rfl, rfl, ?_⟩
  | refine ⟨_, _, _, rfl, ?_⟩
  | refine ⟨_, _, _, _, rfl, rfl, rfl, ?_⟩
  | refine ⟨_, _, _, _, rfl, rfl, ?_⟩
  | refine ⟨_, _, _, _, rfl, ?_⟩
  | refine ⟨_, _, _, _, _, rfl, ?_⟩
  | refine ⟨_, _, _, _, _, _, rfl, ?_⟩
  | refine ⟨_, fun _ h => h, ?_⟩
  | refine L2.iteT ?_
  | refine L2.iteF ?_
  | refine ⟨_, _, .inl rfl, ?_⟩
  | refine ⟨_, _, .inr rfl, ?_⟩
  | (refine And.intro ?_ ?_; (focus (walk_at "sd"))))
local macro_rules | `(tactic| walk_at "g") => `(tactic| repeat walk_at "g1")
local macro_rules | `(tactic| walk_at "h1") => `(tactic| first
  | refine ⟨_, rfl, ?_⟩
  | refine ⟨rfl, ?_⟩
  | refine ⟨.inl rfl, ?_⟩
  | refine ⟨.inr rfl, ?_⟩
  | refine ⟨_, .inl rfl, rfl, ?_⟩
  | refine ⟨_, .inr rfl, rfl, ?_⟩
  | refine ⟨_, _, rfl, rfl, ?_⟩
  | refine ⟨_, _, rfl, ?_⟩
  | refine ⟨_, _, _, rfl, rfl, rfl, ?_⟩
  | refine ⟨_, _, _, rfl, rfl, ?_⟩
  | refine ⟨_, _, _, rfl, ?_⟩
  | refine ⟨_, _, _, _, rfl, rfl, rfl, ?_⟩
  | refine ⟨_, _, _, _, rfl, rfl, ?_⟩
  | refine ⟨_, _, _, _, rfl, ?_⟩
  | refine ⟨_, _, _, _, _, rfl, ?_⟩
  | refine ⟨_, _, _, _, _, _, rfl, ?_⟩
  | refine L2.iteT ?_
  | refine L2.iteF ?_
  | refine ⟨_, _, .inl rfl, ?_⟩
  | refine ⟨_, _, .inr rfl, ?_⟩
  | (refine And.intro ?_ ?_; (focus (walk_at "sd"))))
local macro_rules | `(tactic| walk_at "h") => `(tactic| repeat walk_at "h1")
local macro_rules | `(tactic| walk_at "rf") => `(tactic| first
  | refine Dk.iteFb (by rw [(Dk.ePat_shp _).refl]; rfl) ?_
  | refine Dk.iteFb (by rw [(Dk.eRound_shp _).refl]; rfl) ?_
  | refine Dk.iteFb (by rw [(Dk.ePairs_shp _).refl]; rfl) ?_
  | refine Dk.iteFb (by rw [(Dk.eNums_shp _).refl]; rfl) ?_
  | refine Dk.iteFb (by rw [(Dk.eList_shp _).refl]; rfl) ?_
  | refine Dk.iteTb (by rw [(Dk.eNums_shp _).refl]; rfl) ?_
  | refine Dk.iteTb (by rw [(Dk.eList_shp _).refl]; rfl) ?_
  | refine Dk.iteTb (by rw [(Dk.ePat_shp _).refl]; rfl) ?_
  | refine Dk.iteTb (by rw [(Dk.eRound_shp _).refl]; rfl) ?_
  | refine Dk.iteTb (by rw [(Dk.ePairs_shp _).refl]; rfl) ?_)
namespace Law
open PySem PySem.Spec PyProof.Rows L2 Dk
def topS (i : Nat) : Stmt := PySem.Challenge.pw_duskround_k23_stairs_of_one_column.main.body.getD i (.Pass ⟨0, 0, 0, 0⟩)
structure FnIn (K : Fg) (mg : Str → Option Value) (x : Str) (st : Stmt) (ps : List Str) where
  f : Addr
  fd : FuncData
  F : L2.Fun K x x st f fd
  b : Binds K fd ps []
  m : mg x = some (.ref f)
abbrev sTidy : Stmt := topS 1
abbrev nTidy : List Str := ["p", "pairs", "sums", "place", "setting"]
theorem scTidy : FnScope nTidy ["p", "pairs"] (defScope sTidy) := ⟨rfl, rfl, rfl, by decide +kernel, rfl, by decide +kernel, by decide +kernel⟩
abbrev sShows : Stmt := topS 2
abbrev nShows : List Str := ["pattern", "place", "at", "setting"]
theorem scShows : FnScope nShows ["pattern", "place"] (defScope sShows) := ⟨rfl, rfl, rfl, by decide +kernel, rfl, by decide +kernel, by decide +kernel⟩
abbrev sAdded : Stmt := topS 3
abbrev nAdded : List Str := ["p", "one", "other"]
theorem scAdded : FnScope nAdded ["p", "one", "other"] (defScope sAdded) := ⟨rfl, rfl, rfl, by decide +kernel, rfl, by decide +kernel, by decide +kernel⟩
abbrev sMoved : Stmt := topS 4
abbrev nMoved : List Str := ["pattern", "by", "place", "setting"]
theorem scMoved : FnScope nMoved ["pattern", "by"] (defScope sMoved) := ⟨rfl, rfl, rfl, by decide +kernel, rfl, by decide +kernel, by decide +kernel⟩
abbrev sTimed : Stmt := topS 5
abbrev nTimed : List Str := ["p", "pattern", "n", "place", "setting"]
theorem scTimed : FnScope nTimed ["p", "pattern", "n"] (defScope sTimed) := ⟨rfl, rfl, rfl, by decide +kernel, rfl, by decide +kernel, by decide +kernel⟩
abbrev sInverse : Stmt := topS 7
abbrev nInverse : List Str := ["p", "setting", "number"]
theorem scInverse : FnScope nInverse ["p", "setting"] (defScope sInverse) := ⟨rfl, rfl, rfl, by decide +kernel, rfl, by decide +kernel, by decide +kernel⟩
abbrev sColumn : Stmt := topS 9
abbrev nColumn : List Str := ["place", "stride"]
theorem scColumn : FnScope nColumn ["place", "stride"] (defScope sColumn) := ⟨rfl, rfl, rfl, by decide +kernel, rfl, by decide +kernel, by decide +kernel⟩
abbrev sFirst_column : Stmt := topS 10
abbrev nFirst_column : List Str := ["stride", "pattern", "place", "setting"]
theorem scFirst_column : FnScope nFirst_column ["stride", "pattern"] (defScope sFirst_column) := ⟨rfl, rfl, rfl, by decide +kernel, rfl, by decide +kernel, by decide +kernel⟩
abbrev sPlaces_in : Stmt := topS 11
abbrev nPlaces_in : List Str := ["stride", "pattern", "at", "place", "setting"]
theorem scPlaces_in : FnScope nPlaces_in ["stride", "pattern", "at"] (defScope sPlaces_in) := ⟨rfl, rfl, rfl, by decide +kernel, rfl, by decide +kernel, by decide +kernel⟩
abbrev sLength : Stmt := topS 12
abbrev nLength : List Str := ["stride", "pattern", "places"]
theorem scLength : FnScope nLength ["stride", "pattern"] (defScope sLength) := ⟨rfl, rfl, rfl, by decide +kernel, rfl, by decide +kernel, by decide +kernel⟩
abbrev sMisplaced : Stmt := topS 13
abbrev nMisplaced : List Str := ["stride", "stair", "pattern", "at", "top", "places"]
theorem scMisplaced : FnScope nMisplaced ["stride", "stair", "pattern"] (defScope sMisplaced) := ⟨rfl, rfl, rfl, by decide +kernel, rfl, by decide +kernel, by decide +kernel⟩
abbrev sShifted : Stmt := topS 14
abbrev nShifted : List Str := ["maker", "by", "which", "shift", "setting"]
theorem scShifted : FnScope nShifted ["maker", "by"] (defScope sShifted) := ⟨rfl, rfl, rfl, by decide +kernel, rfl, by decide +kernel, by decide +kernel⟩
abbrev sMixed : Stmt := topS 15
abbrev nMixed : List Str := ["p", "stride", "one", "other", "shift", "setting", "pattern", "maker"]
theorem scMixed : FnScope nMixed ["p", "stride", "one", "other", "shift", "setting"] (defScope sMixed) := ⟨rfl, rfl, rfl, by decide +kernel, rfl, by decide +kernel, by decide +kernel⟩
abbrev sNormal : Stmt := topS 16
abbrev nNormal : List Str := ["p", "stride", "one", "at", "places", "shift"]
theorem scNormal : FnScope nNormal ["p", "stride", "one"] (defScope sNormal) := ⟨rfl, rfl, rfl, by decide +kernel, rfl, by decide +kernel, by decide +kernel⟩
abbrev sLowered : Stmt := topS 17
abbrev nLowered : List Str := ["p", "stride", "stair", "one", "at", "size", "bottom", "places", "place", "setting", "shift"]
theorem scLowered : FnScope nLowered ["p", "stride", "stair", "one"] (defScope sLowered) := ⟨rfl, rfl, rfl, by decide +kernel, rfl, by decide +kernel, by decide +kernel⟩
abbrev sParts_of : Stmt := topS 18
abbrev nParts_of : List Str := ["maker", "which", "shift", "setting"]
theorem scParts_of : FnScope nParts_of ["maker"] (defScope sParts_of) := ⟨rfl, rfl, rfl, by decide +kernel, rfl, by decide +kernel, by decide +kernel⟩
abbrev sPut_in : Stmt := topS 19
abbrev nPut_in : List Str := ["p", "stride", "steps", "one", "at", "stair"]
theorem scPut_in : FnScope nPut_in ["p", "stride", "steps", "one"] (defScope sPut_in) := ⟨rfl, rfl, rfl, by decide +kernel, rfl, by decide +kernel, by decide +kernel⟩
abbrev sSettle : Stmt := topS 20
abbrev nSettle : List Str := ["p", "stride", "steps", "columns", "k", "one", "later"]
theorem scSettle : FnScope nSettle ["p", "stride", "steps"] (defScope sSettle) := ⟨rfl, rfl, rfl, by decide +kernel, rfl, by decide +kernel, by decide +kernel⟩
abbrev sBuilt : Stmt := topS 21
abbrev nBuilt : List Str := ["p", "stride", "patterns", "steps", "k", "columns", "stairs", "at"]
theorem scBuilt : FnScope nBuilt ["p", "stride", "patterns"] (defScope sBuilt) := ⟨rfl, rfl, rfl, by decide +kernel, rfl, by decide +kernel, by decide +kernel⟩
abbrev sL_begin : Stmt := topS 23
abbrev nL_begin : List Str := ["_law_script"]
theorem scL_begin : FnScope nL_begin ["_law_script"] (defScope sL_begin) := ⟨rfl, rfl, rfl, by decide +kernel, rfl, by decide +kernel, by decide +kernel⟩
abbrev sL_take : Stmt := topS 24
abbrev nL_take : List Str := ["_law_draw", "_law_many", "_law_number", "_law_got"]
theorem scL_take : FnScope nL_take ["_law_draw", "_law_many"] (defScope sL_take) := ⟨rfl, rfl, rfl, by decide +kernel, rfl, by decide +kernel, by decide +kernel⟩
abbrev sL_p : Stmt := topS 25
abbrev nL_p : List Str := ["_law_draw"]
theorem scL_p : FnScope nL_p ["_law_draw"] (defScope sL_p) := ⟨rfl, rfl, rfl, by decide +kernel, rfl, by decide +kernel, by decide +kernel⟩
abbrev sL_tidy : Stmt := topS 26
abbrev nL_tidy : List Str := ["_law_p_here", "_law_pairs", "_law_sums", "_law_place", "_law_setting"]
theorem scL_tidy : FnScope nL_tidy ["_law_p_here", "_law_pairs"] (defScope sL_tidy) := ⟨rfl, rfl, rfl, by decide +kernel, rfl, by decide +kernel, by decide +kernel⟩
abbrev sL_pattern : Stmt := topS 27
abbrev nL_pattern : List Str := ["_law_draw", "_law_p_here", "_law_most", "_law_far", "_law_pairs", "_law_k", "_law_place"]
theorem scL_pattern : FnScope nL_pattern ["_law_draw", "_law_p_here", "_law_most", "_law_far"] (defScope sL_pattern) := ⟨rfl, rfl, rfl, by decide +kernel, rfl, by decide +kernel, by decide +kernel⟩
abbrev sL_sum : Stmt := topS 29
abbrev nL_sum : List Str := ["_law_p_here", "_law_one", "_law_other", "_law_by", "_law_many", "_law_place", "_law_setting"]
theorem scL_sum : FnScope nL_sum ["_law_p_here", "_law_one", "_law_other", "_law_by", "_law_many"] (defScope sL_sum) := ⟨rfl, rfl, rfl, by decide +kernel, rfl, by decide +kernel, by decide +kernel⟩
abbrev sL_int : Stmt := topS 30
abbrev nL_int : List Str := ["_law_thing"]
theorem scL_int : FnScope nL_int ["_law_thing"] (defScope sL_int) := ⟨rfl, rfl, rfl, by decide +kernel, rfl, by decide +kernel, by decide +kernel⟩
abbrev sL_is_pattern : Stmt := topS 31
abbrev nL_is_pattern : List Str := ["_law_p_here", "_law_thing", "_law_k", "_law_pair"]
theorem scL_is_pattern : FnScope nL_is_pattern ["_law_p_here", "_law_thing"] (defScope sL_is_pattern) := ⟨rfl, rfl, rfl, by decide +kernel, rfl, by decide +kernel, by decide +kernel⟩
abbrev sL_trim : Stmt := topS 32
abbrev nL_trim : List Str := ["_law_p_here", "_law_row", "_law_kept", "_law_number"]
theorem scL_trim : FnScope nL_trim ["_law_p_here", "_law_row"] (defScope sL_trim) := ⟨rfl, rfl, rfl, by decide +kernel, rfl, by decide +kernel, by decide +kernel⟩
abbrev sL_mul : Stmt := topS 33
abbrev nL_mul : List Str := ["_law_p_here", "_law_one", "_law_other", "_law_row", "_law_k", "_law_j"]
theorem scL_mul : FnScope nL_mul ["_law_p_here", "_law_one", "_law_other"] (defScope sL_mul) := ⟨rfl, rfl, rfl, by decide +kernel, rfl, by decide +kernel, by decide +kernel⟩
abbrev sL_over : Stmt := topS 34
abbrev nL_over : List Str := ["_law_p_here", "_law_one", "_law_other", "_law_left", "_law_turn", "_law_many", "_law_gap", "_law_k", "_law_number"]
theorem scL_over : FnScope nL_over ["_law_p_here", "_law_one", "_law_other"] (defScope sL_over) := ⟨rfl, rfl, rfl, by decide +kernel, rfl, by decide +kernel, by decide +kernel⟩
abbrev sL_as_sum : Stmt := topS 35
abbrev nL_as_sum : List Str := ["_law_pattern_here", "_law_row", "_law_place", "_law_setting"]
theorem scL_as_sum : FnScope nL_as_sum ["_law_pattern_here"] (defScope sL_as_sum) := ⟨rfl, rfl, rfl, by decide +kernel, rfl, by decide +kernel, by decide +kernel⟩
abbrev sL_as_pattern : Stmt := topS 36
abbrev nL_as_pattern : List Str := ["_law_p_here", "_law_row", "_law_k"]
theorem scL_as_pattern : FnScope nL_as_pattern ["_law_p_here", "_law_row"] (defScope sL_as_pattern) := ⟨rfl, rfl, rfl, by decide +kernel, rfl, by decide +kernel, by decide +kernel⟩
abbrev sL_divisor : Stmt := topS 37
abbrev nL_divisor : List Str := ["_law_p_here", "_law_patterns", "_law_here", "_law_pattern_here", "_law_one", "_law_left"]
theorem scL_divisor : FnScope nL_divisor ["_law_p_here", "_law_patterns"] (defScope sL_divisor) := ⟨rfl, rfl, rfl, by decide +kernel, rfl, by decide +kernel, by decide +kernel⟩
abbrev sLaw : Stmt := topS 38
abbrev nLaw : List Str := ["_law_script", "_law_draw", "_law_p_here", "_law_patterns", "_law_both", "_law_due", "_law_row", "_law_turn", "_law_pattern_here", "_law_found", "_law_k", "_law_one", "_law_number", "_law_stair"]
theorem scLaw : FnScope nLaw ["_law_script"] (defScope sLaw) := ⟨rfl, rfl, rfl, by decide +kernel, rfl, by decide +kernel, by decide +kernel⟩
structure Txt (K : Fg) (mg : Str → Option Value) where
  tidy : FnIn K mg "tidy" sTidy ["p", "pairs"]
  shows : FnIn K mg "shows" sShows ["pattern", "place"]
  added : FnIn K mg "added" sAdded ["p", "one", "other"]
  moved : FnIn K mg "moved" sMoved ["pattern", "by"]
  timed : FnIn K mg "timed" sTimed ["p", "pattern", "n"]
  inverse : FnIn K mg "inverse" sInverse ["p", "setting"]
  column : FnIn K mg "column" sColumn ["place", "stride"]
  first_column : FnIn K mg "first_column" sFirst_column ["stride", "pattern"]
  places_in : FnIn K mg "places_in" sPlaces_in ["stride", "pattern", "at"]
  length : FnIn K mg "length" sLength ["stride", "pattern"]
  misplaced : FnIn K mg "misplaced" sMisplaced ["stride", "stair", "pattern"]
  shifted : FnIn K mg "shifted" sShifted ["maker", "by"]
  mixed : FnIn K mg "mixed" sMixed ["p", "stride", "one", "other", "shift", "setting"]
  normal : FnIn K mg "normal" sNormal ["p", "stride", "one"]
  lowered : FnIn K mg "lowered" sLowered ["p", "stride", "stair", "one"]
  parts_of : FnIn K mg "parts_of" sParts_of ["maker"]
  put_in : FnIn K mg "put_in" sPut_in ["p", "stride", "steps", "one"]
  settle : FnIn K mg "settle" sSettle ["p", "stride", "steps"]
  built : FnIn K mg "built" sBuilt ["p", "stride", "patterns"]
  l_begin : FnIn K mg "_law_begin" sL_begin ["_law_script"]
  l_take : FnIn K mg "_law_take" sL_take ["_law_draw", "_law_many"]
  l_p : FnIn K mg "_law_p" sL_p ["_law_draw"]
  l_tidy : FnIn K mg "_law_tidy" sL_tidy ["_law_p_here", "_law_pairs"]
  l_pattern : FnIn K mg "_law_pattern" sL_pattern ["_law_draw", "_law_p_here", "_law_most", "_law_far"]
  l_sum : FnIn K mg "_law_sum" sL_sum ["_law_p_here", "_law_one", "_law_other", "_law_by", "_law_many"]
  l_int : FnIn K mg "_law_int" sL_int ["_law_thing"]
  l_is_pattern : FnIn K mg "_law_is_pattern" sL_is_pattern ["_law_p_here", "_law_thing"]
  l_trim : FnIn K mg "_law_trim" sL_trim ["_law_p_here", "_law_row"]
  l_mul : FnIn K mg "_law_mul" sL_mul ["_law_p_here", "_law_one", "_law_other"]
  l_over : FnIn K mg "_law_over" sL_over ["_law_p_here", "_law_one", "_law_other"]
  l_as_sum : FnIn K mg "_law_as_sum" sL_as_sum ["_law_pattern_here"]
  l_as_pattern : FnIn K mg "_law_as_pattern" sL_as_pattern ["_law_p_here", "_law_row"]
  l_divisor : FnIn K mg "_law_divisor" sL_divisor ["_law_p_here", "_law_patterns"]
  zabs : mg "abs" = none
  zall : mg "all" = none
  zbool : mg "bool" = none
  zint : mg "int" = none
  zisinstance : mg "isinstance" = none
  zlen : mg "len" = none
  zlist : mg "list" = none
  zmax : mg "max" = none
  zmin : mg "min" = none
  zrange : mg "range" = none
  zsorted : mg "sorted" = none
  ztuple : mg "tuple" = none
end Law
namespace Law
open PySem PySem.Spec PyProof.Rows L2 Dk
section
variable {P : Program} {w : World} {K : Fg} {mg : Str → Option Value} {base : Heap}
set_option maxHeartbeats 4000000 in
theorem ok_tidy (T : Txt K mg) : FnOk P w K mg base CX0 1 T.tidy.f T.tidy.fd ["p", "pairs"] (PureSp K cTidy) := by
  refine pure_ok T.tidy.F scTidy (fun ds Qd h => by obtain ⟨p, xs, rfl, _⟩ := h; rfl) fun cdv A outer s H E hr => ?_
  refine ⟨_, (pss_cons (ps_set (i := 2) scTidy.nd rfl (.inr rfl) pe_dnewK)
        (pss_cons (ps_for PassesOwn.never rfl (kpil K (pv 1)) (kpg K 2 rfl (pgs_cons (pg_name (i := 3) scTidy.nd rfl (.inl rfl)) (pgs_cons (pg_name (i := 4) scTidy.nd rfl (.inl rfl)) pgs_nil))) (pss_one (ps_dput (hu_of hr) (pv 2) (pv 3) (pe_op op_mod (pe_op op_add (pe_dget2 (hu_of hr) (pv 2) (pv 3) pe_int ⟨rfl, rfl, rfl, rfl⟩) (pv 4)) (pv 0)) rfl)))
        (pss_one (ps_ret (pe_callTy (ktuple K) (by rfl) T.ztuple (by decide +kernel) (pa_cons (pe_lc (own := [("place", 3)]) rfl scTidy.nd (kpil K (pe_callB (b_sortDI rfl) (by rfl) T.zsorted (by decide +kernel) (pa_cons (pv 2) pa_nil))) (blkOk_by (own := [("place", 3)]) (N := nTidy) (sc := defScope sTidy) (by decide +kernel)) (fun _ _ _ _ _ => (pg_name (i := 3) scTidy.nd rfl (.inl rfl) (.inr rfl))) (fun _ _ _ _ _ => pts_one (pt_cmpR op_ne (pe_dget (hu_of hr) (pv 2) (pv 3) (fun _ _ => rfl)) pe_int (nomark _))) (fun _ _ _ _ _ => (pe_tup (pa_cons (pv 3) (pa_cons (pe_dget (hu_of hr) (pv 2) (pv 3) (fun _ _ => rfl)) pa_nil))))) pa_nil)))))), ?_⟩
  walk_at "ss"
  rintro ds Qd ⟨p, xs, rfl, hp, hk, q⟩
  refine ⟨[.sh (.int p), .ar (ePairs xs)], .cons (.inr ⟨rfl, rfl⟩) (.cons (.inl rfl) .nil), ?_⟩
  -- the loop
  refine ⟨_, rfl, _, _, rfl, for_pre (f := ePair) (fun pre Γ => ∃ y3 y4, Γ = [.sh (.int p), .ar (ePairs xs), .ow (.dK (sumsD p pre)), y3, y4] ∧ y3.own? = none) ⟨.no, .no, rfl, rfl⟩ ?_ ?_⟩
  · rintro pre x post Γ e ⟨y3, y4, rfl, _⟩
    have hl : (sumsD p pre).length < sizeLine := by
      have h2 := Pt.keys_mono pre (x :: post)
      rw [← e] at h2
      unfold sumsD
      rw [List.length_map]
      exact small100000 (by omega)
    have hv := valD_map (Pt.keys pre) (fun k => .int (Pt.sumAt pre k % p)) x.1
    have ht := sums_turn (p := p) pre x
    refine ⟨_, rfl, rfl, _, _, rfl, ⟨_, rfl, _, _, rfl, ⟨_, rfl, rfl, ?_⟩⟩⟩
    refine ⟨rfl, _, rfl, _, _, rfl, rfl, fun h0 => ?_, fun d h0 => ?_⟩
    · replace h0 := hv.symm.trans h0
      have hm : x.1 ∉ Pt.keys pre := fun z => by rw [if_pos z] at h0; cases h0
      rw [if_neg hm] at ht
      refine ⟨_, rfl, _, _, rfl, rfl, _, rfl, _, _, rfl, rfl, hp, rfl, _, rfl, _, _, _, _, rfl, rfl, rfl, hl, ?_⟩
      exact ⟨.ar (.int x.1), .ar (.int x.2), congrArg (fun z => [Sl.sh (.int p), .ar (ePairs xs), .ow (.dK z), .ar (.int x.1), .ar (.int x.2)]) ht, rfl⟩
    · replace h0 := hv.symm.trans h0
      by_cases hm : x.1 ∈ Pt.keys pre
      · rw [if_pos hm] at h0 ht
        cases h0
        refine ⟨_, rfl, _, _, rfl, rfl, _, rfl, _, _, rfl, rfl, hp, rfl, _, rfl, _, _, _, _, rfl, rfl, rfl, hl, ?_⟩
        exact ⟨.ar (.int x.1), .ar (.int x.2), congrArg (fun z => [Sl.sh (.int p), .ar (ePairs xs), .ow (.dK z), .ar (.int x.1), .ar (.int x.2)]) ht, rfl⟩
      · rw [if_neg hm] at h0
        cases h0
  · rintro Γ ⟨y3, y4, rfl, h3⟩
    -- tuple([.. for place in sorted(sums) ..])
    refine ⟨Pt.keys xs, by show some ((sumsD p xs).map _) = _; unfold sumsD; rw [List.map_map]; rfl, Nat.le_of_lt (small100000 (by omega)), fun ys hperm hs => ⟨_, rfl, _, _, rfl, ?_, rfl, ?_, lc_map (f := PyData.int) (fun k => (Pt.pick p xs k).map ePair) (fun k hk2 P hP => ?_) ?_⟩⟩
    · simp [ownFree, h3]
    · rw [List.length_map, hperm.length_eq]
      exact Nat.le_of_lt (small100000 (by omega))
    · have hv := valD_map (Pt.keys xs) (fun k => .int (Pt.sumAt xs k % p)) k
      rw [if_pos (hperm.mem_iff.mp hk2)] at hv
      refine ⟨_, rfl, rfl, _, rfl, _, _, rfl, congrArg some hv, _, _, _, rfl, rfl, rfl, _, rfl, ?_⟩
      unfold Pt.pick at hP
      by_cases e0 : Pt.sumAt xs k % p = 0
      · rw [if_neg (by simp [e0])] at hP
        refine ite2 (fun z => by simp [e0] at z) fun _ => hP
      · rw [if_pos e0] at hP
        refine ite2 (fun _ => ?_) fun z => by simp [e0] at z
        exact ⟨_, rfl, rfl, _, rfl, _, _, rfl, congrArg some hv, _, rfl, Nat.le_of_ble_eq_true rfl, _, rfl, hP⟩
    · refine ⟨_, rfl, _, rfl, trivial, _, rfl, ?_⟩
      rw [ePair_pick, Pt.pick_pat hp hperm hs]
      exact q

end
end Law
namespace Law
open PySem PySem.Spec PyProof.Rows L2 Dk
section
variable {P : Program} {w : World} {K : Fg} {mg : Str → Option Value} {base : Heap}
set_option maxHeartbeats 4000000 in
theorem ok_shows (T : Txt K mg) : FnOk P w K mg base CX0 1 T.shows.f T.shows.fd ["pattern", "place"] (PureSp K cAt) := by
  refine pure_ok T.shows.F scShows (fun ds Qd h => by obtain ⟨p, xs, rfl, _⟩ := h; rfl) fun cdv A outer s H E hr => ?_
  refine ⟨_, (pss_cons (ps_for PassesOwn.never rfl (kpit K (pv 0)) (kpg K 2 rfl (pgs_cons (pg_name (i := 2) scShows.nd rfl (.inl rfl)) (pgs_cons (pg_name (i := 3) scShows.nd rfl (.inl rfl)) pgs_nil))) (pss_one (ps_if (pt_cmpR op_eq (pv 2) (pv 1) (nomark _)) (pss_one (ps_ret (pv 3))) pss_nil)))
        (pss_one (ps_ret pe_int))), ?_⟩
  walk_at "ss"
  rintro ds Qd ⟨xs, k, rfl, q⟩
  refine ⟨[.sh (ePat xs), .sh (.int k)], .cons (.inr ⟨rfl, ePat_tupO xs⟩) (.cons (.inr ⟨rfl, rfl⟩) .nil), ?_⟩
  refine ⟨_, rfl, _, _, rfl, for_pre (f := ePair) (fun pre Γ => ∃ y2 y3, Γ = [.sh (ePat xs), .sh (.int k), y2, y3] ∧ ∀ y ∈ pre, y.1 ≠ k) ⟨.no, .no, rfl, by simp⟩ ?_ ?_⟩
  · rintro pre x post Γ e ⟨y2, y3, rfl, h⟩
    refine ⟨_, rfl, rfl, _, _, rfl, ⟨_, rfl, _, _, rfl, ⟨_, rfl, rfl, ?_⟩⟩⟩
    refine ⟨_, fun _ h => h, _, rfl, _, rfl, _, _, _, rfl, rfl, rfl, _, rfl, ite2 (fun e1 => ?_) fun e1 => ?_⟩
    · have e2 : x.1 = k := of_decide_eq_true e1
      refine ⟨_, rfl, _, rfl, ?_⟩
      rw [e, at_pre h, if_pos e2] at q
      exact q
    · have e2 : ¬ x.1 = k := fun z => e1 (decide_eq_true z)
      exact ⟨_, _, rfl, fun y hy => by
        rcases List.mem_append.mp hy with hy | hy
        · exact h y hy
        · simp at hy; subst hy; exact e2⟩
  · rintro Γ ⟨y2, y3, rfl, h⟩
    refine ⟨_, rfl, ?_⟩
    rw [Pt.at_none h] at q
    exact q

end
end Law
namespace Law
open PySem PySem.Spec PyProof.Rows L2 Dk
section
variable {P : Program} {w : World} {K : Fg} {mg : Str → Option Value} {base : Heap}
set_option maxHeartbeats 4000000 in
theorem ok_moved (T : Txt K mg) : FnOk P w K mg base CX0 1 T.moved.f T.moved.fd ["pattern", "by"] (PureSp K cMoved) := by
  refine pure_ok T.moved.F scMoved (fun ds Qd h => by obtain ⟨xs, b, rfl, _⟩ := h; rfl) fun cdv A outer s H E hr => ?_
  refine ⟨_, (pss_one (ps_ret (pe_callTy (ktuple K) (by rfl) T.ztuple (by decide +kernel) (pa_cons (pe_lc (own := [("place", 2), ("setting", 3)]) rfl scMoved.nd (kpit K (pv 0)) (blkOk_by (own := [("place", 2), ("setting", 3)]) (N := nMoved) (sc := defScope sMoved) (by decide +kernel)) (fun _ _ _ _ _ => (kpg K 2 rfl (pgs_cons (pg_name (i := 2) scMoved.nd rfl (.inl rfl) (.inr rfl)) (pgs_cons (pg_name (i := 3) scMoved.nd rfl (.inl rfl) (.inr rfl)) pgs_nil)))) (fun _ _ _ _ _ => pts_nil) (fun _ _ _ _ _ => (pe_tup (pa_cons (pe_op op_add (pv 2) (pv 1)) (pa_cons (pv 3) pa_nil))))) pa_nil)))), ?_⟩
  walk_at "ss"
  rintro ds Qd ⟨xs, b, rfl, hl, q⟩
  refine ⟨[.sh (ePat xs), .sh (.int b)], .cons (.inr ⟨rfl, ePat_tupO xs⟩) (.cons (.inr ⟨rfl, rfl⟩) .nil), ?_⟩
  refine ⟨_, rfl, _, _, rfl, rfl, rfl, by rw [List.length_map]; exact Nat.le_of_lt (small100000 (by omega)), lc_map (f := ePair) (fun x => some (ePair (x.1 + b, x.2))) (fun x hx P hP => ?_) ?_⟩
  · exact ⟨_, rfl, rfl, _, _, rfl, ⟨_, rfl, _, _, rfl, ⟨_, rfl, rfl, _, rfl, _, rfl, _, _, rfl, rfl, _, rfl, _, rfl, Nat.le_of_ble_eq_true rfl, _, rfl, hP⟩⟩⟩
  · refine ⟨_, rfl, _, rfl, trivial, _, rfl, ?_⟩
    rw [fm_map]
    have e : ePat (Pt.moved xs b) = .tuple (xs.map fun x => ePair (x.1 + b, x.2)) := by
      unfold ePat Pt.moved
      rw [List.map_map]
      rfl
    rw [e] at q
    exact q

end
end Law
namespace Law
open PySem PySem.Spec PyProof.Rows L2 Dk
section
variable {P : Program} {w : World} {K : Fg} {mg : Str → Option Value} {base : Heap}
set_option maxHeartbeats 4000000 in
theorem ok_inverse (T : Txt K mg) : FnOk P w K mg base CX0 1 T.inverse.f T.inverse.fd ["p", "setting"] (PureSp K cInverse) := by
  refine pure_ok T.inverse.F scInverse (fun ds Qd h => by obtain ⟨p, a, rfl, _⟩ := h; rfl) fun cdv A outer s H E hr => ?_
  refine ⟨_, (pss_cons (ps_for PassesOwn.never rfl (pi_range2 rfl T.zrange (pa_cons pe_int (pa_cons (pv 0) pa_nil))) (pg_name (i := 2) scInverse.nd rfl (.inl rfl)) (pss_one (ps_if (pt_cmpR op_eq (pe_op op_mod (pe_op op_mul (pv 2) (pv 1)) (pv 0)) pe_int (nomark _)) (pss_one (ps_ret (pv 2))) pss_nil)))
        (pss_one (ps_ret pe_int))), ?_⟩
  walk_at "ss"
  rintro ds Qd ⟨p, t, rfl, hp, h0, h1, q⟩
  refine ⟨[.sh (.int p), .sh (.int t)], .cons (.inr ⟨rfl, rfl⟩) (.cons (.inr ⟨rfl, rfl⟩) .nil), ?_⟩
  obtain ⟨n, n0, n1, n2⟩ := inv_there hp h0 h1
  have hp0 := hp.pos
  have hp1 := hp.le
  walk_at "h"
  refine ⟨_, _, _, rfl, ⟨1, p, rfl, ⟨by omega, by omega, by omega, by omega⟩, rfl, rfl⟩, fun k Γ => (∃ y : Sl, Γ = [.sh (.int p), .sh (.int t), y]) ∧ ∀ m : Nat, 0 < m → m < k + 1 → (m : Int) * t % p ≠ 1, ⟨⟨.no, rfl⟩, fun m a b => by omega⟩, ?_, ?_⟩
  · rintro k Γ hk ⟨⟨y, rfl⟩, hm⟩
    walk_at "g"
    refine ite2b (fun hz => ?_) fun hz => ?_
    · have e1 : (1 + (k : Int)) * t % p = 1 := of_decide_eq_true hz
      walk_at "g"
      exact q _ (by omega) (by omega) e1
    · have e1 : ¬ (1 + (k : Int)) * t % p = 1 := of_decide_eq_false hz
      refine ⟨⟨_, rfl⟩, fun m m0 m1 => ?_⟩
      by_cases c : m = k + 1
      · rw [c, show ((k + 1 : Nat) : Int) = 1 + (k : Int) by omega]
        exact e1
      · exact hm m m0 (by omega)
  · rintro Γ ⟨⟨y, rfl⟩, hm⟩
    exact absurd n2 (hm n n0 (by omega))

end
end Law
namespace Law
open PySem PySem.Spec PyProof.Rows L2 Dk
section
variable {P : Program} {w : World} {K : Fg} {mg : Str → Option Value} {base : Heap}
set_option maxHeartbeats 2000000 in
theorem ok_column (T : Txt K mg) : FnOk P w K mg base CX0 1 T.column.f T.column.fd ["place", "stride"] (PureSp K cColumn) := by
  refine pure_ok T.column.F scColumn (fun ds Qd h => by obtain ⟨k, st, rfl, _⟩ := h; rfl) fun cdv A outer s H E hr => ?_
  refine ⟨_, (pss_cons (ps_if (pt_cmpR op_eq (pv 1) pe_int (nomark _)) (pss_one (ps_ret (pv 0))) pss_nil)
        (pss_one (ps_ret (pe_op op_mod (pv 0) (pv 1))))), ?_⟩
  walk_at "ss"
  rintro ds Qd ⟨k, st, rfl, hs, q⟩
  refine ⟨[.sh (.int k), .sh (.int st)], .cons (.inr ⟨rfl, rfl⟩) (.cons (.inr ⟨rfl, rfl⟩) .nil), ?_⟩
  have h0 := hs.1
  walk_at "g"
  unfold Sr.col at q
  by_cases z : st = 0
  · rw [if_pos z] at q
    refine iteTb (decide_eq_true z) ?_
    walk_at "g"
    exact q
  · rw [if_neg z] at q
    refine iteFb (decide_eq_false z) ?_
    have h1 : 0 < st := by omega
    walk_at "g"
    exact q

end
end Law
namespace Law
open PySem PySem.Spec PyProof.Rows L2 Dk
section
variable {P : Program} {w : World} {K : Fg} {mg : Str → Option Value} {base : Heap}
set_option maxHeartbeats 4000000 in
theorem ok_shifted (T : Txt K mg) : FnOk P w K mg base CX0 1 T.shifted.f T.shifted.fd ["maker", "by"] (PureSp K cShifted) := by
  refine pure_ok T.shifted.F scShifted (fun ds Qd h => by obtain ⟨xs, b, rfl, _⟩ := h; rfl) fun cdv A outer s H E hr => ?_
  refine ⟨_, (pss_one (ps_ret (pe_callTy (ktuple K) (by rfl) T.ztuple (by decide +kernel) (pa_cons (pe_lc (own := [("which", 2), ("shift", 3), ("setting", 4)]) rfl scShifted.nd (kpit K (pv 0)) (blkOk_by (own := [("which", 2), ("shift", 3), ("setting", 4)]) (N := nShifted) (sc := defScope sShifted) (by decide +kernel)) (fun _ _ _ _ _ => (kpg K 2 rfl (pgs_cons (kpg K 2 rfl (pgs_cons (pg_name (i := 2) scShifted.nd rfl (.inl rfl) (.inr rfl)) (pgs_cons (pg_name (i := 3) scShifted.nd rfl (.inl rfl) (.inr rfl)) pgs_nil))) (pgs_cons (pg_name (i := 4) scShifted.nd rfl (.inl rfl) (.inr rfl)) pgs_nil)))) (fun _ _ _ _ _ => pts_nil) (fun _ _ _ _ _ => (pe_tup (pa_cons (pe_tup (pa_cons (pv 2) (pa_cons (pe_op op_add (pv 3) (pv 1)) pa_nil))) (pa_cons (pv 4) pa_nil))))) pa_nil)))), ?_⟩
  walk_at "ss"
  rintro ds Qd ⟨xs, b, rfl, hx, q⟩
  refine ⟨[.sh (eMk xs), .sh (.int b)], .cons (.inr ⟨rfl, eMk_tupO _⟩) (.cons (.inr ⟨rfl, rfl⟩) .nil), ?_⟩
  have hx2 : (xs.map eMp).length ≤ 8000000 := by rw [List.length_map]; exact hx
  walk_at "g"
  refine lc_map (f := eMp) (fun x => some (eMp ((x.1.1, x.1.2 + b), x.2))) (fun x hx P hP => ?_) ?_
  · walk_at "g"
    exact hP
  · rw [fm_map]
    walk_at "g"
    have e : (xs.map fun x => eMp ((x.1.1, x.1.2 + b), x.2)) = (xs.map fun x => (((x.1.1, x.1.2 + b), x.2) : Pr × Int)).map eMp := by rw [List.map_map]; rfl
    show Qd (.tuple (xs.map fun x => eMp ((x.1.1, x.1.2 + b), x.2)))
    rw [e]
    exact q

end
end Law
namespace Law
open PySem PySem.Spec PyProof.Rows L2 Dk
section
variable {P : Program} {w : World} {K : Fg} {mg : Str → Option Value} {base : Heap}
set_option maxHeartbeats 4000000 in
theorem ok_parts_of (T : Txt K mg) : FnOk P w K mg base CX0 1 T.parts_of.f T.parts_of.fd ["maker"] (PureSp K cPartsOf) := by
  refine pure_ok T.parts_of.F scParts_of (fun ds Qd h => by obtain ⟨xs, rfl, _⟩ := h; rfl) fun cdv A outer s H E hr => ?_
  refine ⟨_, (pss_one (ps_ret (pe_lc (own := [("which", 1), ("shift", 2), ("setting", 3)]) rfl scParts_of.nd (kpit K (pv 0)) (blkOk_by (own := [("which", 1), ("shift", 2), ("setting", 3)]) (N := nParts_of) (sc := defScope sParts_of) (by decide +kernel)) (fun _ _ _ _ _ => (kpg K 2 rfl (pgs_cons (kpg K 2 rfl (pgs_cons (pg_name (i := 1) scParts_of.nd rfl (.inl rfl) (.inr rfl)) (pgs_cons (pg_name (i := 2) scParts_of.nd rfl (.inl rfl) (.inr rfl)) pgs_nil))) (pgs_cons (pg_name (i := 3) scParts_of.nd rfl (.inl rfl) (.inr rfl)) pgs_nil)))) (fun _ _ _ _ _ => pts_nil) (fun _ _ _ _ _ => (pe_tup (pa_cons (pv 1) (pa_cons (pv 2) (pa_cons (pv 3) pa_nil)))))))), ?_⟩
  walk_at "ss"
  rintro ds Qd ⟨xs, rfl, hx, q⟩
  refine ⟨[.sh (eMk xs)], .cons (.inr ⟨rfl, eMk_tupO _⟩) .nil, ?_⟩
  have hx2 : (xs.map eMp).length ≤ 8000000 := by rw [List.length_map]; exact hx
  walk_at "g"
  refine lc_map (f := eMp) (fun x => some (ePt x)) (fun x hx P hP => ?_) ?_
  · walk_at "g"
    exact hP
  · rw [fm_map]
    exact ⟨_, rfl, q⟩

end
end Law
namespace Law
open PySem PySem.Spec PyProof.Rows L2 Dk
section
variable {P : Program} {w : World} {K : Fg} {mg : Str → Option Value} {base : Heap}
set_option maxHeartbeats 4000000 in
theorem ok_l_begin (T : Txt K mg) : FnOk P w K mg base CX0 1 T.l_begin.f T.l_begin.fd ["_law_script"] (spBegin K) := by
  refine T.l_begin.F.ok scL_begin (fun vs H Q E h => ?_) (fun cdv A outer s H vs Q E hr h => ?_)
  · obtain ⟨a, ns, rfl, _⟩ := h
    rfl
  · obtain ⟨a, ns, rfl, hS, q⟩ := h
    refine ⟨_, (pss_one (ps_ret (pe_lst (pa_cons (pe_callTy (klist K) (by rfl) T.zlist (by decide +kernel) (pa_cons (pe_slice (kslL K) (pv 0) po_none (po_some pe_int)) pa_nil)) (pa_cons pe_int (pa_cons pe_int (pa_cons pe_int pa_nil))))))), ?_⟩
    refine ⟨.ref a, rfl, 63, rfl, a, _, rfl, hS, fun c nc => ?_⟩
    have s1 : Same H (upd H c (.lst (cutV (ns.map V.int) none (some 63)))) := same_new nc
    refine ⟨c, _, rfl, .inl (SqL.of upd_same), fun l nl => ?_⟩
    have s2 := s1.trans (same_new (o := .lst (cutV (ns.map V.int) none (some 63))) nl)
    refine ⟨by show 4 ≤ sizeLine; decide, fun p np => ?_⟩
    have s3 := s2.trans (same_new (o := .lst [.ref l, .int 0, .int 0, .int 11]) np)
    have npl : p ≠ l := fun z => by
      rw [z, upd_same] at np
      cases np
    refine q p [p, l] _ s3 (fun x hx => ?_) ⟨l, (ns.map fun n => n).take 63, 0, 0, 11, rfl, npl, upd_same, ?_, by decide, by decide⟩
    · simp only [List.mem_cons, List.not_mem_nil, or_false] at hx
      rcases hx with rfl | rfl
      · exact s2.free np
      · exact s1.free nl
    · rw [upd_ne npl.symm, upd_same]
      congr 2
      unfold cutV
      rw [HT.sIx_none, show HT.sIx (ns.map V.int).length (ns.map V.int).length (some 63) = min 63 (ns.map V.int).length from HT.sIx_nat _ _ 63]
      simp [List.map_take]

end
end Law
namespace Law
open PySem PySem.Spec PyProof.Rows L2 Dk
section
variable {P : Program} {w : World} {K : Fg} {mg : Str → Option Value} {base : Heap}
set_option maxHeartbeats 4000000 in
theorem ok_l_take (T : Txt K mg) : FnOk P w K mg base CX0 1 T.l_take.f T.l_take.fd ["_law_draw", "_law_many"] (RefSp K IsDraw cTake) := by
  refine T.l_take.F.ok scL_take (fun vs H Q E h => ?_) (fun cdv A outer s H vs Q E hr h => ?_)
  · obtain ⟨p, f, us, ds, Qd, rfl, _, h1, ⟨m, rfl, _⟩, _⟩ := h
    rw [List.length_cons, h1.length]
    rfl
  · obtain ⟨p, f, us, ds, Qd, rfl, hI, h1, ⟨m, rfl, m0, m1, q⟩, k⟩ := h
    obtain rfl := ints1 h1
    obtain ⟨l, ns, pos, left, seed, rfl, ne, hp, hl, b1, b2⟩ := hI
    have fin : ∀ (pos left seed r : Int) (H' : Hp), 0 ≤ pos → 0 ≤ left → 0 ≤ r → r < m → (∀ a o, a ∉ [p, l] → H a = some o → H' a = some o) → H' p = some (.lst [.ref l, .int pos, .int left, .int seed]) → H' l = some (.lst (ns.map V.int)) → Q (.int r) H' := fun pos left seed r H' c1 c2 c3 c4 fr g1 g2 =>
      k (.int r) H' (.int r) fr ⟨l, ns, pos, left, seed, rfl, ne, g1, g2, c1, c2⟩ (.int r) (q r c3 c4)
    have put : ∀ {H' : Hp} {o : HO}, (∀ a o, a ∉ [p, l] → H a = some o → H' a = some o) → ∀ a u, a ∉ [p, l] → H a = some u → (upd H' p o) a = some u := fun {H' o} fr a u na e => by
      rw [upd_ne (fun z => na (by simp [z]))]
      exact fr a u na e
    have putl : ∀ {H' : Hp} {o : HO}, H' l = some (.lst (ns.map V.int)) → (upd H' p o) l = some (.lst (ns.map V.int)) := fun {H' o} e => by
      rw [upd_ne ne.symm]
      exact e
    obtain ⟨t2, ht2, tail⟩ : ∃ t2, PSs (cxOf CX0 P w K mg base nL_take "_law_take" (defScope sL_take) T.l_take.f cdv A outer s H E).nox (defBody sL_take).tail t2 ∧ ∀ (y2 y3 : Option V) (pos left seed : Int) (H' : Hp), 0 ≤ pos → 0 ≤ left → (∀ a o, a ∉ [p, l] → H a = some o → H' a = some o) → H' p = some (.lst [.ref l, .int pos, .int left, .int seed]) → H' l = some (.lst (ns.map V.int)) →
        t2 { nx := fun _ H' => Q .non H', rt := Q } [some (.ref p), some (.int m), y2, y3] H' := by
      refine ⟨_, (pss_cons (ps_if (pt_cmpR op_ge (pe_ix (kixL K) (pv 0) pe_int (fun _ _ => rfl)) (pv 1) (nomark _)) (pss_cons (ps_set (i := 3) scL_take.nd rfl (.inl rfl) (pe_op op_mod (pe_ix (kixL K) (pv 0) pe_int (fun _ _ => rfl)) (pv 1)))
        (pss_cons (ps_asg (pe_op op_fdiv (pe_ix (kixL K) (pv 0) pe_int (fun _ _ => rfl)) (pv 1)) (pg_sub (pv 0) pe_int set_list))
        (pss_one (ps_ret (pv 3))))) pss_nil)
        (pss_cons (ps_asg (pe_op op_mod (pe_op op_add (pe_op op_mul (pe_ix (kixL K) (pv 0) pe_int (fun _ _ => rfl)) pe_int) pe_int) pe_int) (pg_sub (pv 0) pe_int set_list))
        (pss_one (ps_ret (pe_op op_mod (pe_op op_fdiv (pe_ix (kixL K) (pv 0) pe_int (fun _ _ => rfl)) pe_int) (pv 1)))))), fun y2 y3 pos left seed H' c1 c2 fr g1 g2 => ?_⟩
      refine ⟨_, rfl, p, _, 2, _, rfl, rfl, SqL.of g1, rfl, _, rfl, _, _, rfl, rfl, _, rfl, ite2 (fun e1 => ?_) fun e1 => ?_⟩
      · refine ⟨_, rfl, p, _, 2, _, rfl, rfl, SqL.of g1, rfl, _, rfl, _, _, rfl, rfl, m0, ?_⟩
        refine ⟨_, rfl, p, _, 2, _, rfl, rfl, SqL.of g1, rfl, _, rfl, _, _, rfl, rfl, ⟨m0, m1⟩, _, rfl, p, _, 2, 2, rfl, rfl, g1, rfl, ?_⟩
        refine ⟨_, rfl, ?_⟩
        exact fin pos (left / m) seed _ _ c1 (Int.ediv_nonneg c2 (Int.le_of_lt m0)) (Int.emod_nonneg _ (by omega)) (Int.emod_lt_of_pos _ m0) (put fr) upd_same (putl g2)
      · refine ⟨_, rfl, p, _, 3, _, rfl, rfl, SqL.of g1, rfl, _, _, rfl, rfl, .inr ⟨by decide, by decide⟩, _, _, rfl, rfl, _, _, rfl, rfl, (by show (0 : Int) < 2147483647; decide), _, rfl, p, _, 3, 3, rfl, rfl, g1, rfl, ?_⟩
        refine ⟨_, rfl, p, _, 3, _, rfl, rfl, SqL.of upd_same, rfl, _, _, rfl, rfl, ⟨by decide, by decide⟩, _, rfl, _, _, rfl, rfl, m0, ?_⟩
        exact fin pos left _ _ _ c1 c2 (Int.emod_nonneg _ (by omega)) (Int.emod_lt_of_pos _ m0) (put fr) upd_same (putl g2)
    refine ⟨_, pss_cons (ps_if (PW.pt (pw_and (pt_cmpR op_lt (pe_ix (kixL K) (pv 0) pe_int (fun _ _ => rfl)) (pv 1) (nomark _)) (pw_and1 (pt_cmpR op_lt (pe_ix (kixL K) (pv 0) pe_int (fun _ _ => rfl)) (pe_callB (klen K) (by rfl) T.zlen (by decide +kernel) (pa_cons (pe_ix (kixL K) (pv 0) pe_int (fun _ _ => rfl)) pa_nil)) (nomark _))))) (pss_cons (ps_set (i := 2) scL_take.nd rfl (.inl rfl) (pe_ix (kixL K) (pe_ix (kixL K) (pv 0) pe_int (fun _ _ => rfl)) (pe_ix (kixL K) (pv 0) pe_int (fun _ _ => rfl)) (fun _ _ => rfl)))
        (pss_cons (ps_asg (pe_op op_add (pe_ix (kixL K) (pv 0) pe_int (fun _ _ => rfl)) pe_int) (pg_sub (pv 0) pe_int set_list))
        (pss_cons (ps_asg pe_int (pg_sub (pv 0) pe_int set_list))
        (pss_one (ps_if (pt_cmpR op_ge (pe_callB b_abs (by rfl) T.zabs (by decide +kernel) (pa_cons (pv 2) pa_nil)) (pe_op op_pow pe_int pe_int) (nomark _)) (pss_one (ps_asg (pe_callB b_abs (by rfl) T.zabs (by decide +kernel) (pa_cons (pv 2) pa_nil)) (pg_sub (pv 0) pe_int set_list))) (pss_one (ps_asg (pe_op op_mod (pe_op op_add (pe_op op_add (pe_op op_mul (pe_ix (kixL K) (pv 0) pe_int (fun _ _ => rfl)) pe_int) (pe_op op_mul (pe_op op_mod (pv 2) pe_int) pe_int)) pe_int) pe_int) (pg_sub (pv 0) pe_int set_list)))))))) pss_nil) ht2, ?_⟩
    have fr0 : ∀ a o, a ∉ [p, l] → H a = some o → H a = some o := fun _ _ _ e => e
    refine ⟨_, rfl, p, _, 2, _, rfl, rfl, SqL.of hp, rfl, _, rfl, _, _, rfl, rfl, _, rfl, ite2 (fun e1 => ?_) fun e1 => ?_⟩
    · refine ⟨_, rfl, p, _, 1, _, rfl, rfl, SqL.of hp, rfl, _, rfl, p, _, 0, _, rfl, rfl, SqL.of hp, rfl, l, _, rfl, .inl (SqL.of hl), _, _, rfl, rfl, _, rfl, ite2 (fun e2 => ?_) fun e2 => ?_⟩
      · have hlt : pos.toNat < ns.length := by
          have := of_decide_eq_true e2
          rw [List.length_map] at this
          omega
        obtain ⟨z, hat⟩ : ∃ z, atI (ns.map V.int) pos = some (.int z) := by
          have e : pos = (pos.toNat : Int) := by omega
          refine ⟨ns[pos.toNat], ?_⟩
          generalize pos.toNat = j at e hlt ⊢
          subst e
          exact atI_nat (by rw [List.getElem?_map, List.getElem?_eq_getElem hlt]; rfl)
        refine ⟨_, rfl, p, _, 0, _, rfl, rfl, SqL.of hp, rfl, _, rfl, p, _, 1, _, rfl, rfl, SqL.of hp, rfl, l, _, _, _, rfl, rfl, SqL.of hl, hat, ?_⟩
        refine ⟨_, rfl, p, _, 1, _, rfl, rfl, SqL.of hp, rfl, _, _, rfl, rfl, _, rfl, p, _, 1, 1, rfl, rfl, hp, rfl, ?_⟩
        refine ⟨_, rfl, p, _, 2, 2, rfl, rfl, upd_same, rfl, ?_⟩
        refine ⟨_, rfl, _, rfl, _, _, rfl, rfl, ⟨by decide, by decide, by decide⟩, _, _, rfl, rfl, _, rfl, ite2 (fun e3 => ?_) fun e3 => ?_⟩
        · refine ⟨_, rfl, _, rfl, _, rfl, p, _, 2, 2, rfl, rfl, upd_same, rfl, ?_⟩
          refine tail _ _ (pos + 1) _ seed _ (by omega) ?_ (put (put (put fr0))) upd_same (putl (putl (putl hl)))
          split <;> omega
        · refine ⟨_, rfl, p, _, 3, _, rfl, rfl, SqL.of upd_same, rfl, _, _, rfl, rfl, .inr ⟨by decide, by decide⟩, _, rfl, _, _, rfl, rfl, (by show (0 : Int) < 2147483629; decide), _, _, rfl, rfl, .inr ⟨by decide, by decide⟩, _, _, rfl, rfl, _, _, rfl, rfl, _, _, rfl, rfl, (by show (0 : Int) < 2147483647; decide), _, rfl, p, _, 3, 3, rfl, rfl, upd_same, rfl, ?_⟩
          exact tail _ _ (pos + 1) 0 _ _ (by omega) (by omega) (put (put (put fr0))) upd_same (putl (putl (putl hl)))
      · exact tail _ _ pos left seed H b1 b2 fr0 hp hl
    · exact tail _ _ pos left seed H b1 b2 fr0 hp hl

end
end Law
namespace Law
open PySem PySem.Spec PyProof.Rows L2 Dk
section
variable {P : Program} {w : World} {K : Fg} {mg : Str → Option Value} {base : Heap}
set_option maxHeartbeats 4000000 in
theorem ok_l_tidy (T : Txt K mg) : FnOk P w K mg base CX0 1 T.l_tidy.f T.l_tidy.fd ["_law_p_here", "_law_pairs"] (PureSp K cTidy) := by
  refine pure_ok T.l_tidy.F scL_tidy (fun ds Qd h => by obtain ⟨p, xs, rfl, _⟩ := h; rfl) fun cdv A outer s H E hr => ?_
  refine ⟨_, (pss_cons (ps_set (i := 2) scL_tidy.nd rfl (.inr rfl) pe_dnewK)
        (pss_cons (ps_for PassesOwn.never rfl (kpil K (pv 1)) (kpg K 2 rfl (pgs_cons (pg_name (i := 3) scL_tidy.nd rfl (.inl rfl)) (pgs_cons (pg_name (i := 4) scL_tidy.nd rfl (.inl rfl)) pgs_nil))) (pss_one (ps_dput (hu_of hr) (pv 2) (pv 3) (pe_op op_mod (pe_op op_add (pe_dget2 (hu_of hr) (pv 2) (pv 3) pe_int ⟨rfl, rfl, rfl, rfl⟩) (pv 4)) (pv 0)) rfl)))
        (pss_one (ps_ret (pe_callTy (ktuple K) (by rfl) T.ztuple (by decide +kernel) (pa_cons (pe_lc (own := [("_law_place", 3)]) rfl scL_tidy.nd (kpil K (pe_callB (b_sortDI rfl) (by rfl) T.zsorted (by decide +kernel) (pa_cons (pv 2) pa_nil))) (blkOk_by (own := [("_law_place", 3)]) (N := nL_tidy) (sc := defScope sL_tidy) (by decide +kernel)) (fun _ _ _ _ _ => (pg_name (i := 3) scL_tidy.nd rfl (.inl rfl) (.inr rfl))) (fun _ _ _ _ _ => pts_one (pt_cmpR op_gt (pe_dget (hu_of hr) (pv 2) (pv 3) (fun _ _ => rfl)) pe_int (nomark _))) (fun _ _ _ _ _ => (pe_tup (pa_cons (pv 3) (pa_cons (pe_dget (hu_of hr) (pv 2) (pv 3) (fun _ _ => rfl)) pa_nil))))) pa_nil)))))), ?_⟩
  walk_at "ss"
  rintro ds Qd ⟨p, xs, rfl, hp, hk, q⟩
  refine ⟨[.sh (.int p), .ar (ePairs xs)], .cons (.inr ⟨rfl, rfl⟩) (.cons (.inl rfl) .nil), ?_⟩
  -- the loop
  refine ⟨_, rfl, _, _, rfl, for_pre (f := ePair) (fun pre Γ => ∃ y3 y4, Γ = [.sh (.int p), .ar (ePairs xs), .ow (.dK (sumsD p pre)), y3, y4] ∧ y3.own? = none) ⟨.no, .no, rfl, rfl⟩ ?_ ?_⟩
  · rintro pre x post Γ e ⟨y3, y4, rfl, _⟩
    have hl : (sumsD p pre).length < sizeLine := by
      have h2 := Pt.keys_mono pre (x :: post)
      rw [← e] at h2
      unfold sumsD
      rw [List.length_map]
      exact small100000 (by omega)
    have hv := valD_map (Pt.keys pre) (fun k => .int (Pt.sumAt pre k % p)) x.1
    have ht := sums_turn (p := p) pre x
    refine ⟨_, rfl, rfl, _, _, rfl, ⟨_, rfl, _, _, rfl, ⟨_, rfl, rfl, ?_⟩⟩⟩
    refine ⟨rfl, _, rfl, _, _, rfl, rfl, fun h0 => ?_, fun d h0 => ?_⟩
    · replace h0 := hv.symm.trans h0
      have hm : x.1 ∉ Pt.keys pre := fun z => by rw [if_pos z] at h0; cases h0
      rw [if_neg hm] at ht
      refine ⟨_, rfl, _, _, rfl, rfl, _, rfl, _, _, rfl, rfl, hp, rfl, _, rfl, _, _, _, _, rfl, rfl, rfl, hl, ?_⟩
      exact ⟨.ar (.int x.1), .ar (.int x.2), congrArg (fun z => [Sl.sh (.int p), .ar (ePairs xs), .ow (.dK z), .ar (.int x.1), .ar (.int x.2)]) ht, rfl⟩
    · replace h0 := hv.symm.trans h0
      by_cases hm : x.1 ∈ Pt.keys pre
      · rw [if_pos hm] at h0 ht
        cases h0
        refine ⟨_, rfl, _, _, rfl, rfl, _, rfl, _, _, rfl, rfl, hp, rfl, _, rfl, _, _, _, _, rfl, rfl, rfl, hl, ?_⟩
        exact ⟨.ar (.int x.1), .ar (.int x.2), congrArg (fun z => [Sl.sh (.int p), .ar (ePairs xs), .ow (.dK z), .ar (.int x.1), .ar (.int x.2)]) ht, rfl⟩
      · rw [if_neg hm] at h0
        cases h0
  · rintro Γ ⟨y3, y4, rfl, h3⟩
    -- tuple([.. for place in sorted(sums) ..])
    refine ⟨Pt.keys xs, by show some ((sumsD p xs).map _) = _; unfold sumsD; rw [List.map_map]; rfl, Nat.le_of_lt (small100000 (by omega)), fun ys hperm hs => ⟨_, rfl, _, _, rfl, ?_, rfl, ?_, lc_map (f := PyData.int) (fun k => (Pt.pick p xs k).map ePair) (fun k hk2 P hP => ?_) ?_⟩⟩
    · simp [ownFree, h3]
    · rw [List.length_map, hperm.length_eq]
      exact Nat.le_of_lt (small100000 (by omega))
    · have hv := valD_map (Pt.keys xs) (fun k => .int (Pt.sumAt xs k % p)) k
      rw [if_pos (hperm.mem_iff.mp hk2)] at hv
      refine ⟨_, rfl, rfl, _, rfl, _, _, rfl, congrArg some hv, _, _, rfl, rfl, _, rfl, ?_⟩
      unfold Pt.pick at hP
      by_cases e0 : Pt.sumAt xs k % p = 0
      · rw [if_neg (by simp [e0])] at hP
        exact iteFb (by rw [e0]; rfl) hP
      · rw [if_pos e0] at hP
        have m1 := Int.emod_nonneg (Pt.sumAt xs k) (show p ≠ 0 by omega)
        exact iteTb (decide_eq_true (by omega)) ⟨_, rfl, rfl, _, rfl, _, _, rfl, congrArg some hv, _, rfl, Nat.le_of_ble_eq_true rfl, _, rfl, hP⟩
    · refine ⟨_, rfl, _, rfl, trivial, _, rfl, ?_⟩
      rw [ePair_pick, Pt.pick_pat hp hperm hs]
      exact q

end
end Law
namespace Law
open PySem PySem.Spec PyProof.Rows L2 Dk
section
variable {P : Program} {w : World} {K : Fg} {mg : Str → Option Value} {base : Heap}
set_option maxHeartbeats 4000000 in
theorem ok_l_int (T : Txt K mg) : FnOk P w K mg base CX0 1 T.l_int.f T.l_int.fd ["_law_thing"] (PureSp K cInt) := by
  refine pure_ok T.l_int.F scL_int (fun ds Qd h => by obtain ⟨d, rfl, _⟩ := h; rfl) fun cdv A outer s H E hr => ?_
  refine ⟨_, (pss_one (ps_ret (pe_and (pe_callB (kisi K) (by rfl) T.zisinstance (by decide +kernel) (pa_cons (pv 0) (pa_cons (pe_bltn (v := .ty "int") (by rfl) T.zint (by decide +kernel) rfl) pa_nil))) (pe_one (pe_not (pe_callB (kisi K) (by rfl) T.zisinstance (by decide +kernel) (pa_cons (pv 0) (pa_cons (pe_bltn (v := .ty "bool") (by rfl) T.zbool (by decide +kernel) rfl) pa_nil)))))))), ?_⟩
  walk_at "ss"
  rintro ds Qd ⟨d, rfl, nd, q⟩
  refine ⟨[.ar d], .cons (.inl rfl) .nil, ?_⟩
  cases d with
  | int i => exact ⟨_, rfl, _, true, rfl, kb_int_int, _, rfl, iteT ⟨_, rfl, _, false, rfl, kb_int_bool, _, rfl, _, rfl, q⟩⟩
  | bool i => exact ⟨_, rfl, _, true, rfl, kb_bool_int, _, rfl, iteT ⟨_, rfl, _, true, rfl, kb_bool_bool, _, rfl, _, rfl, q⟩⟩
  | none => exact ⟨_, rfl, _, false, rfl, kb_NoneType_int, _, rfl, iteF ⟨_, rfl, q⟩⟩
  | str i => exact ⟨_, rfl, _, false, rfl, kb_str_int, _, rfl, iteF ⟨_, rfl, q⟩⟩
  | list i => exact ⟨_, rfl, _, false, rfl, kb_list_int, _, rfl, iteF ⟨_, rfl, q⟩⟩
  | tuple i => exact ⟨_, rfl, _, false, rfl, kb_tuple_int, _, rfl, iteF ⟨_, rfl, q⟩⟩
  | dict kvs => exact absurd rfl (nd kvs)

end
end Law
namespace Law
open PySem PySem.Spec PyProof.Rows L2 Dk
section
variable {P : Program} {w : World} {K : Fg} {mg : Str → Option Value} {base : Heap}
set_option maxHeartbeats 4000000 in
theorem ok_l_trim (T : Txt K mg) : FnOk P w K mg base CX0 1 T.l_trim.f T.l_trim.fd ["_law_p_here", "_law_row"] (PureSp K cTrim) := by
  refine pure_ok T.l_trim.F scL_trim (fun ds Qd h => by obtain ⟨p, a, rfl, _⟩ := h; rfl) fun cdv A outer s H E hr => ?_
  refine ⟨_, (pss_cons (ps_setLc (i := 2) (own := [("_law_number", 3)]) rfl scL_trim.nd rfl rfl (sw_true rfl rfl rfl (by decide +kernel)) (kpil K (pv 1)) (blkOk_by (own := [("_law_number", 3)]) (N := nL_trim) (sc := defScope sL_trim) (by decide +kernel)) (fun _ _ _ _ _ => (pg_name (i := 3) scL_trim.nd rfl (.inl rfl) (.inr rfl))) (fun _ _ _ _ _ => pts_nil) (fun _ _ _ _ _ => (pe_op op_mod (pv 3) (pv 0))))
        (pss_cons (ps_while PassesOwn.never (PW.pt (pw_and (pt_cmpR op_gt (pe_callB (klen K) (by rfl) T.zlen (by decide +kernel) (pa_cons (pv 2) pa_nil)) pe_int (nomark _)) (pw_and1 (pt_cmpR op_eq (pe_ix (kixL K) (pv 2) (pe_un un_neg pe_int) (fun _ _ => rfl)) pe_int (nomark _))))) (pss_one (ps_set (i := 2) scL_trim.nd rfl (.inl rfl) (pe_slice (kslL K) (pv 2) po_none (po_some (pe_un un_neg pe_int))))))
        (pss_one (ps_ret (pe_callTy (ktuple K) (by rfl) T.ztuple (by decide +kernel) (pa_cons (pv 2) pa_nil)))))), ?_⟩
  walk_at "ss"
  rintro ds Qd ⟨p, xs, rfl, hp, hl, q⟩
  refine ⟨[.sh (.int p), .ar (eList xs)], .cons (.inr ⟨rfl, rfl⟩) (.cons (.inl rfl) .nil), ?_⟩
  walk_at "h"
  refine lc_map (f := PyData.int) (fun x => some (PyData.int (x % p))) (fun x hx P hP => ?_) ?_
  · walk_at "h"
    exact hP
  · rw [fm_map]
    refine ⟨fun Γ => ∃ ks : List Int, Po.trimZ ks = Po.trim p xs ∧ ks.length ≤ 100000 ∧ Γ = [.sh (.int p), .ar (eList xs), .ow (.lst (ks.map .int)), .no], olen 2, ⟨xs.map (· % p), rfl, by simpa using hl, by rw [List.map_map]; rfl⟩, ?_⟩
    rintro Γ ⟨ks, ek, lk, rfl⟩
    walk_at "h"
    rcases Po.snoc_cases ks with rfl | ⟨ys, x, rfl⟩
    · refine iteFb rfl ?_
      walk_at "h"
      rw [← ek] at q
      exact q
    · refine iteTb (decide_eq_true (by simp)) ?_
      walk_at "h"
      refine ⟨_, _, _, rfl, rfl, nums_last, ?_⟩
      walk_at "h"
      by_cases h0 : x = 0
      · subst h0
        rw [Po.trimZ_snoc_zero] at ek
        refine iteTb rfl ?_
        walk_at "h"
        rw [cut_dropLast]
        refine ⟨⟨ys, ek, by simp at lk; omega, congrArg (fun z => [Sl.sh (.int p), .ar (eList xs), .ow (.lst z), .no]) (dropLast_nums ys 0)⟩, ?_⟩
        show (((ys ++ [0]).map PyData.int).dropLast).length < ((ys ++ [0]).map PyData.int).length
        rw [dropLast_nums, map_len_snoc, List.length_map]
        omega
      · rw [Po.trimZ_snoc_ne _ h0] at ek
        refine iteFb (decide_eq_false h0) ?_
        walk_at "h"
        rw [← ek] at q
        exact q

end
end Law
namespace Law
open PySem PySem.Spec PyProof.Rows L2 Dk
section
variable {P : Program} {w : World} {K : Fg} {mg : Str → Option Value} {base : Heap}
set_option maxHeartbeats 4000000 in
theorem ok_l_as_sum (T : Txt K mg) : FnOk P w K mg base CX0 1 T.l_as_sum.f T.l_as_sum.fd ["_law_pattern_here"] (PureSp K cAsSum) := by
  refine pure_ok T.l_as_sum.F scL_as_sum (fun ds Qd h => by obtain ⟨p, W, x, rfl, _⟩ := h; rfl) fun cdv A outer s H E hr => ?_
  refine ⟨_, (pss_cons (ps_set (i := 1) scL_as_sum.nd rfl (.inl rfl) (pe_lst pa_nil))
        (pss_cons (ps_for PassesOwn.never rfl (kpit K (pv 0)) (kpg K 2 rfl (pgs_cons (pg_name (i := 2) scL_as_sum.nd rfl (.inl rfl)) (pgs_cons (pg_name (i := 3) scL_as_sum.nd rfl (.inl rfl)) pgs_nil))) (pss_cons (ps_expr (kbm K PySem.F.plainAttrs_list PySem.F.slot_list_extend PySem.F.type_list_extend mt_extend (pv 1) (pa_cons (pe_op op_rep (pe_lst (pa_cons pe_int pa_nil)) (pe_op op_sub (pe_op op_sub (pv 2) (pe_ix (kixT K) (pe_ix (kixT K) (pv 0) pe_int (fun _ _ => rfl)) pe_int (fun _ _ => rfl))) (pe_callB (klen K) (by rfl) T.zlen (by decide +kernel) (pa_cons (pv 1) pa_nil)))) pa_nil)))
        (pss_one (ps_expr (kbm K PySem.F.plainAttrs_list PySem.F.slot_list_append PySem.F.type_list_append mt_append (pv 1) (pa_cons (pv 3) pa_nil))))))
        (pss_one (ps_ret (pe_callTy (ktuple K) (by rfl) T.ztuple (by decide +kernel) (pa_cons (pv 1) pa_nil)))))), ?_⟩
  walk_at "ss"
  rintro ds Qd ⟨p, W, x, rfl, hp, hx, w0, w1, hW, q⟩
  refine ⟨[.sh (ePat x)], .cons (.inr ⟨rfl, ePat_tupO _⟩) .nil, ?_⟩
  walk_at "h"
  refine for_pre (f := ePair) (fun pre Γ => ∃ (R : List Int) (y2 y3 : Sl), SumTo p pre R ∧ Γ = [.sh (ePat x), .ow (.lst (R.map .int)), y2, y3]) ⟨[], .no, .no, .inl ⟨rfl, rfl⟩, rfl⟩ ?_ ?_
  · rintro pre b post Γ e ⟨R, y2, y3, st, rfl⟩
    obtain ⟨a0, h0⟩ : ∃ a0, x[0]? = some a0 := ⟨_, List.getElem?_eq_getElem (by rw [e, List.length_append, List.length_cons]; omega)⟩
    have g0 : atI (x.map ePair) 0 = some (ePair a0) := atI_nat (j := 0) (by rw [List.getElem?_map, h0]; rfl)
    obtain ⟨hle, st2⟩ := sum_to_step (by rw [← e]; exact hx) st (by rw [← e]; exact h0)
    have wb := hW b (by rw [e]; simp)
    have wa := hW a0 (List.mem_of_getElem? h0)
    have lR : ((R.map PyData.int).length : Int) = R.length := by rw [List.length_map]
    have rep1 : repD [PyData.int 0] (b.1 - a0.1 - R.length).toNat = (List.replicate (b.1 - a0.1 - R.length).toNat 0).map PyData.int := by
      unfold repD
      rw [List.map_replicate]
      generalize (b.1 - a0.1 - R.length).toNat = n
      induction n with
      | zero => rfl
      | succ n ih =>
        rw [List.replicate_succ, List.replicate_succ, List.flatten_cons, ih]
        rfl
    walk_at "h"
    refine ⟨_, _, _, rfl, rfl, g0, ?_⟩
    walk_at "h"
    rw [lR, rep1]
    obtain ⟨n, hn⟩ : ∃ n : Nat, n = (b.1 - a0.1 - R.length).toNat := ⟨_, rfl⟩
    rw [← hn] at st2 ⊢
    have l1 : (R.map PyData.int).length + ((List.replicate n 0).map PyData.int).length ≤ sizeLine := Nat.le_of_lt (small100000 (by rw [List.length_map, List.length_map, List.length_replicate]; omega))
    have l2 : (R.map PyData.int ++ (List.replicate n 0).map PyData.int).length < sizeLine := small100000 (by rw [List.length_append, List.length_map, List.length_map, List.length_replicate]; omega)
    refine ⟨l1, ?_⟩
    walk_at "h"
    refine ⟨_, .sh (.int b.1), .sh (.int b.2), st2, ?_⟩
    rw [List.map_append, List.map_append]
    rfl
  · rintro Γ ⟨R, y2, y3, st, rfl⟩
    obtain ⟨h1, h2⟩ := sum_to_done hx st hW w0
    walk_at "h"
    exact q R h1 h2

end
end Law
namespace Law
open PySem PySem.Spec PyProof.Rows L2 Dk
section
variable {P : Program} {w : World} {K : Fg} {mg : Str → Option Value} {base : Heap}
set_option maxHeartbeats 4000000 in
theorem ok_tidyT (T : Txt K mg) : FnOk P w K mg base CX0 1 T.tidy.f T.tidy.fd ["p", "pairs"] (PureSp K cTidyT) := by
  refine pure_ok T.tidy.F scTidy (fun ds Qd h => by obtain ⟨p, xs, rfl, _⟩ := h; rfl) fun cdv A outer s H E hr => ?_
  refine ⟨_, (pss_cons (ps_set (i := 2) scTidy.nd rfl (.inr rfl) pe_dnewT)
        (pss_cons (ps_for PassesOwn.never rfl (kpil K (pv 1)) (kpg K 2 rfl (pgs_cons (pg_name (i := 3) scTidy.nd rfl (.inl rfl)) (pgs_cons (pg_name (i := 4) scTidy.nd rfl (.inl rfl)) pgs_nil))) (pss_one (ps_dput (hu_of hr) (pv 2) (pv 3) (pe_op op_mod (pe_op op_add (pe_dget2 (hu_of hr) (pv 2) (pv 3) pe_int ⟨rfl, rfl, rfl, rfl⟩) (pv 4)) (pv 0)) rfl)))
        (pss_one (ps_ret (pe_callTy (ktuple K) (by rfl) T.ztuple (by decide +kernel) (pa_cons (pe_lc (own := [("place", 3)]) rfl scTidy.nd (kpil K (pe_callB (b_sortDT rfl) (by rfl) T.zsorted (by decide +kernel) (pa_cons (pv 2) pa_nil))) (blkOk_by (own := [("place", 3)]) (N := nTidy) (sc := defScope sTidy) (by decide +kernel)) (fun _ _ _ _ _ => (pg_name (i := 3) scTidy.nd rfl (.inl rfl) (.inr rfl))) (fun _ _ _ _ _ => pts_one (pt_cmpR op_ne (pe_dget (hu_of hr) (pv 2) (pv 3) (fun _ _ => rfl)) pe_int (nomark _))) (fun _ _ _ _ _ => (pe_tup (pa_cons (pv 3) (pa_cons (pe_dget (hu_of hr) (pv 2) (pv 3) (fun _ _ => rfl)) pa_nil))))) pa_nil)))))), ?_⟩
  walk_at "ss"
  rintro ds Qd ⟨p, xs, rfl, hp, hk, q⟩
  refine ⟨[.sh (.int p), .ar (eMkL xs)], .cons (.inr ⟨rfl, rfl⟩) (.cons (.inl rfl) .nil), ?_⟩
  have hkl := Mk.keysP_len xs
  refine ⟨_, rfl, _, _, rfl, for_pre (f := eMp) (fun pre Γ => ∃ y3 y4, Γ = [.sh (.int p), .ar (eMkL xs), .ow (.dT (sumsT p pre)), y3, y4] ∧ y3.own? = none) ⟨.no, .no, rfl, rfl⟩ ?_ ?_⟩
  · rintro pre x post Γ e ⟨y3, y4, rfl, _⟩
    have hl : (sumsT p pre).length < sizeLine := by
      have h2 := Mk.keysP_mono pre (x :: post)
      rw [← e] at h2
      unfold sumsT
      rw [List.length_map]
      exact small100000 (by omega)
    have hv := valT_map (Mk.keysP pre) (fun k => .int (Mk.sumM pre k % p)) x.1
    have ht := sumsT_turn (p := p) pre x
    refine ⟨_, rfl, rfl, _, _, rfl, ⟨_, rfl, _, _, rfl, ⟨_, rfl, rfl, ?_⟩⟩⟩
    refine ⟨rfl, _, rfl, _, _, rfl, rfl, fun h0 => ?_, fun d h0 => ?_⟩
    · replace h0 := hv.symm.trans h0
      have hm : x.1 ∉ Mk.keysP pre := fun z => by rw [if_pos z] at h0; cases h0
      rw [if_neg hm] at ht
      refine ⟨_, rfl, _, _, rfl, rfl, _, rfl, _, _, rfl, rfl, hp, rfl, _, rfl, _, _, _, _, rfl, rfl, rfl, hl, ?_⟩
      exact ⟨.ar (ePair x.1), .ar (.int x.2), congrArg (fun z => [Sl.sh (.int p), .ar (eMkL xs), .ow (.dT z), .ar (ePair x.1), .ar (.int x.2)]) ht, rfl⟩
    · replace h0 := hv.symm.trans h0
      by_cases hm : x.1 ∈ Mk.keysP pre
      · rw [if_pos hm] at h0 ht
        cases h0
        refine ⟨_, rfl, _, _, rfl, rfl, _, rfl, _, _, rfl, rfl, hp, rfl, _, rfl, _, _, _, _, rfl, rfl, rfl, hl, ?_⟩
        exact ⟨.ar (ePair x.1), .ar (.int x.2), congrArg (fun z => [Sl.sh (.int p), .ar (eMkL xs), .ow (.dT z), .ar (ePair x.1), .ar (.int x.2)]) ht, rfl⟩
      · rw [if_neg hm] at h0
        cases h0
  · rintro Γ ⟨y3, y4, rfl, h3⟩
    refine ⟨Mk.keysP xs, by show some ((sumsT p xs).map _) = _; unfold sumsT; rw [List.map_map]; rfl, Nat.le_of_lt (small100000 (by omega)), fun ys hperm => ⟨_, rfl, _, _, rfl, ?_, rfl, ?_, lc_map (f := ePair) (fun k => (Mk.pick p xs k).map eMp) (fun k hk2 P hP => ?_) ?_⟩⟩
    · simp [ownFree, h3]
    · rw [List.length_map, hperm.length_eq]
      exact Nat.le_of_lt (small100000 (by omega))
    · have hv := valT_map (Mk.keysP xs) (fun k => .int (Mk.sumM xs k % p)) k
      rw [if_pos (hperm.mem_iff.mp hk2)] at hv
      refine ⟨_, rfl, rfl, _, rfl, _, _, rfl, congrArg some hv, _, _, _, rfl, rfl, rfl, _, rfl, ?_⟩
      unfold Mk.pick at hP
      by_cases e0 : Mk.sumM xs k % p = 0
      · rw [if_neg (by simp [e0])] at hP
        refine ite2 (fun z => by simp [e0] at z) fun _ => hP
      · rw [if_pos e0] at hP
        refine ite2 (fun _ => ?_) fun z => by simp [e0] at z
        exact ⟨_, rfl, rfl, _, rfl, _, _, rfl, congrArg some hv, _, rfl, Nat.le_of_ble_eq_true rfl, _, rfl, hP⟩
    · refine ⟨_, rfl, _, rfl, trivial, _, rfl, ?_⟩
      rw [eMp_pick]
      exact q _ (Mk.pick_tidy hp hperm)

end
end Law
namespace Law
open PySem PySem.Spec PyProof.Rows L2 Dk
section
variable {P : Program} {w : World} {K : Fg} {mg : Str → Option Value} {base : Heap}
set_option maxHeartbeats 4000000 in
theorem ok_added (T : Txt K mg) : FnOk P w K mg base CX0 2 T.added.f T.added.fd ["p", "one", "other"] (PureSp K cAdded) := by
  refine pure_ok T.added.F scAdded (fun ds Qd h => by obtain ⟨p, xs, ys, rfl, _⟩ := h; rfl) fun cdv A outer s H E hr => ?_
  refine ⟨_, (pss_one (ps_ret (pe_call (ok_tidy T) (hr.mono (by decide)) (by rfl) T.tidy.m T.tidy.F.kp T.tidy.b .nil pass0 (pa_cons (pv 0) (pa_cons (pe_op op_cat (pe_callTy (klist K) (by rfl) T.zlist (by decide +kernel) (pa_cons (pv 1) pa_nil)) (pe_callTy (klist K) (by rfl) T.zlist (by decide +kernel) (pa_cons (pv 2) pa_nil))) pa_nil))))), ?_⟩
  walk_at "ss"
  rintro ds Qd ⟨p, xs, ys, rfl, hp, hx, hy, q⟩
  refine ⟨[.sh (.int p), .sh (ePat xs), .sh (ePat ys)], .cons (.inr ⟨rfl, rfl⟩) (.cons (.inr ⟨rfl, ePat_tupO _⟩) (.cons (.inr ⟨rfl, ePat_tupO _⟩) .nil)), ?_⟩
  walk_at "g"
  have hk := Pt.keys_len (xs ++ ys)
  rw [List.length_append] at hk
  exact ⟨p, xs ++ ys, by rw [← List.map_append]; rfl, hp, by omega, _, rfl, q⟩

end
end Law
namespace Law
open PySem PySem.Spec PyProof.Rows L2 Dk
section
variable {P : Program} {w : World} {K : Fg} {mg : Str → Option Value} {base : Heap}
set_option maxHeartbeats 4000000 in
theorem ok_timed (T : Txt K mg) : FnOk P w K mg base CX0 2 T.timed.f T.timed.fd ["p", "pattern", "n"] (PureSp K cTimed) := by
  refine pure_ok T.timed.F scTimed (fun ds Qd h => by obtain ⟨p, xs, n, rfl, _⟩ := h; rfl) fun cdv A outer s H E hr => ?_
  refine ⟨_, (pss_one (ps_ret (pe_call (ok_tidy T) (hr.mono (by decide)) (by rfl) T.tidy.m T.tidy.F.kp T.tidy.b .nil pass0 (pa_cons (pv 0) (pa_cons (pe_lc (own := [("place", 3), ("setting", 4)]) rfl scTimed.nd (kpit K (pv 1)) (blkOk_by (own := [("place", 3), ("setting", 4)]) (N := nTimed) (sc := defScope sTimed) (by decide +kernel)) (fun _ _ _ _ _ => (kpg K 2 rfl (pgs_cons (pg_name (i := 3) scTimed.nd rfl (.inl rfl) (.inr rfl)) (pgs_cons (pg_name (i := 4) scTimed.nd rfl (.inl rfl) (.inr rfl)) pgs_nil)))) (fun _ _ _ _ _ => pts_nil) (fun _ _ _ _ _ => (pe_tup (pa_cons (pv 3) (pa_cons (pe_op op_mul (pv 4) (pv 2)) pa_nil))))) pa_nil))))), ?_⟩
  walk_at "ss"
  rintro ds Qd ⟨p, xs, n, rfl, hp, hx, hm, q⟩
  refine ⟨[.sh (.int p), .sh (ePat xs), .sh (.int n)], .cons (.inr ⟨rfl, rfl⟩) (.cons (.inr ⟨rfl, ePat_tupO _⟩) (.cons (.inr ⟨rfl, rfl⟩) .nil)), ?_⟩
  walk_at "g"
  refine lc_map (f := ePair) (fun x => some (ePair (x.1, x.2 * n))) (fun x hx P hP => ?_) ?_
  · have := hm x hx
    walk_at "g"
    exact hP
  · rw [fm_map]
    walk_at "g"
    have hk := Pt.keys_len (xs.map fun x => (x.1, x.2 * n))
    rw [List.length_map] at hk
    refine ⟨p, xs.map fun x : Int × Int => (x.1, x.2 * n), by unfold ePairs; rw [List.map_map]; rfl, hp, by omega, _, rfl, ?_⟩
    exact q

end
end Law
namespace Law
open PySem PySem.Spec PyProof.Rows L2 Dk
section
variable {P : Program} {w : World} {K : Fg} {mg : Str → Option Value} {base : Heap}
set_option maxHeartbeats 2000000 in
theorem ok_first_column (T : Txt K mg) : FnOk P w K mg base CX0 2 T.first_column.f T.first_column.fd ["stride", "pattern"] (PureSp K cFirstC) := by
  refine pure_ok T.first_column.F scFirst_column (fun ds Qd h => by obtain ⟨st, xs, rfl, _⟩ := h; rfl) fun cdv A outer s H E hr => ?_
  refine ⟨_, (pss_one (ps_ret (pe_callB (kmin K rfl) (by rfl) T.zmin (by decide +kernel) (pa_cons (pe_lc (own := [("place", 2), ("setting", 3)]) rfl scFirst_column.nd (kpit K (pv 1)) (blkOk_by (own := [("place", 2), ("setting", 3)]) (N := nFirst_column) (sc := defScope sFirst_column) (by decide +kernel)) (fun _ _ _ _ _ => (kpg K 2 rfl (pgs_cons (pg_name (i := 2) scFirst_column.nd rfl (.inl rfl) (.inr rfl)) (pgs_cons (pg_name (i := 3) scFirst_column.nd rfl (.inl rfl) (.inr rfl)) pgs_nil)))) (fun _ _ _ _ _ => pts_nil) (fun _ _ _ _ _ => (pe_call (ok_column T) (hr.mono (by decide)) (by rfl) T.column.m T.column.F.kp T.column.b .nil pass0 (pa_cons (pv 2) (pa_cons (pv 0) pa_nil))))) pa_nil)))), ?_⟩
  walk_at "ss"
  rintro ds Qd ⟨st, xs, rfl, hs, hn, hl, q⟩
  refine ⟨[.sh (.int st), .sh (ePat xs)], .cons (.inr ⟨rfl, rfl⟩) (.cons (.inr ⟨rfl, ePat_tupO _⟩) .nil), ?_⟩
  walk_at "h"
  refine lc_map (f := ePair) (fun x => some (.int (Sr.col st x.1))) (fun x hx P hP => ?_) ?_
  · walk_at "h"
    exact hP
  · rw [fm_map]
    have e : (xs.map fun x => PyData.int (Sr.col st x.1)) = (xs.map fun x => Sr.col st x.1).map .int := by rw [List.map_map]; rfl
    rw [e]
    have hne : 0 < (xs.map fun x => Sr.col st x.1).length := by rw [List.length_map]; exact List.length_pos_iff.mpr hn
    walk_at "h"
    intro m h1 h2
    rw [Sr.minL_is h1 h2]
    walk_at "h"
    exact q

end
end Law
namespace Law
open PySem PySem.Spec PyProof.Rows L2 Dk
section
variable {P : Program} {w : World} {K : Fg} {mg : Str → Option Value} {base : Heap}
set_option maxHeartbeats 2000000 in
theorem ok_places_in (T : Txt K mg) : FnOk P w K mg base CX0 2 T.places_in.f T.places_in.fd ["stride", "pattern", "at"] (FreshSp K cSpots) := by
  refine fresh_ok T.places_in.F scPlaces_in (fun ds Qd h => by obtain ⟨st, xs, c, rfl, _⟩ := h; rfl) fun cdv A outer s H E hr => ?_
  refine ⟨_, (pss_one (ps_ret (pe_lc (own := [("place", 3), ("setting", 4)]) rfl scPlaces_in.nd (kpit K (pv 1)) (blkOk_by (own := [("place", 3), ("setting", 4)]) (N := nPlaces_in) (sc := defScope sPlaces_in) (by decide +kernel)) (fun _ _ _ _ _ => (kpg K 2 rfl (pgs_cons (pg_name (i := 3) scPlaces_in.nd rfl (.inl rfl) (.inr rfl)) (pgs_cons (pg_name (i := 4) scPlaces_in.nd rfl (.inl rfl) (.inr rfl)) pgs_nil)))) (fun _ _ _ _ _ => pts_one (pt_cmpR op_eq (pe_call (ok_column T) (hr.mono (by decide)) (by rfl) T.column.m T.column.F.kp T.column.b .nil pass0 (pa_cons (pv 3) (pa_cons (pv 0) pa_nil))) (pv 2) (nomark _))) (fun _ _ _ _ _ => (pv 3))))), ?_⟩
  walk_at "ss"
  rintro ds Qd ⟨st, xs, c, rfl, hs, hl, q⟩
  refine ⟨[.sh (.int st), .sh (ePat xs), .sh (.int c)], .cons (.inr ⟨rfl, rfl⟩) (.cons (.inr ⟨rfl, ePat_tupO _⟩) (.cons (.inr ⟨rfl, rfl⟩) .nil)), ?_⟩
  walk_at "h"
  refine lc_map (f := ePair) (fun x => if decide (Sr.col st x.1 = c) = true then some (.int x.1) else none) (fun x hx P hP => ?_) ?_
  · walk_at "h"
    refine ite2b (fun hz => ?_) fun hz => ?_
    · rw [if_pos (show decide (Sr.col st x.1 = c) = true from hz)] at hP
      walk_at "h"
      exact hP
    · rw [if_neg (by rw [show decide (Sr.col st x.1 = c) = false from hz]; exact Bool.false_ne_true)] at hP
      exact hP
  · show Qd (.lst _)
    rw [spots_fm]
    exact q

end
end Law
namespace Law
open PySem PySem.Spec PyProof.Rows L2 Dk
section
variable {P : Program} {w : World} {K : Fg} {mg : Str → Option Value} {base : Heap}
set_option maxHeartbeats 4000000 in
theorem ok_l_p (T : Txt K mg) : FnOk P w K mg base CX0 2 T.l_p.f T.l_p.fd ["_law_draw"] (RefSp K IsDraw cP) := by
  refine ref_ok T.l_p.F scL_p (fun ds Qd h => by obtain ⟨rfl, _⟩ := h; rfl) fun cdv A outer s H E hr => ?_
  refine ⟨_, (pss_one (ps_ret (pe_ix (kixT K) (pe_tup (pa_cons pe_int (pa_cons pe_int (pa_cons pe_int (pa_cons pe_int pa_nil))))) (pe_call (ok_l_take T) (hr.mono (by decide)) (by rfl) T.l_take.m T.l_take.F.kp T.l_take.b .nil pass0 (pa_cons (pv 0) (pa_cons pe_int pa_nil))) (fun _ _ => rfl)))), ?_⟩
  walk_at "ss"
  rintro ds Qd ⟨rfl, q⟩
  refine ⟨[], .nil, ?_⟩
  refine ⟨_, rfl, Nat.le_of_ble_eq_true rfl, .inr rfl, _, .inr rfl, rfl, 4, rfl, by decide, by decide, fun r h0 h1 => ?_⟩
  have hr : r = 0 ∨ r = 1 ∨ r = 2 ∨ r = 3 := by omega
  rcases hr with rfl | rfl | rfl | rfl
  · exact ⟨_, _, _, rfl, rfl, rfl, rfl, _, rfl, q 2 (.inl rfl)⟩
  · exact ⟨_, _, _, rfl, rfl, rfl, rfl, _, rfl, q 3 (.inr (.inl rfl))⟩
  · exact ⟨_, _, _, rfl, rfl, rfl, rfl, _, rfl, q 5 (.inr (.inr (.inl rfl)))⟩
  · exact ⟨_, _, _, rfl, rfl, rfl, rfl, _, rfl, q 7 (.inr (.inr (.inr rfl)))⟩

end
end Law
namespace Law
open PySem PySem.Spec PyProof.Rows L2 Dk
section
variable {P : Program} {w : World} {K : Fg} {mg : Str → Option Value} {base : Heap}
set_option maxHeartbeats 4000000 in
theorem ok_l_pattern (T : Txt K mg) : FnOk P w K mg base CX0 2 T.l_pattern.f T.l_pattern.fd ["_law_draw", "_law_p_here", "_law_most", "_law_far"] (RefSp K IsDraw cPattern) := by
  refine ref_ok T.l_pattern.F scL_pattern (fun ds Qd h => by obtain ⟨p, m, f, rfl, _⟩ := h; rfl) fun cdv A outer s H E hr => ?_
  refine ⟨_, (pss_cons (ps_set (i := 4) scL_pattern.nd rfl (.inl rfl) (pe_lst pa_nil))
        (pss_cons (ps_for PassesOwn.never rfl (pi_range1 rfl T.zrange (pa_cons (pe_call (ok_l_take T) (hr.mono (by decide)) (by rfl) T.l_take.m T.l_take.F.kp T.l_take.b .nil pass0 (pa_cons (pv 0) (pa_cons (pe_op op_add (pv 2) pe_int) pa_nil))) pa_nil)) (pg_name (i := 5) scL_pattern.nd rfl (.inl rfl)) (pss_cons (ps_set (i := 6) scL_pattern.nd rfl (.inl rfl) (pe_op op_sub (pe_call (ok_l_take T) (hr.mono (by decide)) (by rfl) T.l_take.m T.l_take.F.kp T.l_take.b .nil pass0 (pa_cons (pv 0) (pa_cons (pe_op op_add (pe_op op_mul pe_int (pv 3)) pe_int) pa_nil))) (pv 3)))
        (pss_one (ps_expr (kbm K PySem.F.plainAttrs_list PySem.F.slot_list_append PySem.F.type_list_append mt_append (pv 4) (pa_cons (pe_tup (pa_cons (pv 6) (pa_cons (pe_op op_add pe_int (pe_call (ok_l_take T) (hr.mono (by decide)) (by rfl) T.l_take.m T.l_take.F.kp T.l_take.b .nil pass0 (pa_cons (pv 0) (pa_cons (pe_op op_sub (pv 1) pe_int) pa_nil)))) pa_nil))) pa_nil))))))
        (pss_one (ps_ret (pe_call (ok_l_tidy T) (hr.mono (by decide)) (by rfl) T.l_tidy.m T.l_tidy.F.kp T.l_tidy.b .nil pass0 (pa_cons (pv 1) (pa_cons (pv 4) pa_nil))))))), ?_⟩
  walk_at "ss"
  rintro ds Qd ⟨p, most, far, rfl, hp, m0, m1, f0, f1, q⟩
  refine ⟨[.sh (.int p), .sh (.int most), .sh (.int far)], .cons (.inr ⟨rfl, rfl⟩) (.cons (.inr ⟨rfl, rfl⟩) (.cons (.inr ⟨rfl, rfl⟩) .nil)), ?_⟩
  refine ⟨_, rfl, Nat.le_of_ble_eq_true rfl, .inr rfl, _, rfl, _, _, rfl, rfl, _, .inr rfl, rfl, _, rfl, by omega, by omega, fun n n0 n1 => ?_⟩
  refine ⟨_, _, _, rfl, ⟨n, rfl, by omega, by omega, rfl, rfl⟩, fun k Γ => ∃ (xs : Pt.Pat) (y5 y6 : Sl), xs.length = k ∧ (∀ x ∈ xs, -far ≤ x.1 ∧ x.1 ≤ far) ∧ Γ = [.rf (.ab IsDraw), .sh (.int p), .sh (.int most), .sh (.int far), .ow (.lst (xs.map ePair)), y5, y6], ⟨[], .no, .no, rfl, by simp, rfl⟩, ?_, ?_⟩
  · rintro k Γ hk ⟨xs, y5, y6, hl, hf, rfl⟩
    refine ⟨_, rfl, ?_⟩
    refine ⟨.inr rfl, _, rfl, _, _, rfl, rfl, .inl ⟨by decide, by decide⟩, _, _, rfl, rfl, _, .inr rfl, rfl, _, rfl, by omega, by omega, fun r r0 r1 => ⟨_, rfl, _, _, rfl, rfl, _, rfl, ?_⟩⟩
    refine ⟨rfl, _, rfl, .inr rfl, _, rfl, _, _, rfl, rfl, _, .inr rfl, rfl, _, rfl, ?_, ?_, fun u u0 u1 => ⟨_, _, rfl, rfl, _, rfl, Nat.le_of_ble_eq_true rfl, _, _, rfl, rfl, ?_, ?_⟩⟩
    · have := hp.two; omega
    · have := hp.le; omega
    · rw [List.length_map]
      exact small1000 (by omega)
    · refine ⟨xs ++ [(r - far, 1 + u)], _, _, by simp [hl], fun x hx => ?_, by rw [List.map_append]; rfl⟩
      rcases List.mem_append.mp hx with hx | hx
      · exact hf x hx
      · simp at hx
        subst hx
        simp only
        omega
  · rintro Γ ⟨xs, y5, y6, hl, hf, rfl⟩
    have h1 := Pt.keys_len xs
    have h2 := Pt.tidy_len p xs
    refine ⟨_, rfl, _, rfl, _, rfl, p, xs, rfl, hp.pos, by omega, rfl, _, rfl, ?_⟩
    refine q _ (Pt.tidy_pat hp.pos xs) (by omega) fun x hx => ?_
    obtain ⟨y, hy, e⟩ := Pt.tidy_mem hp.pos hx
    rw [← e]
    exact hf y hy

end
end Law
namespace Law
open PySem PySem.Spec PyProof.Rows L2 Dk
section
variable {P : Program} {w : World} {K : Fg} {mg : Str → Option Value} {base : Heap}
set_option maxHeartbeats 4000000 in
theorem ok_l_sum (T : Txt K mg) : FnOk P w K mg base CX0 2 T.l_sum.f T.l_sum.fd ["_law_p_here", "_law_one", "_law_other", "_law_by", "_law_many"] (PureSp K cSum) := by
  refine pure_ok T.l_sum.F scL_sum (fun ds Qd h => by obtain ⟨p, xs, ys, b, n, rfl, _⟩ := h; rfl) fun cdv A outer s H E hr => ?_
  refine ⟨_, (pss_one (ps_ret (pe_call (ok_l_tidy T) (hr.mono (by decide)) (by rfl) T.l_tidy.m T.l_tidy.F.kp T.l_tidy.b .nil pass0 (pa_cons (pv 0) (pa_cons (pe_op op_cat (pe_callTy (klist K) (by rfl) T.zlist (by decide +kernel) (pa_cons (pv 1) pa_nil)) (pe_lc (own := [("_law_place", 5), ("_law_setting", 6)]) rfl scL_sum.nd (kpit K (pv 2)) (blkOk_by (own := [("_law_place", 5), ("_law_setting", 6)]) (N := nL_sum) (sc := defScope sL_sum) (by decide +kernel)) (fun _ _ _ _ _ => (kpg K 2 rfl (pgs_cons (pg_name (i := 5) scL_sum.nd rfl (.inl rfl) (.inr rfl)) (pgs_cons (pg_name (i := 6) scL_sum.nd rfl (.inl rfl) (.inr rfl)) pgs_nil)))) (fun _ _ _ _ _ => pts_nil) (fun _ _ _ _ _ => (pe_tup (pa_cons (pe_op op_add (pv 5) (pv 3)) (pa_cons (pe_op op_mul (pv 6) (pv 4)) pa_nil)))))) pa_nil))))), ?_⟩
  walk_at "ss"
  rintro ds Qd ⟨p, xs, ys, b, n, rfl, hp, hx, hy, hm, q⟩
  refine ⟨[.sh (.int p), .sh (ePat xs), .sh (ePat ys), .sh (.int b), .sh (.int n)], .cons (.inr ⟨rfl, rfl⟩) (.cons (.inr ⟨rfl, ePat_tupO _⟩) (.cons (.inr ⟨rfl, ePat_tupO _⟩) (.cons (.inr ⟨rfl, rfl⟩) (.cons (.inr ⟨rfl, rfl⟩) .nil)))), ?_⟩
  walk_at "g"
  refine lc_map (f := ePair) (fun x => some (ePair (x.1 + b, x.2 * n))) (fun x hx P hP => ?_) ?_
  · have := hm x hx
    walk_at "g"
    exact hP
  · rw [fm_map]
    walk_at "g"
    have hk := Pt.keys_len (xs ++ ys.map fun x => (x.1 + b, x.2 * n))
    rw [List.length_append, List.length_map] at hk
    refine ⟨p, xs ++ ys.map fun x : Int × Int => (x.1 + b, x.2 * n), by unfold ePairs; rw [List.map_append, List.map_map]; rfl, hp, by omega, _, rfl, ?_⟩
    exact q

end
end Law
namespace Law
open PySem PySem.Spec PyProof.Rows L2 Dk
section
variable {P : Program} {w : World} {K : Fg} {mg : Str → Option Value} {base : Heap}
set_option maxHeartbeats 4000000 in
theorem ok_l_is_pattern (T : Txt K mg) : FnOk P w K mg base CX0 2 T.l_is_pattern.f T.l_is_pattern.fd ["_law_p_here", "_law_thing"] (PureSp K cIsPattern) := by
  refine pure_ok T.l_is_pattern.F scL_is_pattern (fun ds Qd h => by obtain ⟨p, xs, rfl, _⟩ := h; rfl) fun cdv A outer s H E hr => ?_
  refine ⟨_, (pss_cons (ps_if (pt_not (pt_val (pe_callB (kisi K) (by rfl) T.zisinstance (by decide +kernel) (pa_cons (pv 1) (pa_cons (pe_bltn (v := .ty "tuple") (by rfl) T.ztuple (by decide +kernel) rfl) pa_nil))))) (pss_one (ps_ret pe_bl)) pss_nil)
        (pss_cons (ps_for PassesOwn.never rfl (pi_range1 rfl T.zrange (pa_cons (pe_callB (klen K) (by rfl) T.zlen (by decide +kernel) (pa_cons (pv 1) pa_nil)) pa_nil)) (pg_name (i := 2) scL_is_pattern.nd rfl (.inl rfl)) (pss_cons (ps_set (i := 3) scL_is_pattern.nd rfl (.inl rfl) (pe_ix (kixT K) (pv 1) (pv 2) (fun _ _ => rfl)))
        (pss_cons (ps_if (PW.pt (pw_or (pt_not (pt_val (pe_callB (kisi K) (by rfl) T.zisinstance (by decide +kernel) (pa_cons (pv 3) (pa_cons (pe_bltn (v := .ty "tuple") (by rfl) T.ztuple (by decide +kernel) rfl) pa_nil))))) (pw_or1 (pt_cmpR op_ne (pe_callB (klen K) (by rfl) T.zlen (by decide +kernel) (pa_cons (pv 3) pa_nil)) pe_int (nomark _))))) (pss_one (ps_ret pe_bl)) pss_nil)
        (pss_cons (ps_if (PW.pt (pw_or (pt_not (pt_val (pe_call (ok_l_int T) (hr.mono (by decide)) (by rfl) T.l_int.m T.l_int.F.kp T.l_int.b .nil pass0 (pa_cons (pe_ix (kixT K) (pv 3) pe_int (fun _ _ => rfl)) pa_nil)))) (pw_or (pt_not (pt_val (pe_call (ok_l_int T) (hr.mono (by decide)) (by rfl) T.l_int.m T.l_int.F.kp T.l_int.b .nil pass0 (pa_cons (pe_ix (kixT K) (pv 3) pe_int (fun _ _ => rfl)) pa_nil)))) (pw_or1 (pt_not (pt_chain op_lt op_lt pe_int (pe_ix (kixT K) (pv 3) pe_int (fun _ _ => rfl)) (pv 0))))))) (pss_one (ps_ret pe_bl)) pss_nil)
        (pss_one (ps_if (PW.pt (pw_and (pt_cmpR op_gt (pv 2) pe_int (nomark _)) (pw_and1 (pt_cmpR op_ge (pe_ix (kixT K) (pe_ix (kixT K) (pv 1) (pe_op op_sub (pv 2) pe_int) (fun _ _ => rfl)) pe_int (fun _ _ => rfl)) (pe_ix (kixT K) (pv 3) pe_int (fun _ _ => rfl)) (nomark _))))) (pss_one (ps_ret pe_bl)) pss_nil))))))
        (pss_one (ps_ret pe_bl)))), ?_⟩
  walk_at "ss"
  rintro ds Qd ⟨p, xs, rfl, hx, hl, q⟩
  refine ⟨[.sh (.int p), .sh (ePat xs)], .cons (.inr ⟨rfl, rfl⟩) (.cons (.inr ⟨rfl, ePat_tupO xs⟩) .nil), ?_⟩
  refine ⟨_, fun _ h => h, _, rfl, _, true, rfl, kb_tuple_tuple, _, rfl, iteF ?_⟩
  refine ⟨_, rfl, _, rfl, _, _, _, rfl, ⟨_, rfl, ?_, ?_, rfl, rfl⟩, fun k Γ => ∃ y2 y3, Γ = [.sh (.int p), .sh (ePat xs), y2, y3], ⟨.no, .no, rfl⟩, ?_, ?_⟩
  · rw [List.length_map]; omega
  · rw [List.length_map]; omega
  · rintro k Γ hk ⟨y2, y3, rfl⟩
    have hk' : k < xs.length := by simpa using hk
    have hat : atI (xs.map ePair) (0 + (k : Int)) = some (ePair xs[k]) := by
      rw [Int.zero_add]
      exact atI_nat (by rw [List.getElem?_map, List.getElem?_eq_getElem hk']; rfl)
    have hr := hx.rng xs[k] (List.getElem_mem hk')
    refine ⟨_, rfl, _, rfl, _, rfl, _, _, _, rfl, rfl, hat, _, rfl, ?_⟩
    refine ⟨_, fun _ h => h, _, rfl, _, true, rfl, kb_tuple_tuple, _, rfl, iteF ⟨_, rfl, _, rfl, _, _, _, rfl, rfl, rfl, _, rfl, iteF ?_⟩⟩
    refine ⟨_, fun _ h => h, _, rfl, _, _, _, rfl, rfl, rfl, _, rfl, _, rfl, (fun _ z => by cases z), _, rfl, iteF ?_⟩
    refine ⟨_, rfl, _, _, _, rfl, rfl, rfl, _, rfl, _, rfl, (fun _ z => by cases z), _, rfl, iteF ?_⟩
    refine ⟨_, rfl, _, _, _, rfl, rfl, rfl, _, _, rfl, rfl, fun _ => ⟨_, rfl, _, rfl, _, rfl, ?_⟩, fun z => absurd hr.1 (of_decide_eq_false z)⟩
    refine iteFb (by show (!decide (xs[k].2 < p)) = false; rw [decide_eq_true hr.2]; rfl) ⟨_, fun _ h => h, _, rfl, _, _, rfl, rfl, _, rfl, ite2 (fun e1 => ?_) fun e1 => iteF ⟨_, _, rfl⟩⟩
    have k0 : 0 < k := by
      have := of_decide_eq_true e1
      omega
    have hat' : atI (xs.map ePair) (0 + (k : Int) - 1) = some (ePair xs[k - 1]) := by
      rw [show (0 + (k : Int) - 1) = ((k - 1 : Nat) : Int) by omega]
      exact atI_nat (by rw [List.getElem?_map, List.getElem?_eq_getElem (by omega)]; rfl)
    have hlt : xs[k - 1].1 < xs[k].1 := List.pairwise_iff_getElem.mp hx.srt (k - 1) k (by omega) hk' (by omega)
    refine ⟨_, rfl, _, rfl, _, _, rfl, rfl, _, _, _, rfl, rfl, hat', _, _, _, rfl, rfl, rfl, _, rfl, _, _, _, rfl, rfl, rfl, _, _, rfl, rfl, _, rfl, ?_⟩
    exact iteFb (decide_eq_false (by show ¬ xs[k].1 ≤ xs[k - 1].1; omega)) ⟨_, _, rfl⟩
  · rintro Γ ⟨y2, y3, rfl⟩
    exact ⟨_, rfl, q⟩

end
end Law
namespace Law
open PySem PySem.Spec PyProof.Rows L2 Dk
section
variable {P : Program} {w : World} {K : Fg} {mg : Str → Option Value} {base : Heap}
set_option maxHeartbeats 4000000 in
theorem ok_l_mul (T : Txt K mg) : FnOk P w K mg base CX0 2 T.l_mul.f T.l_mul.fd ["_law_p_here", "_law_one", "_law_other"] (PureSp K cMulS) := by
  refine pure_ok T.l_mul.F scL_mul (fun ds Qd h => by obtain ⟨p, a, b, rfl, _⟩ := h; rfl) fun cdv A outer s H E hr => ?_
  refine ⟨_, (pss_cons (ps_set (i := 3) scL_mul.nd rfl (.inl rfl) (pe_op op_rep (pe_lst (pa_cons pe_int pa_nil)) (pe_op op_add (pe_callB (klen K) (by rfl) T.zlen (by decide +kernel) (pa_cons (pv 1) pa_nil)) (pe_callB (klen K) (by rfl) T.zlen (by decide +kernel) (pa_cons (pv 2) pa_nil)))))
        (pss_cons (ps_for PassesOwn.never rfl (pi_range1 rfl T.zrange (pa_cons (pe_callB (klen K) (by rfl) T.zlen (by decide +kernel) (pa_cons (pv 1) pa_nil)) pa_nil)) (pg_name (i := 4) scL_mul.nd rfl (.inl rfl)) (pss_one (ps_for PassesOwn.never rfl (pi_range1 rfl T.zrange (pa_cons (pe_callB (klen K) (by rfl) T.zlen (by decide +kernel) (pa_cons (pv 2) pa_nil)) pa_nil)) (pg_name (i := 5) scL_mul.nd rfl (.inl rfl)) (pss_one (ps_asg (pe_op op_add (pe_ix (kixL K) (pv 3) (pe_op op_add (pv 4) (pv 5)) (fun _ _ => rfl)) (pe_op op_mul (pe_ix (kixT K) (pv 1) (pv 4) (fun _ _ => rfl)) (pe_ix (kixT K) (pv 2) (pv 5) (fun _ _ => rfl)))) (pg_sub (pv 3) (pe_op op_add (pv 4) (pv 5)) set_list))))))
        (pss_one (ps_ret (pe_call (ok_l_trim T) (hr.mono (by decide)) (by rfl) T.l_trim.m T.l_trim.F.kp T.l_trim.b .nil pass0 (pa_cons (pv 0) (pa_cons (pv 3) pa_nil))))))), ?_⟩
  walk_at "ss"
  rintro ds Qd ⟨p, a, b, rfl, hp, la, lb, sm, q⟩
  refine ⟨[.sh (.int p), .sh (eNums a), .sh (eNums b)], .cons (.inr ⟨rfl, rfl⟩) (.cons (.inr ⟨rfl, eNums_tupO _⟩) (.cons (.inr ⟨rfl, eNums_tupO _⟩) .nil)), ?_⟩
  have hn : ((((a.map PyData.int).length : Nat) : Int) + (((b.map PyData.int).length : Nat) : Int)) = ((a.length + b.length : Nat) : Int) := by rw [List.length_map, List.length_map]; omega
  have b3 : [PyData.int 0].length * ((((a.map PyData.int).length : Nat) : Int) + (((b.map PyData.int).length : Nat) : Int)).toNat ≤ sizeLine := by
    rw [hn, Int.toNat_natCast]
    exact Nat.le_of_lt (small100000 (by simp only [List.length_cons, List.length_nil]; omega))
  iterate 10 walk_at "h1"
  refine ⟨by omega, by rw [hn]; omega, b3, ?_⟩
  rw [hn, Int.toNat_natCast]
  rw [rep_nums]
  have htr : Po.mul p a b = Po.trim p (Po.tab (a.length + b.length) (Po.rowM a b a.length 0)) := by
    unfold Po.mul Po.mulL
    congr 1
    exact Po.tab_congr fun m _ => (Po.rowM_done a b m).symm
  rw [htr] at q
  have hn1 : a.length + b.length ≤ 20000 := by omega
  have hla : a.length ≤ a.length + b.length := by omega
  walk_at "h"
  refine ⟨_, _, _, rfl, ⟨_, rfl, by omega, by rw [List.length_map]; omega, rfl, rfl⟩, fun k Γ => ∃ y z : Sl, Γ = [.sh (.int p), .sh (eNums a), .sh (eNums b), .ow (.lst ((Po.tab (a.length + b.length) (Po.rowM a b k 0)).map .int)), y, z], ⟨.no, .no, ?_⟩, ?_, ?_⟩
  · rw [Po.tab_congr (g := Po.rowM a b 0 0) fun m _ => (Po.rowM_zero a b m).symm]
    rfl
  · rintro k Γ hk ⟨y, z, rfl⟩
    rw [Int.toNat_natCast, List.length_map] at hk
    have g1 := nums_at (xs := a) (i := 0 + (k : Int)) (by omega) (by omega)
    rw [show (0 + (k : Int)).toNat = k by omega] at g1
    have ca : -1000 < Po.co a k ∧ Po.co a k < 1000 := sm _ (List.mem_of_getElem? (Po.get_co hk))
    walk_at "h"
    refine ⟨_, _, _, rfl, ⟨_, rfl, by omega, by rw [List.length_map]; omega, rfl, rfl⟩, fun j Γ => ∃ z : Sl, Γ = [.sh (.int p), .sh (eNums a), .sh (eNums b), .ow (.lst ((Po.tab (a.length + b.length) (Po.rowM a b k j)).map .int)), .sh (.int (0 + (k : Int))), z], ⟨z, rfl⟩, ?_, ?_⟩
    · rintro j Γ hj ⟨z, rfl⟩
      rw [Int.toNat_natCast, List.length_map] at hj
      have g2 := nums_at (xs := b) (i := 0 + (j : Int)) (by omega) (by omega)
      have g3 := tab_at (n := a.length + b.length) (f := Po.rowM a b k j) (i := 0 + (k : Int) + (0 + (j : Int))) (by omega) (by omega)
      have g4 := tab_ix (n := a.length + b.length) (f := Po.rowM a b k j) (i := 0 + (k : Int) + (0 + (j : Int))) (by omega) (by omega)
      rw [show (0 + (j : Int)).toNat = j by omega] at g2
      rw [show (0 + (k : Int) + (0 + (j : Int))).toNat = k + j by omega] at g3 g4
      have cm : CMul (Po.co a k) (Po.co b j) := .inl ⟨by omega, by omega⟩
      walk_at "h"
      refine ⟨_, _, _, rfl, rfl, g3, ?_⟩
      walk_at "h"
      refine ⟨_, _, _, rfl, rfl, g1, ?_⟩
      walk_at "h"
      refine ⟨_, _, _, rfl, rfl, g2, ?_⟩
      walk_at "h"
      refine ⟨_, _, _, _, rfl, rfl, g4, rfl, _, congrArg (fun z => [Sl.sh (.int p), .sh (eNums a), .sh (eNums b), .ow (.lst z), .sh (.int (0 + (k : Int))), .sh (.int (0 + (j : Int)))]) ?_⟩
      rw [tab_put]
      congr 1
      exact Po.tab_congr fun m _ => (Po.rowM_step hj m).symm
    · rintro Γ ⟨z, rfl⟩
      rw [Int.toNat_natCast, List.length_map]
      exact ⟨.sh (.int (0 + (k : Int))), z, congrArg (fun t => [Sl.sh (.int p), .sh (eNums a), .sh (eNums b), .ow (.lst (t.map .int)), .sh (.int (0 + (k : Int))), z]) (Po.tab_congr fun m _ => Po.rowM_next hk m)⟩
  · rintro Γ ⟨y, z, rfl⟩
    rw [Int.toNat_natCast, List.length_map]
    have hl := Po.tab_len (a.length + b.length) (Po.rowM a b a.length 0)
    walk_at "h"
    exact q

end
end Law
namespace Law
open PySem PySem.Spec PyProof.Rows L2 Dk
section
variable {P : Program} {w : World} {K : Fg} {mg : Str → Option Value} {base : Heap}
set_option maxHeartbeats 4000000 in
theorem ok_l_over (T : Txt K mg) : FnOk P w K mg base CX0 2 T.l_over.f T.l_over.fd ["_law_p_here", "_law_one", "_law_other"] (PureSp K cOver) := by
  refine pure_ok T.l_over.F scL_over (fun ds Qd h => by obtain ⟨p, a, b, rfl, _⟩ := h; rfl) fun cdv A outer s H E hr => ?_
  refine ⟨_, (pss_cons (ps_set (i := 3) scL_over.nd rfl (.inr rfl) (pe_callTy (klist K) (by rfl) T.zlist (by decide +kernel) (pa_cons (pv 1) pa_nil)))
        (pss_cons (ps_set (i := 4) scL_over.nd rfl (.inl rfl) (pe_ix (kixL K) (pe_lc (own := [("_law_k", 7)]) rfl scL_over.nd (pi_range2 rfl T.zrange (pa_cons pe_int (pa_cons (pv 0) pa_nil))) (blkOk_by (own := [("_law_k", 7)]) (N := nL_over) (sc := defScope sL_over) (by decide +kernel)) (fun _ _ _ _ _ => (pg_name (i := 7) scL_over.nd rfl (.inl rfl) (.inr rfl))) (fun _ _ _ _ _ => pts_one (pt_cmpR op_eq (pe_op op_mod (pe_op op_mul (pv 7) (pe_ix (kixT K) (pv 2) (pe_un un_neg pe_int) (fun _ _ => rfl))) (pv 0)) pe_int (nomark _))) (fun _ _ _ _ _ => (pv 7))) pe_int (fun _ _ => rfl)))
        (pss_cons (ps_while PassesOwn.never (pt_cmpR op_ge (pe_callB (klen K) (by rfl) T.zlen (by decide +kernel) (pa_cons (pv 3) pa_nil)) (pe_callB (klen K) (by rfl) T.zlen (by decide +kernel) (pa_cons (pv 2) pa_nil)) (nomark _)) (pss_cons (ps_set (i := 5) scL_over.nd rfl (.inr rfl) (pe_op op_mul (pe_ix (kixL K) (pv 3) (pe_un un_neg pe_int) (fun _ _ => rfl)) (pv 4)))
        (pss_cons (ps_set (i := 6) scL_over.nd rfl (.inr rfl) (pe_op op_sub (pe_callB (klen K) (by rfl) T.zlen (by decide +kernel) (pa_cons (pv 3) pa_nil)) (pe_callB (klen K) (by rfl) T.zlen (by decide +kernel) (pa_cons (pv 2) pa_nil))))
        (pss_cons (ps_set (i := 3) scL_over.nd rfl (.inr rfl) (pe_lc (own := [("_law_k", 7)]) rfl scL_over.nd (pi_range1 rfl T.zrange (pa_cons (pe_callB (klen K) (by rfl) T.zlen (by decide +kernel) (pa_cons (pv 3) pa_nil)) pa_nil)) (blkOk_by (own := [("_law_k", 7)]) (N := nL_over) (sc := defScope sL_over) (by decide +kernel)) (fun _ _ _ _ _ => (pg_name (i := 7) scL_over.nd rfl (.inl rfl) (.inr rfl))) (fun _ _ _ _ _ => pts_nil) (fun _ _ _ _ _ => (pe_op op_sub (pe_ix (kixL K) (pv 3) (pv 7) (fun _ _ => rfl)) (pe_op op_mul (pe_op op_mul (pv 5) (pe_ix (kixT K) (pe_tup (pa_cons pe_int (pa_cons pe_int pa_nil))) (pe_callTy b_int (by rfl) T.zint (by decide +kernel) (pa_cons (pe_cmpR op_ge (pv 7) (pv 6) (nomark _)) pa_nil)) (fun _ _ => rfl))) (pe_ix (kixT K) (pv 2) (pe_callB (b_max2 rfl) (by rfl) T.zmax (by decide +kernel) (pa_cons pe_int (pa_cons (pe_op op_sub (pv 7) (pv 6)) pa_nil))) (fun _ _ => rfl)))))))
        (pss_one (ps_set (i := 3) scL_over.nd rfl (.inr rfl) (pe_lc (own := [("_law_number", 8)]) rfl scL_over.nd (kpil K (pe_slice (kslL K) (pv 3) po_none (po_some (pe_un un_neg pe_int)))) (blkOk_by (own := [("_law_number", 8)]) (N := nL_over) (sc := defScope sL_over) (by decide +kernel)) (fun _ _ _ _ _ => (pg_name (i := 8) scL_over.nd rfl (.inl rfl) (.inr rfl))) (fun _ _ _ _ _ => pts_nil) (fun _ _ _ _ _ => (pe_op op_mod (pv 8) (pv 0))))))))))
        (pss_one (ps_ret (pe_call (ok_l_trim T) (hr.mono (by decide)) (by rfl) T.l_trim.m T.l_trim.F.kp T.l_trim.b .nil pass0 (pa_cons (pv 0) (pa_cons (pv 3) pa_nil)))))))), ?_⟩
  walk_at "ss"
  rintro ds Qd ⟨p, a, b, rfl, hp, ha, hb, hb0, la, lb, q⟩
  refine ⟨[.sh (.int p), .sh (eNums a), .sh (eNums b)], .cons (.inr ⟨rfl, rfl⟩) (.cons (.inr ⟨rfl, eNums_tupO _⟩) (.cons (.inr ⟨rfl, eNums_tupO _⟩) .nil)), ?_⟩
  have hp0 := hp.pos
  have hp1 := hp.le
  rcases Po.snoc_cases b with z | ⟨g, y, z⟩
  · exact absurd z hb0
  subst z
  have yr := hb.rng y (by simp)
  have yt := hb.tip g y rfl
  have gl : atI ((g ++ [y]).map PyData.int) (-1) = some (.int y) := nums_last
  obtain ⟨n, n0, n1, n2⟩ := inv_there (s := y) hp (by omega) (by omega)
  obtain ⟨k0, k1, d, k2, k3⟩ := fm_first (xs := List.range (p - 1).toNat) (h := fun k => if (1 + (k : Int)) * y % p = 1 then some (PyData.int (1 + (k : Int))) else none) ⟨n - 1, by simp; omega, by
    rw [show 1 + ((n - 1 : Nat) : Int) = (n : Int) by omega, if_pos n2]
    rfl⟩
  simp only [List.mem_range] at k1
  have k4 : (1 + (k0 : Int)) * y % p = 1 := by
    by_cases c : (1 + (k0 : Int)) * y % p = 1
    · exact c
    · rw [if_neg c] at k2
      cases k2
  rw [if_pos k4] at k2
  cases k2
  obtain ⟨u, hu⟩ : ∃ u : Int, u = 1 + (k0 : Int) := ⟨_, rfl⟩
  rw [← hu] at k3 k4
  have u0 : 0 < u := by omega
  have u1 : u < p := by omega
  walk_at "h"
  refine ⟨_, _, _, rfl, ⟨1, p, rfl, ⟨by omega, by omega, by omega, by omega⟩, rfl, rfl⟩, rfl, rfl, Nat.le_of_lt (small100000 (by omega)), lcR_map (fun k => if (1 + (k : Int)) * y % p = 1 then some (PyData.int (1 + (k : Int))) else none) (fun k hk P hP => ?_) ?_⟩
  · have c1 : CMul (1 + (k : Int)) y := .inr ⟨by omega, by omega⟩
    walk_at "h"
    refine ⟨_, _, _, rfl, rfl, gl, ?_⟩
    walk_at "h"
    by_cases c : (1 + (k : Int)) * y % p = 1
    · rw [if_pos c] at hP
      refine iteTb (decide_eq_true c) ?_
      walk_at "h"
      exact hP
    · rw [if_neg c] at hP
      refine iteFb (decide_eq_false c) ?_
      exact hP
  walk_at "h"
  refine ⟨_, _, _, rfl, rfl, k3, ?_⟩
  walk_at "h"
  refine ⟨fun Γ => ∃ (L : List Int) (y5 y6 : Sl), Po.Over p a (g ++ [y]) L ∧ L.length ≤ 1000 ∧ Γ = [.sh (.int p), .sh (eNums a), .sh (eNums (g ++ [y])), .ow (.lst (L.map .int)), .sh (.int u), y5, y6, .no, .no], olen 3, ⟨a, .no, .no, Po.over_init ha, la, rfl⟩, ?_⟩
  rintro Γ ⟨L, y5, y6, st, lL, rfl⟩
  walk_at "h"
  refine ite2b (fun hz => ?_) fun hz => ?_
  · have hl : (g ++ [y]).length ≤ L.length := by
      have := of_decide_eq_true hz
      rw [List.length_map, List.length_map] at this
      omega
    clear hz
    have hg : (g ++ [y]).length = g.length + 1 := by simp
    rcases Po.snoc_cases L with z | ⟨L0, x, z⟩
    · rw [z] at hl
      simp at hl
    have gx : atI (L.map PyData.int) (-1) = some (.int x) := by rw [z]; exact nums_last
    have cx : Po.co L (L.length - 1) = x := by rw [z, Po.co_snoc, if_pos (by simp)]
    have rx := st.rng x (by rw [z]; simp)
    clear z
    obtain ⟨nx1, nx2⟩ := Po.over_step (m := x * u) hp0 st k4 hl (by rw [cx])
    have m0 : 0 ≤ x * u ∧ x * u < 64 := by
      refine ⟨Int.mul_nonneg (by omega) (by omega), ?_⟩
      have : x * u ≤ 7 * 7 := Int.mul_le_mul (by omega) (by omega) (by omega) (by omega)
      omega
    obtain ⟨gap, hgap⟩ : ∃ gap, gap = L.length - (g ++ [y]).length := ⟨_, rfl⟩
    rw [← hgap] at nx1 nx2
    have c1 : CMul x u := .inl ⟨by omega, by omega⟩
    have l1 : (L.map PyData.int).length = L.length := by simp
    have l2 : ((g ++ [y]).map PyData.int).length = (g ++ [y]).length := by simp
    walk_at "h"
    refine ⟨_, _, _, rfl, rfl, gx, ?_⟩
    walk_at "h"
    refine ⟨_, _, _, rfl, ⟨_, rfl, by omega, by omega, rfl, rfl⟩, rfl, rfl, Nat.le_of_lt (small100000 (by omega)), lcR_map (fun k => some (PyData.int (Po.co L k - (x * u) * (if gap ≤ k then Po.co (g ++ [y]) (k - gap) else 0)))) (fun k hk P hP => ?_) ?_⟩
    · rw [Int.toNat_natCast, l1] at hk
      have g1 := nums_at (xs := L) (i := 0 + (k : Int)) (by omega) (by omega)
      rw [show (0 + (k : Int)).toNat = k by omega] at g1
      have g2 := nums_at (xs := g ++ [y]) (i := maxI 0 (0 + (k : Int) - (((L.map PyData.int).length : Int) - (((g ++ [y]).map PyData.int).length : Int)))) (by unfold maxI; split <;> omega) (by unfold maxI; split <;> omega)
      have c2 : CMul (x * u) (if decide (((L.map PyData.int).length : Int) - (((g ++ [y]).map PyData.int).length : Int) ≤ 0 + (k : Int)) = true then 1 else 0) := .inl ⟨by omega, by omega⟩
      have c3 : CMul (x * u * (if decide (((L.map PyData.int).length : Int) - (((g ++ [y]).map PyData.int).length : Int) ≤ 0 + (k : Int)) = true then 1 else 0)) (Po.co (g ++ [y]) (maxI 0 (0 + (k : Int) - (((L.map PyData.int).length : Int) - (((g ++ [y]).map PyData.int).length : Int)))).toNat) := by
        refine .inl ?_
        split
        · rw [Int.mul_one]
          omega
        · rw [Int.mul_zero]
          omega
      walk_at "h"
      refine ⟨_, _, _, rfl, rfl, g1, ?_⟩
      walk_at "h"
      refine ⟨_, _, _, rfl, rfl, sel_at _, ?_⟩
      walk_at "h"
      refine ⟨_, _, _, rfl, rfl, g2, ?_⟩
      walk_at "h"
      have e : Po.co L k - x * u * (if gap ≤ k then Po.co (g ++ [y]) (k - gap) else 0) = Po.co L k - x * u * (if decide (((L.map PyData.int).length : Int) - (((g ++ [y]).map PyData.int).length : Int) ≤ 0 + (k : Int)) = true then 1 else 0) * Po.co (g ++ [y]) (maxI 0 (0 + (k : Int) - (((L.map PyData.int).length : Int) - (((g ++ [y]).map PyData.int).length : Int)))).toNat := by
        by_cases c : gap ≤ k
        · rw [if_pos c, if_pos (decide_eq_true (by omega)), Int.mul_one]
          congr 3
          unfold maxI
          split <;> omega
        · rw [if_neg c, if_neg (by rw [decide_eq_false (by omega)]; decide), Int.mul_zero, Int.zero_mul]
      rw [e] at hP
      exact hP
    rw [Int.toNat_natCast, l1, range_tab]
    obtain ⟨tb, htb⟩ : ∃ tb, tb = Po.tab L.length fun k => Po.co L k - (x * u) * (if gap ≤ k then Po.co (g ++ [y]) (k - gap) else 0) := ⟨_, rfl⟩
    have ltb : tb.length = L.length := by rw [htb, Po.tab_len]
    have eov : Po.overL p (x * u) (g ++ [y]) L gap = tb.dropLast.map (· % p) := by rw [htb]; rfl
    rw [eov] at nx1 nx2
    rw [← htb]
    walk_at "h"
    rw [cut_dropLast, ← List.map_dropLast]
    refine ⟨Nat.le_of_lt (small100000 (by rw [List.length_map, List.length_dropLast]; omega)), lc_map (f := PyData.int) (fun x => some (PyData.int (x % p))) (fun x hx P hP => ?_) ?_⟩
    · walk_at "h"
      exact hP
    rw [fm_map]
    have em : tb.dropLast.map (fun x => PyData.int (x % p)) = (tb.dropLast.map (· % p)).map PyData.int := by rw [List.map_map]; rfl
    rw [em]
    refine ⟨⟨tb.dropLast.map (· % p), _, _, nx1, by omega, rfl⟩, ?_⟩
    show ((tb.dropLast.map (· % p)).map PyData.int).length < (L.map PyData.int).length
    rw [List.length_map, l1]
    exact nx2
  · have hl : L.length < (g ++ [y]).length := by
      have := of_decide_eq_false hz
      rw [List.length_map, List.length_map] at this
      omega
    obtain ⟨q0, hq0, e⟩ := Po.over_done hp0 ha st
    have l3 : L.length ≤ 100000 := by omega
    have l4 := Po.trim_len p L
    walk_at "h"
    exact q q0 _ hq0 (Po.trim_sum hp0 _) (by omega) e

end
end Law
namespace Law
open PySem PySem.Spec PyProof.Rows L2 Dk
section
variable {P : Program} {w : World} {K : Fg} {mg : Str → Option Value} {base : Heap}
set_option maxHeartbeats 4000000 in
theorem ok_l_as_pattern (T : Txt K mg) : FnOk P w K mg base CX0 2 T.l_as_pattern.f T.l_as_pattern.fd ["_law_p_here", "_law_row"] (PureSp K cAsPat) := by
  refine pure_ok T.l_as_pattern.F scL_as_pattern (fun ds Qd h => by obtain ⟨p, s, rfl, _⟩ := h; rfl) fun cdv A outer s H E hr => ?_
  refine ⟨_, (pss_one (ps_ret (pe_call (ok_l_tidy T) (hr.mono (by decide)) (by rfl) T.l_tidy.m T.l_tidy.F.kp T.l_tidy.b .nil pass0 (pa_cons (pv 0) (pa_cons (pe_lc (own := [("_law_k", 2)]) rfl scL_as_pattern.nd (pi_range1 rfl T.zrange (pa_cons (pe_callB (klen K) (by rfl) T.zlen (by decide +kernel) (pa_cons (pv 1) pa_nil)) pa_nil)) (blkOk_by (own := [("_law_k", 2)]) (N := nL_as_pattern) (sc := defScope sL_as_pattern) (by decide +kernel)) (fun _ _ _ _ _ => (pg_name (i := 2) scL_as_pattern.nd rfl (.inl rfl) (.inr rfl))) (fun _ _ _ _ _ => pts_nil) (fun _ _ _ _ _ => (pe_tup (pa_cons (pv 2) (pa_cons (pe_ix (kixT K) (pv 1) (pv 2) (fun _ _ => rfl)) pa_nil))))) pa_nil))))), ?_⟩
  walk_at "ss"
  rintro ds Qd ⟨p, s, rfl, hp0, ls, q⟩
  refine ⟨[.sh (.int p), .sh (eNums s)], .cons (.inr ⟨rfl, rfl⟩) (.cons (.inr ⟨rfl, eNums_tupO _⟩) .nil), ?_⟩
  have hls : (s.map PyData.int).length = s.length := List.length_map _
  walk_at "h"
  refine ⟨_, _, _, rfl, ⟨_, rfl, by omega, by omega, rfl, rfl⟩, rfl, rfl, Nat.le_of_lt (small100000 (by omega)), lcR_map (fun (k : Nat) => some (ePair ((k : Int), Po.co s k))) (fun k hk P hP => ?_) ?_⟩
  · rw [Int.toNat_natCast, hls] at hk
    have g : atI (s.map PyData.int) (k : Int) = some (.int (Po.co s k)) := atI_nat (by rw [List.getElem?_map, Po.get_co hk]; rfl)
    rw [Int.zero_add]
    walk_at "h"
    refine ⟨_, _, _, rfl, rfl, g, ?_⟩
    walk_at "h"
    exact hP
  · rw [fm_map, Int.toNat_natCast, hls]
    have e : (List.range s.length).map (fun (k : Nat) => ePair ((k : Int), Po.co s k)) = (Sr.prsS s).map ePair := by unfold Sr.prsS; rw [List.map_map]; rfl
    rw [e]
    have kl : (Pt.keys (Sr.prsS s)).length ≤ 8000000 := Nat.le_trans (Pt.keys_len _) (by unfold Sr.prsS; rw [List.length_map, List.length_range]; omega)
    walk_at "h"
    exact q

end
end Law
namespace Law
open PySem PySem.Spec PyProof.Rows L2 Dk
section
variable {P : Program} {w : World} {K : Fg} {mg : Str → Option Value} {base : Heap}
set_option maxHeartbeats 4000000 in
theorem ok_addedT (T : Txt K mg) : FnOk P w K mg base CX0 2 T.added.f T.added.fd ["p", "one", "other"] (PureSp K cAddedT) := by
  refine pure_ok T.added.F scAdded (fun ds Qd h => by obtain ⟨p, xs, ys, rfl, _⟩ := h; rfl) fun cdv A outer s H E hr => ?_
  refine ⟨_, (pss_one (ps_ret (pe_call (ok_tidyT T) (hr.mono (by decide)) (by rfl) T.tidy.m T.tidy.F.kp T.tidy.b .nil pass0 (pa_cons (pv 0) (pa_cons (pe_op op_cat (pe_callTy (klist K) (by rfl) T.zlist (by decide +kernel) (pa_cons (pv 1) pa_nil)) (pe_callTy (klist K) (by rfl) T.zlist (by decide +kernel) (pa_cons (pv 2) pa_nil))) pa_nil))))), ?_⟩
  walk_at "ss"
  rintro ds Qd ⟨p, xs, ys, rfl, hp, hx, hy, q⟩
  refine ⟨[.sh (.int p), .sh (eMk xs), .sh (eMk ys)], .cons (.inr ⟨rfl, rfl⟩) (.cons (.inr ⟨rfl, eMk_tupO _⟩) (.cons (.inr ⟨rfl, eMk_tupO _⟩) .nil)), ?_⟩
  walk_at "g"
  exact ⟨p, xs ++ ys, by rw [← List.map_append]; rfl, hp, by rw [List.length_append]; omega, fun zs h => ⟨_, rfl, q zs h⟩⟩

end
end Law
namespace Law
open PySem PySem.Spec PyProof.Rows L2 Dk
section
variable {P : Program} {w : World} {K : Fg} {mg : Str → Option Value} {base : Heap}
set_option maxHeartbeats 4000000 in
theorem ok_timedT (T : Txt K mg) : FnOk P w K mg base CX0 2 T.timed.f T.timed.fd ["p", "pattern", "n"] (PureSp K cTimedT) := by
  refine pure_ok T.timed.F scTimed (fun ds Qd h => by obtain ⟨p, xs, n, rfl, _⟩ := h; rfl) fun cdv A outer s H E hr => ?_
  refine ⟨_, (pss_one (ps_ret (pe_call (ok_tidyT T) (hr.mono (by decide)) (by rfl) T.tidy.m T.tidy.F.kp T.tidy.b .nil pass0 (pa_cons (pv 0) (pa_cons (pe_lc (own := [("place", 3), ("setting", 4)]) rfl scTimed.nd (kpit K (pv 1)) (blkOk_by (own := [("place", 3), ("setting", 4)]) (N := nTimed) (sc := defScope sTimed) (by decide +kernel)) (fun _ _ _ _ _ => (kpg K 2 rfl (pgs_cons (pg_name (i := 3) scTimed.nd rfl (.inl rfl) (.inr rfl)) (pgs_cons (pg_name (i := 4) scTimed.nd rfl (.inl rfl) (.inr rfl)) pgs_nil)))) (fun _ _ _ _ _ => pts_nil) (fun _ _ _ _ _ => (pe_tup (pa_cons (pv 3) (pa_cons (pe_op op_mul (pv 4) (pv 2)) pa_nil))))) pa_nil))))), ?_⟩
  walk_at "ss"
  rintro ds Qd ⟨p, xs, n, rfl, hp, hx, hm, q⟩
  refine ⟨[.sh (.int p), .sh (eMk xs), .sh (.int n)], .cons (.inr ⟨rfl, rfl⟩) (.cons (.inr ⟨rfl, eMk_tupO _⟩) (.cons (.inr ⟨rfl, rfl⟩) .nil)), ?_⟩
  have hx2 : (xs.map eMp).length ≤ 8000000 := by rw [List.length_map]; exact hx
  walk_at "g"
  refine lc_map (f := eMp) (fun x => some (eMp (x.1, x.2 * n))) (fun x hx P hP => ?_) ?_
  · have := hm x hx
    walk_at "g"
    exact hP
  · rw [fm_map]
    walk_at "g"
    exact ⟨p, xs.map fun x : Pr × Int => (x.1, x.2 * n), by unfold eMkL; rw [List.map_map]; rfl, hp, by rw [List.length_map]; exact hx, fun zs h => ⟨_, rfl, q zs h⟩⟩

end
end Law
namespace Law
open PySem PySem.Spec PyProof.Rows L2 Dk
section
variable {P : Program} {w : World} {K : Fg} {mg : Str → Option Value} {base : Heap}
set_option maxHeartbeats 4000000 in
theorem ok_l_as_patternT (T : Txt K mg) : FnOk P w K mg base CX0 2 T.l_as_pattern.f T.l_as_pattern.fd ["_law_p_here", "_law_row"] (PureSp K cAsPatL) := by
  refine pure_ok T.l_as_pattern.F scL_as_pattern (fun ds Qd h => by obtain ⟨p, s, rfl, _⟩ := h; rfl) fun cdv A outer s H E hr => ?_
  refine ⟨_, (pss_one (ps_ret (pe_call (ok_l_tidy T) (hr.mono (by decide)) (by rfl) T.l_tidy.m T.l_tidy.F.kp T.l_tidy.b .nil pass0 (pa_cons (pv 0) (pa_cons (pe_lc (own := [("_law_k", 2)]) rfl scL_as_pattern.nd (pi_range1 rfl T.zrange (pa_cons (pe_callB (klen K) (by rfl) T.zlen (by decide +kernel) (pa_cons (pv 1) pa_nil)) pa_nil)) (blkOk_by (own := [("_law_k", 2)]) (N := nL_as_pattern) (sc := defScope sL_as_pattern) (by decide +kernel)) (fun _ _ _ _ _ => (pg_name (i := 2) scL_as_pattern.nd rfl (.inl rfl) (.inr rfl))) (fun _ _ _ _ _ => pts_nil) (fun _ _ _ _ _ => (pe_tup (pa_cons (pv 2) (pa_cons (pe_ix (kixL K) (pv 1) (pv 2) (fun _ _ => rfl)) pa_nil))))) pa_nil))))), ?_⟩
  walk_at "ss"
  rintro ds Qd ⟨p, s, rfl, hp0, ls, q⟩
  refine ⟨[.sh (.int p), .ar (eList s)], .cons (.inr ⟨rfl, rfl⟩) (.cons (.inl rfl) .nil), ?_⟩
  have hls : (s.map PyData.int).length = s.length := List.length_map _
  walk_at "h"
  refine ⟨_, _, _, rfl, ⟨_, rfl, by omega, by omega, rfl, rfl⟩, rfl, rfl, Nat.le_of_lt (small100000 (by omega)), lcR_map (fun (k : Nat) => some (ePair ((k : Int), Po.co s k))) (fun k hk P hP => ?_) ?_⟩
  · rw [Int.toNat_natCast, hls] at hk
    have g : atI (s.map PyData.int) (k : Int) = some (.int (Po.co s k)) := atI_nat (by rw [List.getElem?_map, Po.get_co hk]; rfl)
    rw [Int.zero_add]
    walk_at "h"
    refine ⟨_, _, _, rfl, rfl, g, ?_⟩
    walk_at "h"
    exact hP
  · rw [fm_map, Int.toNat_natCast, hls]
    have e : (List.range s.length).map (fun (k : Nat) => ePair ((k : Int), Po.co s k)) = (Sr.prsS s).map ePair := by unfold Sr.prsS; rw [List.map_map]; rfl
    rw [e]
    have kl : (Pt.keys (Sr.prsS s)).length ≤ 8000000 := Nat.le_trans (Pt.keys_len _) (by unfold Sr.prsS; rw [List.length_map, List.length_range]; omega)
    walk_at "h"
    exact q

end
end Law
namespace Law
open PySem PySem.Spec PyProof.Rows L2 Dk
section
variable {P : Program} {w : World} {K : Fg} {mg : Str → Option Value} {base : Heap}
set_option maxHeartbeats 2000000 in
theorem ok_length (T : Txt K mg) : FnOk P w K mg base CX0 3 T.length.f T.length.fd ["stride", "pattern"] (PureSp K cLenC) := by
  refine pure_ok T.length.F scLength (fun ds Qd h => by obtain ⟨st, xs, rfl, _⟩ := h; rfl) fun cdv A outer s H E hr => ?_
  refine ⟨_, (pss_cons (ps_if (pt_cmpR op_eq (pv 0) pe_int (nomark _)) (pss_one (ps_ret pe_int)) pss_nil)
        (pss_cons (ps_set (i := 2) scLength.nd rfl (.inl rfl) (pe_call (ok_places_in T) (hr.mono (by decide)) (by rfl) T.places_in.m T.places_in.F.kp T.places_in.b .nil pass0 (pa_cons (pv 0) (pa_cons (pv 1) (pa_cons (pe_call (ok_first_column T) (hr.mono (by decide)) (by rfl) T.first_column.m T.first_column.F.kp T.first_column.b .nil pass0 (pa_cons (pv 0) (pa_cons (pv 1) pa_nil))) pa_nil)))))
        (pss_one (ps_ret (pe_op op_fdiv (pe_op op_sub (pe_ix (kixL K) (pv 2) (pe_un un_neg pe_int) (fun _ _ => rfl)) (pe_ix (kixL K) (pv 2) pe_int (fun _ _ => rfl))) (pv 0)))))), ?_⟩
  walk_at "ss"
  rintro ds Qd ⟨st, xs, rfl, hs, hn, hl, hp, q⟩
  refine ⟨[.sh (.int st), .sh (ePat xs)], .cons (.inr ⟨rfl, rfl⟩) (.cons (.inr ⟨rfl, ePat_tupO _⟩) .nil), ?_⟩
  have h0 := hs.1
  have h1 := hs.2
  have hne := Sr.spots_first (st := st) hn
  have g1 := ints_first hne
  have g2 := ints_last hne
  walk_at "g"
  unfold Sr.lenC at q
  by_cases z : st = 0
  · rw [if_pos z] at q
    refine iteTb (decide_eq_true z) ?_
    walk_at "g"
    exact q
  · rw [if_neg z] at q
    refine iteFb (decide_eq_false z) ?_
    have hc : CDiv (Sr.lastD (Sr.spots st xs (Sr.firstC st xs)) - Sr.headD (Sr.spots st xs (Sr.firstC st xs))) st := ⟨by omega, by omega⟩
    walk_at "h"
    refine ⟨_, _, _, rfl, rfl, g2, ?_⟩
    walk_at "h"
    refine ⟨_, _, _, rfl, rfl, g1, ?_⟩
    walk_at "h"
    exact q

end
end Law
namespace Law
open PySem PySem.Spec PyProof.Rows L2 Dk
section
variable {P : Program} {w : World} {K : Fg} {mg : Str → Option Value} {base : Heap}
set_option maxHeartbeats 4000000 in
theorem ok_mixed (T : Txt K mg) : FnOk P w K mg base CX0 3 T.mixed.f T.mixed.fd ["p", "stride", "one", "other", "shift", "setting"] (PureSp K cMix2) := by
  refine pure_ok T.mixed.F scMixed (fun ds Qd h => by obtain ⟨p, st, x, s, mx, ms, sh, v, rfl, _⟩ := h; rfl) fun cdv A outer s H E hr => ?_
  refine ⟨_, (pss_cons (ps_set (i := 6) scMixed.nd rfl (.inl rfl) (pe_call (ok_added T) (hr.mono (by decide)) (by rfl) T.added.m T.added.F.kp T.added.b .nil pass0 (pa_cons (pv 0) (pa_cons (pe_ix (kixT K) (pv 2) pe_int (fun _ _ => rfl)) (pa_cons (pe_call (ok_timed T) (hr.mono (by decide)) (by rfl) T.timed.m T.timed.F.kp T.timed.b .nil pass0 (pa_cons (pv 0) (pa_cons (pe_call (ok_moved T) (hr.mono (by decide)) (by rfl) T.moved.m T.moved.F.kp T.moved.b .nil pass0 (pa_cons (pe_ix (kixT K) (pv 3) pe_int (fun _ _ => rfl)) (pa_cons (pe_op op_mul (pv 1) (pv 4)) pa_nil))) (pa_cons (pv 5) pa_nil)))) pa_nil)))))
        (pss_cons (ps_set (i := 7) scMixed.nd rfl (.inl rfl) (pe_call (ok_addedT T) (hr.mono (by decide)) (by rfl) T.added.m T.added.F.kp T.added.b .nil pass0 (pa_cons (pv 0) (pa_cons (pe_ix (kixT K) (pv 2) pe_int (fun _ _ => rfl)) (pa_cons (pe_call (ok_timedT T) (hr.mono (by decide)) (by rfl) T.timed.m T.timed.F.kp T.timed.b .nil pass0 (pa_cons (pv 0) (pa_cons (pe_call (ok_shifted T) (hr.mono (by decide)) (by rfl) T.shifted.m T.shifted.F.kp T.shifted.b .nil pass0 (pa_cons (pe_ix (kixT K) (pv 3) pe_int (fun _ _ => rfl)) (pa_cons (pv 4) pa_nil))) (pa_cons (pv 5) pa_nil)))) pa_nil)))))
        (pss_one (ps_ret (pe_tup (pa_cons (pv 6) (pa_cons (pv 7) pa_nil))))))), ?_⟩
  walk_at "ss"
  rintro ds Qd ⟨p, st, x, s, mx, ms, sh, v, rfl, hp, st0, st1, lx, ls, lmx, lms, v0, v1, q⟩
  refine ⟨[.sh (.int p), .sh (.int st), .sh (eMd x mx), .sh (eMd s ms), .sh (.int sh), .sh (.int v)], .cons (.inr ⟨rfl, rfl⟩) (.cons (.inr ⟨rfl, rfl⟩) (.cons (.inr ⟨rfl, eMd_tupO _ _⟩) (.cons (.inr ⟨rfl, eMd_tupO _ _⟩) (.cons (.inr ⟨rfl, rfl⟩) (.cons (.inr ⟨rfl, rfl⟩) .nil))))), ?_⟩
  have hp0 := hp.pos
  have c1 : CMul st sh := .inl ⟨by omega, by omega⟩
  have c2 : ∀ y ∈ Pt.moved s (st * sh), CMul y.2 v := fun y _ => .inr ⟨by omega, by omega⟩
  have l1 : s.length ≤ 8000000 := by omega
  have l2 : (Pt.moved s (st * sh)).length ≤ 8000000 := by rw [Pt.moved_len]; omega
  have l3 := Pt.timed_len p (Pt.moved s (st * sh)) v
  rw [Pt.moved_len] at l3
  have l4 : (Pt.timed p (Pt.moved s (st * sh)) v).length ≤ 4000000 := by omega
  have l5 : x.length ≤ 4000000 := by omega
  have l6 : ms.length ≤ 8000000 := by omega
  have l7 : (ms.map fun x => ((x.1.1, x.1.2 + sh), x.2)).length ≤ 8000000 := by rw [List.length_map]; omega
  have c3 : ∀ y ∈ ms.map (fun x => ((x.1.1, x.1.2 + sh), x.2)), CMul y.2 v := fun y _ => .inr ⟨by omega, by omega⟩
  have l8 : mx.length ≤ 4000000 := by omega
  walk_at "h"
  intro zs h1
  have l9 := h1.len
  rw [List.length_map, List.length_map] at l9
  have l10 : zs.length ≤ 4000000 := by omega
  walk_at "h"
  intro mz h2
  walk_at "h"
  exact q mz (Sr.mix_of h1 h2)

end
end Law
namespace Law
open PySem PySem.Spec PyProof.Rows L2 Dk
section
variable {P : Program} {w : World} {K : Fg} {mg : Str → Option Value} {base : Heap}
set_option maxHeartbeats 4000000 in
theorem ok_l_divisor (T : Txt K mg) : FnOk P w K mg base CX0 3 T.l_divisor.f T.l_divisor.fd ["_law_p_here", "_law_patterns"] (PureSp K cDivisor) := by
  refine pure_ok T.l_divisor.F scL_divisor (fun ds Qd h => by obtain ⟨p, W, ps, rfl, _⟩ := h; rfl) fun cdv A outer s H E hr => ?_
  refine ⟨_, (pss_cons (ps_set (i := 2) scL_divisor.nd rfl (.inl rfl) (pe_tup pa_nil))
        (pss_cons (ps_for PassesOwn.never rfl (kpil K (pv 1)) (pg_name (i := 3) scL_divisor.nd rfl (.inl rfl)) (pss_cons (ps_set (i := 4) scL_divisor.nd rfl (.inl rfl) (pe_call (ok_l_as_sum T) (hr.mono (by decide)) (by rfl) T.l_as_sum.m T.l_as_sum.F.kp T.l_as_sum.b .nil pass0 (pa_cons (pv 3) pa_nil)))
        (pss_one (ps_while PassesOwn.never (pt_cmpR op_gt (pe_callB (klen K) (by rfl) T.zlen (by decide +kernel) (pa_cons (pv 4) pa_nil)) pe_int (nomark _)) (pss_cons (ps_set (i := 5) scL_divisor.nd rfl (.inl rfl) (pv 4))
        (pss_cons (ps_if (pt_cmpR op_gt (pe_callB (klen K) (by rfl) T.zlen (by decide +kernel) (pa_cons (pv 2) pa_nil)) pe_int (nomark _)) (pss_one (ps_set (i := 5) scL_divisor.nd rfl (.inl rfl) (pe_call (ok_l_over T) (hr.mono (by decide)) (by rfl) T.l_over.m T.l_over.F.kp T.l_over.b .nil pass0 (pa_cons (pv 0) (pa_cons (pv 2) (pa_cons (pv 4) pa_nil)))))) (pss_one (ps_set (i := 5) scL_divisor.nd rfl (.inl rfl) (pe_tup pa_nil))))
        (pss_cons (ps_set (i := 2) scL_divisor.nd rfl (.inl rfl) (pv 4))
        (pss_one (ps_set (i := 4) scL_divisor.nd rfl (.inl rfl) (pv 5))))))))))
        (pss_one (ps_ret (pv 2))))), ?_⟩
  walk_at "ss"
  rintro ds Qd ⟨p, W, ps, rfl, hp, w0, w1, hps, q⟩
  refine ⟨[.sh (.int p), .ar (ePats ps)], .cons (.inr ⟨rfl, rfl⟩) (.cons (.inl rfl) .nil), ?_⟩
  have hp0 := hp.pos
  have hp2 : 1 < p := by have := hp.two; omega
  walk_at "h"
  refine for_pre (f := ePat) (fun pre Γ => ∃ (g : List Int) (y3 y4 y5 : Sl), Po.IsSum p g ∧ SameM p 1 pre [Sr.asP p g] ∧ (g.length : Int) ≤ 2 * W + 1 ∧ Γ = [.sh (.int p), .ar (ePats ps), .sh (eNums g), y3, y4, y5]) ⟨[], .no, .no, .no, Po.IsSum.nil p, same_init hp0, by simp; omega, rfl⟩ ?_ ?_
  · rintro pre x post Γ e ⟨g, y3, y4, y5, hg, hs, lg, rfl⟩
    obtain ⟨px, wx⟩ := hps x (by rw [e]; simp)
    walk_at "h"
    refine ⟨p, W, x, rfl, hp2, px, w0, by omega, wx, fun one ho lo => ?_⟩
    walk_at "h"
    refine ⟨fun Γ => ∃ (here one : List Int) (y5 : Sl), Po.IsSum p here ∧ Po.IsSum p one ∧ SameM p 1 (pre ++ [x]) [Sr.asP p here, Sr.asP p one] ∧ (here.length : Int) ≤ 2 * W + 1 ∧ (one.length : Int) ≤ 2 * W + 1 ∧ Γ = [.sh (.int p), .ar (ePats ps), .sh (eNums here), .ar (ePat x), .sh (eNums one), y5], muT 4, ⟨g, one, y5, hg, ho.1, same_enter hp0 hs ho, lg, lo, rfl⟩, ?_⟩
    rintro Γ1 ⟨here, one, y5', h1, h2, hm, l1, l2, rfl⟩
    walk_at "h"
    have lone : (one.map PyData.int).length = one.length := List.length_map _
    have lher : (here.map PyData.int).length = here.length := List.length_map _
    cases one with
    | nil =>
      refine iteFb rfl ?_
      exact ⟨here, _, _, _, h1, hm.trans (same_exit hp0 _), l1, rfl⟩
    | cons c0 cr =>
      refine iteTb (decide_eq_true (by rw [List.length_map, List.length_cons]; omega)) ?_
      have one_ne : c0 :: cr ≠ [] := by simp
      walk_at "h"
      refine ⟨fun Γ => ∃ left : List Int, Po.IsSum p left ∧ SameM p 1 (pre ++ [x]) [Sr.asP p (c0 :: cr), Sr.asP p left] ∧ left.length < (c0 :: cr).length ∧ Γ = [.sh (.int p), .ar (ePats ps), .sh (eNums here), .ar (ePat x), .sh (eNums (c0 :: cr)), .sh (eNums left)], ?_, ?_⟩
      · rintro Γ ⟨left, i1, i2, i3, rfl⟩
        walk_at "h"
        refine ⟨⟨c0 :: cr, left, _, h2, i1, i2, l2, by omega, rfl⟩, ?_⟩
        show (left.map PyData.int).length < ((c0 :: cr).map PyData.int).length
        rw [List.length_map, List.length_map]
        exact i3
      walk_at "h"
      cases here with
      | nil =>
        refine iteFb rfl ?_
        walk_at "h"
        exact ⟨[], Po.IsSum.nil p, hm.trans (same_swap _ _), by simp, rfl⟩
      | cons d0 dr =>
        refine iteTb (decide_eq_true (by rw [List.length_map, List.length_cons]; omega)) ?_
        have b1 : (d0 :: dr).length ≤ 1000 := by omega
        have b2 : (c0 :: cr).length ≤ 1000 := by omega
        walk_at "h"
        intro qq left i1 i2 i3 i4
        walk_at "h"
        exact ⟨left, i2, hm.trans (same_step hp0 i4), i3, rfl⟩
  · rintro Γ ⟨g, y3, y4, y5, hg, hs, lg, rfl⟩
    walk_at "h"
    exact q g hg hs lg

end
end Law
namespace Law
open PySem PySem.Spec PyProof.Rows L2 Dk
section
variable {P : Program} {w : World} {K : Fg} {mg : Str → Option Value} {base : Heap}
set_option maxHeartbeats 2000000 in
theorem ok_misplaced (T : Txt K mg) : FnOk P w K mg base CX0 4 T.misplaced.f T.misplaced.fd ["stride", "stair", "pattern"] (FreshSp K cOut) := by
  refine fresh_ok T.misplaced.F scMisplaced (fun ds Qd h => by obtain ⟨st, s, xs, rfl, _⟩ := h; rfl) fun cdv A outer s H E hr => ?_
  refine ⟨_, (pss_cons (ps_set (i := 3) scMisplaced.nd rfl (.inl rfl) (pe_call (ok_first_column T) (hr.mono (by decide)) (by rfl) T.first_column.m T.first_column.F.kp T.first_column.b .nil pass0 (pa_cons (pv 0) (pa_cons (pv 1) pa_nil))))
        (pss_cons (ps_set (i := 4) scMisplaced.nd rfl (.inl rfl) (pe_op op_add (pv 3) (pe_op op_mul (pv 0) (pe_call (ok_length T) (hr.mono (by decide)) (by rfl) T.length.m T.length.F.kp T.length.b .nil pass0 (pa_cons (pv 0) (pa_cons (pv 1) pa_nil))))))
        (pss_cons (ps_set (i := 5) scMisplaced.nd rfl (.inl rfl) (pe_call (ok_places_in T) (hr.mono (by decide)) (by rfl) T.places_in.m T.places_in.F.kp T.places_in.b .nil pass0 (pa_cons (pv 0) (pa_cons (pv 2) (pa_cons (pv 3) pa_nil)))))
        (pss_cons (ps_if (PW.pt (pw_and (pt_cmpR op_gt (pe_callB (klen K) (by rfl) T.zlen (by decide +kernel) (pa_cons (pv 5) pa_nil)) pe_int (nomark _)) (pw_and1 (pt_cmpR op_ge (pe_ix (kixL K) (pv 5) (pe_un un_neg pe_int) (fun _ _ => rfl)) (pv 4) (nomark _))))) (pss_one (ps_ret (pe_lst (pa_cons (pe_ix (kixL K) (pv 5) (pe_un un_neg pe_int) (fun _ _ => rfl)) pa_nil)))) pss_nil)
        (pss_cons (ps_if (PW.pt (pw_and (pt_cmpR op_gt (pe_callB (klen K) (by rfl) T.zlen (by decide +kernel) (pa_cons (pv 5) pa_nil)) pe_int (nomark _)) (pw_and1 (pt_cmpR op_lt (pe_ix (kixL K) (pv 5) pe_int (fun _ _ => rfl)) (pv 3) (nomark _))))) (pss_one (ps_ret (pe_lst (pa_cons (pe_ix (kixL K) (pv 5) pe_int (fun _ _ => rfl)) pa_nil)))) pss_nil)
        (pss_one (ps_ret (pe_lst pa_nil)))))))), ?_⟩
  walk_at "ss"
  rintro ds Qd ⟨st, s, xs, rfl, hs, hn, ls, lx, hp, q⟩
  refine ⟨[.sh (.int st), .sh (ePat s), .sh (ePat xs)], .cons (.inr ⟨rfl, rfl⟩) (.cons (.inr ⟨rfl, ePat_tupO _⟩) (.cons (.inr ⟨rfl, ePat_tupO _⟩) .nil)), ?_⟩
  have h0 := hs.1
  have h1 := hs.2
  have hc : CMul st (Sr.lenC st s) := .inl ⟨by omega, by omega⟩
  unfold Sr.outAt at q
  walk_at "h"
  have l1 : ((Sr.spots st xs (Sr.firstC st s)).map PyData.int).length = (Sr.spots st xs (Sr.firstC st s)).length := by simp
  by_cases e : Sr.spots st xs (Sr.firstC st s) = []
  · rw [if_neg (fun z => z.1 e), if_neg (fun z => z.1 e)] at q
    rw [e]
    refine ⟨_, fun _ h => h, ?_⟩
    walk_at "g"
    exact q
  · have g1 := ints_first e
    have g2 := ints_last e
    have hl : 0 < (Sr.spots st xs (Sr.firstC st s)).length := List.length_pos_iff.mpr e
    have hd : decide ((0 : Int) < (((Sr.spots st xs (Sr.firstC st s)).map PyData.int).length : Nat)) = true := decide_eq_true (by omega)
    refine ⟨_, fun _ h => h, ?_⟩
    walk_at "h"
    refine iteTb hd ?_
    walk_at "h"
    refine ⟨_, _, _, rfl, rfl, g2, ?_⟩
    walk_at "h"
    by_cases c : Sr.topC st s ≤ Sr.lastD (Sr.spots st xs (Sr.firstC st s))
    · rw [if_pos ⟨e, c⟩] at q
      refine iteTb (decide_eq_true c) ?_
      walk_at "h"
      refine ⟨_, _, _, rfl, rfl, g2, ?_⟩
      walk_at "h"
      exact q
    · rw [if_neg (fun z => c z.2)] at q
      refine iteFb (decide_eq_false c) ?_
      refine ⟨_, fun _ h => h, ?_⟩
      walk_at "h"
      refine iteTb hd ?_
      walk_at "h"
      refine ⟨_, _, _, rfl, rfl, g1, ?_⟩
      walk_at "h"
      by_cases d : Sr.headD (Sr.spots st xs (Sr.firstC st s)) < Sr.firstC st s
      · rw [if_pos ⟨e, d⟩] at q
        refine iteTb (decide_eq_true d) ?_
        walk_at "h"
        refine ⟨_, _, _, rfl, rfl, g1, ?_⟩
        walk_at "h"
        exact q
      · rw [if_neg (fun z => d z.2)] at q
        refine iteFb (decide_eq_false d) ?_
        walk_at "h"
        exact q

end
end Law
namespace Law
open PySem PySem.Spec PyProof.Rows L2 Dk
section
variable {P : Program} {w : World} {K : Fg} {mg : Str → Option Value} {base : Heap}
set_option maxHeartbeats 4000000 in
theorem ok_normal (T : Txt K mg) : FnOk P w K mg base CX0 4 T.normal.f T.normal.fd ["p", "stride", "one"] (PureSp K cNormal) := by
  refine pure_ok T.normal.F scNormal (fun ds Qd h => by obtain ⟨p, st, x, m, rfl, _⟩ := h; rfl) fun cdv A outer s H E hr => ?_
  refine ⟨_, (pss_cons (ps_set (i := 3) scNormal.nd rfl (.inl rfl) (pe_call (ok_first_column T) (hr.mono (by decide)) (by rfl) T.first_column.m T.first_column.F.kp T.first_column.b .nil pass0 (pa_cons (pv 1) (pa_cons (pe_ix (kixT K) (pv 2) pe_int (fun _ _ => rfl)) pa_nil))))
        (pss_cons (ps_set (i := 4) scNormal.nd rfl (.inl rfl) (pe_call (ok_places_in T) (hr.mono (by decide)) (by rfl) T.places_in.m T.places_in.F.kp T.places_in.b .nil pass0 (pa_cons (pv 1) (pa_cons (pe_ix (kixT K) (pv 2) pe_int (fun _ _ => rfl)) (pa_cons (pv 3) pa_nil)))))
        (pss_cons (ps_set (i := 5) scNormal.nd rfl (.inl rfl) pe_int)
        (pss_cons (ps_if (pt_cmpR op_gt (pv 1) pe_int (nomark _)) (pss_one (ps_set (i := 5) scNormal.nd rfl (.inl rfl) (pe_op op_fdiv (pe_op op_sub (pv 3) (pe_ix (kixL K) (pv 4) pe_int (fun _ _ => rfl))) (pv 1)))) pss_nil)
        (pss_one (ps_ret (pe_call (ok_mixed T) (hr.mono (by decide)) (by rfl) T.mixed.m T.mixed.F.kp T.mixed.b .nil pass0 (pa_cons (pv 0) (pa_cons (pv 1) (pa_cons (pe_tup (pa_cons (pe_tup pa_nil) (pa_cons (pe_tup pa_nil) pa_nil))) (pa_cons (pv 2) (pa_cons (pv 5) (pa_cons (pe_call (ok_inverse T) (hr.mono (by decide)) (by rfl) T.inverse.m T.inverse.F.kp T.inverse.b .nil pass0 (pa_cons (pv 0) (pa_cons (pe_call (ok_shows T) (hr.mono (by decide)) (by rfl) T.shows.m T.shows.F.kp T.shows.b .nil pass0 (pa_cons (pe_ix (kixT K) (pv 2) pe_int (fun _ _ => rfl)) (pa_cons (pe_ix (kixL K) (pv 4) (pe_un un_neg pe_int) (fun _ _ => rfl)) pa_nil))) pa_nil))) pa_nil))))))))))))), ?_⟩
  walk_at "ss"
  rintro ds Qd ⟨p, st, x, m, rfl, hp, st0, st1, hx, hn, lx, lm, q⟩
  refine ⟨[.sh (.int p), .sh (.int st), .sh (eMd x m)], .cons (.inr ⟨rfl, rfl⟩) (.cons (.inr ⟨rfl, rfl⟩) (.cons (.inr ⟨rfl, eMd_tupO _ _⟩) .nil)), ?_⟩
  have hp0 := hp.pos
  have hp2 : 1 < p := by have := hp.two; omega
  have hp7 := hp.le
  have hst : SmallSt st := ⟨st0, by omega⟩
  have e := Sr.ends_of st0 hx hn
  have hne := Sr.spots_first (st := st) hn
  have g1 := ints_first hne
  have g2 := ints_last hne
  have b0 := hx.at_rng hp0 (Sr.tip st x)
  have b1 := e.t2
  have b2 : 0 < Pt.at_ x (Sr.tip st x) := by omega
  have b3 : Pt.at_ x (Sr.tip st x) < p := b0.2
  walk_at "h"
  refine ⟨fun Γ => Γ = [.sh (.int p), .sh (.int st), .sh (eMd x m), .sh (.int (Sr.firstC st x)), .ow (.lst ((Sr.spots st x (Sr.firstC st x)).map .int)), .sh (.int (-(Sr.brow st x)))], ?_, ?_⟩
  case refine_2 =>
    walk_at "h"
    by_cases c : 0 < st
    · refine iteTb (decide_eq_true c) ?_
      have cdv : CDiv (Sr.firstC st x - Sr.headD (Sr.spots st x (Sr.firstC st x))) st := ⟨by omega, by omega⟩
      walk_at "h"
      refine ⟨_, _, _, rfl, rfl, g1, ?_⟩
      walk_at "h"
      have eb : (Sr.firstC st x - Sr.headD (Sr.spots st x (Sr.firstC st x))) / st = -(Sr.brow st x) := by
        have := e.eb
        rw [show Sr.firstC st x - Sr.headD (Sr.spots st x (Sr.firstC st x)) = st * -(Sr.brow st x) by rw [Int.mul_neg]; show Sr.firstC st x - Sr.bot st x = _; omega]
        exact Int.mul_ediv_cancel_left _ (by omega)
      show _ = _
      rw [← eb]
      rfl
    · refine iteFb (decide_eq_false c) ?_
      have eb : -(Sr.brow st x) = 0 := by
        unfold Sr.brow
        rw [show st = 0 by omega, Sr.row_zero]
        rfl
      show _ = _
      rw [eb]
      rfl
  rintro Γ rfl
  have lt1 : Sr.lastD (Sr.spots st x (Sr.firstC st x)) = Sr.tip st x := rfl
  rw [lt1] at g2
  walk_at "h"
  refine ⟨_, _, _, rfl, rfl, g2, ?_⟩
  have n1 : ([] : Pt.Pat).length ≤ 4000000 := by decide
  have n2 : ([] : Mk.M).length ≤ 4000000 := by decide
  walk_at "h"
  intro v v0 v1 v2
  walk_at "h"
  refine ⟨p, st, [], x, [], m, -(Sr.brow st x), v, rfl, hp, st0, st1, n1, lx, n2, lm, by omega, by omega, fun mz hmz => ?_⟩
  walk_at "h"
  have l1 := hmz.len
  have l2 : (Sr.mixP p st [] x (-(Sr.brow st x)) v).length ≤ x.length := by
    unfold Sr.mixP
    have a1 := Pt.added_len p [] (Pt.timed p (Pt.moved x (st * -(Sr.brow st x))) v)
    have a2 := Pt.timed_len p (Pt.moved x (st * -(Sr.brow st x))) v
    rw [Pt.moved_len] at a2
    simp only [List.length_nil] at a1
    omega
  exact q _ _ _ (Sr.norm_of hp2 (noZero hp) st0 hx hn rfl v2 hmz) l2 (by simpa using l1)

end
end Law
namespace Law
open PySem PySem.Spec PyProof.Rows L2 Dk
section
variable {P : Program} {w : World} {K : Fg} {mg : Str → Option Value} {base : Heap}
set_option maxHeartbeats 4000000 in
theorem ok_lowered (T : Txt K mg) : FnOk P w K mg base CX0 5 T.lowered.f T.lowered.fd ["p", "stride", "stair", "one"] (PureSp K cLower) := by
  refine pure_ok T.lowered.F scLowered (fun ds Qd h => by obtain ⟨p, st, U, V, x, s, mx, ms, rfl, _⟩ := h; rfl) fun cdv A outer s H E hr => ?_
  refine ⟨_, (pss_cons (ps_set (i := 4) scLowered.nd rfl (.inl rfl) (pe_call (ok_first_column T) (hr.mono (by decide)) (by rfl) T.first_column.m T.first_column.F.kp T.first_column.b .nil pass0 (pa_cons (pv 1) (pa_cons (pe_ix (kixT K) (pv 2) pe_int (fun _ _ => rfl)) pa_nil))))
        (pss_cons (ps_set (i := 5) scLowered.nd rfl (.inl rfl) (pe_call (ok_length T) (hr.mono (by decide)) (by rfl) T.length.m T.length.F.kp T.length.b .nil pass0 (pa_cons (pv 1) (pa_cons (pe_ix (kixT K) (pv 2) pe_int (fun _ _ => rfl)) pa_nil))))
        (pss_cons (ps_set (i := 6) scLowered.nd rfl (.inl rfl) (pe_call (ok_inverse T) (hr.mono (by decide)) (by rfl) T.inverse.m T.inverse.F.kp T.inverse.b .nil pass0 (pa_cons (pv 0) (pa_cons (pe_call (ok_shows T) (hr.mono (by decide)) (by rfl) T.shows.m T.shows.F.kp T.shows.b .nil pass0 (pa_cons (pe_ix (kixT K) (pv 2) pe_int (fun _ _ => rfl)) (pa_cons (pv 4) pa_nil))) pa_nil))))
        (pss_cons (ps_set (i := 7) scLowered.nd rfl (.inl rfl) (pe_call (ok_misplaced T) (hr.mono (by decide)) (by rfl) T.misplaced.m T.misplaced.F.kp T.misplaced.b .nil pass0 (pa_cons (pv 1) (pa_cons (pe_ix (kixT K) (pv 2) pe_int (fun _ _ => rfl)) (pa_cons (pe_ix (kixT K) (pv 3) pe_int (fun _ _ => rfl)) pa_nil)))))
        (pss_cons (ps_while PassesOwn.never (pt_cmpR op_gt (pe_callB (klen K) (by rfl) T.zlen (by decide +kernel) (pa_cons (pv 7) pa_nil)) pe_int (nomark _)) (pss_cons (ps_set (i := 8) scLowered.nd rfl (.inl rfl) (pe_ix (kixL K) (pv 7) pe_int (fun _ _ => rfl)))
        (pss_cons (ps_set (i := 9) scLowered.nd rfl (.inl rfl) (pe_call (ok_shows T) (hr.mono (by decide)) (by rfl) T.shows.m T.shows.F.kp T.shows.b .nil pass0 (pa_cons (pe_ix (kixT K) (pv 3) pe_int (fun _ _ => rfl)) (pa_cons (pv 8) pa_nil))))
        (pss_cons (ps_set (i := 10) scLowered.nd rfl (.inl rfl) pe_int)
        (pss_cons (ps_if (pt_cmpR op_gt (pv 1) pe_int (nomark _)) (pss_one (ps_set (i := 10) scLowered.nd rfl (.inl rfl) (pe_op op_fdiv (pe_op op_sub (pv 8) (pv 4)) (pv 1)))) pss_nil)
        (pss_cons (ps_if (pt_cmpR op_gt (pv 8) (pv 4) (nomark _)) (pss_one (ps_set (i := 10) scLowered.nd rfl (.inl rfl) (pe_op op_sub (pv 10) (pv 5)))) pss_nil)
        (pss_cons (ps_if (pt_cmpR op_lt (pv 8) (pv 4) (nomark _)) (pss_one (ps_set (i := 9) scLowered.nd rfl (.inl rfl) (pe_op op_mul (pv 9) (pv 6)))) pss_nil)
        (pss_cons (ps_set (i := 3) scLowered.nd rfl (.inl rfl) (pe_call (ok_mixed T) (hr.mono (by decide)) (by rfl) T.mixed.m T.mixed.F.kp T.mixed.b .nil pass0 (pa_cons (pv 0) (pa_cons (pv 1) (pa_cons (pv 3) (pa_cons (pv 2) (pa_cons (pv 10) (pa_cons (pe_un un_neg (pv 9)) pa_nil))))))))
        (pss_one (ps_set (i := 7) scLowered.nd rfl (.inl rfl) (pe_call (ok_misplaced T) (hr.mono (by decide)) (by rfl) T.misplaced.m T.misplaced.F.kp T.misplaced.b .nil pass0 (pa_cons (pv 1) (pa_cons (pe_ix (kixT K) (pv 2) pe_int (fun _ _ => rfl)) (pa_cons (pe_ix (kixT K) (pv 3) pe_int (fun _ _ => rfl)) pa_nil))))))))))))))
        (pss_one (ps_ret (pv 3)))))))), ?_⟩
  walk_at "ss"
  rintro ds Qd ⟨p, st, U, V, x, s, mx, ms, rfl, hp, st0, st1, u0, v0, S, hx, hr, nd, hw, ls, lms, lall, q⟩
  refine ⟨[.sh (.int p), .sh (.int st), .sh (eMd s ms), .sh (eMd x mx)], .cons (.inr ⟨rfl, rfl⟩) (.cons (.inr ⟨rfl, rfl⟩) (.cons (.inr ⟨rfl, eMd_tupO _ _⟩) (.cons (.inr ⟨rfl, eMd_tupO _ _⟩) .nil))), ?_⟩
  have hp0 := hp.pos
  have hp1 := hp.le
  have hp2 : 1 < p := by have := hp.two; omega
  have hst : SmallSt st := ⟨st0, by omega⟩
  have ls2 : s.length ≤ 4000000 := by omega
  have lx2 : x.length ≤ 4000000 := (lall x mx (Sr.low2_init hx hr nd)).1
  have sn := S.ne
  have hps : ∃ p, Pt.IsPat p s := ⟨p, S.pat⟩
  have b0 := S.pat.at_rng hp0 (Sr.firstC st s)
  have b1 := S.bot
  have b2 : 0 < Pt.at_ s (Sr.firstC st s) := by omega
  have b3 : Pt.at_ s (Sr.firstC st s) < p := b0.2
  walk_at "h"
  intro bt bt0 bt1 bt2
  walk_at "h"
  refine ⟨fun Γ => ∃ (y : Pt.Pat) (my : Mk.M) (y8 y9 y10 : Sl), Sr.Low2 p st U V s ms x mx y my ∧ Sr.Win st U V s y ∧ Γ = [.sh (.int p), .sh (.int st), .sh (eMd s ms), .sh (eMd y my), .sh (.int (Sr.firstC st s)), .sh (.int (Sr.lenC st s)), .sh (.int bt), .ow (.lst ((Sr.outAt st s y).map .int)), y8, y9, y10], muG st s 3, ⟨x, mx, .no, .no, .no, Sr.low2_init hx hr nd, hw, rfl⟩, ?_⟩
  rintro Γ1 ⟨y, my, y8, y9, y10, lo, wy, rfl⟩
  walk_at "h"
  rcases Sr.out_len (st := st) (s := s) (x := y) with ho | ⟨k, ho⟩
  · rw [ho]
    refine iteFb rfl ?_
    walk_at "h"
    exact q y my lo ((Sr.low_out lo.pat).mp ho)
  · rw [ho]
    refine iteTb rfl ?_
    obtain ⟨hk, hl, hcase⟩ := Sr.out_one lo.pat ho
    have kr := lo.pat.at_rng hp0 k
    obtain ⟨ly2, lmy2⟩ := lall y my lo
    obtain ⟨sh, hsh⟩ : ∃ sh, sh = (if 0 < st then (k - Sr.firstC st s) / st else 0) - (if Sr.firstC st s < k then Sr.lenC st s else 0) := ⟨_, rfl⟩
    obtain ⟨v, hv⟩ : ∃ v, v = if k < Sr.firstC st s then Pt.at_ y k * bt else Pt.at_ y k := ⟨_, rfl⟩
    have tg := Sr.top_ge st0 S
    have ykr := wy k hk hl
    have fin : (-1000 < -v ∧ -v < 1000) ∧ ((st = 0 → sh = 0) ∧ -U ≤ sh ∧ sh ≤ V) ∧ muX st s (Sr.mixP p st y s sh (-v)) < muX st s y := by
      rcases hcase with ⟨h1, h2⟩ | ⟨h1, h2, h3⟩
      · rw [if_neg (by omega)] at hv
        have he : st * sh = k - Sr.topC st s := by rw [hsh]; exact Sr.shift_top st0 S hk h1
        subst hv
        have hz : st = 0 → sh = 0 := fun z => by
          have hk0 : k = Sr.firstC st s := by rw [z] at hk; rw [z, ← hk]; rfl
          rw [hsh, if_neg (by omega), if_neg (by omega)]
          rfl
        refine ⟨⟨by omega, by omega⟩, ⟨hz, ?_, ?_⟩, Sr.mu_down hp2 lo.pat S hk hl h1 he h2⟩
        · by_cases z : st = 0
          · rw [hz z]; omega
          · have : 0 ≤ sh := Sr.quo_le (st := st) (by omega) (by rw [Int.mul_zero]; omega)
            omega
        · by_cases z : st = 0
          · rw [hz z]; exact v0
          · exact Sr.quo_le (st := st) (by omega) (by omega)
      · rw [if_pos h1] at hv
        obtain ⟨z1, z2⟩ := Sr.shift_bot st0 S hk h1
        have he : st * sh = k - Sr.firstC st s := by rw [hsh, if_pos z1, if_neg (by omega), Int.sub_zero]; exact z2
        have m0 : 0 ≤ Pt.at_ y k * bt := Int.mul_nonneg kr.1 (by omega)
        have m1 : Pt.at_ y k * bt ≤ 7 * 7 := Int.mul_le_mul (by omega) (by omega) (by omega) (by omega)
        subst hv
        refine ⟨⟨by omega, by omega⟩, ⟨fun z => by omega, ?_, ?_⟩, Sr.mu_up hp2 lo.pat S hk hl h1 he bt2 h2⟩
        · exact Sr.quo_le (st := st) z1 (by rw [Int.mul_neg]; omega)
        · have : sh ≤ 0 := Sr.quo_le (st := st) z1 (by rw [Int.mul_zero]; omega)
          omega
    obtain ⟨⟨w0, w1⟩, ⟨hz, hz1, hz2⟩, hmu⟩ := fin
    walk_at "h"
    refine ⟨fun Γ => Γ = [.sh (.int p), .sh (.int st), .sh (eMd s ms), .sh (eMd y my), .sh (.int (Sr.firstC st s)), .sh (.int (Sr.lenC st s)), .sh (.int bt), .ow (.lst ([k].map .int)), .sh (.int k), .sh (.int (Pt.at_ y k)), .sh (.int (if 0 < st then (k - Sr.firstC st s) / st else 0))], ?_, ?_⟩
    case refine_2 =>
      walk_at "h"
      by_cases c : 0 < st
      · refine iteTb (decide_eq_true c) ?_
        have cdv : CDiv (k - Sr.firstC st s) st := ⟨by omega, by omega⟩
        walk_at "h"
        rw [if_pos c]
        rfl
      · refine iteFb (decide_eq_false c) ?_
        show _ = _
        rw [if_neg c]
        rfl
    rintro Γ rfl
    walk_at "h"
    refine ⟨fun Γ => Γ = [.sh (.int p), .sh (.int st), .sh (eMd s ms), .sh (eMd y my), .sh (.int (Sr.firstC st s)), .sh (.int (Sr.lenC st s)), .sh (.int bt), .ow (.lst ([k].map .int)), .sh (.int k), .sh (.int (Pt.at_ y k)), .sh (.int sh)], ?_, ?_⟩
    case refine_2 =>
      walk_at "h"
      rw [hsh]
      by_cases c : Sr.firstC st s < k
      · refine iteTb (decide_eq_true c) ?_
        walk_at "h"
        rw [if_pos c]
        rfl
      · refine iteFb (decide_eq_false c) ?_
        show _ = _
        rw [if_neg c, Int.sub_zero]
    rintro Γ rfl
    walk_at "h"
    refine ⟨fun Γ => Γ = [.sh (.int p), .sh (.int st), .sh (eMd s ms), .sh (eMd y my), .sh (.int (Sr.firstC st s)), .sh (.int (Sr.lenC st s)), .sh (.int bt), .ow (.lst ([k].map .int)), .sh (.int k), .sh (.int v), .sh (.int sh)], ?_, ?_⟩
    case refine_2 =>
      walk_at "h"
      rw [hv]
      by_cases c : k < Sr.firstC st s
      · refine iteTb (decide_eq_true c) ?_
        have cm : CMul (Pt.at_ y k) bt := .inl ⟨by omega, by omega⟩
        walk_at "h"
        rw [if_pos c]
        rfl
      · refine iteFb (decide_eq_false c) ?_
        show _ = _
        rw [if_neg c]
    rintro Γ rfl
    clear hsh hv
    walk_at "h"
    refine ⟨p, st, y, s, my, ms, sh, -v, rfl, hp, st0, st1, ly2, ls2, lmy2, lms, w0, w1, ?_⟩
    intro mz hmix
    have lo2 := Sr.low2_mix hp0 S lo hmix hz hz1 hz2
    have wz := Sr.win_mix (v := -v) hp0 st0 lo.pat S wy hz1 hz2
    obtain ⟨l3, l4⟩ := lall _ _ lo2
    obtain ⟨z, hzz⟩ : ∃ z, z = Sr.mixP p st y s sh (-v) := ⟨_, rfl⟩
    rw [← hzz] at lo2 l3 hmu wz ⊢
    clear hzz
    walk_at "h"
    refine ⟨⟨z, mz, .sh (.int k), .sh (.int v), .sh (.int sh), lo2, wz, rfl⟩, ?_⟩
    show Sr.mu st s ((z.map ePair).map decP) < Sr.mu st s ((y.map ePair).map decP)
    rw [muG_of, muG_of]
    exact hmu

end
end Law
namespace Law
open PySem PySem.Spec PyProof.Rows L2 Dk
section
variable {P : Program} {w : World} {K : Fg} {mg : Str → Option Value} {base : Heap}
set_option maxHeartbeats 4000000 in
theorem ok_put_in (T : Txt K mg) : FnOk P w K mg base CX0 6 T.put_in.f T.put_in.fd ["p", "stride", "steps", "one"] (GSp K false cPutIn) := by
  refine gen_ok T.put_in.F scPut_in (fun as Qd Qx h => by obtain ⟨p, st, Kw, B, N, O, x, m, rfl, _⟩ := h; rfl) fun cdv A outer s H E hr => ?_
  refine ⟨_, (pss_one (ps_while PassesOwn.never (pt_cmpR op_gt (pe_callB (klen K) (by rfl) T.zlen (by decide +kernel) (pa_cons (pe_ix (kixT K) (pv 3) pe_int (fun _ _ => rfl)) pa_nil)) pe_int (nomark _)) (pss_cons (ps_set (i := 3) scPut_in.nd rfl (.inl rfl) (pe_call (ok_normal T) (hr.mono (by decide)) (by rfl) T.normal.m T.normal.F.kp T.normal.b .nil pass0 (pa_cons (pv 0) (pa_cons (pv 1) (pa_cons (pv 3) pa_nil)))))
        (pss_cons (ps_set (i := 4) scPut_in.nd rfl (.inl rfl) (pe_call (ok_first_column T) (hr.mono (by decide)) (by rfl) T.first_column.m T.first_column.F.kp T.first_column.b .nil pass0 (pa_cons (pv 1) (pa_cons (pe_ix (kixT K) (pv 3) pe_int (fun _ _ => rfl)) pa_nil))))
        (pss_cons (ps_if (pt_cmp (pc_dnotin (hu_of hr) (pv 4) (pv 2))) (pss_cons (ps_dput (hu_of hr) (pv 2) (pv 4) (pv 3) rfl)
        (pss_one ps_retN)) pss_nil)
        (pss_cons (ps_set (i := 5) scPut_in.nd rfl (.inl rfl) (pe_dget (hu_of hr) (pv 2) (pv 4) (fun _ _ => rfl)))
        (pss_cons (ps_if (pt_cmpR op_lt (pe_call (ok_length T) (hr.mono (by decide)) (by rfl) T.length.m T.length.F.kp T.length.b .nil pass0 (pa_cons (pv 1) (pa_cons (pe_ix (kixT K) (pv 3) pe_int (fun _ _ => rfl)) pa_nil))) (pe_call (ok_length T) (hr.mono (by decide)) (by rfl) T.length.m T.length.F.kp T.length.b .nil pass0 (pa_cons (pv 1) (pa_cons (pe_ix (kixT K) (pv 5) pe_int (fun _ _ => rfl)) pa_nil))) (nomark _)) (pss_cons (ps_dput (hu_of hr) (pv 2) (pv 4) (pv 3) rfl)
        (pss_one (ps_set (i := 3) scPut_in.nd rfl (.inl rfl) (pv 5)))) pss_nil)
        (pss_one (ps_set (i := 3) scPut_in.nd rfl (.inl rfl) (pe_call (ok_lowered T) (hr.mono (by decide)) (by rfl) T.lowered.m T.lowered.F.kp T.lowered.b .nil pass0 (pa_cons (pv 0) (pa_cons (pv 1) (pa_cons (pe_dget (hu_of hr) (pv 2) (pv 4) (fun _ _ => rfl)) (pa_cons (pv 3) pa_nil)))))))))))))), ?_⟩
  walk_at "ss"
  rintro as Qd Qx ⟨p, st, Kw, B, N, O, x0, m0, rfl, hp, st0, st1, ho, ⟨n0, hi⟩, lx0, lm0, hf, lO, q⟩
  refine ⟨[.sh (.int p), .sh (.int st), .rf (.dK (eSteps O)), .sh (eMd x0 m0)], .cons (.inl ⟨rfl, .inl rfl⟩) (.cons (.inl ⟨rfl, .inl rfl⟩) (.cons rfl (.cons (.inl ⟨rfl, .inl rfl⟩) .nil))), ?_⟩
  have hp0 := hp.pos
  have hp2 : 1 < p := by have := hp.two; omega
  have hst : SmallSt st := ⟨st0, by omega⟩
  obtain ⟨J, hJ⟩ : ∃ J : Nat → G → Prop, J = fun n Γ => ∃ (T : Sr.Steps) (x : Pt.Pat) (m : Mk.M) (y4 y5 : Sl), Sr.PutInv p st B Kw N O x0 n T x m ∧ x.length ≤ 4000000 ∧ m.length ≤ 4000000 ∧ Γ = [.sh (.int p), .sh (.int st), .rf (.dK (eSteps T)), .sh (eMd x m), y4, y5] := ⟨_, rfl⟩
  refine ⟨fun Γ => ∃ n, J n Γ, muJ J, ⟨n0, by rw [hJ]; exact ⟨O, x0, m0, .no, .no, hi, lx0, lm0, rfl⟩⟩, ?_⟩
  rintro Γ1 hΓ
  have hn := muJ_spec hΓ
  obtain ⟨n, en⟩ : ∃ n, n = muJ J Γ1 := ⟨_, rfl⟩
  rw [← en] at hn ⊢
  have back : ∀ n' Γ', n' < n → J n' Γ' → (∃ n, J n Γ') ∧ muJ J Γ' < n := fun n' Γ' h1 h2 => by
    rw [en] at h1 ⊢
    exact muJ_step h2 h1
  clear hΓ en
  rw [hJ] at hn
  obtain ⟨T1, x, m, y4, y5, inv, lx, lm, rfl⟩ := hn
  walk_at "h"
  by_cases hx : x = []
  · subst hx
    refine iteFb rfl ?_
    exact ⟨rfl, q T1 (inv.dark ho rfl)⟩
  have hl : 0 < (x.map ePair).length := by rw [List.length_map]; exact List.length_pos_iff.mpr hx
  refine iteTb (decide_eq_true (by omega)) ?_
  have px := inv.base.mp.pat
  walk_at "h"
  intro x1 m1 sh hN lx1 lm1
  have S1 := hN.stair
  have ne1 := S1.ne
  have lx1' : x1.length ≤ 4000000 := by omega
  have lm1' : m1.length ≤ 4000000 := by omega
  have hp1 : ∃ p, Pt.IsPat p x1 := ⟨p, S1.pat⟩
  have f1 := hN.first
  have lT : T1.length = O.length := by
    have := congrArg List.length inv.base.keys
    unfold Sr.keysS at this
    rw [List.length_map, List.length_map] at this
    exact this
  have hs1 : (eSteps T1).length < sizeLine := by rw [steps_len, lT]; exact small100000 (by omega)
  cases hg : Sr.getS T1 (Sr.firstC st x1) with
  | none =>
    have hv : valD (eSteps T1) (.inl (Sr.firstC st x1)) = none := by rw [steps_val, hg]; rfl
    have hq := inv.new st0 ho hx hN hg
    walk_at "h"
    refine ⟨fun _ => False, fun _ z => z.elim, ?_⟩
    walk_at "h"
    refine ⟨_, _, rfl, rfl, congrArg some hv, ?_⟩
    walk_at "h"
    show Qd (.d .none) [.dK (putD (eSteps T1) (.inl (Sr.firstC st x1)) (eMd x1 m1))]
    rw [steps_put]
    exact q _ hq
  | some v =>
    obtain ⟨y, ny⟩ := v
    have hv : valD (eSteps T1) (.inl (Sr.firstC st x1)) = some (eMd y ny) := by rw [steps_val, hg]; rfl
    walk_at "h"
    refine ⟨fun Γ => Γ = [.sh (.int p), .sh (.int st), .rf (.dK (eSteps T1)), .sh (eMd x1 m1), .sh (.int (Sr.firstC st x1)), y5], ?_, ?_⟩
    case refine_2 =>
      walk_at "h"
      refine ⟨_, _, rfl, rfl, congrArg some hv, ?_⟩
      walk_at "h"
      rfl
    rintro Γ rfl
    obtain ⟨Sy, fy, mpy⟩ := inv.base.ok.ok _ (Sr.get_mem hg)
    simp only at Sy fy mpy
    obtain ⟨ly, lny⟩ := hf.len st0 mpy (inv.base.rw _ (Sr.get_mem hg)) (inv.base.kw _ (Sr.get_mem hg))
    replace ly : y.length ≤ 4000000 := ly
    replace lny : ny.length ≤ 4000000 := lny
    have ney := Sy.ne
    have hpy : ∃ p, Pt.IsPat p y := ⟨p, Sy.pat⟩
    obtain ⟨lc, hpr, hn2, hc⟩ := inv.prog st0 st1 ho hx (by rw [← f1]; exact hg)
    rw [← f1] at hpr hn2 hc
    rw [← hN.len] at hn2
    walk_at "h"
    refine ⟨_, _, rfl, congrArg some hv, ?_⟩
    walk_at "h"
    refine ⟨fun Γ => ∃ (T2 : Sr.Steps) (yy t : Pt.Pat) (myy mt : Mk.M) (y5 : Sl), Sr.Turn p st B Kw N O x0 (Sr.firstC st x1) lc T2 yy myy t mt ∧ Sr.lenC st yy + Sr.lenC st t = Sr.lenC st x1 + Sr.lenC st y ∧ yy.length ≤ 4000000 ∧ myy.length ≤ 4000000 ∧ t.length ≤ 4000000 ∧ mt.length ≤ 4000000 ∧ Γ = [.sh (.int p), .sh (.int st), .rf (.dK (eSteps T2)), .sh (eMd yy myy), .sh (.int (Sr.firstC st x1)), y5], ?_, ?_⟩
    case refine_2 =>
      walk_at "h"
      by_cases c : Sr.lenC st x1 < Sr.lenC st y
      · refine iteTb (decide_eq_true c) ?_
        have ta := Sr.turn_a ho inv.base hpr hN c
        walk_at "h"
        refine ⟨Sr.putS T1 (Sr.firstC st x1) (x1, m1), y, x1, ny, m1, .sh (eMd y ny), ta, by omega, ly, lny, lx1', lm1', ?_⟩
        rw [← steps_put]
        rfl
      · refine iteFb (decide_eq_false c) ?_
        have tb := Sr.turn_b ho inv.base hpr hN c
        exact ⟨T1, x1, y, m1, ny, _, tb, rfl, lx1', lm1', ly, lny, rfl⟩
    rintro Γ ⟨T2, yy, t, myy, mt, y5', tu, el, l1, l2, l3, l4, rfl⟩
    have hv2 : valD (eSteps T2) (.inl (Sr.firstC st x1)) = some (eMd t mt) := by rw [steps_val, tu.get]; rfl
    obtain ⟨hw, hall⟩ := turn_fits st0 ho hf tu
    walk_at "h"
    refine ⟨_, _, rfl, congrArg some hv2, ?_⟩
    walk_at "h"
    have l10 := tu.l1
    refine ⟨p, st, 0, Sr.lenC st yy - Sr.lenC st t, yy, t, myy, mt, rfl, hp, st0, st1, Int.le_refl 0, by omega, tu.S, tu.mpY.pat, tu.mpY.rng, tu.mpY.nd, hw, l3, l4, hall, fun r mr hlw hlow => ?_⟩
    obtain ⟨l5, l6⟩ := hall r mr hlw
    obtain ⟨n', hn', inv'⟩ := tu.next (ln := 0) hp2 st0 ho hlw hlow hc (by rw [el]; exact hn2)
    refine back n' _ hn' ?_
    rw [hJ]
    exact ⟨T2, r, mr, _, _, inv', l5, l6, rfl⟩

end
end Law
namespace Law
open PySem PySem.Spec PyProof.Rows L2 Dk
section
variable {P : Program} {w : World} {K : Fg} {mg : Str → Option Value} {base : Heap}
set_option maxHeartbeats 4000000 in
theorem ok_settle (T : Txt K mg) : FnOk P w K mg base CX0 6 T.settle.f T.settle.fd ["p", "stride", "steps"] (GSp K false cSettle) := by
  refine gen_ok T.settle.F scSettle (fun as Qd Qx h => by obtain ⟨p, st, Kw, F, D, B, O, rfl, _⟩ := h; rfl) fun cdv A outer s H E hr => ?_
  refine ⟨_, (pss_cons (ps_set (i := 3) scSettle.nd rfl (.inl rfl) (pe_callB (b_sortDI rfl) (by rfl) T.zsorted (by decide +kernel) (pa_cons (pv 2) pa_nil)))
        (pss_one (ps_for PassesOwn.never rfl (pi_range3 rfl T.zrange (pa_cons (pe_op op_sub (pe_callB (klen K) (by rfl) T.zlen (by decide +kernel) (pa_cons (pv 3) pa_nil)) pe_int) (pa_cons (pe_un un_neg pe_int) (pa_cons (pe_un un_neg pe_int) pa_nil)))) (pg_name (i := 4) scSettle.nd rfl (.inl rfl)) (pss_cons (ps_set (i := 5) scSettle.nd rfl (.inl rfl) (pe_dget (hu_of hr) (pv 2) (pe_ix (kixL K) (pv 3) (pv 4) (fun _ _ => rfl)) (fun _ _ => rfl)))
        (pss_cons (ps_for PassesOwn.never rfl (kpil K (pe_slice (kslL K) (pv 3) (po_some (pe_op op_add (pv 4) pe_int)) po_none)) (pg_name (i := 6) scSettle.nd rfl (.inl rfl)) (pss_one (ps_set (i := 5) scSettle.nd rfl (.inl rfl) (pe_call (ok_lowered T) (hr.mono (by decide)) (by rfl) T.lowered.m T.lowered.F.kp T.lowered.b .nil pass0 (pa_cons (pv 0) (pa_cons (pv 1) (pa_cons (pe_dget (hu_of hr) (pv 2) (pv 6) (fun _ _ => rfl)) (pa_cons (pv 5) pa_nil))))))))
        (pss_one (ps_dput (hu_of hr) (pv 2) (pe_ix (kixL K) (pv 3) (pv 4) (fun _ _ => rfl)) (pv 5) rfl))))))), ?_⟩
  walk_at "ss"
  rintro as Qd Qx ⟨p, st, Kw, F, D, B, O, rfl, hp, st0, st1, f0, d0, ok, hrw, hkw, hf, lO, q⟩
  refine ⟨[.sh (.int p), .sh (.int st), .rf (.dK (eSteps O))], .cons (.inl ⟨rfl, .inl rfl⟩) (.cons (.inl ⟨rfl, .inl rfl⟩) (.cons rfl .nil)), ?_⟩
  have hp0 := hp.pos
  have hp2 : 1 < p := by have := hp.two; omega
  have hst : SmallSt st := ⟨st0, by omega⟩
  walk_at "h"
  refine ⟨Sr.keysS O, congrArg some (steps_keys O), ?_, fun cols hperm hsrt => ?_⟩
  · unfold Sr.keysS
    rw [List.length_map]
    exact Nat.le_of_lt (small100000 (by omega))
  have hsrt2 := Pt.sorted_strict hperm ok.nd hsrt
  have ho : Sr.Ord O cols := ⟨hperm, hsrt2⟩
  have hlen := ho.len
  have mulLe : ∀ {a b F : Int}, 0 ≤ F → a ≤ b → a * F ≤ b * F := fun h0 h => Int.mul_le_mul_of_nonneg_right h h0
  have hl2 : ((cols.map PyData.int).length : Int) = O.length := by rw [List.length_map, hlen]
  have hf' : Fits st Kw (cols.length * F) (D + cols.length * F) := by rw [hlen]; exact hf
  have hcols : ∀ c, c ∈ Sr.keysS O → c ∈ cols := fun c hc => hperm.mem_iff.mpr hc
  have hrg : RgC ((O.length : Int) - 1) (-1) (-1) O.length := by
    have := RgC.neg (i := (O.length : Int) - 1) (j := -1) (by omega) (by omega) (by decide) (by decide)
    rw [show ((O.length : Int) - 1 - -1).toNat = O.length by omega] at this
    exact this
  walk_at "h"
  rw [hl2]
  refine ⟨_, _, _, O.length, rfl, hrg, fun k Γ => ∃ (T : Sr.Steps) (y4 y5 y6 : Sl), Sr.SetT p st B Kw F D O cols (O.length - k) T ∧ Γ = [.sh (.int p), .sh (.int st), .rf (.dK (eSteps T)), .ow (.lst (cols.map .int)), y4, y5, y6], ?_, ?_, ?_⟩
  · refine ⟨O, .no, .no, .no, ?_, rfl⟩
    rw [Nat.sub_zero, ← hlen]
    exact Sr.sett_begin ok
  · rintro k Γ hk ⟨T1, y4, y5, y6, hT, rfl⟩
    obtain ⟨i, hi⟩ : ∃ i, i = O.length - 1 - k := ⟨_, rfl⟩
    rw [show O.length - k = i + 1 by omega] at hT
    have ei : (O.length : Int) - 1 + (k : Int) * -1 = (i : Int) := by omega
    have ek : O.length - (k + 1) = i := by omega
    rw [ei]
    have hic : i < cols.length := by omega
    have ho1 : Sr.Ord T1 cols := ⟨by rw [hT.keys]; exact hperm, hsrt2⟩
    obtain ⟨c, hc⟩ : ∃ c, cols[i]? = some c := ⟨_, List.getElem?_eq_getElem hic⟩
    obtain ⟨v, gv, _⟩ := ho.get hc
    obtain ⟨x, m⟩ := v
    have gT : Sr.getS T1 c = some (x, m) := by rw [hT.rest i c (by omega) hc, gv]
    have hx := Sr.setx_begin f0 hsrt2 hT hc gT (hrw _ (Sr.get_mem gv)) (hkw _ (Sr.get_mem gv))
    have hv : valD (eSteps T1) (.inl c) = some (eMd x m) := by rw [steps_val, gT]; rfl
    have ga : atI (cols.map PyData.int) (i : Int) = some (.int c) := atI_nat (by rw [List.getElem?_map, hc]; rfl)
    have hcut : cutD (cols.map PyData.int) (some ((i : Int) + 1)) none = (cols.drop (i + 1)).map PyData.int := by
      have := cut_behind2 (cols.map PyData.int) (i + 1)
      rw [List.map_drop]
      exact this
    walk_at "h"
    refine ⟨_, _, _, rfl, rfl, ga, ?_⟩
    walk_at "h"
    refine ⟨_, _, rfl, congrArg some hv, ?_⟩
    walk_at "h"
    rw [hcut]
    refine ⟨fun j Γ => ∃ (y : Pt.Pat) (my : Mk.M) (y6 : Sl), Sr.SetX p st B Kw F D cols T1 i (i + 1 + j) c x y my ∧ Γ = [.sh (.int p), .sh (.int st), .rf (.dK (eSteps T1)), .ow (.lst (cols.map .int)), .sh (.int i), .sh (eMd y my), y6], ⟨x, m, y6, hx, rfl⟩, ?_, ?_⟩
    · rintro j d Γ hd ⟨y, my, y6', hxj, rfl⟩
      rw [List.getElem?_map, List.getElem?_drop] at hd
      obtain ⟨b, hb, rfl⟩ := Option.map_eq_some_iff.mp hd
      obtain ⟨vb, gvb, _⟩ := ho1.get hb
      have ib : i + 1 + j < cols.length := lt_of_get hb
      obtain ⟨t, mt⟩ := vb
      have hvb : valD (eSteps T1) (.inl b) = some (eMd t mt) := by rw [steps_val, gvb]; rfl
      obtain ⟨hw, hall⟩ := setx_fits st0 f0 hsrt2 hf' hT hxj (by omega) hb gvb
      have okb := hT.ok.ok _ (Sr.get_mem gvb)
      have Sb := okb.1
      simp only at Sb
      have tw := hT.win (i + 1 + j) b (t, mt) (by omega) hb gvb
      obtain ⟨lt1, lt2⟩ := hf'.len st0 okb.2.2 ((Sr.rwf_fam p st).mono tw.1 (mulLe f0 (by omega)) (mulLe f0 (by omega))) ((Sr.kwf_fam p st).mono tw.2 (Int.add_le_add_left (mulLe f0 (by omega)) D) (Int.add_le_add_left (mulLe f0 (by omega)) D))
      replace lt1 : t.length ≤ 4000000 := lt1
      replace lt2 : mt.length ≤ 4000000 := lt2
      walk_at "h"
      refine ⟨_, _, rfl, congrArg some hvb, ?_⟩
      walk_at "h"
      refine ⟨p, st, F, F, y, t, my, mt, rfl, hp, st0, st1, f0, f0, Sb, hxj.mp.pat, hxj.mp.rng, hxj.mp.nd, hw, lt1, lt2, hall, fun r mr hlw hlow => ?_⟩
      exact ⟨r, mr, _, Sr.setx_step st0 f0 hsrt2 hT hc hxj (by omega) hb gvb hlw hlow, rfl⟩
    · rintro Γ ⟨y, my, y6', hxj, rfl⟩
      rw [List.length_map, List.length_drop, show i + 1 + (cols.length - (i + 1)) = cols.length by omega] at hxj
      have hT2 := Sr.sett_step f0 hsrt2 hcols hT hc gT hxj
      have hs1 : (eSteps T1).length < sizeLine := by rw [steps_len, ← ho1.len, hlen]; exact small100000 (by omega)
      walk_at "h"
      refine ⟨_, _, _, rfl, rfl, ga, ?_⟩
      walk_at "h"
      refine ⟨Sr.putS T1 c (y, my), .sh (.int i), .sh (eMd y my), y6', by rw [ek]; exact hT2, ?_⟩
      rw [← steps_put]
      rfl
  · rintro Γ ⟨T1, y4, y5, y6, hT, rfl⟩
    rw [Nat.sub_self] at hT
    exact ⟨rfl, q cols T1 ho hT⟩

end
end Law
namespace Law
open PySem PySem.Spec PyProof.Rows L2 Dk
section
variable {P : Program} {w : World} {K : Fg} {mg : Str → Option Value} {base : Heap}
set_option maxHeartbeats 4000000 in
theorem ok_built (T : Txt K mg) : FnOk P w K mg base CX0 7 T.built.f T.built.fd ["p", "stride", "patterns"] (PureSp K cBuilt) := by
  refine pure_ok T.built.F scBuilt (fun ds Qd h => by obtain ⟨p, st, lo, hi, ps, rfl, _⟩ := h; rfl) fun cdv A outer s H E hr => ?_
  refine ⟨_, (pss_cons (ps_set (i := 3) scBuilt.nd rfl (.inr rfl) pe_dnewK)
        (pss_cons (ps_for PassesOwn.never rfl (pi_range1 rfl T.zrange (pa_cons (pe_callB (klen K) (by rfl) T.zlen (by decide +kernel) (pa_cons (pv 2) pa_nil)) pa_nil)) (pg_name (i := 4) scBuilt.nd rfl (.inl rfl)) (pss_cons (ps_expr (pe_call (ok_put_in T) (hr.mono (by decide)) (by rfl) T.put_in.m T.put_in.F.kp T.put_in.b .nil pass0 (pa_cons (pv 0) (pa_cons (pv 1) (pa_cons (pv 3) (pa_cons (pe_tup (pa_cons (pe_call (ok_tidy T) (hr.mono (by decide)) (by rfl) T.tidy.m T.tidy.F.kp T.tidy.b .nil pass0 (pa_cons (pv 0) (pa_cons (pe_callTy (klist K) (by rfl) T.zlist (by decide +kernel) (pa_cons (pe_ix (kixL K) (pv 2) (pv 4) (fun _ _ => rfl)) pa_nil)) pa_nil))) (pa_cons (pe_tup (pa_cons (pe_tup (pa_cons (pe_tup (pa_cons (pv 4) (pa_cons pe_int pa_nil))) (pa_cons pe_int pa_nil))) pa_nil)) pa_nil))) pa_nil))))))
        (pss_one (ps_expr (pe_call (ok_settle T) (hr.mono (by decide)) (by rfl) T.settle.m T.settle.F.kp T.settle.b .nil pass0 (pa_cons (pv 0) (pa_cons (pv 1) (pa_cons (pv 3) pa_nil))))))))
        (pss_cons (ps_set (i := 5) scBuilt.nd rfl (.inl rfl) (pe_callB (b_sortDI rfl) (by rfl) T.zsorted (by decide +kernel) (pa_cons (pv 3) pa_nil)))
        (pss_cons (ps_set (i := 6) scBuilt.nd rfl (.inl rfl) (pe_callTy (ktuple K) (by rfl) T.ztuple (by decide +kernel) (pa_cons (pe_lc (own := [("at", 7)]) rfl scBuilt.nd (kpil K (pv 5)) (blkOk_by (own := [("at", 7)]) (N := nBuilt) (sc := defScope sBuilt) (by decide +kernel)) (fun _ _ _ _ _ => (pg_name (i := 7) scBuilt.nd rfl (.inl rfl) (.inr rfl))) (fun _ _ _ _ _ => pts_nil) (fun _ _ _ _ _ => (pe_ix (kixT K) (pe_dget (hu_of hr) (pv 3) (pv 7) (fun _ _ => rfl)) pe_int (fun _ _ => rfl)))) pa_nil)))
        (pss_one (ps_ret (pe_tup (pa_cons (pv 6) (pa_cons (pe_lc (own := [("at", 7)]) rfl scBuilt.nd (kpil K (pv 5)) (blkOk_by (own := [("at", 7)]) (N := nBuilt) (sc := defScope sBuilt) (by decide +kernel)) (fun _ _ _ _ _ => (pg_name (i := 7) scBuilt.nd rfl (.inl rfl) (.inr rfl))) (fun _ _ _ _ _ => pts_nil) (fun _ _ _ _ _ => (pe_call (ok_parts_of T) (hr.mono (by decide)) (by rfl) T.parts_of.m T.parts_of.F.kp T.parts_of.b .nil pass0 (pa_cons (pe_ix (kixT K) (pe_dget (hu_of hr) (pv 3) (pv 7) (fun _ _ => rfl)) pe_int (fun _ _ => rfl)) pa_nil)))) pa_nil))))))))), ?_⟩
  walk_at "ss"
  rintro ds Qd ⟨p, st, lo, hi, ps, rfl, hp, st0, st1, hg, hsz, lps, lpl, q⟩
  refine ⟨[.sh (.int p), .sh (.int st), .ar (.list (ps.map ePat))], .cons (.inr ⟨rfl, rfl⟩) (.cons (.inr ⟨rfl, rfl⟩) (.cons (.inl rfl) .nil)), ?_⟩
  have hp0 := hp.pos
  have hp2 : 1 < p := by have := hp.two; omega
  have hst : SmallSt st := ⟨st0, by omega⟩
  walk_at "h"
  refine ⟨_, _, _, rfl, ⟨_, rfl, by omega, by rw [List.length_map]; omega, rfl, rfl⟩, fun k Γ => ∃ (T : Sr.Steps) (y4 : Sl), Sr.Bt p st (baseS ps) k (Sr.dK st (hi - lo) k) T ∧ Γ = [.sh (.int p), .sh (.int st), .ar (.list (ps.map ePat)), .ow (.dK (eSteps T)), y4, .no, .no, .no], ⟨[], .no, Sr.bt_zero, rfl⟩, ?_, ?_⟩
  · rintro k Γ hk ⟨T1, y4, bt, rfl⟩
    rw [Int.toNat_natCast, List.length_map] at hk
    obtain ⟨x, hx⟩ : ∃ x, ps[k]? = some x := ⟨_, List.getElem?_eq_getElem hk⟩
    have g1 : atI (ps.map ePat) (k : Int) = some (ePat x) := by
      have := stairs_at hx
      rw [Int.zero_add] at this
      exact this
    have hb : baseS ps (k : Int) = x := Option.some.inj ((baseS_at hk).symm.trans hx)
    have px : Pt.IsPat p x := by
      have := hg.pat (k : Int) (by omega) (by omega)
      rw [hb] at this
      exact this
    have tx : Pt.tidy p x = x := Pt.pat_ext (Pt.tidy_pat hp0 _) px fun j => by
      have r := px.at_rng hp0 j
      rw [Pt.tidy_at hp0, px.at_sum, Int.emod_eq_of_lt r.1 r.2]
    have lx := lpl x (List.mem_of_getElem? hx)
    have kl : (Pt.keys x).length ≤ 8000000 := Nat.le_trans (Pt.keys_len x) (by omega)
    obtain ⟨ho, hi2⟩ := Sr.bt_put hp2 (noZero hp) (invP hp) st0 st1 hg hk bt
    rw [hb] at hi2
    rw [Int.zero_add]
    walk_at "h"
    refine ⟨_, _, _, rfl, rfl, g1, ?_⟩
    walk_at "h"
    refine ⟨ePat_tupO x, ?_⟩
    walk_at "h"
    rw [tx]
    have w0 : 0 ≤ hi - lo := by have := hg.l0; omega
    have lT := Sr.bt_count st0 bt
    have lk : Sr.mB st k ≤ k := by unfold Sr.mB; split <;> omega
    refine ⟨p, st, ((k + 1 : Nat) : Int), baseS ps, _, T1, x, [(((k : Int), 0), 1)], rfl, hp, st0, st1, ho, hi2, lx, by simp, fits_put st0 w0 hsz hk bt, by omega, fun T2 hpo => ?_⟩
    obtain ⟨o1, o2⟩ := Sr.bt_put_out st0 hg bt (by rw [hb]; exact hpo)
    obtain ⟨c1, ft⟩ := fits_set st0 w0 hsz hk bt hpo
    have lk1 : Sr.mB st (k + 1) ≤ ((k + 1 : Nat) : Int) := by unfold Sr.mB; split <;> omega
    have gp := (Sr.gN_pos w0 (Sr.mB_pos st0 k))
    have dp := Sr.dK_pos st0 w0 k
    walk_at "h"
    refine ⟨p, st, ((k + 1 : Nat) : Int), _, _, baseS ps, T2, rfl, hp, st0, st1, by omega, by omega, hpo.ok, o1, o2, ft, by omega, fun cols T3 ho3 hs3 => ?_⟩
    have bt2 := Sr.bt_turn hp2 (noZero hp) st0 hg bt ho (by rw [hb]; exact hpo) ho3 hs3
    walk_at "h"
    exact ⟨T3, _, bt2, rfl⟩
  · rintro Γ ⟨T1, y4, bt, rfl⟩
    rw [Int.toNat_natCast, List.length_map] at bt
    have cnt := Sr.bt_count st0 bt
    have cnt2 : Sr.mB st ps.length ≤ 2000 := by unfold Sr.mB; split <;> omega
    walk_at "h"
    refine ⟨Sr.keysS T1, congrArg some (steps_keys T1), ?_, fun cols hperm hsrt => ?_⟩
    · unfold Sr.keysS
      rw [List.length_map]
      exact Nat.le_of_lt (small100000 (by omega))
    have ho : Sr.Ord T1 cols := ⟨hperm, Pt.sorted_strict hperm bt.ok.nd hsrt⟩
    have hlen := ho.len
    have lc : (cols.map PyData.int).length ≤ sizeLine := Nat.le_of_lt (small100000 (by rw [List.length_map]; omega))
    walk_at "h"
    refine lc_map (f := PyData.int) (fun c => some (ePat (stOf T1 c))) (fun c hc P hP => ?_) ?_
    · obtain ⟨i, hi, rfl⟩ := List.getElem_of_mem hc
      obtain ⟨v, gv, _⟩ := ho.get (List.getElem?_eq_getElem hi)
      have hv : valD (eSteps T1) (.inl cols[i]) = some (eMd v.1 v.2) := by rw [steps_val, gv]; rfl
      have hs : stOf T1 cols[i] = v.1 := by unfold stOf; rw [gv]
      rw [hs] at hP
      walk_at "h"
      refine ⟨_, _, rfl, congrArg some hv, ?_⟩
      walk_at "h"
      exact hP
    · rw [fm_map]
      walk_at "h"
      refine lc_map (f := PyData.int) (fun c => some (eParts (mkOf T1 c))) (fun c hc P hP => ?_) ?_
      · obtain ⟨i, hi, rfl⟩ := List.getElem_of_mem hc
        obtain ⟨v, gv, _⟩ := ho.get (List.getElem?_eq_getElem hi)
        have hv : valD (eSteps T1) (.inl cols[i]) = some (eMd v.1 v.2) := by rw [steps_val, gv]; rfl
        have hs : mkOf T1 cols[i] = v.2 := by unfold mkOf; rw [gv]
        rw [hs] at hP
        have lm : v.2.length ≤ 8000000 := by
          obtain ⟨_, _, mp⟩ := bt.ok.ok _ (Sr.get_mem gv)
          have kw := bt.kw _ (Sr.get_mem gv)
          have T0 : 0 < T1.length := by omega
          have p0 : 0 < ps.length := by
            rcases Nat.eq_zero_or_pos ps.length with z | z
            · rw [z] at cnt
              have : Sr.mB st 0 ≤ 0 := by unfold Sr.mB; split <;> omega
              omega
            · exact z
          have f1 := fits_step (k := ps.length - 1) st0 (by have := hg.l0; omega) hsz (by omega)
          rw [show ps.length - 1 + 1 = ps.length by omega] at f1
          have l1 := Sr.len_keys f1.2.2.1 f1.2.1 mp.nd (fun y hy => ⟨(mp.keys y hy).1, (mp.keys y hy).2.1⟩) kw
          have l2 := f1.2.2.2.2
          replace l1 : (v.2.length : Int) ≤ _ := l1
          omega
        walk_at "h"
        refine ⟨_, _, rfl, congrArg some hv, ?_⟩
        walk_at "h"
        exact hP
      · rw [fm_map]
        have e1 : (cols.map fun c => ePat (stOf T1 c)) = (cols.map (stOf T1)).map ePat := by rw [List.map_map]; rfl
        have e2 : (cols.map fun c => eParts (mkOf T1 c)) = (cols.map (mkOf T1)).map eParts := by rw [List.map_map]; rfl
        rw [e1, e2]
        walk_at "h"
        exact q _ _ (built_of hp st0 hg bt ho)

end
end Law
namespace Law
open PySem PySem.Spec PyProof.Rows L2 Dk
section
variable {P : Program} {w : World} {K : Fg} {mg : Str → Option Value} {base : Heap}
set_option maxHeartbeats 4000000 in
theorem ok_law {f : Addr} {fd : FuncData} (Fn : L2.Fun K "law" "law" sLaw f fd) (T : Txt K mg) : FnOk P w K mg base CX0 8 f fd ["_law_script"] (spLaw K) := by
  refine law_ok Fn scLaw (by decide) fun cdv A outer s H E hr => ?_
  refine ⟨_, _, (pss_cons (ps_set (i := 1) scLaw.nd rfl (.inr rfl) (pe_call (ok_l_begin T) (hr.mono (by decide)) (by rfl) T.l_begin.m T.l_begin.F.kp T.l_begin.b .nil pass0 (pa_cons (pv 0) pa_nil)))
        (pss_cons (ps_set (i := 2) scLaw.nd rfl (.inr rfl) (pe_call (ok_l_p T) (hr.mono (by decide)) (by rfl) T.l_p.m T.l_p.F.kp T.l_p.b .nil pass0 (pa_cons (pv 1) pa_nil)))
        (pss_cons (ps_setLc (i := 3) (own := [("_law_k", 10)]) rfl scLaw.nd rfl rfl (sw_true rfl rfl rfl (by decide +kernel)) (pi_range1 rfl T.zrange (pa_cons (pe_call (ok_l_take T) (hr.mono (by decide)) (by rfl) T.l_take.m T.l_take.F.kp T.l_take.b .nil pass0 (pa_cons (pv 1) (pa_cons pe_int pa_nil))) pa_nil)) (blkOk_by (own := [("_law_k", 10)]) (N := nLaw) (sc := defScope sLaw) (by decide +kernel)) (fun _ _ _ _ _ => (pg_name (i := 10) scLaw.nd rfl (.inl rfl) (.inr rfl))) (fun _ _ _ _ _ => pts_nil) (fun _ _ _ _ _ => (pe_call (ok_l_pattern T) (hr.mono (by decide)) (by rfl) T.l_pattern.m T.l_pattern.F.kp T.l_pattern.b .nil pass0 (pa_cons (pv 1) (pa_cons (pv 2) (pa_cons pe_int (pa_cons pe_int pa_nil)))))))
        (pss_cons (ps_if (pt_cmpR op_eq (pe_call (ok_l_take T) (hr.mono (by decide)) (by rfl) T.l_take.m T.l_take.F.kp T.l_take.b .nil pass0 (pa_cons (pv 1) (pa_cons pe_int pa_nil))) pe_int (nomark _)) (pss_cons (ps_set (i := 4) scLaw.nd rfl (.inr rfl) (pe_call (ok_l_as_sum T) (hr.mono (by decide)) (by rfl) T.l_as_sum.m T.l_as_sum.F.kp T.l_as_sum.b .nil pass0 (pa_cons (pe_call (ok_l_pattern T) (hr.mono (by decide)) (by rfl) T.l_pattern.m T.l_pattern.F.kp T.l_pattern.b .nil pass0 (pa_cons (pv 1) (pa_cons (pv 2) (pa_cons pe_int (pa_cons pe_int pa_nil))))) pa_nil)))
        (pss_one (ps_setLc (i := 3) (own := [("_law_one", 11)]) rfl scLaw.nd rfl rfl (sw_true rfl rfl rfl (by decide +kernel)) (kpil K (pv 3)) (blkOk_by (own := [("_law_one", 11)]) (N := nLaw) (sc := defScope sLaw) (by decide +kernel)) (fun _ _ _ _ _ => (pg_name (i := 11) scLaw.nd rfl (.inl rfl) (.inr rfl))) (fun _ _ _ _ _ => pts_nil) (fun _ _ _ _ _ => (pe_call (ok_l_as_pattern T) (hr.mono (by decide)) (by rfl) T.l_as_pattern.m T.l_as_pattern.F.kp T.l_as_pattern.b .nil pass0 (pa_cons (pv 2) (pa_cons (pe_call (ok_l_mul T) (hr.mono (by decide)) (by rfl) T.l_mul.m T.l_mul.F.kp T.l_mul.b .nil pass0 (pa_cons (pv 2) (pa_cons (pe_call (ok_l_as_sum T) (hr.mono (by decide)) (by rfl) T.l_as_sum.m T.l_as_sum.F.kp T.l_as_sum.b .nil pass0 (pa_cons (pv 11) pa_nil)) (pa_cons (pv 4) pa_nil)))) pa_nil))))))) pss_nil)
        (pss_cons (ps_set (i := 5) scLaw.nd rfl (.inl rfl) (pe_tup pa_nil))
        (pss_cons (ps_set (i := 6) scLaw.nd rfl (.inr rfl) (pe_call (ok_l_divisor T) (hr.mono (by decide)) (by rfl) T.l_divisor.m T.l_divisor.F.kp T.l_divisor.b .nil pass0 (pa_cons (pv 2) (pa_cons (pv 3) pa_nil))))
        (pss_cons (ps_if (pt_cmpR op_gt (pe_callB (klen K) (by rfl) T.zlen (by decide +kernel) (pa_cons (pv 6) pa_nil)) pe_int (nomark _)) (pss_cons (ps_set (i := 7) scLaw.nd rfl (.inr rfl) (pe_ix (kixL K) (pe_lc (own := [("_law_k", 10)]) rfl scLaw.nd (pi_range2 rfl T.zrange (pa_cons pe_int (pa_cons (pv 2) pa_nil))) (blkOk_by (own := [("_law_k", 10)]) (N := nLaw) (sc := defScope sLaw) (by decide +kernel)) (fun _ _ _ _ _ => (pg_name (i := 10) scLaw.nd rfl (.inl rfl) (.inr rfl))) (fun _ _ _ _ _ => pts_one (pt_cmpR op_eq (pe_op op_mod (pe_op op_mul (pv 10) (pe_ix (kixT K) (pv 6) (pe_un un_neg pe_int) (fun _ _ => rfl))) (pv 2)) pe_int (nomark _))) (fun _ _ _ _ _ => (pv 10))) pe_int (fun _ _ => rfl)))
        (pss_cons (ps_set (i := 8) scLaw.nd rfl (.inl rfl) (pe_call (ok_l_as_patternT T) (hr.mono (by decide)) (by rfl) T.l_as_pattern.m T.l_as_pattern.F.kp T.l_as_pattern.b .nil pass0 (pa_cons (pv 2) (pa_cons (pe_lc (own := [("_law_number", 12)]) rfl scLaw.nd (kpit K (pv 6)) (blkOk_by (own := [("_law_number", 12)]) (N := nLaw) (sc := defScope sLaw) (by decide +kernel)) (fun _ _ _ _ _ => (pg_name (i := 12) scLaw.nd rfl (.inl rfl) (.inr rfl))) (fun _ _ _ _ _ => pts_nil) (fun _ _ _ _ _ => (pe_op op_mul (pv 12) (pv 7)))) pa_nil))))
        (pss_one (ps_set (i := 5) scLaw.nd rfl (.inl rfl) (pe_tup (pa_cons (pe_call (ok_l_sum T) (hr.mono (by decide)) (by rfl) T.l_sum.m T.l_sum.F.kp T.l_sum.b .nil pass0 (pa_cons (pv 2) (pa_cons (pe_tup pa_nil) (pa_cons (pv 8) (pa_cons (pe_un un_neg (pe_ix (kixT K) (pe_ix (kixT K) (pv 8) pe_int (fun _ _ => rfl)) pe_int (fun _ _ => rfl))) (pa_cons pe_int pa_nil)))))) pa_nil)))))) pss_nil)
        (pss_cons (ps_set (i := 9) scLaw.nd rfl (.inl rfl) (pe_call (ok_built T) (hr.mono (by decide)) (by rfl) T.built.m T.built.F.kp T.built.b .nil pass0 (pa_cons (pv 2) (pa_cons pe_int (pa_cons (pe_callTy (klist K) (by rfl) T.zlist (by decide +kernel) (pa_cons (pv 3) pa_nil)) pa_nil)))))
        (pss_cons (ps_if (PW.pt (pw_or (pt_not (pt_val (pe_callB (kisi K) (by rfl) T.zisinstance (by decide +kernel) (pa_cons (pv 9) (pa_cons (pe_bltn (v := .ty "tuple") (by rfl) T.ztuple (by decide +kernel) rfl) pa_nil))))) (pw_or (pt_cmpR op_ne (pe_callB (klen K) (by rfl) T.zlen (by decide +kernel) (pa_cons (pv 9) pa_nil)) pe_int (nomark _)) (pw_or1 (pt_not (pt_val (pe_callB (kisi K) (by rfl) T.zisinstance (by decide +kernel) (pa_cons (pe_ix (kixT K) (pv 9) pe_int (fun _ _ => rfl)) (pa_cons (pe_bltn (v := .ty "tuple") (by rfl) T.ztuple (by decide +kernel) rfl) pa_nil))))))))) (pss_one (ps_ret pe_bl)) pss_nil)
        (pss_one (ps_ret (pe_and (pe_callB (kall K rfl) (by rfl) T.zall (by decide +kernel) (pa_cons (pe_lc (own := [("_law_stair", 13)]) rfl scLaw.nd (kpit K (pe_ix (kixT K) (pv 9) pe_int (fun _ _ => rfl))) (blkOk_by (own := [("_law_stair", 13)]) (N := nLaw) (sc := defScope sLaw) (by decide +kernel)) (fun _ _ _ _ _ => (pg_name (i := 13) scLaw.nd rfl (.inl rfl) (.inr rfl))) (fun _ _ _ _ _ => pts_nil) (fun _ _ _ _ _ => (pe_call (ok_l_is_pattern T) (hr.mono (by decide)) (by rfl) T.l_is_pattern.m T.l_is_pattern.F.kp T.l_is_pattern.b .nil pass0 (pa_cons (pv 2) (pa_cons (pv 13) pa_nil))))) pa_nil)) (pe_one (pe_cmpR (keqD K hr.units) (pe_ix (kixT K) (pv 9) pe_int (fun _ _ => rfl)) (pv 5) (nomark _))))))))))))))), ?_⟩
  walk_at "ss"
  walk_at "h"
  intro p hp
  have hp0 := hp.pos
  have hp1 := hp.le
  have hp2 : 1 < p := by have := hp.two; omega
  walk_at "h"
  intro n n0 n1
  walk_at "h"
  refine ⟨_, _, _, rfl, ⟨n, rfl, by omega, by omega, rfl, rfl⟩, rfl, rfl, Nat.le_of_lt (small100000 (by omega)), fun k acc Γ => ∃ ps : List Pt.Pat, acc = ps.map ePat ∧ ps.length = k ∧ (∀ x ∈ ps, Pt.IsPat p x ∧ x.length ≤ 5 ∧ ∀ y ∈ x, -6 ≤ y.1 ∧ y.1 ≤ 6) ∧ Γ = [.no, .ow (.ab IsDraw), .sh (.int p), .no, .no, .no, .no, .no, .no, .no, .no, .no, .no, .no], ⟨[], rfl, rfl, by simp, rfl⟩, ?_, ?_⟩
  · rintro k acc Γ hk ⟨ps, rfl, hl, hx, rfl⟩
    walk_at "h"
    intro x px lx wx
    refine ⟨_, rfl, ps ++ [x], by simp, by simp [hl], fun y hy => ?_, rfl⟩
    rcases List.mem_append.mp hy with z | z
    · exact hx y z
    · rw [List.mem_singleton] at z
      rw [z]
      exact ⟨px, by omega, wx⟩
  rintro acc Γ ⟨ps0, rfl, hl0, hx0, rfl⟩
  walk_at "h"
  refine ⟨fun Γ => ∃ (ps : List Pt.Pat) (y4 : Sl), ps.length ≤ 3 ∧ (∀ x ∈ ps, Pt.IsPat p x ∧ x.length ≤ 100 ∧ ∀ y ∈ x, -40 ≤ y.1 ∧ y.1 ≤ 40) ∧ Γ = [.no, .ow (.ab IsDraw), .sh (.int p), .ow (.lst (ps.map ePat)), y4, .no, .no, .no, .no, .no, .no, .no, .no, .no], ?_, ?_⟩
  case refine_2 =>
    walk_at "h"
    intro r r0 r1
    walk_at "h"
    refine ite2b (fun hz => ?_) fun hz => ⟨ps0, .no, by omega, fun x hx => ⟨(hx0 x hx).1, by have := (hx0 x hx).2.1; omega, fun y hy => by have := (hx0 x hx).2.2 y hy; omega⟩, rfl⟩
    walk_at "h"
    intro b0 pb0 lb0 wb0
    walk_at "h"
    refine ⟨p, 4, b0, rfl, hp2, pb0, by decide, by decide, wb0, fun both hbo lbo => ?_⟩
    have lps0 : (ps0.map ePat).length ≤ sizeLine := Nat.le_of_lt (small100000 (by rw [List.length_map]; omega))
    walk_at "h"
    refine lc_pre (f := ePat) (fun pre acc Γ => ∃ qs : List Pt.Pat, acc = qs.map ePat ∧ qs.length = pre.length ∧ (∀ x ∈ qs, Pt.IsPat p x ∧ x.length ≤ 100 ∧ ∀ y ∈ x, -40 ≤ y.1 ∧ y.1 ≤ 40) ∧ Γ = [.no, .ow (.ab IsDraw), .sh (.int p), .sh (.list (ps0.map ePat)), .sh (eNums both), .no, .no, .no, .no, .no, .no, .no, .no, .no]) ⟨[], rfl, rfl, by simp, rfl⟩ ?_ ?_
    · rintro pre x post acc Γ e ⟨qs, rfl, hl, hq, rfl⟩
      obtain ⟨px, lx, wx⟩ := hx0 x (by rw [e]; simp)
      walk_at "h"
      refine ⟨p, 6, x, rfl, hp2, px, by decide, by decide, wx, fun sx hsx lsx => ?_⟩
      have sm := IsSum.small hp hsx.1
      have l1 : sx.length ≤ 10000 := by omega
      have l2 : both.length ≤ 10000 := by omega
      have l3 := Po.mul_len p sx both
      have l4 : (Po.mul p sx both).length ≤ 1000 := by omega
      walk_at "h"
      refine ⟨qs ++ [Sr.asP p (Po.mul p sx both)], by simp, by simp [hl], fun y hy => ?_, rfl⟩
      rcases List.mem_append.mp hy with z | z
      · exact hq y z
      · rw [List.mem_singleton] at z
        rw [z]
        have := Sr.asP_len p (Po.mul p sx both)
        exact ⟨Sr.asP_pat hp0 _, by omega, fun u hu => by have := Sr.asP_place hp0 hu; omega⟩
    · rintro acc Γ ⟨qs, rfl, hl, hq, rfl⟩
      exact ⟨qs, _, by omega, hq, rfl⟩
  rintro Γ ⟨ps, y4, lps, hps, rfl⟩
  have h60 : Ps60 p 1 ps := ⟨hp, by decide, by decide, fun x hx => ⟨(hps x hx).1, by have := (hps x hx).2.1; omega, fun y hy => by have := (hps x hx).2.2 y hy; omega⟩, by omega⟩
  walk_at "h"
  refine ⟨p, 40, ps, rfl, hp, by decide, by decide, fun x hx => ⟨(hps x hx).1, (hps x hx).2.2⟩, fun g hg hsm lg => ?_⟩
  walk_at "h"
  refine ⟨fun Γ => ∃ (tt : List Pt.Pat) (y7 y8 : Sl), StL p 1 tt ∧ SameM p 1 ps tt ∧ Γ = [.no, .ow (.ab IsDraw), .sh (.int p), .ow (.lst (ps.map ePat)), y4, .sh (eStairs tt), .sh (eNums g), y7, y8, .no, .no, .no, .no, .no], ?_, ?_⟩
  case refine_2 =>
    walk_at "h"
    rcases Po.snoc_cases g with z | ⟨ys, y, z⟩
    · subst z
      refine iteFb rfl ?_
      exact ⟨[], .no, .no, ⟨⟨(fun _ h => nomatch h), .nil⟩, fun i j a b _ h => by simp at h⟩, ⟨(fun _ h => nomatch h), fun x hx => (hsm.2 x hx).trans fun s hs => by
        rw [List.mem_singleton] at hs
        rw [hs]
        exact (Sr.gen_fS hp0).mpr Sr.gen_nought⟩, rfl⟩
    · have lgl : (g.map PyData.int).length = ys.length + 1 := by rw [z]; simp
      refine iteTb (decide_eq_true (by omega)) ?_
      have yr := hg.rng y (by rw [z]; simp)
      have yt := hg.tip ys y z
      have gl : atI (g.map PyData.int) (-1) = some (.int y) := by rw [z]; exact nums_last
      obtain ⟨m, m0, m1, m2⟩ := inv_there (s := y) hp (by omega) (by omega)
      obtain ⟨k0, k1, d, k2, k3⟩ := fm_first (xs := List.range (p - 1).toNat) (h := fun k => if (1 + (k : Int)) * y % p = 1 then some (PyData.int (1 + (k : Int))) else none) ⟨m - 1, by simp; omega, by
        rw [show 1 + ((m - 1 : Nat) : Int) = (m : Int) by omega, if_pos m2]
        rfl⟩
      simp only [List.mem_range] at k1
      have k4 : (1 + (k0 : Int)) * y % p = 1 := by
        by_cases c : (1 + (k0 : Int)) * y % p = 1
        · exact c
        · rw [if_neg c] at k2
          cases k2
      rw [if_pos k4] at k2
      cases k2
      obtain ⟨u, hu⟩ : ∃ u : Int, u = 1 + (k0 : Int) := ⟨_, rfl⟩
      rw [← hu] at k3 k4
      have ub0 : 0 < u := by omega
      have ub1 : u < p := by omega
      walk_at "h"
      refine ⟨_, _, _, rfl, ⟨1, p, rfl, ⟨by omega, by omega, by omega, by omega⟩, rfl, rfl⟩, rfl, rfl, Nat.le_of_lt (small100000 (by omega)), lcR_map (fun k => if (1 + (k : Int)) * y % p = 1 then some (PyData.int (1 + (k : Int))) else none) (fun k hk P hP => ?_) ?_⟩
      · have c1 : CMul (1 + (k : Int)) y := .inr ⟨by omega, by omega⟩
        walk_at "h"
        refine ⟨_, _, _, rfl, rfl, gl, ?_⟩
        walk_at "h"
        by_cases c : (1 + (k : Int)) * y % p = 1
        · rw [if_pos c] at hP
          refine iteTb (decide_eq_true c) ?_
          walk_at "h"
          exact hP
        · rw [if_neg c] at hP
          refine iteFb (decide_eq_false c) ?_
          exact hP
      walk_at "h"
      refine ⟨_, _, _, rfl, rfl, k3, ?_⟩
      have lg2 : (g.map PyData.int).length ≤ sizeLine := Nat.le_of_lt (small100000 (by rw [List.length_map]; omega))
      walk_at "h"
      refine lc_map (f := PyData.int) (fun c => some (.int (c * u))) (fun c hc P hP => ?_) ?_
      · have cr := hg.rng c hc
        have c1 : CMul c u := .inr ⟨by omega, by omega⟩
        walk_at "h"
        exact hP
      have em : (g.map fun c => PyData.int (c * u)) = (g.map (· * u)).map PyData.int := by rw [List.map_map]; rfl
      rw [fm_map, em]
      have lgu : (g.map (· * u)).length ≤ 1000 := by rw [List.length_map]; omega
      have hne : Sr.asP p (g.map (· * u)) ≠ [] := fun w => by
        have h1 := Sr.asP_at hp0 (g.map (· * u)) ((ys.length : Nat) : Int)
        rw [w] at h1
        have h2 : Sr.fS (g.map (· * u)) ((ys.length : Nat) : Int) = y * u := by
          unfold Sr.fS
          rw [if_pos (by omega), Int.toNat_natCast, Po.co_map (f := (· * u)) (by simp), z, Po.co_snoc, if_pos rfl]
        rw [h2, Int.mul_comm, k4] at h1
        cases h1
      obtain ⟨a, hr', ha⟩ : ∃ a hr', Sr.asP p (g.map (· * u)) = a :: hr' := by
        cases hc : Sr.asP p (g.map (· * u)) with
        | nil => exact absurd hc hne
        | cons a t => exact ⟨a, t, rfl⟩
      obtain ⟨dt, dm⟩ := due_stair hp hg z k4 ha
      have lh := Sr.asP_len p (g.map (· * u))
      have g0 : atI ((a :: hr').map ePair) 0 = some (ePair a) := atI_nat (j := 0) rfl
      walk_at "h"
      rw [ha]
      refine ⟨_, _, _, rfl, rfl, g0, ?_⟩
      walk_at "h"
      have lh2 : (a :: hr').length ≤ 4000000 := by rw [ha, List.length_map] at lh; omega
      refine ⟨p, [], a :: hr', -a.1, 1, rfl, hp0, by simp, lh2, fun _ _ => .inr ⟨by decide, by decide⟩, ?_⟩
      walk_at "h"
      exact ⟨[_], _, _, dt, hsm.trans dm, rfl⟩
  rintro Γ ⟨tt, y7, y8, ht, hst, rfl⟩
  walk_at "h"
  refine ⟨p, 1, lo60 1, hi60 1, ps, rfl, hp, by decide, by decide, h60.giv, h60.size, by omega, fun x hx => by have := (h60.one x hx).2.1; omega, fun ss ms hb0 => ?_⟩
  obtain ⟨hb, hc⟩ := h60.built hb0
  have est : ss = tt := built_due hp hb ht hst
  have sI := h60.ssIn hb hc
  have mB8 : Sr.mB 1 8 ≤ 8 := (nums60 (st := 1) (by decide) (by decide)).2.2.2.2.2.2.2.2.2.2.2.2.2
  have hss8 : ss.length ≤ 8 := by omega
  have hls : (ss.map ePat).length ≤ sizeLine := Nat.le_of_lt (small100000 (by rw [List.length_map]; omega))
  have shp := (eStairs_shp ss).ok
  have hself : PyData.eqv (eStairs ss) (eStairs ss) = true := (eStairs_shp ss).refl
  have allT : ∀ {α : Type} (l : List α), (l.map fun _ => true).all id = true := fun l => by simp
  have mapT : ∀ {α : Type} (l : List α), l.map (fun _ => PyData.bool true) = (l.map fun _ => true).map PyData.bool := fun l => by rw [List.map_map]; rfl
  subst est
  walk_at "g"
  refine lc_map (f := ePat) (fun x => some (.bool true)) (fun x hx P hP => ?_) ?_
  · obtain ⟨S, ls⟩ := sI.one x hx
    have px := S.pat
    have l62 : x.length < 2 ^ 62 := by omega
    walk_at "g"
    exact hP
  rw [fm_map, mapT]
  walk_at "g"
  refine iteTb (allT ss) ?_
  walk_at "g"
  show some (PyData.bool (PyData.eqv (eStairs ss) (eStairs ss))) = _
  rw [hself]

end
end Law
namespace Law
open PySem PySem.Spec PyProof.Rows L2 Dk
def mkFn {K : Fg} {h : Heap} {mg : Str → Option Value} {x : Str} {st : Stmt} {ps : List Str} {f : Addr} {od an : Option Addr} {sl : Array (Option Value)} {oc kV dc pm cd ct : Value} (X : K.In h) (G : h.Ns mainGlobals mg)
    (a : PySem.W.nsIn K mainGlobals x = some (some (.ref f))) (l : K.lookup f = some ⟨oc, od, .func (PySem.W.fnOf x x (defArgs st) (defBody st) (defScope st) .none kV dc pm an cd ct), sl⟩) (c : PySem.W.codeIn K cd x = true) (k : PySem.W.keepIn K (.ref f) = true)
    (hb : ∀ fd, L2.Fun K x x st f fd → Binds K fd ps []) : FnIn K mg x st ps := ⟨f, _, fun_mk (st := st) l c k, hb _ (fun_mk (st := st) l c k), PySem.W.mg_of X G a⟩
set_option maxHeartbeats 8000000 in
theorem all_mk {l : PySem.W.OpenLaw} {w : World} {K : Fg} {h : Heap} {mg : Str → Option Value} {fa : Addr} (X : K.In h) (G : h.Ns mainGlobals mg) (hfa : mg "law" = some (.ref fa))
    {f0 : Addr} {od0 an0 : Option Addr} {sl0 : Array (Option Value)} {oc0 kV0 dc0 pm0 cd0 ct0 : Value} (a0 : PySem.W.nsIn K mainGlobals "tidy" = some (some (.ref f0))) (l0 : K.lookup f0 = some ⟨oc0, od0, .func (PySem.W.fnOf "tidy" "tidy" (defArgs sTidy) (defBody sTidy) (defScope sTidy) .none kV0 dc0 pm0 an0 cd0 ct0), sl0⟩) (c0 : PySem.W.codeIn K cd0 "tidy" = true) (k0 : PySem.W.keepIn K (.ref f0) = true)
    {f1 : Addr} {od1 an1 : Option Addr} {sl1 : Array (Option Value)} {oc1 kV1 dc1 pm1 cd1 ct1 : Value} (a1 : PySem.W.nsIn K mainGlobals "shows" = some (some (.ref f1))) (l1 : K.lookup f1 = some ⟨oc1, od1, .func (PySem.W.fnOf "shows" "shows" (defArgs sShows) (defBody sShows) (defScope sShows) .none kV1 dc1 pm1 an1 cd1 ct1), sl1⟩) (c1 : PySem.W.codeIn K cd1 "shows" = true) (k1 : PySem.W.keepIn K (.ref f1) = true)
    {f2 : Addr} {od2 an2 : Option Addr} {sl2 : Array (Option Value)} {oc2 kV2 dc2 pm2 cd2 ct2 : Value} (a2 : PySem.W.nsIn K mainGlobals "added" = some (some (.ref f2))) (l2 : K.lookup f2 = some ⟨oc2, od2, .func (PySem.W.fnOf "added" "added" (defArgs sAdded) (defBody sAdded) (defScope sAdded) .none kV2 dc2 pm2 an2 cd2 ct2), sl2⟩) (c2 : PySem.W.codeIn K cd2 "added" = true) (k2 : PySem.W.keepIn K (.ref f2) = true)
    {f3 : Addr} {od3 an3 : Option Addr} {sl3 : Array (Option Value)} {oc3 kV3 dc3 pm3 cd3 ct3 : Value} (a3 : PySem.W.nsIn K mainGlobals "moved" = some (some (.ref f3))) (l3 : K.lookup f3 = some ⟨oc3, od3, .func (PySem.W.fnOf "moved" "moved" (defArgs sMoved) (defBody sMoved) (defScope sMoved) .none kV3 dc3 pm3 an3 cd3 ct3), sl3⟩) (c3 : PySem.W.codeIn K cd3 "moved" = true) (k3 : PySem.W.keepIn K (.ref f3) = true)
    {f4 : Addr} {od4 an4 : Option Addr} {sl4 : Array (Option Value)} {oc4 kV4 dc4 pm4 cd4 ct4 : Value} (a4 : PySem.W.nsIn K mainGlobals "timed" = some (some (.ref f4))) (l4 : K.lookup f4 = some ⟨oc4, od4, .func (PySem.W.fnOf "timed" "timed" (defArgs sTimed) (defBody sTimed) (defScope sTimed) .none kV4 dc4 pm4 an4 cd4 ct4), sl4⟩) (c4 : PySem.W.codeIn K cd4 "timed" = true) (k4 : PySem.W.keepIn K (.ref f4) = true)
    {f5 : Addr} {od5 an5 : Option Addr} {sl5 : Array (Option Value)} {oc5 kV5 dc5 pm5 cd5 ct5 : Value} (a5 : PySem.W.nsIn K mainGlobals "inverse" = some (some (.ref f5))) (l5 : K.lookup f5 = some ⟨oc5, od5, .func (PySem.W.fnOf "inverse" "inverse" (defArgs sInverse) (defBody sInverse) (defScope sInverse) .none kV5 dc5 pm5 an5 cd5 ct5), sl5⟩) (c5 : PySem.W.codeIn K cd5 "inverse" = true) (k5 : PySem.W.keepIn K (.ref f5) = true)
    {f6 : Addr} {od6 an6 : Option Addr} {sl6 : Array (Option Value)} {oc6 kV6 dc6 pm6 cd6 ct6 : Value} (a6 : PySem.W.nsIn K mainGlobals "column" = some (some (.ref f6))) (l6 : K.lookup f6 = some ⟨oc6, od6, .func (PySem.W.fnOf "column" "column" (defArgs sColumn) (defBody sColumn) (defScope sColumn) .none kV6 dc6 pm6 an6 cd6 ct6), sl6⟩) (c6 : PySem.W.codeIn K cd6 "column" = true) (k6 : PySem.W.keepIn K (.ref f6) = true)
    {f7 : Addr} {od7 an7 : Option Addr} {sl7 : Array (Option Value)} {oc7 kV7 dc7 pm7 cd7 ct7 : Value} (a7 : PySem.W.nsIn K mainGlobals "first_column" = some (some (.ref f7))) (l7 : K.lookup f7 = some ⟨oc7, od7, .func (PySem.W.fnOf "first_column" "first_column" (defArgs sFirst_column) (defBody sFirst_column) (defScope sFirst_column) .none kV7 dc7 pm7 an7 cd7 ct7), sl7⟩) (c7 : PySem.W.codeIn K cd7 "first_column" = true) (k7 : PySem.W.keepIn K (.ref f7) = true)
    {f8 : Addr} {od8 an8 : Option Addr} {sl8 : Array (Option Value)} {oc8 kV8 dc8 pm8 cd8 ct8 : Value} (a8 : PySem.W.nsIn K mainGlobals "places_in" = some (some (.ref f8))) (l8 : K.lookup f8 = some ⟨oc8, od8, .func (PySem.W.fnOf "places_in" "places_in" (defArgs sPlaces_in) (defBody sPlaces_in) (defScope sPlaces_in) .none kV8 dc8 pm8 an8 cd8 ct8), sl8⟩) (c8 : PySem.W.codeIn K cd8 "places_in" = true) (k8 : PySem.W.keepIn K (.ref f8) = true)
    {f9 : Addr} {od9 an9 : Option Addr} {sl9 : Array (Option Value)} {oc9 kV9 dc9 pm9 cd9 ct9 : Value} (a9 : PySem.W.nsIn K mainGlobals "length" = some (some (.ref f9))) (l9 : K.lookup f9 = some ⟨oc9, od9, .func (PySem.W.fnOf "length" "length" (defArgs sLength) (defBody sLength) (defScope sLength) .none kV9 dc9 pm9 an9 cd9 ct9), sl9⟩) (c9 : PySem.W.codeIn K cd9 "length" = true) (k9 : PySem.W.keepIn K (.ref f9) = true)
    {f10 : Addr} {od10 an10 : Option Addr} {sl10 : Array (Option Value)} {oc10 kV10 dc10 pm10 cd10 ct10 : Value} (a10 : PySem.W.nsIn K mainGlobals "misplaced" = some (some (.ref f10))) (l10 : K.lookup f10 = some ⟨oc10, od10, .func (PySem.W.fnOf "misplaced" "misplaced" (defArgs sMisplaced) (defBody sMisplaced) (defScope sMisplaced) .none kV10 dc10 pm10 an10 cd10 ct10), sl10⟩) (c10 : PySem.W.codeIn K cd10 "misplaced" = true) (k10 : PySem.W.keepIn K (.ref f10) = true)
    {f11 : Addr} {od11 an11 : Option Addr} {sl11 : Array (Option Value)} {oc11 kV11 dc11 pm11 cd11 ct11 : Value} (a11 : PySem.W.nsIn K mainGlobals "shifted" = some (some (.ref f11))) (l11 : K.lookup f11 = some ⟨oc11, od11, .func (PySem.W.fnOf "shifted" "shifted" (defArgs sShifted) (defBody sShifted) (defScope sShifted) .none kV11 dc11 pm11 an11 cd11 ct11), sl11⟩) (c11 : PySem.W.codeIn K cd11 "shifted" = true) (k11 : PySem.W.keepIn K (.ref f11) = true)
    {f12 : Addr} {od12 an12 : Option Addr} {sl12 : Array (Option Value)} {oc12 kV12 dc12 pm12 cd12 ct12 : Value} (a12 : PySem.W.nsIn K mainGlobals "mixed" = some (some (.ref f12))) (l12 : K.lookup f12 = some ⟨oc12, od12, .func (PySem.W.fnOf "mixed" "mixed" (defArgs sMixed) (defBody sMixed) (defScope sMixed) .none kV12 dc12 pm12 an12 cd12 ct12), sl12⟩) (c12 : PySem.W.codeIn K cd12 "mixed" = true) (k12 : PySem.W.keepIn K (.ref f12) = true)
    {f13 : Addr} {od13 an13 : Option Addr} {sl13 : Array (Option Value)} {oc13 kV13 dc13 pm13 cd13 ct13 : Value} (a13 : PySem.W.nsIn K mainGlobals "normal" = some (some (.ref f13))) (l13 : K.lookup f13 = some ⟨oc13, od13, .func (PySem.W.fnOf "normal" "normal" (defArgs sNormal) (defBody sNormal) (defScope sNormal) .none kV13 dc13 pm13 an13 cd13 ct13), sl13⟩) (c13 : PySem.W.codeIn K cd13 "normal" = true) (k13 : PySem.W.keepIn K (.ref f13) = true)
    {f14 : Addr} {od14 an14 : Option Addr} {sl14 : Array (Option Value)} {oc14 kV14 dc14 pm14 cd14 ct14 : Value} (a14 : PySem.W.nsIn K mainGlobals "lowered" = some (some (.ref f14))) (l14 : K.lookup f14 = some ⟨oc14, od14, .func (PySem.W.fnOf "lowered" "lowered" (defArgs sLowered) (defBody sLowered) (defScope sLowered) .none kV14 dc14 pm14 an14 cd14 ct14), sl14⟩) (c14 : PySem.W.codeIn K cd14 "lowered" = true) (k14 : PySem.W.keepIn K (.ref f14) = true)
    {f15 : Addr} {od15 an15 : Option Addr} {sl15 : Array (Option Value)} {oc15 kV15 dc15 pm15 cd15 ct15 : Value} (a15 : PySem.W.nsIn K mainGlobals "parts_of" = some (some (.ref f15))) (l15 : K.lookup f15 = some ⟨oc15, od15, .func (PySem.W.fnOf "parts_of" "parts_of" (defArgs sParts_of) (defBody sParts_of) (defScope sParts_of) .none kV15 dc15 pm15 an15 cd15 ct15), sl15⟩) (c15 : PySem.W.codeIn K cd15 "parts_of" = true) (k15 : PySem.W.keepIn K (.ref f15) = true)
    {f16 : Addr} {od16 an16 : Option Addr} {sl16 : Array (Option Value)} {oc16 kV16 dc16 pm16 cd16 ct16 : Value} (a16 : PySem.W.nsIn K mainGlobals "put_in" = some (some (.ref f16))) (l16 : K.lookup f16 = some ⟨oc16, od16, .func (PySem.W.fnOf "put_in" "put_in" (defArgs sPut_in) (defBody sPut_in) (defScope sPut_in) .none kV16 dc16 pm16 an16 cd16 ct16), sl16⟩) (c16 : PySem.W.codeIn K cd16 "put_in" = true) (k16 : PySem.W.keepIn K (.ref f16) = true)
    {f17 : Addr} {od17 an17 : Option Addr} {sl17 : Array (Option Value)} {oc17 kV17 dc17 pm17 cd17 ct17 : Value} (a17 : PySem.W.nsIn K mainGlobals "settle" = some (some (.ref f17))) (l17 : K.lookup f17 = some ⟨oc17, od17, .func (PySem.W.fnOf "settle" "settle" (defArgs sSettle) (defBody sSettle) (defScope sSettle) .none kV17 dc17 pm17 an17 cd17 ct17), sl17⟩) (c17 : PySem.W.codeIn K cd17 "settle" = true) (k17 : PySem.W.keepIn K (.ref f17) = true)
    {f18 : Addr} {od18 an18 : Option Addr} {sl18 : Array (Option Value)} {oc18 kV18 dc18 pm18 cd18 ct18 : Value} (a18 : PySem.W.nsIn K mainGlobals "built" = some (some (.ref f18))) (l18 : K.lookup f18 = some ⟨oc18, od18, .func (PySem.W.fnOf "built" "built" (defArgs sBuilt) (defBody sBuilt) (defScope sBuilt) .none kV18 dc18 pm18 an18 cd18 ct18), sl18⟩) (c18 : PySem.W.codeIn K cd18 "built" = true) (k18 : PySem.W.keepIn K (.ref f18) = true)
    {f19 : Addr} {od19 an19 : Option Addr} {sl19 : Array (Option Value)} {oc19 kV19 dc19 pm19 cd19 ct19 : Value} (a19 : PySem.W.nsIn K mainGlobals "_law_begin" = some (some (.ref f19))) (l19 : K.lookup f19 = some ⟨oc19, od19, .func (PySem.W.fnOf "_law_begin" "_law_begin" (defArgs sL_begin) (defBody sL_begin) (defScope sL_begin) .none kV19 dc19 pm19 an19 cd19 ct19), sl19⟩) (c19 : PySem.W.codeIn K cd19 "_law_begin" = true) (k19 : PySem.W.keepIn K (.ref f19) = true)
    {f20 : Addr} {od20 an20 : Option Addr} {sl20 : Array (Option Value)} {oc20 kV20 dc20 pm20 cd20 ct20 : Value} (a20 : PySem.W.nsIn K mainGlobals "_law_take" = some (some (.ref f20))) (l20 : K.lookup f20 = some ⟨oc20, od20, .func (PySem.W.fnOf "_law_take" "_law_take" (defArgs sL_take) (defBody sL_take) (defScope sL_take) .none kV20 dc20 pm20 an20 cd20 ct20), sl20⟩) (c20 : PySem.W.codeIn K cd20 "_law_take" = true) (k20 : PySem.W.keepIn K (.ref f20) = true)
    {f21 : Addr} {od21 an21 : Option Addr} {sl21 : Array (Option Value)} {oc21 kV21 dc21 pm21 cd21 ct21 : Value} (a21 : PySem.W.nsIn K mainGlobals "_law_p" = some (some (.ref f21))) (l21 : K.lookup f21 = some ⟨oc21, od21, .func (PySem.W.fnOf "_law_p" "_law_p" (defArgs sL_p) (defBody sL_p) (defScope sL_p) .none kV21 dc21 pm21 an21 cd21 ct21), sl21⟩) (c21 : PySem.W.codeIn K cd21 "_law_p" = true) (k21 : PySem.W.keepIn K (.ref f21) = true)
    {f22 : Addr} {od22 an22 : Option Addr} {sl22 : Array (Option Value)} {oc22 kV22 dc22 pm22 cd22 ct22 : Value} (a22 : PySem.W.nsIn K mainGlobals "_law_tidy" = some (some (.ref f22))) (l22 : K.lookup f22 = some ⟨oc22, od22, .func (PySem.W.fnOf "_law_tidy" "_law_tidy" (defArgs sL_tidy) (defBody sL_tidy) (defScope sL_tidy) .none kV22 dc22 pm22 an22 cd22 ct22), sl22⟩) (c22 : PySem.W.codeIn K cd22 "_law_tidy" = true) (k22 : PySem.W.keepIn K (.ref f22) = true)
    {f23 : Addr} {od23 an23 : Option Addr} {sl23 : Array (Option Value)} {oc23 kV23 dc23 pm23 cd23 ct23 : Value} (a23 : PySem.W.nsIn K mainGlobals "_law_pattern" = some (some (.ref f23))) (l23 : K.lookup f23 = some ⟨oc23, od23, .func (PySem.W.fnOf "_law_pattern" "_law_pattern" (defArgs sL_pattern) (defBody sL_pattern) (defScope sL_pattern) .none kV23 dc23 pm23 an23 cd23 ct23), sl23⟩) (c23 : PySem.W.codeIn K cd23 "_law_pattern" = true) (k23 : PySem.W.keepIn K (.ref f23) = true)
    {f24 : Addr} {od24 an24 : Option Addr} {sl24 : Array (Option Value)} {oc24 kV24 dc24 pm24 cd24 ct24 : Value} (a24 : PySem.W.nsIn K mainGlobals "_law_sum" = some (some (.ref f24))) (l24 : K.lookup f24 = some ⟨oc24, od24, .func (PySem.W.fnOf "_law_sum" "_law_sum" (defArgs sL_sum) (defBody sL_sum) (defScope sL_sum) .none kV24 dc24 pm24 an24 cd24 ct24), sl24⟩) (c24 : PySem.W.codeIn K cd24 "_law_sum" = true) (k24 : PySem.W.keepIn K (.ref f24) = true)
    {f25 : Addr} {od25 an25 : Option Addr} {sl25 : Array (Option Value)} {oc25 kV25 dc25 pm25 cd25 ct25 : Value} (a25 : PySem.W.nsIn K mainGlobals "_law_int" = some (some (.ref f25))) (l25 : K.lookup f25 = some ⟨oc25, od25, .func (PySem.W.fnOf "_law_int" "_law_int" (defArgs sL_int) (defBody sL_int) (defScope sL_int) .none kV25 dc25 pm25 an25 cd25 ct25), sl25⟩) (c25 : PySem.W.codeIn K cd25 "_law_int" = true) (k25 : PySem.W.keepIn K (.ref f25) = true)
    {f26 : Addr} {od26 an26 : Option Addr} {sl26 : Array (Option Value)} {oc26 kV26 dc26 pm26 cd26 ct26 : Value} (a26 : PySem.W.nsIn K mainGlobals "_law_is_pattern" = some (some (.ref f26))) (l26 : K.lookup f26 = some ⟨oc26, od26, .func (PySem.W.fnOf "_law_is_pattern" "_law_is_pattern" (defArgs sL_is_pattern) (defBody sL_is_pattern) (defScope sL_is_pattern) .none kV26 dc26 pm26 an26 cd26 ct26), sl26⟩) (c26 : PySem.W.codeIn K cd26 "_law_is_pattern" = true) (k26 : PySem.W.keepIn K (.ref f26) = true)
    {f27 : Addr} {od27 an27 : Option Addr} {sl27 : Array (Option Value)} {oc27 kV27 dc27 pm27 cd27 ct27 : Value} (a27 : PySem.W.nsIn K mainGlobals "_law_trim" = some (some (.ref f27))) (l27 : K.lookup f27 = some ⟨oc27, od27, .func (PySem.W.fnOf "_law_trim" "_law_trim" (defArgs sL_trim) (defBody sL_trim) (defScope sL_trim) .none kV27 dc27 pm27 an27 cd27 ct27), sl27⟩) (c27 : PySem.W.codeIn K cd27 "_law_trim" = true) (k27 : PySem.W.keepIn K (.ref f27) = true)
    {f28 : Addr} {od28 an28 : Option Addr} {sl28 : Array (Option Value)} {oc28 kV28 dc28 pm28 cd28 ct28 : Value} (a28 : PySem.W.nsIn K mainGlobals "_law_mul" = some (some (.ref f28))) (l28 : K.lookup f28 = some ⟨oc28, od28, .func (PySem.W.fnOf "_law_mul" "_law_mul" (defArgs sL_mul) (defBody sL_mul) (defScope sL_mul) .none kV28 dc28 pm28 an28 cd28 ct28), sl28⟩) (c28 : PySem.W.codeIn K cd28 "_law_mul" = true) (k28 : PySem.W.keepIn K (.ref f28) = true)
    {f29 : Addr} {od29 an29 : Option Addr} {sl29 : Array (Option Value)} {oc29 kV29 dc29 pm29 cd29 ct29 : Value} (a29 : PySem.W.nsIn K mainGlobals "_law_over" = some (some (.ref f29))) (l29 : K.lookup f29 = some ⟨oc29, od29, .func (PySem.W.fnOf "_law_over" "_law_over" (defArgs sL_over) (defBody sL_over) (defScope sL_over) .none kV29 dc29 pm29 an29 cd29 ct29), sl29⟩) (c29 : PySem.W.codeIn K cd29 "_law_over" = true) (k29 : PySem.W.keepIn K (.ref f29) = true)
    {f30 : Addr} {od30 an30 : Option Addr} {sl30 : Array (Option Value)} {oc30 kV30 dc30 pm30 cd30 ct30 : Value} (a30 : PySem.W.nsIn K mainGlobals "_law_as_sum" = some (some (.ref f30))) (l30 : K.lookup f30 = some ⟨oc30, od30, .func (PySem.W.fnOf "_law_as_sum" "_law_as_sum" (defArgs sL_as_sum) (defBody sL_as_sum) (defScope sL_as_sum) .none kV30 dc30 pm30 an30 cd30 ct30), sl30⟩) (c30 : PySem.W.codeIn K cd30 "_law_as_sum" = true) (k30 : PySem.W.keepIn K (.ref f30) = true)
    {f31 : Addr} {od31 an31 : Option Addr} {sl31 : Array (Option Value)} {oc31 kV31 dc31 pm31 cd31 ct31 : Value} (a31 : PySem.W.nsIn K mainGlobals "_law_as_pattern" = some (some (.ref f31))) (l31 : K.lookup f31 = some ⟨oc31, od31, .func (PySem.W.fnOf "_law_as_pattern" "_law_as_pattern" (defArgs sL_as_pattern) (defBody sL_as_pattern) (defScope sL_as_pattern) .none kV31 dc31 pm31 an31 cd31 ct31), sl31⟩) (c31 : PySem.W.codeIn K cd31 "_law_as_pattern" = true) (k31 : PySem.W.keepIn K (.ref f31) = true)
    {f32 : Addr} {od32 an32 : Option Addr} {sl32 : Array (Option Value)} {oc32 kV32 dc32 pm32 cd32 ct32 : Value} (a32 : PySem.W.nsIn K mainGlobals "_law_divisor" = some (some (.ref f32))) (l32 : K.lookup f32 = some ⟨oc32, od32, .func (PySem.W.fnOf "_law_divisor" "_law_divisor" (defArgs sL_divisor) (defBody sL_divisor) (defScope sL_divisor) .none kV32 dc32 pm32 an32 cd32 ct32), sl32⟩) (c32 : PySem.W.codeIn K cd32 "_law_divisor" = true) (k32 : PySem.W.keepIn K (.ref f32) = true)
    {f33 : Addr} {od33 an33 : Option Addr} {sl33 : Array (Option Value)} {oc33 kV33 dc33 pm33 cd33 ct33 : Value} (a33 : PySem.W.nsIn K mainGlobals "law" = some (some (.ref f33))) (l33 : K.lookup f33 = some ⟨oc33, od33, .func (PySem.W.fnOf "law" "law" (defArgs sLaw) (defBody sLaw) (defScope sLaw) .none kV33 dc33 pm33 an33 cd33 ct33), sl33⟩) (c33 : PySem.W.codeIn K cd33 "law" = true) (k33 : PySem.W.keepIn K (.ref f33) = true)
    (z_abs : PySem.W.nsIn K mainGlobals "abs" = some none)
    (z_all : PySem.W.nsIn K mainGlobals "all" = some none)
    (z_bool : PySem.W.nsIn K mainGlobals "bool" = some none)
    (z_int : PySem.W.nsIn K mainGlobals "int" = some none)
    (z_isinstance : PySem.W.nsIn K mainGlobals "isinstance" = some none)
    (z_len : PySem.W.nsIn K mainGlobals "len" = some none)
    (z_list : PySem.W.nsIn K mainGlobals "list" = some none)
    (z_max : PySem.W.nsIn K mainGlobals "max" = some none)
    (z_min : PySem.W.nsIn K mainGlobals "min" = some none)
    (z_range : PySem.W.nsIn K mainGlobals "range" = some none)
    (z_sorted : PySem.W.nsIn K mainGlobals "sorted" = some none)
    (z_tuple : PySem.W.nsIn K mainGlobals "tuple" = some none)
    : ∃ fd : FuncData, (∀ (s : Shared) (v : Value), BindsTo s fd ⟨[v], []⟩ [("_law_script", v)]) ∧ ∀ base : Heap, K.In base → base.Ns mainGlobals mg → FnOk l.prog w K mg base CX0 8 fa fd ["_law_script"] (spLaw K) := by
  have T : Txt K mg := {
    tidy := mkFn X G a0 l0 c0 k0 fun fd F => F.binds (ps := ["p", "pairs"]) fun _ _ _ _ _ _ us hl => match us, hl with | [_, _], _ => rfl
    shows := mkFn X G a1 l1 c1 k1 fun fd F => F.binds (ps := ["pattern", "place"]) fun _ _ _ _ _ _ us hl => match us, hl with | [_, _], _ => rfl
    added := mkFn X G a2 l2 c2 k2 fun fd F => F.binds (ps := ["p", "one", "other"]) fun _ _ _ _ _ _ us hl => match us, hl with | [_, _, _], _ => rfl
    moved := mkFn X G a3 l3 c3 k3 fun fd F => F.binds (ps := ["pattern", "by"]) fun _ _ _ _ _ _ us hl => match us, hl with | [_, _], _ => rfl
    timed := mkFn X G a4 l4 c4 k4 fun fd F => F.binds (ps := ["p", "pattern", "n"]) fun _ _ _ _ _ _ us hl => match us, hl with | [_, _, _], _ => rfl
    inverse := mkFn X G a5 l5 c5 k5 fun fd F => F.binds (ps := ["p", "setting"]) fun _ _ _ _ _ _ us hl => match us, hl with | [_, _], _ => rfl
    column := mkFn X G a6 l6 c6 k6 fun fd F => F.binds (ps := ["place", "stride"]) fun _ _ _ _ _ _ us hl => match us, hl with | [_, _], _ => rfl
    first_column := mkFn X G a7 l7 c7 k7 fun fd F => F.binds (ps := ["stride", "pattern"]) fun _ _ _ _ _ _ us hl => match us, hl with | [_, _], _ => rfl
    places_in := mkFn X G a8 l8 c8 k8 fun fd F => F.binds (ps := ["stride", "pattern", "at"]) fun _ _ _ _ _ _ us hl => match us, hl with | [_, _, _], _ => rfl
    length := mkFn X G a9 l9 c9 k9 fun fd F => F.binds (ps := ["stride", "pattern"]) fun _ _ _ _ _ _ us hl => match us, hl with | [_, _], _ => rfl
    misplaced := mkFn X G a10 l10 c10 k10 fun fd F => F.binds (ps := ["stride", "stair", "pattern"]) fun _ _ _ _ _ _ us hl => match us, hl with | [_, _, _], _ => rfl
    shifted := mkFn X G a11 l11 c11 k11 fun fd F => F.binds (ps := ["maker", "by"]) fun _ _ _ _ _ _ us hl => match us, hl with | [_, _], _ => rfl
    mixed := mkFn X G a12 l12 c12 k12 fun fd F => F.binds (ps := ["p", "stride", "one", "other", "shift", "setting"]) fun _ _ _ _ _ _ us hl => match us, hl with | [_, _, _, _, _, _], _ => rfl
    normal := mkFn X G a13 l13 c13 k13 fun fd F => F.binds (ps := ["p", "stride", "one"]) fun _ _ _ _ _ _ us hl => match us, hl with | [_, _, _], _ => rfl
    lowered := mkFn X G a14 l14 c14 k14 fun fd F => F.binds (ps := ["p", "stride", "stair", "one"]) fun _ _ _ _ _ _ us hl => match us, hl with | [_, _, _, _], _ => rfl
    parts_of := mkFn X G a15 l15 c15 k15 fun fd F => F.binds (ps := ["maker"]) fun _ _ _ _ _ _ us hl => match us, hl with | [_], _ => rfl
    put_in := mkFn X G a16 l16 c16 k16 fun fd F => F.binds (ps := ["p", "stride", "steps", "one"]) fun _ _ _ _ _ _ us hl => match us, hl with | [_, _, _, _], _ => rfl
    settle := mkFn X G a17 l17 c17 k17 fun fd F => F.binds (ps := ["p", "stride", "steps"]) fun _ _ _ _ _ _ us hl => match us, hl with | [_, _, _], _ => rfl
    built := mkFn X G a18 l18 c18 k18 fun fd F => F.binds (ps := ["p", "stride", "patterns"]) fun _ _ _ _ _ _ us hl => match us, hl with | [_, _, _], _ => rfl
    l_begin := mkFn X G a19 l19 c19 k19 fun fd F => F.binds (ps := ["_law_script"]) fun _ _ _ _ _ _ us hl => match us, hl with | [_], _ => rfl
    l_take := mkFn X G a20 l20 c20 k20 fun fd F => F.binds (ps := ["_law_draw", "_law_many"]) fun _ _ _ _ _ _ us hl => match us, hl with | [_, _], _ => rfl
    l_p := mkFn X G a21 l21 c21 k21 fun fd F => F.binds (ps := ["_law_draw"]) fun _ _ _ _ _ _ us hl => match us, hl with | [_], _ => rfl
    l_tidy := mkFn X G a22 l22 c22 k22 fun fd F => F.binds (ps := ["_law_p_here", "_law_pairs"]) fun _ _ _ _ _ _ us hl => match us, hl with | [_, _], _ => rfl
    l_pattern := mkFn X G a23 l23 c23 k23 fun fd F => F.binds (ps := ["_law_draw", "_law_p_here", "_law_most", "_law_far"]) fun _ _ _ _ _ _ us hl => match us, hl with | [_, _, _, _], _ => rfl
    l_sum := mkFn X G a24 l24 c24 k24 fun fd F => F.binds (ps := ["_law_p_here", "_law_one", "_law_other", "_law_by", "_law_many"]) fun _ _ _ _ _ _ us hl => match us, hl with | [_, _, _, _, _], _ => rfl
    l_int := mkFn X G a25 l25 c25 k25 fun fd F => F.binds (ps := ["_law_thing"]) fun _ _ _ _ _ _ us hl => match us, hl with | [_], _ => rfl
    l_is_pattern := mkFn X G a26 l26 c26 k26 fun fd F => F.binds (ps := ["_law_p_here", "_law_thing"]) fun _ _ _ _ _ _ us hl => match us, hl with | [_, _], _ => rfl
    l_trim := mkFn X G a27 l27 c27 k27 fun fd F => F.binds (ps := ["_law_p_here", "_law_row"]) fun _ _ _ _ _ _ us hl => match us, hl with | [_, _], _ => rfl
    l_mul := mkFn X G a28 l28 c28 k28 fun fd F => F.binds (ps := ["_law_p_here", "_law_one", "_law_other"]) fun _ _ _ _ _ _ us hl => match us, hl with | [_, _, _], _ => rfl
    l_over := mkFn X G a29 l29 c29 k29 fun fd F => F.binds (ps := ["_law_p_here", "_law_one", "_law_other"]) fun _ _ _ _ _ _ us hl => match us, hl with | [_, _, _], _ => rfl
    l_as_sum := mkFn X G a30 l30 c30 k30 fun fd F => F.binds (ps := ["_law_pattern_here"]) fun _ _ _ _ _ _ us hl => match us, hl with | [_], _ => rfl
    l_as_pattern := mkFn X G a31 l31 c31 k31 fun fd F => F.binds (ps := ["_law_p_here", "_law_row"]) fun _ _ _ _ _ _ us hl => match us, hl with | [_, _], _ => rfl
    l_divisor := mkFn X G a32 l32 c32 k32 fun fd F => F.binds (ps := ["_law_p_here", "_law_patterns"]) fun _ _ _ _ _ _ us hl => match us, hl with | [_, _], _ => rfl
    zabs := PySem.W.mg_none_of X G z_abs
    zall := PySem.W.mg_none_of X G z_all
    zbool := PySem.W.mg_none_of X G z_bool
    zint := PySem.W.mg_none_of X G z_int
    zisinstance := PySem.W.mg_none_of X G z_isinstance
    zlen := PySem.W.mg_none_of X G z_len
    zlist := PySem.W.mg_none_of X G z_list
    zmax := PySem.W.mg_none_of X G z_max
    zmin := PySem.W.mg_none_of X G z_min
    zrange := PySem.W.mg_none_of X G z_range
    zsorted := PySem.W.mg_none_of X G z_sorted
    ztuple := PySem.W.mg_none_of X G z_tuple
  }
  have e := hfa.symm.trans (PySem.W.mg_of X G a33)
  cases e
  exact ⟨PySem.W.fnOf "law" "law" (defArgs sLaw) (defBody sLaw) (defScope sLaw) .none kV33 dc33 pm33 an33 cd33 ct33, fun s v => .of_eq rfl, fun base _ _ => ok_law (fun_mk (st := sLaw) l33 c33 k33) T⟩
end Law
open PySem PySem.W PyProof.Rows
set_option maxHeartbeats 0 in
theorem PySem.Challenge.cw_duskround_k23_stairs_of_one_column_holds : PySem.Challenge.rw_duskround_k23_stairs_of_one_column.Holds := by
  w_on; o_law; k_head; (case hw => w_witness2)
  k_fill
  refine L2.walk_of (l := PySem.Challenge.rw_duskround_k23_stairs_of_one_column) (n := 63) (k := 8) (x := "_law_script") (CX := fun _ => L2.CX0) (sp := fun w => Dk.spLaw _) rfl (by decide) rfl ⟨rfl, by decide, by decide⟩ (fun w h Y => PySem.W.kIn_of Y) ?F (fun _ _ a ns hl _ hS => ⟨a, ns, rfl, hS, fun _ => rfl⟩) (fun _ _ _ _ _ h => h)
  case F =>
    intro w mg fa h KX G hmg
    refine' Law.all_mk KX G hmg ?a0 ?l0 ?c0 ?k0 ?a1 ?l1 ?c1 ?k1 ?a2 ?l2 ?c2 ?k2 ?a3 ?l3 ?c3 ?k3 ?a4 ?l4 ?c4 ?k4 ?a5 ?l5 ?c5 ?k5 ?a6 ?l6 ?c6 ?k6 ?a7 ?l7 ?c7 ?k7 ?a8 ?l8 ?c8 ?k8 ?a9 ?l9 ?c9 ?k9 ?a10 ?l10 ?c10 ?k10 ?a11 ?l11 ?c11 ?k11 ?a12 ?l12 ?c12 ?k12 ?a13 ?l13 ?c13 ?k13 ?a14 ?l14 ?c14 ?k14 ?a15 ?l15 ?c15 ?k15 ?a16 ?l16 ?c16 ?k16 ?a17 ?l17 ?c17 ?k17 ?a18 ?l18 ?c18 ?k18 ?a19 ?l19 ?c19 ?k19 ?a20 ?l20 ?c20 ?k20 ?a21 ?l21 ?c21 ?k21 ?a22 ?l22 ?c22 ?k22 ?a23 ?l23 ?c23 ?k23 ?a24 ?l24 ?c24 ?k24 ?a25 ?l25 ?c25 ?k25 ?a26 ?l26 ?c26 ?k26 ?a27 ?l27 ?c27 ?k27 ?a28 ?l28 ?c28 ?k28 ?a29 ?l29 ?c29 ?k29 ?a30 ?l30 ?c30 ?k30 ?a31 ?l31 ?c31 ?k31 ?a32 ?l32 ?c32 ?k32 ?a33 ?l33 ?c33 ?k33 ?z_abs ?z_all ?z_bool ?z_int ?z_isinstance ?z_len ?z_list ?z_max ?z_min ?z_range ?z_sorted ?z_tuple
    (case a0 => k_is); (case l0 => k_is); (case c0 => k_is); (case k0 => k_is); (case a1 => k_is); (case l1 => k_is); (case c1 => k_is); (case k1 => k_is); (case a2 => k_is); (case l2 => k_is); (case c2 => k_is); (case k2 => k_is); (case a3 => k_is); (case l3 => k_is); (case c3 => k_is); (case k3 => k_is); (case a4 => k_is); (case l4 => k_is); (case c4 => k_is); (case k4 => k_is); (case a5 => k_is); (case l5 => k_is); (case c5 => k_is); (case k5 => k_is); (case a6 => k_is); (case l6 => k_is); (case c6 => k_is); (case k6 => k_is); (case a7 => k_is); (case l7 => k_is); (case c7 => k_is); (case k7 => k_is); (case a8 => k_is); (case l8 => k_is); (case c8 => k_is); (case k8 => k_is); (case a9 => k_is); (case l9 => k_is); (case c9 => k_is); (case k9 => k_is); (case a10 => k_is); (case l10 => k_is); (case c10 => k_is); (case k10 => k_is); (case a11 => k_is); (case l11 => k_is); (case c11 => k_is); (case k11 => k_is); (case a12 => k_is); (case l12 => k_is); (case c12 => k_is); (case k12 => k_is); (case a13 => k_is); (case l13 => k_is); (case c13 => k_is); (case k13 => k_is); (case a14 => k_is); (case l14 => k_is); (case c14 => k_is); (case k14 => k_is); (case a15 => k_is); (case l15 => k_is); (case c15 => k_is); (case k15 => k_is); (case a16 => k_is); (case l16 => k_is); (case c16 => k_is); (case k16 => k_is); (case a17 => k_is); (case l17 => k_is); (case c17 => k_is); (case k17 => k_is); (case a18 => k_is); (case l18 => k_is); (case c18 => k_is); (case k18 => k_is); (case a19 => k_is); (case l19 => k_is); (case c19 => k_is); (case k19 => k_is); (case a20 => k_is); (case l20 => k_is); (case c20 => k_is); (case k20 => k_is); (case a21 => k_is); (case l21 => k_is); (case c21 => k_is); (case k21 => k_is); (case a22 => k_is); (case l22 => k_is); (case c22 => k_is); (case k22 => k_is); (case a23 => k_is); (case l23 => k_is); (case c23 => k_is); (case k23 => k_is); (case a24 => k_is); (case l24 => k_is); (case c24 => k_is); (case k24 => k_is); (case a25 => k_is); (case l25 => k_is); (case c25 => k_is); (case k25 => k_is); (case a26 => k_is); (case l26 => k_is); (case c26 => k_is); (case k26 => k_is); (case a27 => k_is); (case l27 => k_is); (case c27 => k_is); (case k27 => k_is); (case a28 => k_is); (case l28 => k_is); (case c28 => k_is); (case k28 => k_is); (case a29 => k_is); (case l29 => k_is); (case c29 => k_is); (case k29 => k_is); (case a30 => k_is); (case l30 => k_is); (case c30 => k_is); (case k30 => k_is); (case a31 => k_is); (case l31 => k_is); (case c31 => k_is); (case k31 => k_is); (case a32 => k_is); (case l32 => k_is); (case c32 => k_is); (case k32 => k_is); (case a33 => k_is); (case l33 => k_is); (case c33 => k_is); (case k33 => k_is); (case z_abs => k_is); (case z_all => k_is); (case z_bool => k_is); (case z_int => k_is); (case z_isinstance => k_is); (case z_len => k_is); (case z_list => k_is); (case z_max => k_is); (case z_min => k_is); (case z_range => k_is); (case z_sorted => k_is); (case z_tuple => k_is)
