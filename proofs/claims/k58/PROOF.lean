import PyProof.Rows.All
import Wide.All
import OpenK.AllK
import Wide.FinOn
import HandS.ForMost
import HandS.EndBits
import HandS.IsInst
import HandS.Wide
import HandS.More
import HandS.SortInts
import HandS.Deep
import HandS.Exc
import HandS.TryOnly
import HandS.ExcOwn
import HandS.ExcIs
import HandS.WordsExc
import HandS.Style
import HandS.Conv
import HandS.Walk
import KE.RegKIsAll
import PySem.Challenge.RW_duskround_k58_spelled_behind_long_lines
set_option Elab.async false
set_option linter.all false
set_option maxRecDepth 100000
set_option autoImplicit false
set_option synthInstance.maxHeartbeats 4000000
set_option synthInstance.maxSize 100000
namespace Pt
/-! patterns: which lamps were turned how far -/
abbrev Pat := List (Int × Int)
def at_ : Pat → Int → Int
  | [], _ => 0
  | x :: r, k => if x.1 = k then x.2 else at_ r k
def sumAt : Pat → Int → Int
  | [], _ => 0
  | x :: r, k => (if x.1 = k then x.2 else 0) + sumAt r k
structure IsPat (p : Int) (xs : Pat) : Prop where
  srt : xs.Pairwise fun a b => a.1 < b.1
  rng : ∀ x ∈ xs, 0 < x.2 ∧ x.2 < p
theorem sumAt_app (xs ys : Pat) (k : Int) : sumAt (xs ++ ys) k = sumAt xs k + sumAt ys k := by
  induction xs with
  | nil => simp [sumAt]
  | cons x r ih => simp only [List.cons_append, sumAt, ih]; omega
theorem at_none {xs : Pat} {k : Int} (h : ∀ x ∈ xs, x.1 ≠ k) : at_ xs k = 0 := by
  induction xs with
  | nil => rfl
  | cons x r ih =>
    have h1 := h x (by simp)
    simp only [at_, if_neg h1]
    exact ih fun y hy => h y (by simp [hy])
theorem sumAt_none {xs : Pat} {k : Int} (h : ∀ x ∈ xs, x.1 ≠ k) : sumAt xs k = 0 := by
  induction xs with
  | nil => rfl
  | cons x r ih =>
    have h1 := h x (by simp)
    simp only [sumAt, if_neg h1]
    rw [ih fun y hy => h y (by simp [hy])]
    rfl
theorem at_mem {xs : Pat} {k : Int} (h : at_ xs k ≠ 0) : (k, at_ xs k) ∈ xs := by
  induction xs with
  | nil => exact absurd rfl h
  | cons x r ih =>
    simp only [at_] at h ⊢
    split at h
    · rename_i e
      rw [if_pos e]
      subst e
      simp
    · rename_i e
      rw [if_neg e]
      exact List.mem_cons_of_mem _ (ih h)
theorem IsPat.tail {p : Int} {x : Int × Int} {r : Pat} (h : IsPat p (x :: r)) : IsPat p r := ⟨(List.pairwise_cons.mp h.srt).2, fun y hy => h.rng y (by simp [hy])⟩
theorem IsPat.nil (p : Int) : IsPat p [] := ⟨.nil, by simp⟩
theorem IsPat.head {p : Int} {x : Int × Int} {r : Pat} (h : IsPat p (x :: r)) : ∀ y ∈ r, x.1 < y.1 := (List.pairwise_cons.mp h.srt).1
theorem IsPat.at_of_mem {p : Int} {xs : Pat} {x : Int × Int} (h : IsPat p xs) (hx : x ∈ xs) : at_ xs x.1 = x.2 := by
  induction xs with
  | nil => simp at hx
  | cons y r ih =>
    rcases List.mem_cons.mp hx with rfl | hx'
    · simp [at_]
    · have := h.head x hx'
      simp only [at_]
      rw [if_neg (by omega)]
      exact ih h.tail hx'
theorem IsPat.at_sum {p : Int} {xs : Pat} (h : IsPat p xs) (k : Int) : sumAt xs k = at_ xs k := by
  induction xs with
  | nil => rfl
  | cons x r ih =>
    simp only [at_, sumAt]
    split
    · rename_i e
      rw [sumAt_none]
      · omega
      · intro y hy
        have := h.head y hy
        omega
    · rw [ih h.tail]
      omega
theorem IsPat.at_rng {p : Int} {xs : Pat} (h : IsPat p xs) (hp : 0 < p) (k : Int) : 0 ≤ at_ xs k ∧ at_ xs k < p := by
  by_cases e : at_ xs k = 0
  · omega
  · have := h.rng _ (at_mem e)
    simp only at this
    omega
theorem pat_ext {p : Int} {xs ys : Pat} (hx : IsPat p xs) (hy : IsPat p ys) (h : ∀ k, at_ xs k = at_ ys k) : xs = ys := by
  induction xs generalizing ys with
  | nil =>
    cases ys with
    | nil => rfl
    | cons y r =>
      have h1 := h y.1
      have h2 := hy.rng y (by simp)
      simp [at_] at h1
      omega
  | cons x r ih =>
    cases ys with
    | nil =>
      have h1 := h x.1
      have h2 := hx.rng x (by simp)
      simp [at_] at h1
      omega
    | cons y s =>
      have hx2 := hx.rng x (by simp)
      have hy2 := hy.rng y (by simp)
      have e1 : x.1 = y.1 := by
        have a1 := h x.1
        have a2 := h y.1
        simp only [at_, if_true] at a1 a2
        by_cases q : x.1 = y.1
        · exact q
        · exfalso
          by_cases l : x.1 < y.1
          · rw [if_neg (fun z => q z.symm), at_none fun z hz => by have := hy.head z hz; omega] at a1
            omega
          · rw [if_neg q, at_none fun z hz => by have := hx.head z hz; omega] at a2
            omega
      have e2 : x.2 = y.2 := by
        have a1 := h x.1
        simp only [at_, if_true] at a1
        rw [if_pos e1.symm] at a1
        exact a1
      have e : x = y := Prod.ext e1 e2
      subst e
      congr 1
      refine ih hx.tail hy.tail fun k => ?_
      have a := h k
      simp only [at_] at a
      by_cases q : x.1 = k
      · rw [at_none fun z hz => by have := hx.head z hz; omega, at_none fun z hz => by have := hy.head z hz; omega]
      · rw [if_neg q, if_neg q] at a
        exact a
/-- one lamp turned on -/
def addAt (p : Int) : Pat → Int → Int → Pat
  | [], k, v => if v % p = 0 then [] else [(k, v % p)]
  | x :: r, k, v =>
    if k < x.1 then (if v % p = 0 then x :: r else (k, v % p) :: x :: r)
    else if k = x.1 then (if (x.2 + v) % p = 0 then r else (k, (x.2 + v) % p) :: r)
    else x :: addAt p r k v
theorem addAt_ok {p : Int} (hp : 0 < p) : ∀ {xs : Pat} (k v : Int), IsPat p xs → IsPat p (addAt p xs k v) ∧ (∀ j, at_ (addAt p xs k v) j = if j = k then (at_ xs k + v) % p else at_ xs j) ∧ (∀ y ∈ addAt p xs k v, y.1 = k ∨ ∃ x ∈ xs, x.1 = y.1)
  | [], k, v, h => by
    have m1 := Int.emod_nonneg v (show p ≠ 0 by omega)
    have m2 := Int.emod_lt_of_pos v hp
    simp only [addAt]
    split
    · rename_i e
      refine ⟨h, fun j => ?_, by simp⟩
      simp [at_, e]
    · rename_i e
      refine ⟨⟨by simp, by simp; omega⟩, fun j => ?_, by simp⟩
      simp only [at_, Int.zero_add]
      by_cases q : k = j
      · rw [if_pos q, if_pos q.symm]
      · rw [if_neg q, if_neg (Ne.symm q)]
  | x :: r, k, v, h => by
    have m1 := Int.emod_nonneg v (show p ≠ 0 by omega)
    have m2 := Int.emod_lt_of_pos v hp
    have n1 := Int.emod_nonneg (x.2 + v) (show p ≠ 0 by omega)
    have n2 := Int.emod_lt_of_pos (x.2 + v) hp
    have hx := h.rng x (by simp)
    simp only [addAt]
    split
    · rename_i lt
      have z : at_ (x :: r) k = 0 := at_none fun y hy => by
        rcases List.mem_cons.mp hy with rfl | hy
        · omega
        · have := h.head y hy; omega
      split
      · rename_i e
        refine ⟨h, fun j => ?_, fun y hy => .inr ⟨y, hy, rfl⟩⟩
        by_cases q : j = k
        · subst q
          rw [if_pos rfl, z, Int.zero_add, e]
        · rw [if_neg q]
      · rename_i e
        refine ⟨⟨List.pairwise_cons.mpr ⟨fun y hy => ?_, h.srt⟩, fun y hy => ?_⟩, fun j => ?_, fun y hy => ?_⟩
        · rcases List.mem_cons.mp hy with rfl | hy
          · exact lt
          · have := h.head y hy
            show k < y.1
            omega
        · rcases List.mem_cons.mp hy with rfl | hy
          · simp only; omega
          · exact h.rng y hy
        · by_cases q : j = k
          · subst q
            rw [if_pos rfl, z, Int.zero_add]
            simp [at_]
          · rw [if_neg q]
            show (if k = j then _ else at_ (x :: r) j) = _
            rw [if_neg (Ne.symm q)]
        · rcases List.mem_cons.mp hy with rfl | hy
          · exact .inl rfl
          · exact .inr ⟨y, hy, rfl⟩
    · rename_i nlt
      split
      · rename_i e
        subst e
        have z : at_ r x.1 = 0 := at_none fun y hy => by have := h.head y hy; omega
        split
        · rename_i e2
          refine ⟨h.tail, fun j => ?_, fun y hy => .inr ⟨y, by simp [hy], rfl⟩⟩
          by_cases q : j = x.1
          · subst q
            rw [if_pos rfl, z]
            simp only [at_, if_true]
            exact e2.symm
          · rw [if_neg q]
            simp only [at_]
            rw [if_neg (Ne.symm q)]
        · rename_i e2
          refine ⟨⟨List.pairwise_cons.mpr ⟨fun y hy => h.head y hy, h.tail.srt⟩, fun y hy => ?_⟩, fun j => ?_, fun y hy => ?_⟩
          · rcases List.mem_cons.mp hy with rfl | hy
            · simp only; omega
            · exact h.rng y (by simp [hy])
          · by_cases q : j = x.1
            · subst q
              rw [if_pos rfl]
              simp only [at_, if_true]
            · rw [if_neg q]
              simp only [at_]
              rw [if_neg (Ne.symm q), if_neg (Ne.symm q)]
          · rcases List.mem_cons.mp hy with rfl | hy
            · exact .inl rfl
            · exact .inr ⟨y, by simp [hy], rfl⟩
      · rename_i ne
        obtain ⟨i1, i2, i3⟩ := addAt_ok hp k v h.tail
        refine ⟨⟨List.pairwise_cons.mpr ⟨fun y hy => ?_, i1.srt⟩, fun y hy => ?_⟩, fun j => ?_, fun y hy => ?_⟩
        · rcases i3 y hy with q | ⟨z, hz, q⟩
          · omega
          · have := h.head z hz
            omega
        · rcases List.mem_cons.mp hy with rfl | hy
          · exact hx
          · exact i1.rng y hy
        · by_cases q : j = k
          · subst q
            rw [if_pos rfl]
            simp only [at_]
            rw [if_neg (fun z => ne z.symm), if_neg (fun z => ne z.symm), i2 j, if_pos rfl]
          · rw [if_neg q]
            simp only [at_]
            by_cases q2 : x.1 = j
            · rw [if_pos q2, if_pos q2]
            · rw [if_neg q2, if_neg q2, i2 j, if_neg q]
        · rcases List.mem_cons.mp hy with rfl | hy
          · exact .inr ⟨y, by simp, rfl⟩
          · rcases i3 y hy with q | ⟨z, hz, q⟩
            · exact .inl q
            · exact .inr ⟨z, by simp [hz], q⟩
/-- the pattern of pairs in any order -/
def tidy (p : Int) (xs : Pat) : Pat := xs.foldl (fun a x => addAt p a x.1 x.2) []
theorem tidy_go {p : Int} (hp : 0 < p) : ∀ (xs a : Pat), IsPat p a → IsPat p (xs.foldl (fun a x => addAt p a x.1 x.2) a) ∧ ∀ k, at_ (xs.foldl (fun a x => addAt p a x.1 x.2) a) k = (at_ a k + sumAt xs k) % p
  | [], a, h => ⟨h, fun k => by
    have := h.at_rng hp k
    simp only [List.foldl_nil, sumAt, Int.add_zero]
    rw [Int.emod_eq_of_lt this.1 this.2]⟩
  | x :: r, a, h => by
    obtain ⟨h1, h2, _⟩ := addAt_ok hp x.1 x.2 h
    obtain ⟨i1, i2⟩ := tidy_go hp r _ h1
    refine ⟨i1, fun k => ?_⟩
    rw [List.foldl_cons, i2 k, h2 k]
    simp only [sumAt]
    by_cases q : k = x.1
    · subst q
      rw [if_pos rfl, if_pos rfl, Int.emod_add_emod]
      congr 1
      omega
    · rw [if_neg q, if_neg (Ne.symm q), Int.zero_add]
theorem tidy_pat {p : Int} (hp : 0 < p) (xs : Pat) : IsPat p (tidy p xs) := (tidy_go hp xs [] (IsPat.nil p)).1
theorem tidy_at {p : Int} (hp : 0 < p) (xs : Pat) (k : Int) : at_ (tidy p xs) k = sumAt xs k % p := by
  have := (tidy_go hp xs [] (IsPat.nil p)).2 k
  unfold tidy
  simpa [at_] using this
theorem tidy_eq {p : Int} (hp : 0 < p) {xs ys : Pat} (hy : IsPat p ys) (h : ∀ k, at_ ys k = sumAt xs k % p) : ys = tidy p xs :=
  pat_ext hy (tidy_pat hp xs) fun k => by rw [h k, tidy_at hp]
theorem addAt_len (p : Int) : ∀ (xs : Pat) (k v : Int), (addAt p xs k v).length ≤ xs.length + 1
  | [], k, v => by simp only [addAt]; split <;> simp
  | x :: r, k, v => by
    have ih := addAt_len p r k v
    simp only [addAt]
    split
    · split <;> simp
    · split
      · split <;> simp <;> omega
      · simp only [List.length_cons]; omega
theorem tidy_len (p : Int) (xs : Pat) : (tidy p xs).length ≤ xs.length := by
  have go : ∀ (xs a : Pat), (xs.foldl (fun a x => addAt p a x.1 x.2) a).length ≤ a.length + xs.length := by
    intro xs
    induction xs with
    | nil => exact fun a => Nat.le_refl _
    | cons x r ih =>
      intro a
      have h1 := ih (addAt p a x.1 x.2)
      have h2 := addAt_len p a x.1 x.2
      simp only [List.foldl_cons, List.length_cons]
      omega
  unfold tidy
  simpa using go xs []
/-- each place once, as they come -/
def places : Pat → List Int
  | [] => []
  | x :: r => x.1 :: (places r).filter fun k => decide (k ≠ x.1)
def addK (ks : List Int) (k : Int) : List Int := if k ∈ ks then ks else ks ++ [k]
def keys (xs : Pat) : List Int := xs.foldl (fun ks x => addK ks x.1) []
theorem keys_snoc (xs : Pat) (x : Int × Int) : keys (xs ++ [x]) = addK (keys xs) x.1 := by simp [keys, List.foldl_append]
theorem addK_nodup {ks : List Int} {k : Int} (h : ks.Nodup) : (addK ks k).Nodup := by
  unfold addK
  split
  · exact h
  · rename_i n
    rw [List.nodup_append]
    exact ⟨h, by simp, fun a ha b hb => by simp at hb; subst hb; exact fun z => n (z ▸ ha)⟩
theorem mem_addK {ks : List Int} {k j : Int} : j ∈ addK ks k ↔ j ∈ ks ∨ j = k := by
  unfold addK
  split
  · rename_i h
    refine ⟨.inl, fun z => z.elim id fun e => e ▸ h⟩
  · simp
theorem keys_nodup (xs : Pat) : (keys xs).Nodup := by
  have go : ∀ (xs : Pat) (ks : List Int), ks.Nodup → (xs.foldl (fun ks x => addK ks x.1) ks).Nodup := by
    intro xs
    induction xs with
    | nil => exact fun ks h => h
    | cons x r ih => exact fun ks h => ih _ (addK_nodup h)
  exact go xs [] (by simp)
theorem mem_keys (xs : Pat) (k : Int) : k ∈ keys xs ↔ ∃ x ∈ xs, x.1 = k := by
  have go : ∀ (xs : Pat) (ks : List Int), k ∈ (xs.foldl (fun ks x => addK ks x.1) ks) ↔ k ∈ ks ∨ ∃ x ∈ xs, x.1 = k := by
    intro xs
    induction xs with
    | nil => simp
    | cons x r ih =>
      intro ks
      rw [List.foldl_cons, ih, mem_addK]
      simp only [List.mem_cons, exists_eq_or_imp]
      constructor
      · rintro ((h | h) | h)
        · exact .inl h
        · exact .inr (.inl h.symm)
        · exact .inr (.inr h)
      · rintro (h | h | h)
        · exact .inl (.inl h)
        · exact .inl (.inr h.symm)
        · exact .inr h
  have := go xs []
  simpa [keys] using this
theorem keys_len (xs : Pat) : (keys xs).length ≤ xs.length := by
  have go : ∀ (xs : Pat) (ks : List Int), (xs.foldl (fun ks x => addK ks x.1) ks).length ≤ ks.length + xs.length := by
    intro xs
    induction xs with
    | nil => exact fun ks => Nat.le_refl _
    | cons x r ih =>
      intro ks
      have h1 := ih (addK ks x.1)
      have h2 : (addK ks x.1).length ≤ ks.length + 1 := by
        unfold addK
        split
        · omega
        · simp
      simp only [List.foldl_cons, List.length_cons]
      omega
  simpa [keys] using go xs []
theorem keys_mono (xs ys : Pat) : (keys xs).length ≤ (keys (xs ++ ys)).length := by
  have go : ∀ (ys : Pat) (ks : List Int), ks.length ≤ (ys.foldl (fun ks x => addK ks x.1) ks).length := by
    intro ys
    induction ys with
    | nil => exact fun ks => Nat.le_refl _
    | cons y r ih =>
      intro ks
      have h1 := ih (addK ks y.1)
      have h2 : ks.length ≤ (addK ks y.1).length := by
        unfold addK
        split
        · omega
        · simp
      simp only [List.foldl_cons]
      omega
  unfold keys
  rw [List.foldl_append]
  exact go ys _
/-- the pattern that sorted keys with their sums make -/
def pick (p : Int) (xs : Pat) (k : Int) : Option (Int × Int) := if sumAt xs k % p ≠ 0 then some (k, sumAt xs k % p) else none
theorem sorted_strict {ys ks : List Int} (hp : ys.Perm ks) (hn : ks.Nodup) (hs : ys.Pairwise (· ≤ ·)) : ys.Pairwise (· < ·) := by
  have hn' : ys.Nodup := hp.nodup_iff.mpr hn
  have := List.Pairwise.and hs hn'
  exact this.imp fun h => by omega
theorem pick_at (p : Int) (xs : Pat) : ∀ {ys : List Int} (k : Int), at_ (ys.filterMap (pick p xs)) k = if k ∈ ys then sumAt xs k % p else 0
  | [], k => rfl
  | y :: r, k => by
    have ih := pick_at p xs (ys := r) k
    rw [List.filterMap_cons]
    unfold pick at *
    by_cases e : sumAt xs y % p ≠ 0
    · rw [if_pos e]
      simp only [at_]
      by_cases q : y = k
      · subst q
        rw [if_pos rfl, if_pos (by simp)]
      · rw [if_neg q, ih]
        simp [Ne.symm q]
    · rw [if_neg e]
      simp only
      rw [ih]
      by_cases q : k = y
      · subst q
        have e' : sumAt xs k % p = 0 := by omega
        by_cases m : k ∈ r <;> simp [m, e']
      · simp [q]
theorem pick_pat {p : Int} (hp : 0 < p) {xs : Pat} {ys : List Int} (hperm : ys.Perm (keys xs)) (hs : ys.Pairwise (· ≤ ·)) : ys.filterMap (pick p xs) = tidy p xs := by
  have st := sorted_strict hperm (keys_nodup xs) hs
  refine tidy_eq hp ⟨?_, fun x hx => ?_⟩ fun k => ?_
  · rw [List.pairwise_filterMap]
    refine st.imp fun {a b} h x hx y hy => ?_
    unfold pick at hx hy
    split at hx
    · split at hy
      · cases hx; cases hy; exact h
      · cases hy
    · cases hx
  · obtain ⟨y, hy, e⟩ := List.mem_filterMap.mp hx
    unfold pick at e
    split at e
    · rename_i ne
      cases e
      have m1 := Int.emod_nonneg (sumAt xs y) (show p ≠ 0 by omega)
      have m2 := Int.emod_lt_of_pos (sumAt xs y) hp
      simp only
      omega
    · cases e
  · rw [pick_at]
    split
    · rfl
    · rename_i nm
      rw [sumAt_none]
      · simp
      · intro x hx e
        exact nm (hperm.mem_iff.mpr ((mem_keys xs k).mpr ⟨x, hx, e⟩))
def moved (xs : Pat) (b : Int) : Pat := xs.map fun x => (x.1 + b, x.2)
theorem moved_len (xs : Pat) (b : Int) : (moved xs b).length = xs.length := by simp [moved]
theorem moved_at (b : Int) : ∀ (xs : Pat) (k : Int), at_ (moved xs b) k = at_ xs (k - b)
  | [], k => rfl
  | x :: r, k => by
    show (if x.1 + b = k then x.2 else at_ (moved r b) k) = if x.1 = k - b then x.2 else at_ r (k - b)
    rw [moved_at b r k]
    by_cases e : x.1 + b = k
    · rw [if_pos e, if_pos (by omega)]
    · rw [if_neg e, if_neg (by omega)]
theorem moved_pat {p : Int} {xs : Pat} (h : IsPat p xs) (b : Int) : IsPat p (moved xs b) := by
  refine ⟨?_, fun x hx => ?_⟩
  · unfold moved
    rw [List.pairwise_map]
    exact h.srt.imp fun z => by simp only; omega
  · obtain ⟨y, hy, rfl⟩ := List.mem_map.mp hx
    exact h.rng y hy
theorem moved_moved (xs : Pat) (a b : Int) : moved (moved xs a) b = moved xs (a + b) := by
  unfold moved
  rw [List.map_map]
  refine List.map_congr_left fun x _ => ?_
  simp only [Function.comp]
  congr 1
  omega
theorem moved_zero (xs : Pat) : moved xs 0 = xs := by
  unfold moved
  conv => rhs; rw [← List.map_id xs]
  refine List.map_congr_left fun x _ => ?_
  simp
theorem tidy_mem {p : Int} (hp : 0 < p) {xs : Pat} {x : Int × Int} (h : x ∈ tidy p xs) : ∃ y ∈ xs, y.1 = x.1 := by
  have ha := (tidy_pat hp xs).at_of_mem h
  have hr := (tidy_pat hp xs).rng x h
  rw [tidy_at hp] at ha
  by_cases z : ∃ y ∈ xs, y.1 = x.1
  · exact z
  · rw [sumAt_none (fun y hy e => z ⟨y, hy, e⟩)] at ha
    simp at ha
    omega
def added (p : Int) (xs ys : Pat) : Pat := tidy p (xs ++ ys)
def timed (p : Int) (xs : Pat) (n : Int) : Pat := tidy p (xs.map fun x => (x.1, x.2 * n))
theorem sumAt_map_mul (n : Int) : ∀ (xs : Pat) (k : Int), sumAt (xs.map fun x => (x.1, x.2 * n)) k = sumAt xs k * n
  | [], k => by simp [sumAt]
  | x :: r, k => by
    simp only [List.map_cons, sumAt, sumAt_map_mul n r k]
    split
    · rw [Int.add_mul]
    · rw [Int.add_mul, Int.zero_mul]
theorem added_pat {p : Int} (hp : 0 < p) (xs ys : Pat) : IsPat p (added p xs ys) := tidy_pat hp _
theorem timed_pat {p : Int} (hp : 0 < p) (xs : Pat) (n : Int) : IsPat p (timed p xs n) := tidy_pat hp _
theorem added_at {p : Int} (hp : 0 < p) {xs ys : Pat} (hx : IsPat p xs) (hy : IsPat p ys) (k : Int) : at_ (added p xs ys) k = (at_ xs k + at_ ys k) % p := by
  unfold added
  rw [tidy_at hp, sumAt_app, hx.at_sum, hy.at_sum]
theorem timed_at {p : Int} (hp : 0 < p) {xs : Pat} (hx : IsPat p xs) (n k : Int) : at_ (timed p xs n) k = at_ xs k * n % p := by
  unfold timed
  rw [tidy_at hp, sumAt_map_mul, hx.at_sum]
theorem added_len (p : Int) (xs ys : Pat) : (added p xs ys).length ≤ xs.length + ys.length := by
  have := tidy_len p (xs ++ ys)
  rw [List.length_append] at this
  exact this
theorem timed_len (p : Int) (xs : Pat) (n : Int) : (timed p xs n).length ≤ xs.length := by
  have := tidy_len p (xs.map fun x => (x.1, x.2 * n))
  rw [List.length_map] at this
  exact this
theorem added_comm {p : Int} (hp : 0 < p) {xs ys : Pat} (hx : IsPat p xs) (hy : IsPat p ys) : added p xs ys = added p ys xs :=
  pat_ext (added_pat hp xs ys) (added_pat hp ys xs) fun k => by rw [added_at hp hx hy, added_at hp hy hx, Int.add_comm]
theorem dark_of {p : Int} {xs : Pat} (hx : IsPat p xs) (h : ∀ k, at_ xs k = 0) : xs = [] := pat_ext hx (IsPat.nil p) fun k => by rw [h k]; rfl
theorem map01 (ys : Pat) : (ys.map fun y => (y.1 + 0, y.2 * 1)) = ys := by
  have : (fun y : Int × Int => (y.1 + 0, y.2 * 1)) = id := funext fun y => by simp
  rw [this, List.map_id]
theorem map0n (ys : Pat) (n : Int) : (ys.map fun y => (y.1 + 0, y.2 * n)) = ys.map fun y => (y.1, y.2 * n) := by
  simp only [Int.add_zero]
end Pt

/-! rounds: an end and a pattern -/
namespace Rd
open Pt
abbrev R := Int × Pat
def IsRound (p : Int) (r : R) : Prop := IsPat p r.2
def join (p : Int) (a b : R) : R := (a.1 + b.1, added p a.2 (moved b.2 a.1))
def inv (p : Int) (a : R) : R := (-a.1, timed p (moved a.2 (-a.1)) (-1))
def still : R := (0, [])
theorem ext {p : Int} {a b : R} (ha : IsRound p a) (hb : IsRound p b) (h1 : a.1 = b.1) (h2 : ∀ k, at_ a.2 k = at_ b.2 k) : a = b := Prod.ext h1 (pat_ext ha hb h2)
theorem still_ok (p : Int) : IsRound p still := IsPat.nil p
section
variable {p : Int} (hp : 0 < p)
include hp
theorem join_ok (a b : R) : IsRound p (join p a b) := added_pat hp _ _
theorem inv_ok (a : R) : IsRound p (inv p a) := timed_pat hp _ _
theorem join_at {a b : R} (ha : IsRound p a) (hb : IsRound p b) (k : Int) : at_ (join p a b).2 k = (at_ a.2 k + at_ b.2 (k - a.1)) % p := by
  show at_ (added p a.2 (moved b.2 a.1)) k = _
  rw [added_at hp ha (moved_pat hb a.1), moved_at]
theorem inv_at {a : R} (ha : IsRound p a) (k : Int) : at_ (inv p a).2 k = -(at_ a.2 (k + a.1)) % p := by
  show at_ (timed p (moved a.2 (-a.1)) (-1)) k = _
  rw [timed_at hp (moved_pat ha (-a.1)), moved_at, show k - -a.1 = k + a.1 by omega, show at_ a.2 (k + a.1) * -1 = -(at_ a.2 (k + a.1)) by omega]
theorem at_mod {a : R} (ha : IsRound p a) (k : Int) : at_ a.2 k % p = at_ a.2 k := by
  have h := IsPat.at_rng ha hp k
  exact Int.emod_eq_of_lt h.1 h.2
theorem assoc {a b c : R} (ha : IsRound p a) (hb : IsRound p b) (hc : IsRound p c) : join p (join p a b) c = join p a (join p b c) := by
  refine ext (p := p) (join_ok hp _ _) (join_ok hp _ _) (by simp only [join]; omega) fun k => ?_
  rw [join_at hp (join_ok hp a b) hc, join_at hp ha hb, join_at hp ha (join_ok hp b c), join_at hp hb hc, Int.emod_add_emod, Int.add_emod_emod]
  simp only [join]
  rw [show k - a.1 - b.1 = k - (a.1 + b.1) by omega, Int.add_assoc]
theorem join_still {a : R} (ha : IsRound p a) : join p a still = a := by
  refine ext (p := p) (join_ok hp _ _) ha (by simp [join, still]) fun k => ?_
  rw [join_at hp ha (still_ok p)]
  show (at_ a.2 k + 0) % p = _
  rw [Int.add_zero, at_mod hp ha]
theorem still_join {a : R} (ha : IsRound p a) : join p still a = a := by
  refine ext (p := p) (join_ok hp _ _) ha (by simp [join, still]) fun k => ?_
  rw [join_at hp (still_ok p) ha]
  show (0 + at_ a.2 (k - 0)) % p = _
  rw [Int.zero_add, Int.sub_zero, at_mod hp ha]
theorem join_inv {a : R} (ha : IsRound p a) : join p a (inv p a) = still := by
  refine ext (p := p) (join_ok hp _ _) (still_ok p) (by simp only [join, inv, still]; omega) fun k => ?_
  rw [join_at hp ha (inv_ok hp a), inv_at hp ha, Int.add_emod_emod, show k - a.1 + a.1 = k by omega, Int.add_right_neg]
  rfl
theorem inv_join {a : R} (ha : IsRound p a) : join p (inv p a) a = still := by
  refine ext (p := p) (join_ok hp _ _) (still_ok p) (by simp only [join, inv, still]; omega) fun k => ?_
  rw [join_at hp (inv_ok hp a) ha, inv_at hp ha, Int.emod_add_emod, show k - (inv p a).1 = k + a.1 by simp only [inv]; omega, Int.add_left_neg]
  rfl
theorem inv_uniq {a b : R} (ha : IsRound p a) (hb : IsRound p b) (h : join p a b = still) : b = inv p a := by
  have h2 := assoc hp (inv_ok hp a) ha hb
  rw [h, inv_join hp ha, still_join hp hb, join_still hp (inv_ok hp a)] at h2
  exact h2
theorem inv_inv {a : R} (ha : IsRound p a) : inv p (inv p a) = a := (inv_uniq hp (inv_ok hp a) ha (inv_join hp ha)).symm
theorem inv_of_join {a b : R} (ha : IsRound p a) (hb : IsRound p b) : inv p (join p a b) = join p (inv p b) (inv p a) := by
  refine (inv_uniq hp (join_ok hp a b) (join_ok hp _ _) ?_).symm
  rw [assoc hp ha hb (join_ok hp _ _), ← assoc hp hb (inv_ok hp b) (inv_ok hp a), join_inv hp hb, still_join hp (inv_ok hp a), join_inv hp ha]
end
theorem join_len (p : Int) (a b : R) : (join p a b).2.length ≤ a.2.length + b.2.length := by
  have := added_len p a.2 (moved b.2 a.1)
  rw [moved_len] at this
  exact this
theorem inv_len (p : Int) (a : R) : (inv p a).2.length ≤ a.2.length := by
  have := timed_len p (moved a.2 (-a.1)) (-1)
  rw [moved_len] at this
  exact this
end Rd

namespace Dk
/-- whether tuples of the module's own text may be data -/
abbrev KT : Bool := false
end Dk

/-! Data over the hand layer: what a name holds, as plain data. -/
namespace Dk
open PySem PySem.Spec PyProof.Rows L2

abbrev Fg := PySem.W.Frag
/-! ### data in a heap -/
/-- a tuple of the module's own text -/
def SqK (K : Fg) (a : Addr) (xs : List V) : Prop := ∃ (o : Obj) (its : Array Value) (n : Nat), K.lookup a = some o ∧ o.cls = .type "tuple" ∧ o.data = .seq its n ∧ its.size ≤ sizeLine ∧ Vals xs its.toList
def Tq (K : Fg) (H : Hp) (a : Addr) (xs : List V) : Prop := H a = some (.tup xs) ∨ (KT = true ∧ SqK K a xs)
theorem Tq.sq {K : Fg} {H : Hp} {a : Addr} {xs : List V} (h : Tq K H a xs) : SqT K H a xs := h.elim (fun z => .inl (.inl z)) fun z => .inr z.2
theorem Tq.mono {K : Fg} {H H' : Hp} {a : Addr} {xs : List V} (h : Tq K H a xs) (e : H a = some (.tup xs) → H' a = some (.tup xs)) : Tq K H' a xs := h.elim (fun z => .inl (e z)) fun z => .inr z
theorem Tq.same {K : Fg} {H H' : Hp} {a : Addr} {xs : List V} (h : Tq K H a xs) (e : Same H H') : Tq K H' a xs := h.mono fun z => e _ _ z
mutual
inductive Dq (K : Fg) (H : Hp) : V → PyData → Prop
  | non : Dq K H .non .none
  | bl (b : Bool) : Dq K H (.bl b) (.bool b)
  | int (i : Int) : Dq K H (.int i) (.int i)
  | str (x : Str) : Dq K H (.str x) (.str x)
  | lst {a : Addr} {xs : List V} {ds : List PyData} : H a = some (.lst xs) → DqAll K H xs ds → Dq K H (.ref a) (.list ds)
  | tup {a : Addr} {xs : List V} {ds : List PyData} : Tq K H a xs → DqAll K H xs ds → Dq K H (.ref a) (.tuple ds)
inductive DqAll (K : Fg) (H : Hp) : List V → List PyData → Prop
  | nil : DqAll K H [] []
  | cons {v : V} {vs : List V} {d : PyData} {ds : List PyData} : Dq K H v d → DqAll K H vs ds → DqAll K H (v :: vs) (d :: ds)
end
section
variable {K : Fg} {H H' : Hp}
mutual
theorem Dq.mono (e1 : ∀ a xs, H a = some (.lst xs) → H' a = some (.lst xs)) (e2 : ∀ a xs, H a = some (.tup xs) → H' a = some (.tup xs)) : ∀ (d : PyData) (v : V), Dq K H v d → Dq K H' v d
  | .none, _, h => by cases h; exact .non
  | .bool _, _, h => by cases h; exact .bl _
  | .int _, _, h => by cases h; exact .int _
  | .str _, _, h => by cases h; exact .str _
  | .list ds, _, h => by
    cases h with
    | lst a b => exact .lst (e1 _ _ a) (DqAll.mono e1 e2 ds _ b)
  | .tuple ds, _, h => by
    cases h with
    | tup a b => exact .tup (a.mono (e2 _ _)) (DqAll.mono e1 e2 ds _ b)
  | .dict _, _, h => by cases h
theorem DqAll.mono (e1 : ∀ a xs, H a = some (.lst xs) → H' a = some (.lst xs)) (e2 : ∀ a xs, H a = some (.tup xs) → H' a = some (.tup xs)) : ∀ (ds : List PyData) (vs : List V), DqAll K H vs ds → DqAll K H' vs ds
  | [], _, h => by cases h; exact .nil
  | d :: ds, _, h => by
    cases h with
    | cons a b => exact .cons (Dq.mono e1 e2 d _ a) (DqAll.mono e1 e2 ds _ b)
end
theorem Dq.same (e : Same H H') {d : PyData} {v : V} (h : Dq K H v d) : Dq K H' v d := Dq.mono (fun a xs q => e _ _ q) (fun a xs q => e _ _ q) d v h
theorem DqAll.same (e : Same H H') {d : List PyData} {v : List V} (h : DqAll K H v d) : DqAll K H' v d := DqAll.mono (fun a xs q => e _ _ q) (fun a xs q => e _ _ q) d v h
mutual
theorem Dq.dp : ∀ (d : PyData) (v : V), Dq K H v d → Dp K H v d
  | .none, _, h => by cases h; exact .non
  | .bool _, _, h => by cases h; exact .bl _
  | .int _, _, h => by cases h; exact .int _
  | .str _, _, h => by cases h; exact .str _
  | .list ds, _, h => by
    cases h with
    | lst a b => exact .lst (.inl (.inl a)) (DqAll.dp ds _ b)
  | .tuple ds, _, h => by
    cases h with
    | tup a b => exact .tup a.sq (DqAll.dp ds _ b)
  | .dict _, _, h => by cases h
theorem DqAll.dp : ∀ (ds : List PyData) (vs : List V), DqAll K H vs ds → DpAll K H vs ds
  | [], _, h => by cases h; exact .nil
  | d :: ds, _, h => by
    cases h with
    | cons a b => exact .cons (Dq.dp d _ a) (DqAll.dp ds _ b)
end
theorem DqAll.length : ∀ {ds : List PyData} {vs : List V}, DqAll K H vs ds → vs.length = ds.length
  | [], _, h => by cases h; rfl
  | _ :: _, _, h => by
    cases h with
    | cons a b => simp [DqAll.length b]
theorem DqAll.get : ∀ {ds : List PyData} {vs : List V} {i : Nat} {d : PyData}, DqAll K H vs ds → ds[i]? = some d → ∃ v, vs[i]? = some v ∧ Dq K H v d
  | [], _, _, _, h, e => by simp at e
  | _ :: _, _, 0, _, h, e => by
    cases h with
    | cons a b => simp at e; subst e; exact ⟨_, rfl, a⟩
  | _ :: _, _, i + 1, _, h, e => by
    cases h with
    | cons a b => simp at e; obtain ⟨v, h1, h2⟩ := DqAll.get b e; exact ⟨v, by simpa using h1, h2⟩
theorem DqAll.app : ∀ {ds es : List PyData} {vs us : List V}, DqAll K H vs ds → DqAll K H us es → DqAll K H (vs ++ us) (ds ++ es)
  | [], _, _, _, h, g => by cases h; exact g
  | _ :: _, _, _, _, h, g => by
    cases h with
    | cons a b => exact .cons a (DqAll.app b g)
theorem DqAll.setAt : ∀ {ds : List PyData} {vs : List V} {i : Nat} {d : PyData} {v : V}, DqAll K H vs ds → Dq K H v d → DqAll K H (vs.set i v) (ds.set i d)
  | [], _, _, _, _, h, _ => by cases h; exact .nil
  | _ :: _, _, 0, _, _, h, g => by
    cases h with
    | cons a b => exact .cons g b
  | _ :: _, _, i + 1, _, _, h, g => by
    cases h with
    | cons a b => exact .cons a (DqAll.setAt b g)
theorem DqAll.dropLast : ∀ {ds : List PyData} {vs : List V}, DqAll K H vs ds → DqAll K H vs.dropLast ds.dropLast
  | [], _, h => by cases h; exact .nil
  | [_], _, h => by
    cases h with
    | cons a b => cases b; exact .nil
  | _ :: _ :: _, _, h => by
    cases h with
    | cons a b =>
      cases b with
      | cons c d => exact .cons a (DqAll.dropLast (.cons c d))
theorem DqAll.take : ∀ {ds : List PyData} {vs : List V} (n : Nat), DqAll K H vs ds → DqAll K H (vs.take n) (ds.take n)
  | _, _, 0, _ => by simp; exact .nil
  | [], _, n + 1, h => by cases h; exact .nil
  | _ :: _, _, n + 1, h => by
    cases h with
    | cons a b => exact .cons a (DqAll.take n b)
theorem DqAll.drop : ∀ {ds : List PyData} {vs : List V} (n : Nat), DqAll K H vs ds → DqAll K H (vs.drop n) (ds.drop n)
  | _, _, 0, h => by simpa using h
  | [], _, n + 1, h => by cases h; exact .nil
  | _ :: _, _, n + 1, h => by
    cases h with
    | cons a b => exact DqAll.drop n b
theorem DqAll.reverse : ∀ {ds : List PyData} {vs : List V}, DqAll K H vs ds → DqAll K H vs.reverse ds.reverse
  | [], _, h => by cases h; exact .nil
  | _ :: _, _, h => by
    cases h with
    | cons a b => rw [List.reverse_cons, List.reverse_cons]; exact DqAll.app (DqAll.reverse b) (.cons a .nil)
theorem DqAll.ints : ∀ {ns : List Int} {vs : List V}, DqAll K H vs (ns.map PyData.int) → vs = ns.map V.int
  | [], _, h => by cases h; rfl
  | n :: ns, _, h => by
    cases h with
    | cons a b => cases a; rw [DqAll.ints b]; rfl
theorem DqAll.ofInts : ∀ (ns : List Int), DqAll K H (ns.map V.int) (ns.map PyData.int)
  | [] => .nil
  | n :: ns => .cons (.int n) (DqAll.ofInts ns)
theorem DqAll.bools : ∀ {ns : List Bool} {vs : List V}, DqAll K H vs (ns.map PyData.bool) → vs = ns.map V.bl
  | [], _, h => by cases h; rfl
  | n :: ns, _, h => by
    cases h with
    | cons a b => cases a; rw [DqAll.bools b]; rfl
theorem DqAll.strs : ∀ {ns : List Str} {vs : List V}, DqAll K H vs (ns.map PyData.str) → vs = ns.map V.str
  | [], _, h => by cases h; rfl
  | n :: ns, _, h => by
    cases h with
    | cons a b => cases a; rw [DqAll.strs b]; rfl
theorem DqAll.ofStrs : ∀ (ns : List Str), DqAll K H (ns.map V.str) (ns.map PyData.str)
  | [] => .nil
  | n :: ns => .cons (.str n) (DqAll.ofStrs ns)
end

/-! ### parts of a heap -/
/-- what a run may change -/
def Mo : Option HO → Prop
  | none => False
  | some (.tup _) => False
  | some (.frz _ _) => False
  | _ => True
open Classical in
noncomputable def less (H : Hp) (x : Addr → Prop) : Hp := fun a => if x a then none else H a
theorem less_some {H : Hp} {x : Addr → Prop} {a : Addr} {o : HO} : less H x a = some o ↔ ¬ x a ∧ H a = some o := by
  unfold less
  by_cases h : x a
  · simp [h]
  · simp [h]
theorem less_same {H : Hp} {x : Addr → Prop} : Same (less H x) H := fun a o e => (less_some.mp e).2
theorem same_less {H H' : Hp} {x y : Addr → Prop} (h : ∀ a o, ¬ x a → H a = some o → ¬ y a ∧ H' a = some o) : Same (less H x) (less H' y) := fun a o e =>
  less_some.mpr (h a o (less_some.mp e).1 (less_some.mp e).2)
theorem not_mo_tup {H : Hp} {a : Addr} {xs : List V} (h : H a = some (.tup xs)) : ¬ Mo (H a) := by
  rw [h]
  exact fun z => z

/-! only numbers, texts and tuples -/
mutual
def tupO : PyData → Bool
  | .tuple xs => tupOs xs
  | .list _ => false
  | .dict _ => false
  | _ => true
def tupOs : List PyData → Bool
  | [] => true
  | x :: xs => tupO x && tupOs xs
end
mutual
theorem Dq.tupO_less {K : Fg} {H H' : Hp} {x : Addr → Prop} (hx : ∀ a, x a → Mo (H a)) : ∀ (d : PyData) (v : V), tupO d = true → Dq K H v d → Dq K (less H x) v d
  | .none, _, _, h => by cases h; exact .non
  | .bool _, _, _, h => by cases h; exact .bl _
  | .int _, _, _, h => by cases h; exact .int _
  | .str _, _, _, h => by cases h; exact .str _
  | .list ds, _, t, h => by simp [tupO] at t
  | .tuple ds, _, t, h => by
    cases h with
    | tup a b =>
      simp only [tupO] at t
      exact .tup (a.mono fun a => less_some.mpr ⟨fun z => not_mo_tup a (hx _ z), a⟩) (DqAll.tupO_less (H' := H') hx ds _ t b)
  | .dict _, _, _, h => by cases h
theorem DqAll.tupO_less {K : Fg} {H H' : Hp} {x : Addr → Prop} (hx : ∀ a, x a → Mo (H a)) : ∀ (ds : List PyData) (vs : List V), tupOs ds = true → DqAll K H vs ds → DqAll K (less H x) vs ds
  | [], _, _, h => by cases h; exact .nil
  | d :: ds, _, t, h => by
    cases h with
    | cons a b =>
      simp only [tupOs, Bool.and_eq_true] at t
      exact .cons (Dq.tupO_less (H' := H') hx d _ t.1 a) (DqAll.tupO_less (H' := H') hx ds _ t.2 b)
end

/-! ### what a name holds -/
inductive OD where
  | lst (ds : List PyData)
  | dK (kvs : List (Key × PyData))
  | dT (kvs : List (List Key × PyData))
  | ab (I : Hp → Addr → List Addr → Prop)
inductive Sl where
  | no
  | sh (d : PyData)
  | ar (d : PyData)
  | ow (o : OD)
  | rf (o : OD)
abbrev G := List Sl
def Sl.own? : Sl → Option OD
  | .ow o => some o
  | .rf o => some o
  | _ => none
def Sl.there : Sl → Bool
  | .no => false
  | _ => true
inductive RV where
  | sh (d : PyData)
  | ar (d : PyData)
  | own (i : Nat)
/-- fixed objects are kept -/
def Tx (H H' : Hp) : Prop := ∀ a o, ¬ Mo (some o) → H a = some o → H' a = some o
def KvOk {κ : Type} (K : Fg) (S : Hp) (us : List (κ × V)) (kvs : List (κ × PyData)) : Prop := Paired (fun (p : κ × V) (q : κ × PyData) => p.1 = q.1 ∧ Dq K S p.2 q.2) us kvs
def OwnOk (K : Fg) (S H : Hp) (p : Addr) (F : List Addr) : OD → Prop
  | .lst ds => F = [p] ∧ ∃ vs, H p = some (.lst vs) ∧ DqAll K S vs ds
  | .dK kvs => F = [p] ∧ ∃ us, H p = some (.dK us) ∧ KvOk K S us kvs
  | .dT kvs => F = [p] ∧ ∃ us, H p = some (.dT us) ∧ KvOk K S us kvs
  | .ab I => p ∈ F ∧ I H p F ∧ ∀ H', (∀ a ∈ F, H' a = H a) → Tx H H' → I H' p F
def Ex (H0 : Hp) (O : Addr → Prop) : Addr → Prop := fun a => Mo (H0 a) ∨ O a

/-- the surroundings of a def's run: the heap at its start, what it may change (by-reference arguments), where these stand -/
structure Fx (K : Fg) where
  H0 : Hp
  rf : Addr → Prop
  rp : Nat → Option (Addr × List Addr)
/-- the world of a moment: the objects that are ours, each name's objects, the heap -/
structure Wd where
  O : Addr → Prop
  ft : Nat → List Addr
  H : Hp
noncomputable abbrev Wd.S {K : Fg} (W : Wd) (F : Fx K) : Hp := less W.H (Ex F.H0 W.O)
def SlotOk {K : Fg} (F : Fx K) (W : Wd) (i : Nat) (x : Option (Option V)) : Sl → Prop
  | .no => True
  | .sh d => ∃ v, x = some (some v) ∧ Dq K (W.S F) v d
  | .ar d => ∃ v, x = some (some v) ∧ Dq K (less F.H0 F.rf) v d
  | .ow o => ∃ p, x = some (some (.ref p)) ∧ (∀ a ∈ W.ft i, W.O a ∧ ¬ F.rf a) ∧ OwnOk K (W.S F) W.H p (W.ft i) o
  | .rf o => ∃ p, F.rp i = some (p, W.ft i) ∧ x = some (some (.ref p)) ∧ (∀ a ∈ W.ft i, W.O a) ∧ OwnOk K (W.S F) W.H p (W.ft i) o
structure Rel {K : Fg} (F : Fx K) (W : Wd) (σ : L2.St) (Γ : G) : Prop where
  base : ∀ a o, F.H0 a = some o → ¬ F.rf a → W.H a = some o
  new : ∀ a, W.O a → F.H0 a = none ∨ F.rf a
  mu : ∀ a, W.O a → Mo (W.H a)
  rfo : ∀ a, F.rf a → W.O a
  len : σ.length = Γ.length
  slot : ∀ (i : Nat) (s : Sl), Γ[i]? = some s → SlotOk F W i σ[i]? s
  dis : ∀ (i j : Nat) (s t : Sl) (oi oj : OD) (a : Addr), i ≠ j → Γ[i]? = some s → Γ[j]? = some t → s.own? = some oi → t.own? = some oj → a ∈ W.ft i → a ∉ W.ft j
def VOk {K : Fg} (F : Fx K) (W : Wd) (σ : L2.St) (Γ : G) (v : V) : RV → Prop
  | .sh d => Dq K (W.S F) v d
  | .ar d => Dq K (less F.H0 F.rf) v d
  | .own i => ∃ s, Γ[i]? = some s ∧ s.there = true ∧ σ[i]? = some (some v)
/-- ours, but no name's -/
def Tm (W : Wd) (Γ : G) (p : Addr) : Prop := W.O p ∧ ∀ (j : Nat) (s : Sl) (o : OD), Γ[j]? = some s → s.own? = some o → p ∉ W.ft j
/-- what a run leaves as it was -/
structure Kp {K : Fg} (F : Fx K) (W : Wd) (Γ : G) (W' : Wd) (Γ' : G) : Prop where
  sh : Same (W.S F) (W'.S F)
  tmp : ∀ p, Tm W Γ p → Tm W' Γ' p ∧ W'.H p = W.H p
def Kn (s s' : Sl) : Prop := (s.there = true → s'.there = true) ∧ (s.own? = none → s' = s) ∧ (∀ o, s = .rf o → ∃ o', s' = .rf o')
theorem Kn.refl (s : Sl) : Kn s s := ⟨fun z => z, fun _ => rfl, fun o z => ⟨o, z⟩⟩
theorem Kn.trans {s s1 s2 : Sl} (a : Kn s s1) (b : Kn s1 s2) : Kn s s2 := ⟨fun z => b.1 (a.1 z), fun q => by
  have z := a.2.1 q
  subst z
  exact b.2.1 q, fun o q => by
  obtain ⟨o1, q1⟩ := a.2.2 o q
  exact b.2.2 o1 q1⟩
structure Stp {K : Fg} (F : Fx K) (W : Wd) (Γ : G) (W' : Wd) (Γ' : G) : Prop extends Kp F W Γ W' Γ' where
  kin : ∀ (i : Nat) (s : Sl), Γ[i]? = some s → ∃ s' : Sl, Γ'[i]? = some s' ∧ (s.there = true → s'.there = true) ∧ (s.own? = none → s' = s) ∧ (∀ o, s = .rf o → ∃ o', s' = .rf o')
  len : Γ'.length = Γ.length
theorem Kp.refl {K : Fg} (F : Fx K) (W : Wd) (Γ : G) : Kp F W Γ W Γ := ⟨Same.refl _, fun p h => ⟨h, rfl⟩⟩
theorem Kp.trans {K : Fg} {F : Fx K} {W W1 W2 : Wd} {Γ Γ1 Γ2 : G} (a : Kp F W Γ W1 Γ1) (b : Kp F W1 Γ1 W2 Γ2) : Kp F W Γ W2 Γ2 :=
  ⟨a.sh.trans b.sh, fun p h => ⟨(b.tmp p (a.tmp p h).1).1, (b.tmp p (a.tmp p h).1).2.trans (a.tmp p h).2⟩⟩
theorem Stp.refl {K : Fg} (F : Fx K) (W : Wd) (Γ : G) : Stp F W Γ W Γ := ⟨Kp.refl F W Γ, fun i s h => ⟨s, h, fun z => z, fun _ => rfl, fun o e => ⟨o, e⟩⟩, rfl⟩
theorem Stp.trans {K : Fg} {F : Fx K} {W W1 W2 : Wd} {Γ Γ1 Γ2 : G} (a : Stp F W Γ W1 Γ1) (b : Stp F W1 Γ1 W2 Γ2) : Stp F W Γ W2 Γ2 :=
  ⟨a.toKp.trans b.toKp, fun i s h => by
    obtain ⟨s1, h1, e1, f1, g1⟩ := a.kin i s h
    obtain ⟨s2, h2, e2, f2, g2⟩ := b.kin i s1 h1
    refine ⟨s2, h2, fun z => e2 (e1 z), fun q => ?_, fun o q => ?_⟩
    · have z := f1 q
      subst z
      exact f2 q
    · obtain ⟨o1, q1⟩ := g1 o q
      exact g2 o1 q1, b.len.trans a.len⟩
theorem VOk.stp {K : Fg} {F : Fx K} {W W' : Wd} {σ : L2.St} {Γ Γ' : G} {v : V} {rv : RV} (a : Stp F W Γ W' Γ') (h : VOk F W σ Γ v rv) : VOk F W' σ Γ' v rv := by
  cases rv with
  | sh d => exact Dq.same a.sh h
  | ar d => exact h
  | own i =>
    obtain ⟨s, h1, h2, h3⟩ := h
    obtain ⟨s', g1, g2, _⟩ := a.kin i s h1
    exact ⟨s', g1, g2 h2, h3⟩
def dat (Γ : G) : RV → Option PyData
  | .sh d => some d
  | .ar d => some d
  | .own i => match Γ[i]? with
    | some (.ow (.lst ds)) => some (.list ds)
    | some (.rf (.lst ds)) => some (.list ds)
    | some (.sh d) => some d
    | some (.ar d) => some d
    | _ => none
theorem Rel.S_same {K : Fg} {F : Fx K} {W : Wd} : Same (W.S F) W.H := less_same
theorem Rel.ar_same {K : Fg} {F : Fx K} {W : Wd} {σ : L2.St} {Γ : G} (R : Rel F W σ Γ) : Same (less F.H0 F.rf) W.H := fun a o e => R.base a o (less_some.mp e).2 (less_some.mp e).1
theorem VOk.full {K : Fg} {F : Fx K} {W : Wd} {σ : L2.St} {Γ : G} {v : V} {rv : RV} {d : PyData} (R : Rel F W σ Γ) (h : VOk F W σ Γ v rv) (e : dat Γ rv = some d) : Dq K W.H v d := by
  cases rv with
  | sh d' => cases e; exact Dq.same Rel.S_same h
  | ar d' => cases e; exact Dq.same R.ar_same h
  | own i =>
    obtain ⟨s, h1, h2, h3⟩ := h
    have q := R.slot i s h1
    simp only [dat, h1] at e
    cases s with
    | no => cases h2
    | sh d' =>
      cases e
      obtain ⟨v', e1, e2⟩ := q
      rw [h3] at e1
      cases e1
      exact Dq.same Rel.S_same e2
    | ar d' =>
      cases e
      obtain ⟨v', e1, e2⟩ := q
      rw [h3] at e1
      cases e1
      exact Dq.same R.ar_same e2
    | ow o' =>
      cases o' with
      | lst ds =>
        cases e
        obtain ⟨p, e1, _, _, vs, e2, e3⟩ := q
        rw [h3] at e1
        cases e1
        exact .lst e2 (DqAll.same Rel.S_same e3)
      | dK _ => cases e
      | dT _ => cases e
      | ab _ => cases e
    | rf o' =>
      cases o' with
      | lst ds =>
        cases e
        obtain ⟨p, _, e1, _, _, vs, e2, e3⟩ := q
        rw [h3] at e1
        cases e1
        exact .lst e2 (DqAll.same Rel.S_same e3)
      | dK _ => cases e
      | dT _ => cases e
      | ab _ => cases e
end Dk

namespace Dk
open PySem PySem.Spec PyProof.Rows L2
section
variable {K : Fg} {F : Fx K} {W : Wd} {σ : L2.St} {Γ : G}
theorem mo_some {x : Option HO} (h : Mo x) : ∃ o, x = some o := by
  cases x with
  | none => exact h.elim
  | some o => exact ⟨o, rfl⟩
theorem Rel.exmo (R : Rel F W σ Γ) {a : Addr} (h : Ex F.H0 W.O a) : Mo (W.H a) := by
  by_cases ho : W.O a
  · exact R.mu a ho
  · rcases h with h | h
    · obtain ⟨o, e⟩ := mo_some h
      have nr : ¬ F.rf a := fun z => ho (R.rfo a z)
      rw [R.base a o e nr, ← e]
      exact h
    · exact (ho h).elim
theorem OwnOk.keep {S S' H H' : Hp} {p : Addr} {f : List Addr} {o : OD} (h : OwnOk K S H p f o) (hs : Same S S') (hk : ∀ a ∈ f, H' a = H a) (ht : Tx H H') : OwnOk K S' H' p f o := by
  cases o with
  | lst ds =>
    obtain ⟨e, vs, h1, h2⟩ := h
    subst e
    exact ⟨rfl, vs, by rw [hk p (by simp)]; exact h1, h2.same hs⟩
  | dK kvs =>
    obtain ⟨e, vs, h1, h2⟩ := h
    subst e
    exact ⟨rfl, vs, by rw [hk p (by simp)]; exact h1, Paired.mapP h2 fun _ _ z => ⟨z.1, z.2.same hs⟩⟩
  | dT kvs =>
    obtain ⟨e, vs, h1, h2⟩ := h
    subst e
    exact ⟨rfl, vs, by rw [hk p (by simp)]; exact h1, Paired.mapP h2 fun _ _ z => ⟨z.1, z.2.same hs⟩⟩
  | ab I =>
    obtain ⟨e, h1, h2⟩ := h
    refine ⟨e, h2 H' hk ht, fun H'' hk' ht' => h2 H'' (fun a ha => (hk' a ha).trans (hk a ha)) fun a o nm q => ht' a o nm (ht a o nm q)⟩
theorem SlotOk.keep {W' : Wd} {i : Nat} {x : Option (Option V)} {s : Sl} (h : SlotOk F W i x s) (hf : W'.ft i = W.ft i) (hs : Same (W.S F) (W'.S F)) (ho : ∀ a ∈ W.ft i, W.O a → W'.O a) (hk : ∀ a ∈ W.ft i, s.own?.isSome = true → W'.H a = W.H a) (ht : Tx W.H W'.H) : SlotOk F W' i x s := by
  cases s with
  | no => trivial
  | sh d => obtain ⟨v, e, q⟩ := h; exact ⟨v, e, q.same hs⟩
  | ar d => exact h
  | ow o =>
    obtain ⟨p, e, q, r⟩ := h
    exact ⟨p, e, by rw [hf]; exact fun a ha => ⟨ho a ha (q a ha).1, (q a ha).2⟩, by rw [hf]; exact r.keep hs (fun a ha => hk a ha rfl) ht⟩
  | rf o =>
    obtain ⟨p, e0, e, q, r⟩ := h
    exact ⟨p, by rw [hf]; exact e0, e, by rw [hf]; exact fun a ha => ho a ha (q a ha), by rw [hf]; exact r.keep hs (fun a ha => hk a ha rfl) ht⟩
theorem Same.ts {H H' : Hp} (h : Same H H') : Tx H H' := fun a o _ e => h a o e
/-- the same world with a greater heap -/
theorem Rel.grow (R : Rel F W σ Γ) {H' : Hp} (h : Same W.H H') : Rel F { W with H := H' } σ Γ ∧ Same (W.S F) (({ W with H := H' } : Wd).S F) := by
  have hs : Same (W.S F) (({ W with H := H' } : Wd).S F) := same_less fun a o nx e => ⟨nx, h a o e⟩
  refine ⟨⟨fun a o e nr => h a o (R.base a o e nr), R.new, fun a ha => ?_, R.rfo, R.len, fun i s e => ?_, R.dis⟩, hs⟩
  · obtain ⟨o, q⟩ := mo_some (R.mu a ha)
    show Mo (H' a)
    rw [h a o q, ← q]
    exact R.mu a ha
  · have z := R.slot i s e
    refine z.keep (W' := { W with H := H' }) rfl hs (fun _ _ q => q) (fun a ha so => ?_) (Same.ts h)
    have hO : W.O a := by
      cases s with
      | no => cases so
      | sh _ => cases so
      | ar _ => cases so
      | ow o => obtain ⟨p, _, q, _⟩ := z; exact (q a ha).1
      | rf o => obtain ⟨p, _, _, q, _⟩ := z; exact q a ha
    obtain ⟨o, q⟩ := mo_some (R.mu a hO)
    show H' a = W.H a
    rw [h a o q, q]
theorem Stp.grow (R : Rel F W σ Γ) {H' : Hp} (h : Same W.H H') : Stp F W Γ { W with H := H' } Γ := ⟨⟨(R.grow h).2, fun p t => ⟨t, by
  obtain ⟨o, q⟩ := mo_some (R.mu p t.1)
  show H' p = W.H p
  rw [h p o q, q]⟩⟩, fun i s e => ⟨s, e, fun z => z, fun _ => rfl, fun o z => ⟨o, z⟩⟩, rfl⟩
theorem same_new {H : Hp} {p : Addr} {o : HO} (h : H p = none) : Same H (upd H p o) := fun b x e => by
  rw [upd_ne (ne_of_none e h)]
  exact e
/-- a fresh place is nobody's -/
theorem Rel.free (R : Rel F W σ Γ) {p : Addr} (h : W.H p = none) : ¬ Ex F.H0 W.O p := fun z => by
  obtain ⟨o, q⟩ := mo_some (R.exmo z)
  rw [h] at q
  cases q
theorem S_of {p : Addr} {o : HO} (n : ¬ Ex F.H0 W.O p) (h : W.H p = some o) : W.S F p = some o := less_some.mpr ⟨n, h⟩
end

/-! ### the data readings -/
abbrev TEd := G → (RV → G → Prop) → Prop
abbrev TTd := G → (Bool → G → Prop) → Prop
abbrev TAd := G → (List RV → G → Prop) → Prop
abbrev TFd := G → (OD → G → Prop) → Prop
def VOks {K : Fg} (F : Fx K) (W : Wd) (σ : L2.St) (Γ : G) (vs : List V) (xs : List RV) : Prop := Paired (fun v x => VOk F W σ Γ v x) vs xs
/-- what a new object holds -/
def OwnH (K : Fg) (S : Hp) (ho : HO) : OD → Prop
  | .lst ds => ∃ vs, ho = .lst vs ∧ DqAll K S vs ds
  | .dK kvs => ∃ us, ho = .dK us ∧ KvOk K S us kvs
  | .dT kvs => ∃ us, ho = .dT us ∧ KvOk K S us kvs
  | .ab _ => False
class SE (K : Fg) (t : TE) (d : outParam TEd) : Prop where
  run : ∀ (F : Fx K) (W : Wd) (σ : L2.St) (Γ : G) (Q : VK) (Qd : RV → G → Prop), Rel F W σ Γ → d Γ Qd →
    (∀ (rv : RV) (W' : Wd) (Γ' : G) (v : V), Stp F W Γ W' Γ' → Rel F W' σ Γ' → VOk F W' σ Γ' v rv → Qd rv Γ' → Q v W'.H) → t σ W.H Q
class ST (K : Fg) (t : TT) (d : outParam TTd) : Prop where
  run : ∀ (F : Fx K) (W : Wd) (σ : L2.St) (Γ : G) (Q : Bool → Hp → Prop) (Qd : Bool → G → Prop), Rel F W σ Γ → d Γ Qd →
    (∀ (b : Bool) (W' : Wd) (Γ' : G), Stp F W Γ W' Γ' → Rel F W' σ Γ' → Qd b Γ' → Q b W'.H) → t σ W.H Q
class SA (K : Fg) (t : TA) (d : outParam TAd) : Prop where
  run : ∀ (F : Fx K) (W : Wd) (σ : L2.St) (Γ : G) (Q : List V → Hp → Prop) (Qd : List RV → G → Prop), Rel F W σ Γ → d Γ Qd →
    (∀ (xs : List RV) (W' : Wd) (Γ' : G) (vs : List V), Stp F W Γ W' Γ' → Rel F W' σ Γ' → VOks F W' σ Γ' vs xs → Qd xs Γ' → Q vs W'.H) → t σ W.H Q
class SEF (K : Fg) (t : TE) (d : outParam TFd) : Prop where
  run : ∀ (F : Fx K) (W : Wd) (σ : L2.St) (Γ : G) (Q : VK) (Qd : OD → G → Prop), Rel F W σ Γ → d Γ Qd →
    (∀ (o : OD) (W' : Wd) (Γ' : G) (p : Addr) (ho : HO), Stp F W Γ W' Γ' → Rel F W' σ Γ' → W'.H p = none → OwnH K (W'.S F) ho o → Qd o Γ' → Q (.ref p) (upd W'.H p ho)) → t σ W.H Q
def dats (Γ : G) : List RV → Option (List PyData)
  | [] => some []
  | x :: xs => match dat Γ x, dats Γ xs with
    | some d, some ds => some (d :: ds)
    | _, _ => none
theorem VOks.full {K : Fg} {F : Fx K} {W : Wd} {σ : L2.St} {Γ : G} (R : Rel F W σ Γ) : ∀ {xs : List RV} {vs : List V} {ds : List PyData}, VOks F W σ Γ vs xs → dats Γ xs = some ds → DqAll K W.H vs ds
  | [], _, _, h, e => by cases h; cases e; exact .nil
  | x :: xs, _, _, h, e => by
    cases h with
    | cons a b =>
      simp only [dats] at e
      split at e
      · rename_i d ds h1 h2
        cases e
        exact .cons (a.full R h1) (VOks.full R b h2)
      · cases e
theorem VOks.stp {K : Fg} {F : Fx K} {W W' : Wd} {σ : L2.St} {Γ Γ' : G} {vs : List V} {xs : List RV} (a : Stp F W Γ W' Γ') (h : VOks F W σ Γ vs xs) : VOks F W' σ Γ' vs xs := Paired.mapP h fun _ _ z => z.stp a
/-- what may be kept as it is -/
def shOf : RV → Option PyData
  | .sh d => some d
  | .ar d => if tupO d = true then some d else none
  | .own _ => none
theorem VOk.sh {K : Fg} {F : Fx K} {W : Wd} {σ : L2.St} {Γ : G} {v : V} {rv : RV} {d : PyData} (R : Rel F W σ Γ) (h : VOk F W σ Γ v rv) (e : shOf rv = some d) : Dq K (W.S F) v d := by
  cases rv with
  | sh d' => cases e; exact h
  | ar d' =>
    simp only [shOf] at e
    split at e
    · rename_i t
      cases e
      exact Dq.tupO_less (H' := W.H) (fun a z => R.exmo z) _ _ t (Dq.same R.ar_same h)
    · cases e
  | own i => cases e
section
variable {K : Fg} {F : Fx K} {W : Wd} {σ : L2.St} {Γ : G}
theorem VOk.int (i : Int) : VOk F W σ Γ (.int i) (.sh (.int i)) := Dq.int i
theorem VOk.bl (i : Bool) : VOk F W σ Γ (.bl i) (.sh (.bool i)) := Dq.bl i
theorem VOk.str (i : Str) : VOk F W σ Γ (.str i) (.sh (.str i)) := Dq.str i
theorem VOk.non : VOk F W σ Γ .non (.sh .none) := Dq.non
theorem VOk.ofSh {v : V} {d : PyData} (h : Dq K (W.S F) v d) : VOk F W σ Γ v (.sh d) := h
theorem VOk.ofAr {v : V} {d : PyData} (h : Dq K (less F.H0 F.rf) v d) : VOk F W σ Γ v (.ar d) := h
theorem VOk.ofOwn {v : V} {i : Nat} {s : Sl} (h1 : Γ[i]? = some s) (h2 : s.there = true) (h3 : σ[i]? = some (some v)) : VOk F W σ Γ v (.own i) := ⟨s, h1, h2, h3⟩
end
def shsOf : List RV → Option (List PyData)
  | [] => some []
  | x :: xs => match shOf x, shsOf xs with
    | some d, some ds => some (d :: ds)
    | _, _ => none
theorem VOks.shs {K : Fg} {F : Fx K} {W : Wd} {σ : L2.St} {Γ : G} (R : Rel F W σ Γ) : ∀ {xs : List RV} {vs : List V} {ds : List PyData}, VOks F W σ Γ vs xs → shsOf xs = some ds → DqAll K (W.S F) vs ds
  | [], _, _, h, e => by cases h; cases e; exact .nil
  | x :: xs, _, _, h, e => by
    cases h with
    | cons a b =>
      simp only [shsOf] at e
      split at e
      · rename_i d ds h1 h2
        cases e
        exact .cons (a.sh R h1) (VOks.shs R b h2)
      · cases e
theorem DqAll.len_eq {K : Fg} {H : Hp} {vs : List V} {ds : List PyData} (h : DqAll K H vs ds) : vs.length = ds.length := h.length

/-! ### names and constants -/
def slotV (Γ : G) (i : Nat) : Option RV := match Γ[i]? with
  | some (.sh d) => some (.sh d)
  | some (.ar d) => some (.ar d)
  | some (.ow _) => some (.own i)
  | some (.rf _) => some (.own i)
  | _ => none
def dVar (i : Nat) : TEd := fun Γ Q => ∃ rv, slotV Γ i = some rv ∧ Q rv Γ
def dC (d : PyData) : TEd := fun Γ Q => Q (.sh d) Γ
section
variable {K : Fg}
instance se_var (i : Nat) : SE K (tVar i) (dVar i) := ⟨fun F W σ Γ Q Qd R h k => by
  obtain ⟨rv, e, q⟩ := h
  unfold slotV at e
  split at e
  · rename_i d h1
    cases e
    obtain ⟨v, e1, e2⟩ := R.slot i _ h1
    exact ⟨v, e1, k _ W Γ v (Stp.refl ..) R (.ofSh e2) q⟩
  · rename_i d h1
    cases e
    obtain ⟨v, e1, e2⟩ := R.slot i _ h1
    exact ⟨v, e1, k _ W Γ v (Stp.refl ..) R (.ofAr e2) q⟩
  · rename_i o h1
    cases e
    obtain ⟨p, e1, e2⟩ := R.slot i _ h1
    exact ⟨_, e1, k _ W Γ _ (Stp.refl ..) R (.ofOwn h1 rfl e1) q⟩
  · rename_i o h1
    cases e
    obtain ⟨p, e0, e1, e2⟩ := R.slot i _ h1
    exact ⟨_, e1, k _ W Γ _ (Stp.refl ..) R (.ofOwn h1 rfl e1) q⟩
  · cases e⟩
instance se_int (i : Int) : SE K (tC (.int i)) (dC (.int i)) := ⟨fun F W σ Γ Q Qd R h k => k _ W Γ _ (Stp.refl ..) R (.int i) h⟩
instance se_bl (i : Bool) : SE K (tC (.bl i)) (dC (.bool i)) := ⟨fun F W σ Γ Q Qd R h k => k _ W Γ _ (Stp.refl ..) R (.bl i) h⟩
instance se_str (i : Str) : SE K (tC (.str i)) (dC (.str i)) := ⟨fun F W σ Γ Q Qd R h k => k _ W Γ _ (Stp.refl ..) R (.str i) h⟩
instance se_non : SE K (tC .non) (dC .none) := ⟨fun F W σ Γ Q Qd R h k => k _ W Γ _ (Stp.refl ..) R .non h⟩

/-! ### two operands -/
theorem two {ta tb : TE} {da db : TEd} [A : SE K ta da] [B : SE K tb db] {F : Fx K} {W : Wd} {σ : L2.St} {Γ : G} {Qd : RV → RV → G → Prop} {Q : V → V → Hp → Prop} (R : Rel F W σ Γ) (h : da Γ fun x Γ1 => db Γ1 fun y Γ2 => Qd x y Γ2)
    (k : ∀ (x y : RV) (W' : Wd) (Γ' : G) (u v : V), Stp F W Γ W' Γ' → Rel F W' σ Γ' → VOk F W' σ Γ' u x → VOk F W' σ Γ' v y → Qd x y Γ' → Q u v W'.H) : ta σ W.H fun u H1 => tb σ H1 fun v H2 => Q u v H2 :=
  A.run F W σ Γ _ _ R h fun x W1 Γ1 u s1 R1 o1 q1 => B.run F W1 σ Γ1 _ _ R1 q1 fun y W2 Γ2 v s2 R2 o2 q2 => k x y W2 Γ2 u v (s1.trans s2) R2 (o1.stp s2) o2 q2
def dI0 (h : Int → Int → PyData) (da db : TEd) : TEd := fun Γ Q => da Γ fun x Γ1 => db Γ1 fun y Γ2 => ∃ i j, dat Γ2 x = some (.int i) ∧ dat Γ2 y = some (.int j) ∧ Q (.sh (h i j)) Γ2
def dIC (C : Int → Int → Prop) (h : Int → Int → PyData) (da db : TEd) : TEd := fun Γ Q => da Γ fun x Γ1 => db Γ1 fun y Γ2 => ∃ i j, dat Γ2 x = some (.int i) ∧ dat Γ2 y = some (.int j) ∧ C i j ∧ Q (.sh (h i j)) Γ2
theorem int_of {H : Hp} {v : V} {i : Int} (h : Dq K H v (.int i)) : v = .int i := by cases h; rfl
theorem str_of {H : Hp} {v : V} {i : Str} (h : Dq K H v (.str i)) : v = .str i := by cases h; rfl
theorem bl_of {H : Hp} {v : V} {i : Bool} (h : Dq K H v (.bool i)) : v = .bl i := by cases h; rfl
section
variable {ta tb : TE} {da db : TEd}
instance se_I0i (h : Int → Int → Int) [SE K ta da] [SE K tb db] : SE K (tOp (rI0 fun i j => V.int (h i j)) ta tb) (dI0 (fun i j => .int (h i j)) da db) := ⟨fun F W σ Γ Q Qd R q k => two R q fun x y W' Γ' u v s' R' o1 o2 ⟨i, j, e1, e2, q⟩ =>
  ⟨i, j, int_of (o1.full R' e1), int_of (o2.full R' e2), k _ W' Γ' _ s' R' (.int _) q⟩⟩
instance se_I0b (h : Int → Int → Bool) [SE K ta da] [SE K tb db] : SE K (tOp (rI0 fun i j => V.bl (h i j)) ta tb) (dI0 (fun i j => .bool (h i j)) da db) := ⟨fun F W σ Γ Q Qd R q k => two R q fun x y W' Γ' u v s' R' o1 o2 ⟨i, j, e1, e2, q⟩ =>
  ⟨i, j, int_of (o1.full R' e1), int_of (o2.full R' e2), k _ W' Γ' _ s' R' (.bl _) q⟩⟩
instance se_ICi (C : Int → Int → Prop) (h : Int → Int → Int) [SE K ta da] [SE K tb db] : SE K (tOp (rI C fun i j => V.int (h i j)) ta tb) (dIC C (fun i j => .int (h i j)) da db) := ⟨fun F W σ Γ Q Qd R q k => two R q fun x y W' Γ' u v s' R' o1 o2 ⟨i, j, e1, e2, c, q⟩ =>
  ⟨i, j, int_of (o1.full R' e1), int_of (o2.full R' e2), c, k _ W' Γ' _ s' R' (.int _) q⟩⟩
/-- == of numbers, texts, bools -/
def eqS : PyData → PyData → Option Bool
  | .int i, .int j => some (decide (i = j))
  | .str i, .str j => some (decide (i = j))
  | .bool i, .bool j => some (decide (i = j))
  | _, _ => none
def dEq (f : Bool → Bool) (da db : TEd) : TEd := fun Γ Q => da Γ fun x Γ1 => db Γ1 fun y Γ2 => ∃ a b c, dat Γ2 x = some a ∧ dat Γ2 y = some b ∧ eqS a b = some c ∧ Q (.sh (.bool (f c))) Γ2
theorem eqS_ok {H : Hp} {u v : V} {a b : PyData} {c : Bool} (h1 : Dq K H u a) (h2 : Dq K H v b) (e : eqS a b = some c) : scal u v = true ∧ decide (u = v) = c := by
  cases a <;> cases b <;> simp only [eqS] at e <;> try cases e
  all_goals (cases h1; cases h2; refine ⟨rfl, ?_⟩; simp)
instance se_eq [SE K ta da] [SE K tb db] : SE K (tOp rEq ta tb) (dEq id da db) := ⟨fun F W σ Γ Q Qd R q k => two R q fun x y W' Γ' u v s' R' o1 o2 ⟨a, b, c, e1, e2, e3, q⟩ => by
  obtain ⟨h1, h2⟩ := eqS_ok (o1.full R' e1) (o2.full R' e2) e3
  refine ⟨h1, ?_⟩
  rw [h2]
  exact k _ W' Γ' _ s' R' (.bl c) q⟩
instance se_ne [SE K ta da] [SE K tb db] : SE K (tOp rNe ta tb) (dEq not da db) := ⟨fun F W σ Γ Q Qd R q k => two R q fun x y W' Γ' u v s' R' o1 o2 ⟨a, b, c, e1, e2, e3, q⟩ => by
  obtain ⟨h1, h2⟩ := eqS_ok (o1.full R' e1) (o2.full R' e2) e3
  refine ⟨h1, ?_⟩
  rw [h2]
  exact k _ W' Γ' _ s' R' (.bl (!c)) q⟩
/-- == of data -/
def dEqD (f : Bool → Bool) (da db : TEd) : TEd := fun Γ Q => da Γ fun x Γ1 => db Γ1 fun y Γ2 => ∃ a b, dat Γ2 x = some a ∧ dat Γ2 y = some b ∧ SeqAt.shaped a = true ∧ SeqAt.shaped b = true ∧ Q (.sh (.bool (f (PyData.eqv a b)))) Γ2
instance se_eqD [SE K ta da] [SE K tb db] : SE K (tOp (rEqD K) ta tb) (dEqD id da db) := ⟨fun F W σ Γ Q Qd R q k => two R q fun x y W' Γ' u v s' R' o1 o2 ⟨a, b, e1, e2, s1, s2, q⟩ =>
  ⟨a, b, Dq.dp _ _ (o1.full R' e1), Dq.dp _ _ (o2.full R' e2), s1, s2, k _ W' Γ' _ s' R' (.bl _) q⟩⟩
instance se_neD [SE K ta da] [SE K tb db] : SE K (tOp (rNeD K) ta tb) (dEqD not da db) := ⟨fun F W σ Γ Q Qd R q k => two R q fun x y W' Γ' u v s' R' o1 o2 ⟨a, b, e1, e2, s1, s2, q⟩ =>
  ⟨a, b, Dq.dp _ _ (o1.full R' e1), Dq.dp _ _ (o2.full R' e2), s1, s2, k _ W' Γ' _ s' R' (.bl _) q⟩⟩
/-- -a -/
def dU (h : Int → PyData) (da : TEd) : TEd := fun Γ Q => da Γ fun x Γ1 => ∃ i, dat Γ1 x = some (.int i) ∧ Q (.sh (h i)) Γ1
instance se_U (h : Int → Int) [A : SE K ta da] : SE K (tUn (rU fun i => V.int (h i)) ta) (dU (fun i => .int (h i)) da) := ⟨fun F W σ Γ Q Qd R q k => A.run F W σ Γ _ _ R q fun x W' Γ' u s' R' o1 ⟨i, e1, q⟩ =>
  ⟨i, int_of (o1.full R' e1), k _ W' Γ' _ s' R' (.int _) q⟩⟩
/-- chains -/
def dChain (h h' : Int → Int → Bool) (da db dc : TEd) : TEd := fun Γ Q => da Γ fun x Γ1 => db Γ1 fun y Γ2 => ∃ i j, dat Γ2 x = some (.int i) ∧ dat Γ2 y = some (.int j) ∧ (h i j = true → dc Γ2 fun z Γ3 => ∃ l, dat Γ3 z = some (.int l) ∧ Q (.sh (.bool (h' j l))) Γ3) ∧ (h i j = false → Q (.sh (.bool false)) Γ2)
instance se_chain (h h' : Int → Int → Bool) {tc : TE} {dc : TEd} [SE K ta da] [SE K tb db] [C : SE K tc dc] : SE K (tChain (rI0 fun i j => V.bl (h i j)) (rI0 fun i j => V.bl (h' i j)) ta tb tc) (dChain h h' da db dc) := ⟨fun F W σ Γ Q Qd R q k => two (ta := ta) (tb := tb) (da := da) (db := db) R q fun x y W' Γ' u v s' R' o1 o2 ⟨i, j, e1, e2, q1, q2⟩ => by
  have ev := int_of (o2.full R' e2)
  refine ⟨i, j, int_of (o1.full R' e1), ev, h i j, rfl, ?_⟩
  cases hb : h i j with
  | true =>
    refine iteT (C.run F W' σ Γ' _ _ R' (q1 hb) fun z W2 Γ2 w s2 R2 o3 ⟨l, e3, q⟩ => ?_)
    exact ⟨j, l, ev, int_of (o3.full R2 e3), k _ W2 Γ2 _ (s'.trans s2) R2 (.bl _) q⟩
  | false => exact iteF (k _ W' Γ' _ s' R' (.bl _) (q2 hb))⟩
end

/-! ### tests -/
section
variable {ta : TE} {da : TEd} {t u : TT} {d e : TTd}
def dTest (da : TEd) : TTd := fun Γ Q => da Γ fun x Γ1 => ∃ b, dat Γ1 x = some (.bool b) ∧ Q b Γ1
instance st_test [A : SE K ta da] : ST K (tTest ta) (dTest da) := ⟨fun F W σ Γ Q Qd R q k => A.run F W σ Γ _ _ R q fun x W' Γ' v s' R' o1 ⟨b, e1, q⟩ =>
  ⟨b, bl_of (o1.full R' e1), k b W' Γ' s' R' q⟩⟩
instance st_tB [A : SE K ta da] : ST K (tB ta) (dTest da) := ⟨fun F W σ Γ Q Qd R q k => A.run F W σ Γ _ _ R q fun x W' Γ' v s' R' o1 ⟨b, e1, q⟩ =>
  ⟨b, bl_of (o1.full R' e1), k b W' Γ' s' R' q⟩⟩
def dAnd (d e : TTd) : TTd := fun Γ Q => d Γ fun b Γ1 => if b = true then e Γ1 Q else Q false Γ1
def dOr (d e : TTd) : TTd := fun Γ Q => d Γ fun b Γ1 => if b = true then Q true Γ1 else e Γ1 Q
def dNot (d : TTd) : TTd := fun Γ Q => d Γ fun b Γ1 => Q (!b) Γ1
instance st_and [A : ST K t d] [B : ST K u e] : ST K (tAnd t u) (dAnd d e) := ⟨fun F W σ Γ Q Qd R q k => A.run F W σ Γ _ _ R q fun b W' Γ' s' R' q => by
  cases b with
  | true => rw [if_pos rfl] at q; exact iteT (B.run F W' σ Γ' _ _ R' q fun b' W2 Γ2 s2 R2 q => k b' W2 Γ2 (s'.trans s2) R2 q)
  | false => rw [if_neg Bool.false_ne_true] at q; exact iteF (k _ W' Γ' s' R' q)⟩
instance st_or [A : ST K t d] [B : ST K u e] : ST K (tOr t u) (dOr d e) := ⟨fun F W σ Γ Q Qd R q k => A.run F W σ Γ _ _ R q fun b W' Γ' s' R' q => by
  cases b with
  | false => rw [if_neg Bool.false_ne_true] at q; exact iteF (B.run F W' σ Γ' _ _ R' q fun b' W2 Γ2 s2 R2 q => k b' W2 Γ2 (s'.trans s2) R2 q)
  | true => rw [if_pos rfl] at q; exact iteT (k _ W' Γ' s' R' q)⟩
instance st_not [A : ST K t d] : ST K (tNot t) (dNot d) := ⟨fun F W σ Γ Q Qd R q k => A.run F W σ Γ _ _ R q fun b W' Γ' s' R' q => k _ W' Γ' s' R' q⟩
/-- as values -/
def dAndV (d e : TEd) : TEd := fun Γ Q => d Γ fun x Γ1 => ∃ b, dat Γ1 x = some (.bool b) ∧ if b = true then e Γ1 Q else Q (.sh (.bool false)) Γ1
def dOrV (d e : TEd) : TEd := fun Γ Q => d Γ fun x Γ1 => ∃ b, dat Γ1 x = some (.bool b) ∧ if b = true then Q (.sh (.bool true)) Γ1 else e Γ1 Q
def dNotV (d : TEd) : TEd := fun Γ Q => d Γ fun x Γ1 => ∃ b, dat Γ1 x = some (.bool b) ∧ Q (.sh (.bool (!b))) Γ1
instance se_andV {tb : TE} {db : TEd} [A : SE K ta da] [B : SE K tb db] : SE K (tAndV ta tb) (dAndV da db) := ⟨fun F W σ Γ Q Qd R q k => A.run F W σ Γ _ _ R q fun x W' Γ' v s' R' o1 ⟨b, e1, q⟩ => by
  refine ⟨b, bl_of (o1.full R' e1), ?_⟩
  cases b with
  | true => rw [if_pos rfl] at q; exact iteT (B.run F W' σ Γ' _ _ R' q fun b' W2 Γ2 v2 s2 R2 o2 q => k b' W2 Γ2 v2 (s'.trans s2) R2 o2 q)
  | false => rw [if_neg Bool.false_ne_true] at q; exact iteF (k _ W' Γ' _ s' R' (.bl false) q)⟩
instance se_orV {tb : TE} {db : TEd} [A : SE K ta da] [B : SE K tb db] : SE K (tOrV ta tb) (dOrV da db) := ⟨fun F W σ Γ Q Qd R q k => A.run F W σ Γ _ _ R q fun x W' Γ' v s' R' o1 ⟨b, e1, q⟩ => by
  refine ⟨b, bl_of (o1.full R' e1), ?_⟩
  cases b with
  | false => rw [if_neg Bool.false_ne_true] at q; exact iteF (B.run F W' σ Γ' _ _ R' q fun b' W2 Γ2 v2 s2 R2 o2 q => k b' W2 Γ2 v2 (s'.trans s2) R2 o2 q)
  | true => rw [if_pos rfl] at q; exact iteT (k _ W' Γ' _ s' R' (.bl true) q)⟩
instance se_notV [A : SE K ta da] : SE K (tNotV ta) (dNotV da) := ⟨fun F W σ Γ Q Qd R q k => A.run F W σ Γ _ _ R q fun x W' Γ' v s' R' o1 ⟨b, e1, q⟩ =>
  ⟨b, bl_of (o1.full R' e1), k _ W' Γ' _ s' R' (.bl _) q⟩⟩
def dIfE (d : TTd) (da db : TEd) : TEd := fun Γ Q => d Γ fun b Γ1 => if b = true then da Γ1 Q else db Γ1 Q
instance se_ifE {tb : TE} {db : TEd} [T : ST K t d] [A : SE K ta da] [B : SE K tb db] : SE K (tIf t ta tb) (dIfE d da db) := ⟨fun F W σ Γ Q Qd R q k => T.run F W σ Γ _ _ R q fun b W' Γ' s' R' q => by
  cases b with
  | true => rw [if_pos rfl] at q; exact iteT (A.run F W' σ Γ' _ _ R' q fun x W2 Γ2 v s2 R2 o2 q => k x W2 Γ2 v (s'.trans s2) R2 o2 q)
  | false => rw [if_neg Bool.false_ne_true] at q; exact iteF (B.run F W' σ Γ' _ _ R' q fun x W2 Γ2 v s2 R2 o2 q => k x W2 Γ2 v (s'.trans s2) R2 o2 q)⟩
end

/-! ### arguments, tuples, lists, calls -/
section
variable {ta : TE} {da : TEd} {t : TA} {d : TAd}
def dNil : TAd := fun Γ Q => Q [] Γ
def dCons (da : TEd) (d : TAd) : TAd := fun Γ Q => da Γ fun x Γ1 => d Γ1 fun xs Γ2 => Q (x :: xs) Γ2
instance sa_nil : SA K tNil dNil := ⟨fun F W σ Γ Q Qd R q k => k [] W Γ [] (Stp.refl ..) R .nil q⟩
instance sa_cons [A : SE K ta da] [B : SA K t d] : SA K (tCons ta t) (dCons da d) := ⟨fun F W σ Γ Q Qd R q k => A.run F W σ Γ _ _ R q fun x W' Γ' v s' R' o1 q =>
  B.run F W' σ Γ' _ _ R' q fun xs W2 Γ2 vs s2 R2 o2 q => k (x :: xs) W2 Γ2 (v :: vs) (s'.trans s2) R2 (.cons (o1.stp s2) o2) q⟩
def dTup (d : TAd) : TEd := fun Γ Q => d Γ fun xs Γ1 => ∃ ds, shsOf xs = some ds ∧ ds.length ≤ sizeLine ∧ Q (.sh (.tuple ds)) Γ1
instance se_tup [A : SA K t d] : SE K (tTup t) (dTup d) := ⟨fun F W σ Γ Q Qd R q k => A.run F W σ Γ _ _ R q fun xs W' Γ' vs s' R' o1 ⟨ds, e1, hl, q⟩ => by
  have hd := o1.shs R' e1
  refine ⟨by rw [hd.length]; exact hl, fun p hp => ?_⟩
  have hS := same_new (o := .tup vs) hp
  refine k (.sh (.tuple ds)) { W' with H := upd W'.H p (.tup vs) } Γ' (.ref p) (s'.trans (Stp.grow R' hS)) (R'.grow hS).1 ?_ q
  exact .tup (.inl (S_of (W := { W' with H := upd W'.H p (.tup vs) }) (R'.free hp) upd_same)) (hd.same (R'.grow hS).2)⟩
def dLst (d : TAd) : TFd := fun Γ Q => d Γ fun xs Γ1 => ∃ ds, shsOf xs = some ds ∧ ds.length ≤ sizeLine ∧ Q (.lst ds) Γ1
instance sf_lst [A : SA K t d] : SEF K (tLst t) (dLst d) := ⟨fun F W σ Γ Q Qd R q k => A.run F W σ Γ _ _ R q fun xs W' Γ' vs s' R' o1 ⟨ds, e1, hl, q⟩ => by
  have hd := o1.shs R' e1
  exact ⟨by rw [hd.length]; exact hl, fun p hp => k (.lst ds) W' Γ' p _ s' R' hp ⟨vs, rfl, hd⟩ q⟩⟩
/-- a new list that nobody will change -/
def dFrz (d : TFd) : TEd := fun Γ Q => d Γ fun o Γ1 => ∃ ds, o = .lst ds ∧ Q (.sh (.list ds)) Γ1
instance (priority := low) se_frz {te : TE} {df : TFd} [A : SEF K te df] : SE K te (dFrz df) := ⟨fun F W σ Γ Q Qd R q k => A.run F W σ Γ _ _ R q fun o W' Γ' p ho s' R' hp oh ⟨ds, e1, q⟩ => by
  subst e1
  obtain ⟨vs, e2, hd⟩ := oh
  subst e2
  have hS := same_new (o := .lst vs) hp
  refine k (.sh (.list ds)) { W' with H := upd W'.H p (.lst vs) } Γ' (.ref p) (s'.trans (Stp.grow R' hS)) (R'.grow hS).1 ?_ q
  exact .lst (S_of (W := { W' with H := upd W'.H p (.lst vs) }) (R'.free hp) upd_same) (hd.same (R'.grow hS).2)⟩
/-- a promise in data: nothing that stood is changed, the answer is new but for its tuples -/
def PureSp (K : Fg) (C : List PyData → (PyData → Prop) → Prop) : Sp := fun vs H Q _ => ∃ (ds : List PyData) (Qd : PyData → Prop), DqAll K H vs ds ∧ C ds Qd ∧ ∀ (v : V) (H' : Hp) (d : PyData), Same H H' → Dq K (less H' fun a => Mo (H a)) v d → Qd d → Q v H'
def dCall (C : List PyData → (PyData → Prop) → Prop) (d : TAd) : TEd := fun Γ Q => d Γ fun xs Γ1 => ∃ ds, dats Γ1 xs = some ds ∧ C ds fun r => Q (.sh r) Γ1
instance se_call {C : List PyData → (PyData → Prop) → Prop} {E : XK} [A : SA K t d] : SE K (tCall (PureSp K C) [] E t) (dCall C d) := ⟨fun F W σ Γ Q Qd R q k => A.run F W σ Γ _ _ R q fun xs W' Γ' vs s' R' o1 ⟨ds, e1, q⟩ => by
  rw [List.append_nil]
  refine ⟨ds, _, o1.full R' e1, q, fun v H' r hS hv hq => ?_⟩
  refine k (.sh r) { W' with H := H' } Γ' v (s'.trans (Stp.grow R' hS)) (R'.grow hS).1 ?_ hq
  exact hv.same (same_less fun a o nx e => ⟨fun z => nx (R'.exmo z), e⟩)⟩
/-- .. the answer is a new list -/
def FreshSp (K : Fg) (C : List PyData → (OD → Prop) → Prop) : Sp := fun vs H Q _ => ∃ (ds : List PyData) (Qd : OD → Prop), DqAll K H vs ds ∧ C ds Qd ∧ ∀ (p : Addr) (ho : HO) (H' : Hp) (o : OD), Same H H' → H' p = none → OwnH K (less H' fun a => Mo (H a)) ho o → Qd o → Q (.ref p) (upd H' p ho)
def dCallF (C : List PyData → (OD → Prop) → Prop) (d : TAd) : TFd := fun Γ Q => d Γ fun xs Γ1 => ∃ ds, dats Γ1 xs = some ds ∧ C ds fun r => Q r Γ1
theorem OwnH.same {S S' : Hp} {ho : HO} {o : OD} (h : OwnH K S ho o) (e : Same S S') : OwnH K S' ho o := by
  cases o with
  | lst ds => obtain ⟨vs, h1, h2⟩ := h; exact ⟨vs, h1, h2.same e⟩
  | dK ds => obtain ⟨vs, h1, h2⟩ := h; exact ⟨vs, h1, Paired.mapP h2 fun _ _ z => ⟨z.1, z.2.same e⟩⟩
  | dT ds => obtain ⟨vs, h1, h2⟩ := h; exact ⟨vs, h1, Paired.mapP h2 fun _ _ z => ⟨z.1, z.2.same e⟩⟩
  | ab I => exact h
instance sf_call {C : List PyData → (OD → Prop) → Prop} {E : XK} [A : SA K t d] : SEF K (tCall (FreshSp K C) [] E t) (dCallF C d) := ⟨fun F W σ Γ Q Qd R q k => A.run F W σ Γ _ _ R q fun xs W' Γ' vs s' R' o1 ⟨ds, e1, q⟩ => by
  rw [List.append_nil]
  refine ⟨ds, _, o1.full R' e1, q, fun p ho H' r hS hp hv hq => ?_⟩
  refine k r { W' with H := H' } Γ' p ho (s'.trans (Stp.grow R' hS)) (R'.grow hS).1 hp ?_ hq
  exact hv.same (same_less fun a o nx e => ⟨fun z => nx (R'.exmo z), e⟩)⟩
end
end
end Dk

namespace Dk
open PySem PySem.Spec PyProof.Rows L2
/-! ### names stored -/
section
variable {K : Fg} {F : Fx K} {W : Wd} {σ : L2.St} {Γ : G}
def notRf (Γ : G) (i : Nat) : Bool := match Γ[i]? with
  | some (.rf _) => false
  | _ => true
theorem get_set {α : Type} (l : List α) (i j : Nat) (x y : α) (h : (l.set i x)[j]? = some y) : (j = i ∧ y = x ∧ i < l.length) ∨ (j ≠ i ∧ l[j]? = some y) := by
  by_cases e : j = i
  · subst e
    rw [List.getElem?_set_self'] at h
    cases q : l[j]? with
    | none => rw [q] at h; cases h
    | some z =>
      rw [q] at h
      refine .inl ⟨rfl, ?_, (List.getElem?_eq_some_iff.mp q).1⟩
      simpa using h.symm
  · rw [List.getElem?_set_ne (Ne.symm e)] at h
    exact .inr ⟨e, h⟩
theorem get_set_same {l : List (Option V)} {i : Nat} {x : Option V} (h : i < l.length) : (l.set i x)[i]? = some x := List.getElem?_set_self h
/-- a shared thing is given a name -/
theorem Rel.setSh (R : Rel F W σ Γ) {i : Nat} {v : V} {d : PyData} (hv : Dq K (W.S F) v d) : Rel F W (σ.set i (some v)) (Γ.set i (.sh d)) := by
  refine ⟨R.base, R.new, R.mu, R.rfo, by simp [R.len], fun j s e => ?_, fun j k s t oi oj a ne e1 e2 h1 h2 => ?_⟩
  · rcases get_set _ _ _ _ _ e with ⟨rfl, rfl, hl⟩ | ⟨ne, e⟩
    · exact ⟨v, get_set_same (by rw [R.len]; exact hl), hv⟩
    · rw [List.getElem?_set_ne (Ne.symm ne)]
      exact R.slot j s e
  · rcases get_set _ _ _ _ _ e1 with ⟨rfl, rfl, _⟩ | ⟨ne1, e1⟩
    · cases h1
    · rcases get_set _ _ _ _ _ e2 with ⟨rfl, rfl, _⟩ | ⟨ne2, e2⟩
      · cases h2
      · exact R.dis j k s t oi oj a ne e1 e2 h1 h2
theorem Rel.setAr (R : Rel F W σ Γ) {i : Nat} {v : V} {d : PyData} (hv : Dq K (less F.H0 F.rf) v d) : Rel F W (σ.set i (some v)) (Γ.set i (.ar d)) := by
  refine ⟨R.base, R.new, R.mu, R.rfo, by simp [R.len], fun j s e => ?_, fun j k s t oi oj a ne e1 e2 h1 h2 => ?_⟩
  · rcases get_set _ _ _ _ _ e with ⟨rfl, rfl, hl⟩ | ⟨ne, e⟩
    · exact ⟨v, get_set_same (by rw [R.len]; exact hl), hv⟩
    · rw [List.getElem?_set_ne (Ne.symm ne)]
      exact R.slot j s e
  · rcases get_set _ _ _ _ _ e1 with ⟨rfl, rfl, _⟩ | ⟨ne1, e1⟩
    · cases h1
    · rcases get_set _ _ _ _ _ e2 with ⟨rfl, rfl, _⟩ | ⟨ne2, e2⟩
      · cases h2
      · exact R.dis j k s t oi oj a ne e1 e2 h1 h2
/-- any value, the name forgotten -/
theorem Rel.setNo (R : Rel F W σ Γ) {i : Nat} {x : Option V} : Rel F W (σ.set i x) (Γ.set i .no) := by
  refine ⟨R.base, R.new, R.mu, R.rfo, by simp [R.len], fun j s e => ?_, fun j k s t oi oj a ne e1 e2 h1 h2 => ?_⟩
  · rcases get_set _ _ _ _ _ e with ⟨rfl, rfl, hl⟩ | ⟨ne, e⟩
    · trivial
    · rw [List.getElem?_set_ne (Ne.symm ne)]
      exact R.slot j s e
  · rcases get_set _ _ _ _ _ e1 with ⟨rfl, rfl, _⟩ | ⟨ne1, e1⟩
    · cases h1
    · rcases get_set _ _ _ _ _ e2 with ⟨rfl, rfl, _⟩ | ⟨ne2, e2⟩
      · cases h2
      · exact R.dis j k s t oi oj a ne e1 e2 h1 h2
theorem mo_ownH {S : Hp} {ho : HO} {o : OD} (h : OwnH K S ho o) : Mo (some ho) := by
  cases o with
  | lst ds => obtain ⟨vs, rfl, _⟩ := h; trivial
  | dK ds => obtain ⟨vs, rfl, _⟩ := h; trivial
  | dT ds => obtain ⟨vs, rfl, _⟩ := h; trivial
  | ab I => exact h.elim
theorem ownH_ok {S H : Hp} {p : Addr} {ho : HO} {o : OD} (h : OwnH K S ho o) (e : H p = some ho) : OwnOk K S H p [p] o := by
  cases o with
  | lst ds => obtain ⟨vs, rfl, q⟩ := h; exact ⟨rfl, vs, e, q⟩
  | dK ds => obtain ⟨vs, rfl, q⟩ := h; exact ⟨rfl, vs, e, q⟩
  | dT ds => obtain ⟨vs, rfl, q⟩ := h; exact ⟨rfl, vs, e, q⟩
  | ab I => exact h.elim
theorem slot_O {W : Wd} {i : Nat} {x : Option (Option V)} {s : Sl} {o : OD} (z : SlotOk F W i x s) (so : s.own? = some o) : ∀ a ∈ W.ft i, W.O a := by
  cases s with
  | no => cases so
  | sh _ => cases so
  | ar _ => cases so
  | ow o => obtain ⟨p, _, q, _⟩ := z; exact fun a ha => (q a ha).1
  | rf o => obtain ⟨p, _, _, q, _⟩ := z; exact q
/-- a new object is given a name, to be changed by it -/
theorem Rel.setNew (R : Rel F W σ Γ) {i : Nat} {p : Addr} {ho : HO} {o : OD} (hp : W.H p = none) (hh : OwnH K (W.S F) ho o) :
    ∃ W' : Wd, W'.H = upd W.H p ho ∧ Same (W.S F) (W'.S F) ∧ Rel F W' (σ.set i (some (.ref p))) (Γ.set i (.ow o)) := by
  have nO : ¬ W.O p := fun z => R.free hp (.inr z)
  have nH0 : F.H0 p = none := by
    cases q : F.H0 p with
    | none => rfl
    | some u =>
      by_cases r : F.rf p
      · exact (nO (R.rfo p r)).elim
      · have := R.base p u q r
        rw [hp] at this
        cases this
  let W' : Wd := ⟨fun a => a = p ∨ W.O a, fun j => if j = i then [p] else W.ft j, upd W.H p ho⟩
  have hs : Same (W.S F) (W'.S F) := same_less fun a u nx e => by
    have ne : a ≠ p := ne_of_none e hp
    refine ⟨fun z => ?_, by show upd W.H p ho a = some u; rw [upd_ne ne]; exact e⟩
    rcases z with z | z | z
    · exact nx (.inl z)
    · exact ne z
    · exact nx (.inr z)
  have keep : ∀ a, W.O a → W'.H a = W.H a := fun a ha => by
    show upd W.H p ho a = W.H a
    rw [upd_ne]
    intro z
    subst z
    exact nO ha
  refine ⟨W', rfl, hs, ⟨fun a u e nr => ?_, fun a ha => ?_, fun a ha => ?_, fun a ha => .inr (R.rfo a ha), by simp [R.len], fun j s e => ?_, fun j k s t oi oj a ne e1 e2 h1 h2 => ?_⟩⟩
  · have q := R.base a u e nr
    show upd W.H p ho a = some u
    rw [upd_ne (ne_of_none q hp)]
    exact q
  · rcases ha with rfl | ha
    · exact .inl nH0
    · exact R.new a ha
  · rcases ha with rfl | ha
    · show Mo (upd W.H a ho a)
      rw [upd_same]
      exact mo_ownH hh
    · rw [keep a ha]
      exact R.mu a ha
  · rcases get_set _ _ _ _ _ e with ⟨rfl, rfl, hl⟩ | ⟨ne, e⟩
    · have f : W'.ft j = [p] := if_pos rfl
      refine ⟨p, get_set_same (by rw [R.len]; exact hl), by rw [f]; intro a ha; rw [List.mem_singleton] at ha; exact ⟨.inl ha, by rw [ha]; exact fun z => nO (R.rfo p z)⟩, by rw [f]; exact ownH_ok (hh.same hs) upd_same⟩
    · rw [List.getElem?_set_ne (Ne.symm ne)]
      have z := R.slot j s e
      refine z.keep (W' := W') (if_neg ne) hs (fun a _ q => .inr q) (fun a ha so => ?_) (Same.ts (same_new hp))
      obtain ⟨o', so⟩ := Option.isSome_iff_exists.mp so
      exact keep a (slot_O z so a ha)
  · intro ha hb
    have fi : ∀ j, j ≠ i → W'.ft j = W.ft j := fun j q => if_neg q
    have fs : W'.ft i = [p] := if_pos rfl
    rcases get_set _ _ _ _ _ e1 with ⟨q1, _, _⟩ | ⟨ne1, g1⟩
    · rcases get_set _ _ _ _ _ e2 with ⟨q2, _, _⟩ | ⟨ne2, g2⟩
      · exact ne (q1.trans q2.symm)
      · rw [q1, fs, List.mem_singleton] at ha
        subst ha
        rw [fi k ne2] at hb
        exact nO (slot_O (R.slot k t g2) h2 _ hb)
    · rcases get_set _ _ _ _ _ e2 with ⟨q2, _, _⟩ | ⟨ne2, g2⟩
      · rw [q2, fs, List.mem_singleton] at hb
        subst hb
        rw [fi j ne1] at ha
        exact nO (slot_O (R.slot j s g1) h1 _ ha)
      · rw [fi j ne1] at ha
        rw [fi k ne2] at hb
        exact R.dis j k s t oi oj a ne g1 g2 h1 h2 ha hb
/-- the object of a name is changed in its place -/
def setOwn (s : Sl) (o : OD) : Sl := match s with
  | .ow _ => .ow o
  | .rf _ => .rf o
  | s => s
def plainOD : OD → Bool
  | .ab _ => false
  | _ => true
theorem Rel.put (R : Rel F W σ Γ) {i : Nat} {p : Addr} {s : Sl} {ho : HO} {o o' : OD} (h1 : Γ[i]? = some s) (h2 : s.own? = some o) (hp : plainOD o = true) (h3 : σ[i]? = some (some (.ref p))) (hh : OwnH K (W.S F) ho o') :
    Rel F { W with H := upd W.H p ho } σ (Γ.set i (setOwn s o')) ∧ (({ W with H := upd W.H p ho } : Wd).S F) = W.S F := by
  have z := R.slot i s h1
  obtain ⟨hO, hf, hM⟩ : W.O p ∧ W.ft i = [p] ∧ (∀ q, s = .rf q → F.rp i = some (p, W.ft i)) := by
    have hfp : ∀ q, OwnOk K (W.S F) W.H q (W.ft i) o → W.ft i = [q] := fun q r => by
      cases o with
      | lst ds => exact r.1
      | dK ds => exact r.1
      | dT ds => exact r.1
      | ab I => cases hp
    cases s with
    | no => cases h2
    | sh _ => cases h2
    | ar _ => cases h2
    | ow q =>
      cases h2
      obtain ⟨p', e, a, b⟩ := z
      rw [h3] at e
      cases e
      have f := hfp p b
      exact ⟨(a p (by rw [f]; simp)).1, f, fun q r => by cases r⟩
    | rf q =>
      cases h2
      obtain ⟨p', e0, e, a, b⟩ := z
      rw [h3] at e
      cases e
      have f := hfp p b
      exact ⟨a p (by rw [f]; simp), f, fun q r => e0⟩
  have hS : (({ W with H := upd W.H p ho } : Wd).S F) = W.S F := by
    funext a
    show less (upd W.H p ho) (Ex F.H0 W.O) a = less W.H (Ex F.H0 W.O) a
    unfold less
    by_cases q : Ex F.H0 W.O a
    · rw [if_pos q, if_pos q]
    · rw [if_neg q, if_neg q, upd_ne]
      intro e
      subst e
      exact q (.inr hO)
  refine ⟨⟨fun a u e nr => ?_, R.new, fun a ha => ?_, R.rfo, by simp [R.len], fun j t e => ?_, fun j k t1 t2 oi oj a ne e1 e2 g1 g2 => ?_⟩, hS⟩
  · show upd W.H p ho a = some u
    rw [upd_ne]
    · exact R.base a u e nr
    · intro q
      subst q
      rcases R.new a hO with q | q
      · rw [q] at e; cases e
      · exact nr q
  · by_cases q : a = p
    · subst q
      show Mo (upd W.H a ho a)
      rw [upd_same]
      exact mo_ownH hh
    · show Mo (upd W.H p ho a)
      rw [upd_ne q]
      exact R.mu a ha
  · rcases get_set _ _ _ _ _ e with ⟨rfl, rfl, hl⟩ | ⟨ne, e⟩
    · have ok : OwnOk K (({ W with H := upd W.H p ho } : Wd).S F) (upd W.H p ho) p (W.ft j) o' := by
        rw [hS, hf]
        exact ownH_ok hh upd_same
      have hin : ∀ a ∈ W.ft j, W.O a := fun a ha => by
        rw [hf, List.mem_singleton] at ha
        rw [ha]
        exact hO
      cases s with
      | no => cases h2
      | sh _ => cases h2
      | ar _ => cases h2
      | ow q =>
        obtain ⟨p', e', a', _⟩ := z
        exact ⟨p, h3, fun a ha => ⟨hin a ha, (a' a ha).2⟩, ok⟩
      | rf q => exact ⟨p, hM q rfl, h3, hin, ok⟩
    · have zj := R.slot j t e
      have hts : Tx W.H (upd W.H p ho) := fun a u nm q => by
        rw [upd_ne]
        · exact q
        · intro w
          subst w
          have m := R.mu a hO
          rw [q] at m
          exact nm m
      refine zj.keep (W' := { W with H := upd W.H p ho }) rfl (by rw [hS]; exact Same.refl _) (fun _ _ q => q) (fun a ha so => ?_) hts
      obtain ⟨oj, so⟩ := Option.isSome_iff_exists.mp so
      show upd W.H p ho a = W.H a
      rw [upd_ne]
      intro w
      subst w
      exact R.dis j i t s oj o a ne e h1 so h2 ha (by rw [hf]; simp)
  · have q : ∀ (j : Nat) (t : Sl) (oj : OD), (Γ.set i (setOwn s o'))[j]? = some t → t.own? = some oj → ∃ t' oj', Γ[j]? = some t' ∧ t'.own? = some oj' := fun j t oj e g => by
      rcases get_set _ _ _ _ _ e with ⟨rfl, _, _⟩ | ⟨_, e⟩
      · exact ⟨s, o, h1, h2⟩
      · exact ⟨t, oj, e, g⟩
    obtain ⟨t1', o1', a1, b1⟩ := q j t1 oi e1 g1
    obtain ⟨t2', o2', a2, b2⟩ := q k t2 oj e2 g2
    exact R.dis j k t1' t2' o1' o2' a ne a1 a2 b1 b2
theorem Stp.put (R : Rel F W σ Γ) {i : Nat} {p : Addr} {s : Sl} {ho : HO} {o o' : OD} (h1 : Γ[i]? = some s) (h2 : s.own? = some o) (hp : plainOD o = true) (h3 : σ[i]? = some (some (.ref p))) (hh : OwnH K (W.S F) ho o') :
    Stp F W Γ { W with H := upd W.H p ho } (Γ.set i (setOwn s o')) := by
  have fp : p ∈ W.ft i := by
    have z := R.slot i s h1
    have hfp : ∀ q, OwnOk K (W.S F) W.H q (W.ft i) o → W.ft i = [q] := fun q r => by
      cases o with
      | lst ds => exact r.1
      | dK ds => exact r.1
      | dT ds => exact r.1
      | ab I => cases hp
    cases s with
    | no => cases h2
    | sh _ => cases h2
    | ar _ => cases h2
    | ow q =>
      cases h2
      obtain ⟨p', e, a, b⟩ := z
      rw [h3] at e
      cases e
      rw [hfp p b]
      simp
    | rf q =>
      cases h2
      obtain ⟨p', e0, e, a, b⟩ := z
      rw [h3] at e
      cases e
      rw [hfp p b]
      simp
  refine ⟨⟨by rw [(R.put h1 h2 hp h3 hh).2]; exact Same.refl _, fun q t => ⟨⟨t.1, fun j t' o2 e g => ?_⟩, ?_⟩⟩, fun j t e => ?_, by simp⟩
  · rcases get_set _ _ _ _ _ e with ⟨rfl, _, _⟩ | ⟨_, e⟩
    · exact t.2 j s o h1 h2
    · exact t.2 j t' o2 e g
  · show upd W.H p ho q = W.H q
    rw [upd_ne]
    intro z
    subst z
    exact t.2 i s o h1 h2 fp
  · by_cases q : j = i
    · subst q
      rw [h1] at e
      cases e
      refine ⟨_, List.getElem?_set_self (List.getElem?_eq_some_iff.mp h1).1, ?_, (fun z => by rw [h2] at z; cases z), fun o3 z => ?_⟩
      · cases s <;> first | rfl | exact fun z => z
      · subst z
        exact ⟨o', rfl⟩
    · exact ⟨t, by rw [List.getElem?_set_ne (Ne.symm q)]; exact e, fun z => z, fun _ => rfl, fun o z => ⟨o, z⟩⟩
theorem Kp.setNon {i : Nat} {s : Sl} (h : s.own? = none) : Kp F W Γ W (Γ.set i s) := ⟨Same.refl _, fun p t => ⟨⟨t.1, fun j t' o e g => by
  rcases get_set _ _ _ _ _ e with ⟨_, r, _⟩ | ⟨_, e⟩
  · subst r
    rw [h] at g
    cases g
  · exact t.2 j t' o e g⟩, rfl⟩⟩
/-- a name's list is changed no more: it becomes plain data -/
theorem Rel.freeze (R : Rel F W σ Γ) {i : Nat} {ds : List PyData} (h : Γ[i]? = some (.ow (.lst ds))) : ∃ W' : Wd, W'.H = W.H ∧ Stp F W Γ W' (Γ.set i (.sh (.list ds))) ∧ Rel F W' σ (Γ.set i (.sh (.list ds))) := by
  obtain ⟨p, e1, hO, hf, vs, e2, hd⟩ := R.slot i _ h
  have hOp : W.O p := (hO p (by rw [hf]; simp)).1
  have hrf : ¬ F.rf p := (hO p (by rw [hf]; simp)).2
  have h0 : F.H0 p = none := (R.new p hOp).resolve_right hrf
  let W' : Wd := ⟨fun a => W.O a ∧ a ≠ p, W.ft, W.H⟩
  have hs : Same (W.S F) (W'.S F) := same_less fun a u nx e => ⟨fun z => nx (z.imp_right And.left), e⟩
  have il : i < Γ.length := (List.getElem?_eq_some_iff.mp h).1
  have hst : Stp F W Γ W' (Γ.set i (.sh (.list ds))) := by
    refine ⟨⟨hs, fun q t => ⟨⟨⟨t.1, fun z => ?_⟩, fun j t' o2 e g => ?_⟩, rfl⟩⟩, fun j t e => ?_, by simp⟩
    · subst z
      exact t.2 i _ _ h rfl (by rw [hf]; simp)
    · rcases get_set _ _ _ _ _ e with ⟨_, r, _⟩ | ⟨_, e⟩
      · subst r; cases g
      · exact t.2 j t' o2 e g
    · by_cases q : j = i
      · subst q
        rw [h] at e
        cases e
        exact ⟨_, List.getElem?_set_self il, fun _ => rfl, (fun z => by cases z), fun o z => by cases z⟩
      · exact ⟨t, by rw [List.getElem?_set_ne (Ne.symm q)]; exact e, fun z => z, fun _ => rfl, fun o z => ⟨o, z⟩⟩
  refine ⟨W', rfl, hst, ⟨R.base, fun a ha => R.new a ha.1, fun a ha => R.mu a ha.1, fun a ha => ⟨R.rfo a ha, fun z => hrf (z ▸ ha)⟩, by simp [R.len], fun j t e => ?_, fun j k s t oi oj a ne e1 e2 g1 g2 => ?_⟩⟩
  · rcases get_set _ _ _ _ _ e with ⟨rfl, rfl, hl⟩ | ⟨ne, e⟩
    · refine ⟨.ref p, e1, .lst (less_some.mpr ⟨fun z => ?_, e2⟩) (hd.same hs)⟩
      rcases z with z | z
      · rw [h0] at z
        exact z
      · exact z.2 rfl
    · have zj := R.slot j t e
      have hne : ∀ a ∈ W.ft j, ∀ oj, t.own? = some oj → a ≠ p := fun a ha oj so w => by
        subst w
        exact R.dis j i t _ oj _ a ne e h so rfl ha (by rw [hf]; simp)
      cases t with
      | no => trivial
      | sh d => obtain ⟨v, q1, q2⟩ := zj; exact ⟨v, q1, q2.same hs⟩
      | ar d => exact zj
      | ow o =>
        obtain ⟨q, a1, a2, a3⟩ := zj
        exact ⟨q, a1, fun a ha => ⟨⟨(a2 a ha).1, hne a ha o rfl⟩, (a2 a ha).2⟩, a3.keep hs (fun _ _ => rfl) fun _ _ _ z => z⟩
      | rf o =>
        obtain ⟨q, a0, a1, a2, a3⟩ := zj
        exact ⟨q, a0, a1, fun a ha => ⟨a2 a ha, hne a ha o rfl⟩, a3.keep hs (fun _ _ => rfl) fun _ _ _ z => z⟩
  · rcases get_set _ _ _ _ _ e1 with ⟨_, r, _⟩ | ⟨_, f1⟩
    · subst r; cases g1
    · rcases get_set _ _ _ _ _ e2 with ⟨_, r, _⟩ | ⟨_, f2⟩
      · subst r; cases g2
      · exact R.dis j k s t oi oj a ne f1 f2 g1 g2
end
end Dk

namespace Dk
open PySem PySem.Spec PyProof.Rows L2
/-! ### statements -/
structure DE where
  nx : G → Prop
  rt : RV → G → Prop
  rn : OD → G → Prop := fun _ _ => False
  bk : G → Prop := fun _ => False
  ct : G → Prop := fun _ => False
  xs : Value → G → Prop := fun _ _ => False
def DE.nxt (E : DE) (M : G → Prop) : DE := { E with nx := M }
def DE.lp (E : DE) (M : G → Prop) : DE := { E with nx := M, ct := M, bk := E.nx }
abbrev TSd := DE → G → Prop
abbrev X0 : WX := fun _ _ _ _ => False
structure Lk {K : Fg} (F : Fx K) (W0 : Wd) (Xw : WX) (D : Ends) (E : DE) : Prop where
  nx : ∀ (W : Wd) (σ : L2.St) (Γ : G), Same (W0.S F) (W.S F) → Rel F W σ Γ → E.nx Γ → D.nx σ W.H
  rt : ∀ (W : Wd) (σ : L2.St) (Γ : G) (x : RV) (v : V), Same (W0.S F) (W.S F) → Rel F W σ Γ → VOk F W σ Γ v x → E.rt x Γ → D.rt v W.H
  rn : ∀ (W : Wd) (σ : L2.St) (Γ : G) (o : OD) (p : Addr) (ho : HO), Same (W0.S F) (W.S F) → Rel F W σ Γ → W.H p = none → OwnH K (W.S F) ho o → E.rn o Γ → D.rt (.ref p) (upd W.H p ho)
  bk : ∀ (W : Wd) (σ : L2.St) (Γ : G), Same (W0.S F) (W.S F) → Rel F W σ Γ → E.bk Γ → D.bk σ W.H
  ct : ∀ (W : Wd) (σ : L2.St) (Γ : G), Same (W0.S F) (W.S F) → Rel F W σ Γ → E.ct Γ → D.ct σ W.H
  xs : ∀ (W : Wd) (σ : L2.St) (Γ : G) (c : Value), Same (W0.S F) (W.S F) → Rel F W σ Γ → E.xs c Γ → Xw c none σ W.H
theorem Lk.mono {K : Fg} {F : Fx K} {W0 W1 : Wd} {Xw : WX} {D : Ends} {E : DE} (L : Lk F W0 Xw D E) (h : Same (W0.S F) (W1.S F)) : Lk F W1 Xw D E :=
  ⟨fun W σ Γ s => L.nx W σ Γ (h.trans s), fun W σ Γ x v s => L.rt W σ Γ x v (h.trans s), fun W σ Γ o p ho s => L.rn W σ Γ o p ho (h.trans s), fun W σ Γ s => L.bk W σ Γ (h.trans s), fun W σ Γ s => L.ct W σ Γ (h.trans s), fun W σ Γ c s => L.xs W σ Γ c (h.trans s)⟩
class SS (K : Fg) (Xw : WX) (t : TS) (d : outParam TSd) : Prop where
  run : ∀ (F : Fx K) (W : Wd) (σ : L2.St) (Γ : G) (D : Ends) (E : DE), Rel F W σ Γ → d E Γ → Lk F W Xw D E → t D σ W.H
section
variable {K : Fg} {Xw : WX} {t u : TS} {d e : TSd} {te : TE} {de : TEd}
def dNext : TSd := fun E Γ => E.nx Γ
instance ss_next : SS K Xw tNext dNext := ⟨fun F W σ Γ D E R q L => L.nx W σ Γ (Same.refl _) R q⟩
def dSeq (d e : TSd) : TSd := fun E Γ => d (E.nxt (e E)) Γ
instance ss_seq [A : SS K Xw t d] [B : SS K Xw u e] : SS K Xw (tSeq t u) (dSeq d e) := ⟨fun F W σ Γ D E R q L => A.run F W σ Γ _ _ R q
  ⟨fun W' σ' Γ' s R' q => B.run F W' σ' Γ' D E R' q (L.mono s), L.rt, L.rn, L.bk, L.ct, L.xs⟩⟩
def dBreak : TSd := fun E Γ => E.bk Γ
instance ss_break : SS K Xw tBreak dBreak := ⟨fun F W σ Γ D E R q L => L.bk W σ Γ (Same.refl _) R q⟩
def dCont : TSd := fun E Γ => E.ct Γ
instance ss_cont : SS K Xw tCont dCont := ⟨fun F W σ Γ D E R q L => L.ct W σ Γ (Same.refl _) R q⟩
def dDrop (de : TEd) : TSd := fun E Γ => de Γ fun _ Γ1 => E.nx Γ1
instance ss_drop [A : SE K te de] : SS K Xw (tDrop te) (dDrop de) := ⟨fun F W σ Γ D E R q L => A.run F W σ Γ _ _ R q fun x W' Γ' v s R' o q => L.nx W' σ Γ' s.sh R' q⟩
def dRet (de : TEd) : TSd := fun E Γ => de Γ E.rt
instance (priority := low) ss_ret [A : SE K te de] : SS K Xw (tRet te) (dRet de) := ⟨fun F W σ Γ D E R q L => A.run F W σ Γ _ _ R q fun x W' Γ' v s R' o q => L.rt W' σ Γ' x v s.sh R' o q⟩
def dRetF (de : TFd) : TSd := fun E Γ => de Γ E.rn
instance ss_retF {df : TFd} [A : SEF K te df] : SS K Xw (tRet te) (dRetF df) := ⟨fun F W σ Γ D E R q L => A.run F W σ Γ _ _ R q fun o W' Γ' p ho s R' hp oh q => L.rn W' σ Γ' o p ho s.sh R' hp oh q⟩
def dRetN : TSd := fun E Γ => E.rt (.sh .none) Γ
instance ss_retN : SS K Xw tRetN dRetN := ⟨fun F W σ Γ D E R q L => L.rt W σ Γ _ .non (Same.refl _) R .non q⟩
/-- M: what holds where both ways meet -/
def dIfS (c : TTd) (d e : TSd) : TSd := fun E Γ => ∃ M : G → Prop, (∀ Γ', M Γ' → E.nx Γ') ∧ c Γ fun b Γ1 => if b = true then d (E.nxt M) Γ1 else e (E.nxt M) Γ1
instance ss_if {c : TT} {dc : TTd} [C : ST K c dc] [A : SS K Xw t d] [B : SS K Xw u e] : SS K Xw (tIfS c t u) (dIfS dc d e) := ⟨fun F W σ Γ D E R ⟨M, hM, q⟩ L => C.run F W σ Γ _ _ R q fun b W' Γ' s R' q => by
  have L' : Lk F W' Xw D (E.nxt M) := by
    have := L.mono s.sh
    exact ⟨fun W2 σ2 Γ2 s2 R2 q2 => this.nx W2 σ2 Γ2 s2 R2 (hM Γ2 q2), this.rt, this.rn, this.bk, this.ct, this.xs⟩
  cases b with
  | true => rw [if_pos rfl] at q; exact iteT (A.run F W' σ Γ' D _ R' q L')
  | false => rw [if_neg Bool.false_ne_true] at q; exact iteF (B.run F W' σ Γ' D _ R' q L')⟩
def dNever : TSd := fun _ _ => False
instance ss_never : SS K Xw tNever dNever := ⟨fun F W σ Γ D E R q L => q.elim⟩
/-! ### targets -/
/-- a value as a name's content -/
def asSl : RV → Option Sl
  | .sh d => some (.sh d)
  | .ar d => some (.ar d)
  | .own _ => none
/-- only the slots ix are changed -/
structure Fm (ix : List Nat) (σ : L2.St) (Γ : G) (σ' : L2.St) (Γ' : G) : Prop where
  st : ∀ j, j ∉ ix → σ'[j]? = σ[j]?
  ga : ∀ j, j ∉ ix → ∀ s, Γ[j]? = some s → ∃ s', Γ'[j]? = some s' ∧ Kn s s'
  sl : σ'.length = σ.length
  gl : Γ'.length = Γ.length
abbrev TGd := RV → G → (G → Prop) → Prop
class SG (K : Fg) (g : TG) (d : outParam TGd) (ix : outParam (List Nat)) : Prop where
  run : ∀ (F : Fx K) (W : Wd) (σ : L2.St) (Γ : G) (v : V) (x : RV) (Q : L2.St → Hp → Prop) (Qd : G → Prop), Rel F W σ Γ → VOk F W σ Γ v x → d x Γ Qd →
    (∀ (W' : Wd) (σ' : L2.St) (Γ' : G), Kp F W Γ W' Γ' → Fm ix σ Γ σ' Γ' → Rel F W' σ' Γ' → Qd Γ' → Q σ' W'.H) → g v σ W.H Q
abbrev TGsd := List RV → G → (G → Prop) → Prop
class SGs (K : Fg) (g : TGs) (d : outParam TGsd) (ix : outParam (List Nat)) : Prop where
  run : ∀ (F : Fx K) (W : Wd) (σ : L2.St) (Γ : G) (vs : List V) (ds : List PyData) (k : PyData → RV) (Q : L2.St → Hp → Prop) (Qd : G → Prop), (k = .sh ∨ k = .ar) → Rel F W σ Γ → Paired (fun v d => ∀ (W' : Wd) (σ' : L2.St) (Γ' : G), Same (W.S F) (W'.S F) → VOk F W' σ' Γ' v (k d)) vs ds → d (ds.map k) Γ Qd →
    (∀ (W' : Wd) (σ' : L2.St) (Γ' : G), Kp F W Γ W' Γ' → Fm ix σ Γ σ' Γ' → Rel F W' σ' Γ' → Qd Γ' → Q σ' W'.H) → g vs σ W.H Q
theorem asSl_set {F : Fx K} {W : Wd} {σ : L2.St} {Γ : G} {v : V} {x : RV} {s : Sl} {i : Nat} (R : Rel F W σ Γ) (o : VOk F W σ Γ v x) (e : asSl x = some s) : Rel F W (σ.set i (some v)) (Γ.set i s) := by
  cases x with
  | sh d => cases e; exact R.setSh o
  | ar d => cases e; exact R.setAr o
  | own j => cases e
def dName (i : Nat) : TGd := fun x Γ Q => ∃ s, asSl x = some s ∧ Q (Γ.set i s)
theorem asSl_own {x : RV} {s : Sl} (e : asSl x = some s) : s.own? = none := by
  cases x with
  | sh d => cases e; rfl
  | ar d => cases e; rfl
  | own j => cases e
instance sg_name (i : Nat) : SG K (gName i) (dName i) [i] := ⟨fun F W σ Γ v x Q Qd R o ⟨s, e, q⟩ k => k W _ _ (Kp.setNon (asSl_own e)) ⟨fun j hj => List.getElem?_set_ne (fun z => hj (by simp [z])), fun j hj s e => ⟨s, by rw [List.getElem?_set_ne (fun z => hj (by simp [z]))]; exact e, Kn.refl s⟩, by simp, by simp⟩ (asSl_set R o e) q⟩
def dgNil : TGsd := fun xs Γ Q => xs = [] ∧ Q Γ
def dgCons (g : TGd) (h : TGsd) : TGsd := fun xs Γ Q => ∃ x r, xs = x :: r ∧ g x Γ fun Γ1 => h r Γ1 Q
instance sgs_nil : SGs K gNil dgNil [] := ⟨fun F W σ Γ vs ds k Q Qd hk R o ⟨e, q⟩ kk => by
  cases ds with
  | nil => cases o; exact ⟨rfl, kk W σ Γ (Kp.refl ..) ⟨fun _ _ => rfl, fun _ _ s e => ⟨s, e, Kn.refl s⟩, rfl, rfl⟩ R q⟩
  | cons d ds => cases e⟩
instance sgs_cons {g : TG} {h : TGs} {dg : TGd} {dh : TGsd} {i1 i2 : List Nat} [A : SG K g dg i1] [B : SGs K h dh i2] : SGs K (gCons g h) (dgCons dg dh) (i1 ++ i2) := ⟨fun F W σ Γ vs ds k Q Qd hk R o ⟨x, r, e, q⟩ kk => by
  cases ds with
  | nil => cases e
  | cons d ds =>
    cases e
    cases o with
    | cons o1 o2 =>
      refine ⟨_, _, rfl, A.run F W σ Γ _ _ _ _ R (o1 W σ Γ (Same.refl _)) q fun W' σ' Γ' s' f' R' q => ?_⟩
      exact B.run F W' σ' Γ' _ _ k _ _ hk R' (Paired.mapP o2 fun _ _ z W2 σ2 Γ2 s2 => z W2 σ2 Γ2 (s'.sh.trans s2)) q fun W2 σ2 Γ2 s2 f2 R2 q => kk W2 σ2 Γ2 (s'.trans s2) ⟨fun j hj => (f2.st j fun z => hj (List.mem_append_right _ z)).trans (f'.st j fun z => hj (List.mem_append_left _ z)), fun j hj s e => by
        obtain ⟨s1, e1, k1⟩ := f'.ga j (fun z => hj (List.mem_append_left _ z)) s e
        obtain ⟨s2', e2, k2⟩ := f2.ga j (fun z => hj (List.mem_append_right _ z)) s1 e1
        exact ⟨s2', e2, k1.trans k2⟩, f2.sl.trans f'.sl, f2.gl.trans f'.gl⟩ R2 q⟩
/-- the parts of a tuple, of the same kind -/
def parts : RV → Option (List RV)
  | .sh (.tuple ds) => some (ds.map .sh)
  | .ar (.tuple ds) => some (ds.map .ar)
  | _ => none
def dgTup (n : Nat) (h : TGsd) : TGd := fun x Γ Q => ∃ xs, parts x = some xs ∧ xs.length = n ∧ h xs Γ Q
theorem paired_of {H : Hp} : ∀ {vs : List V} {ds : List PyData}, DqAll K H vs ds → Paired (fun v d => Dq K H v d) vs ds
  | _, [], h => by cases h; exact .nil
  | _, _ :: _, h => by
    cases h with
    | cons a b => exact .cons a (paired_of b)
instance sg_tup (n : Nat) {h : TGs} {dh : TGsd} {ix : List Nat} [B : SGs K h dh ix] : SG K (gTup K n h) (dgTup n dh) ix := ⟨fun F W σ Γ v x Q Qd R o ⟨xs, e, hn, q⟩ kk => by
  cases x with
  | own j => cases e
  | sh d =>
    cases d with
    | tuple ds =>
      cases e
      cases (show Dq K (W.S F) v (.tuple ds) from o) with
      | tup a b =>
        refine ⟨_, _, rfl, (a.same less_same).sq, by rw [b.length]; simpa using hn, ?_⟩
        exact B.run F W σ Γ _ ds RV.sh _ _ (.inl rfl) R (Paired.mapP (paired_of b) fun _ _ z W2 σ2 Γ2 s2 => z.same s2) q kk
    | _ => cases e
  | ar d =>
    cases d with
    | tuple ds =>
      cases e
      cases (show Dq K (less F.H0 F.rf) v (.tuple ds) from o) with
      | tup a b =>
        refine ⟨_, _, rfl, (a.same R.ar_same).sq, by rw [b.length]; simpa using hn, ?_⟩
        exact B.run F W σ Γ _ ds RV.ar _ _ (.inr rfl) R (Paired.mapP (paired_of b) fun _ _ z W2 σ2 Γ2 s2 => z) q kk
    | _ => cases e⟩
def dAsg (de : TEd) (g : TGd) : TSd := fun E Γ => de Γ fun x Γ1 => g x Γ1 E.nx
instance (priority := low) ss_asg {g : TG} {dg : TGd} {ix : List Nat} [A : SE K te de] [B : SG K g dg ix] : SS K Xw (tAsg te g) (dAsg de dg) := ⟨fun F W σ Γ D E R q L => A.run F W σ Γ _ _ R q fun x W' Γ' v s R' o q =>
  B.run F W' σ Γ' v x _ _ R' o q fun W2 σ2 Γ2 s2 _ R2 q => L.nx W2 σ2 Γ2 (s.sh.trans s2.sh) R2 q⟩
/-- a name for a new object -/
def dNew (df : TFd) (i : Nat) : TSd := fun E Γ => df Γ fun o Γ1 => E.nx (Γ1.set i (.ow o))
instance ss_new {df : TFd} {i : Nat} [A : SEF K te df] : SS K Xw (tAsg te (gName i)) (dNew df i) := ⟨fun F W σ Γ D E R q L => A.run F W σ Γ _ _ R q fun o W' Γ' p ho s R' hp oh q => by
  obtain ⟨W2, e, s2, R2⟩ := R'.setNew (i := i) hp oh
  show D.nx _ _
  rw [← e]
  exact L.nx W2 _ _ (s.sh.trans s2) R2 q⟩
/-- x += e, numbers -/
def dAug (i : Nat) (h : Int → Int → Int) (de : TEd) : TSd := fun E Γ => ∃ a, (slotV Γ i).bind (dat Γ) = some (.int a) ∧ de Γ fun y Γ1 => ∃ b, dat Γ1 y = some (.int b) ∧ E.nx (Γ1.set i (.sh (.int (h a b))))
instance ss_aug {i : Nat} {h : Int → Int → Int} [A : SE K te de] : SS K Xw (tAug i te (ipI h)) (dAug i h de) := ⟨fun F W σ Γ D E R ⟨a, e, q⟩ L => by
  obtain ⟨x, e1, e2⟩ := Option.bind_eq_some_iff.mp e
  refine (se_var (K := K) i).run F W σ Γ (fun v H => te σ H fun y H1 => ipI h v y H1 fun z H2 => D.nx (σ.set i (some z)) H2) (fun rv Γ1 => rv = x ∧ Γ1 = Γ) R ⟨x, e1, rfl, rfl⟩ fun rv W1 Γ1 v s1 R1 o1 ⟨z1, z2⟩ => ?_
  subst z1
  subst z2
  have ev := int_of (o1.full R1 e2)
  refine A.run F W1 σ _ _ _ R1 q fun y W2 Γ2 u s2 R2 o2 ⟨b, e3, q⟩ => ?_
  exact ⟨a, b, ev, int_of (o2.full R2 e3), L.nx W2 _ _ (s1.sh.trans s2.sh) (R2.setSh (.int _)) q⟩⟩
end
end Dk

namespace Dk
open PySem PySem.Spec PyProof.Rows L2
section
variable {K : Fg} {F : Fx K} {W : Wd} {σ : L2.St} {Γ : G}
/-! ### things of ours without a name -/
theorem Rel.temp (R : Rel F W σ Γ) {p : Addr} {ho : HO} (hp : W.H p = none) (hm : Mo (some ho)) :
    Rel F ⟨fun a => a = p ∨ W.O a, W.ft, upd W.H p ho⟩ σ Γ ∧ Kp F W Γ ⟨fun a => a = p ∨ W.O a, W.ft, upd W.H p ho⟩ Γ ∧ Tm ⟨fun a => a = p ∨ W.O a, W.ft, upd W.H p ho⟩ Γ p ∧ F.H0 p = none ∧ ¬ F.rf p := by
  have nO : ¬ W.O p := fun z => R.free hp (.inr z)
  have nrf : ¬ F.rf p := fun z => nO (R.rfo p z)
  have nH0 : F.H0 p = none := by
    cases q : F.H0 p with
    | none => rfl
    | some u =>
      have := R.base p u q nrf
      rw [hp] at this
      cases this
  have hs : Same (W.S F) ((⟨fun a => a = p ∨ W.O a, W.ft, upd W.H p ho⟩ : Wd).S F) := same_less fun a u nx e => by
    have ne : a ≠ p := ne_of_none e hp
    refine ⟨fun z => ?_, by show upd W.H p ho a = some u; rw [upd_ne ne]; exact e⟩
    rcases z with z | z | z
    · exact nx (.inl z)
    · exact ne z
    · exact nx (.inr z)
  have keep : ∀ a, W.O a → upd W.H p ho a = W.H a := fun a ha => by
    rw [upd_ne]
    intro z
    subst z
    exact nO ha
  refine ⟨⟨fun a u e nr => ?_, fun a ha => ?_, fun a ha => ?_, fun a ha => .inr (R.rfo a ha), R.len, fun j s e => ?_, R.dis⟩, ⟨hs, fun q t => ⟨⟨.inr t.1, t.2⟩, keep q t.1⟩⟩, ⟨.inl rfl, fun j s o e g ha => nO (slot_O (R.slot j s e) g p ha)⟩, nH0, nrf⟩
  · have q := R.base a u e nr
    show upd W.H p ho a = some u
    rw [upd_ne (ne_of_none q hp)]
    exact q
  · rcases ha with rfl | ha
    · exact .inl nH0
    · exact R.new a ha
  · rcases ha with rfl | ha
    · show Mo (upd W.H a ho a)
      rw [upd_same]
      exact hm
    · show Mo (upd W.H p ho a)
      rw [keep a ha]
      exact R.mu a ha
  · have z := R.slot j s e
    refine z.keep (W' := ⟨fun a => a = p ∨ W.O a, W.ft, upd W.H p ho⟩) rfl hs (fun a _ q => .inr q) (fun a ha so => ?_) (Same.ts (same_new hp))
    obtain ⟨o', so⟩ := Option.isSome_iff_exists.mp so
    exact keep a (slot_O z so a ha)
theorem Rel.putTemp (R : Rel F W σ Γ) {p : Addr} {ho : HO} (t : Tm W Γ p) (hm : Mo (some ho)) (nrf : ¬ F.rf p) :
    Rel F { W with H := upd W.H p ho } σ Γ ∧ (({ W with H := upd W.H p ho } : Wd).S F) = W.S F := by
  have hS : (({ W with H := upd W.H p ho } : Wd).S F) = W.S F := by
    funext a
    show less (upd W.H p ho) (Ex F.H0 W.O) a = less W.H (Ex F.H0 W.O) a
    unfold less
    by_cases q : Ex F.H0 W.O a
    · rw [if_pos q, if_pos q]
    · rw [if_neg q, if_neg q, upd_ne]
      intro e
      subst e
      exact q (.inr t.1)
  refine ⟨⟨fun a u e nr => ?_, R.new, fun a ha => ?_, R.rfo, R.len, fun j s e => ?_, R.dis⟩, hS⟩
  · show upd W.H p ho a = some u
    rw [upd_ne]
    · exact R.base a u e nr
    · intro q
      subst q
      rcases R.new a t.1 with q | q
      · rw [q] at e; cases e
      · exact nr q
  · by_cases q : a = p
    · subst q
      show Mo (upd W.H a ho a)
      rw [upd_same]
      exact hm
    · show Mo (upd W.H p ho a)
      rw [upd_ne q]
      exact R.mu a ha
  · have zj := R.slot j s e
    have hts : Tx W.H (upd W.H p ho) := fun a u nm q => by
      rw [upd_ne]
      · exact q
      · intro w
        subst w
        have m := R.mu a t.1
        rw [q] at m
        exact nm m
    refine zj.keep (W' := { W with H := upd W.H p ho }) rfl (by rw [hS]; exact Same.refl _) (fun _ _ q => q) (fun a ha so => ?_) hts
    obtain ⟨oj, so⟩ := Option.isSome_iff_exists.mp so
    show upd W.H p ho a = W.H a
    rw [upd_ne]
    intro w
    subst w
    exact t.2 j s oj e so ha
open Classical in
noncomputable def dropW (W : Wd) (p : Addr) : Wd := ⟨fun a => W.O a ∧ a ≠ p, W.ft, fun a => if a = p then none else W.H a⟩
theorem dropW_at {p : Addr} : (dropW W p).H p = none := if_pos rfl
theorem dropW_ne {p a : Addr} (h : a ≠ p) : (dropW W p).H a = W.H a := if_neg h
theorem dropW_upd {p : Addr} {ho : HO} (h : W.H p = some ho) : upd (dropW W p).H p ho = W.H := by
  funext a
  by_cases e : a = p
  · subst e
    rw [upd_same, h]
  · rw [upd_ne e, dropW_ne e]
theorem Rel.dropTemp (R : Rel F W σ Γ) {p : Addr} (t : Tm W Γ p) (h0 : F.H0 p = none) (nrf : ¬ F.rf p) : Rel F (dropW W p) σ Γ ∧ Same (W.S F) ((dropW W p).S F) := by
  have hs : Same (W.S F) ((dropW W p).S F) := same_less fun a u nx e => by
    have ne : a ≠ p := fun z => nx (.inr (z ▸ t.1))
    exact ⟨fun z => nx (z.imp_right And.left), by rw [dropW_ne ne]; exact e⟩
  refine ⟨⟨fun a u e nr => ?_, fun a ha => R.new a ha.1, fun a ha => ?_, fun a ha => ⟨R.rfo a ha, fun z => nrf (z ▸ ha)⟩, R.len, fun j s e => ?_, R.dis⟩, hs⟩
  · rw [dropW_ne]
    · exact R.base a u e nr
    · intro z
      rw [z, h0] at e
      cases e
  · rw [dropW_ne ha.2]
    exact R.mu a ha.1
  · have zj := R.slot j s e
    have hne : ∀ a ∈ W.ft j, ∀ oj, s.own? = some oj → a ≠ p := fun a ha oj so w => by
      subst w
      exact t.2 j s oj e so ha
    have hts : Tx W.H (dropW W p).H := fun a u nm q => by
      rw [dropW_ne]
      · exact q
      · intro w
        have m := R.mu p t.1
        rw [← w, q] at m
        exact nm m
    cases s with
    | no => trivial
    | sh d => obtain ⟨v, q1, q2⟩ := zj; exact ⟨v, q1, q2.same hs⟩
    | ar d => exact zj
    | ow o =>
      obtain ⟨q, a1, a2, a3⟩ := zj
      exact ⟨q, a1, fun a ha => ⟨⟨(a2 a ha).1, hne a ha o rfl⟩, (a2 a ha).2⟩, a3.keep hs (fun a ha => dropW_ne (hne a ha o rfl)) hts⟩
    | rf o =>
      obtain ⟨q, a0, a1, a2, a3⟩ := zj
      exact ⟨q, a0, a1, fun a ha => ⟨a2 a ha, hne a ha o rfl⟩, a3.keep hs (fun a ha => dropW_ne (hne a ha o rfl)) hts⟩
end

/-! ### what is walked -/
def itK : RV → PyData → RV
  | .ar _ => .ar
  | _ => .sh
def itL (Γ : G) : RV → Option (List PyData × G)
  | .sh (.list ds) => some (ds, Γ)
  | .ar (.list ds) => some (ds, Γ)
  | .own i => match Γ[i]? with
    | some (.ow (.lst ds)) => some (ds, Γ.set i (.sh (.list ds)))
    | some (.sh (.list ds)) => some (ds, Γ)
    | _ => none
  | _ => none
def itT (Γ : G) : RV → Option (List PyData × G)
  | .sh (.tuple ds) => some (ds, Γ)
  | .ar (.tuple ds) => some (ds, Γ)
  | .own i => match Γ[i]? with
    | some (.sh (.tuple ds)) => some (ds, Γ)
    | _ => none
  | _ => none
section
variable {K : Fg} {F : Fx K} {W : Wd} {σ : L2.St} {Γ Γ2 : G} {v : V} {x : RV} {ds : List PyData}
/-- the items stand, from W on -/
def Stand (F : Fx K) (W : Wd) (x : RV) (Sq : Hp → List V → Prop) (xs : List V) (ds : List PyData) : Prop := ∀ (W' : Wd) (σ' : L2.St) (Γ' : G), Same (W.S F) (W'.S F) → Rel F W' σ' Γ' → Sq W'.H xs ∧ Paired (fun v d => VOk F W' σ' Γ' v (itK x d)) xs ds
theorem itL_ok (R : Rel F W σ Γ) (o : VOk F W σ Γ v x) (e : itL Γ x = some (ds, Γ2)) : ∃ (W2 : Wd) (a : Addr) (xs : List V), v = .ref a ∧ W2.H = W.H ∧ Stp F W Γ W2 Γ2 ∧ Rel F W2 σ Γ2 ∧ Stand F W2 x (fun H xs => H a = some (.lst xs)) xs ds := by
  have shared : ∀ {W2 : Wd} {a : Addr} {xs : List V}, itK x = RV.sh → (W2.S F) a = some (.lst xs) → DqAll K (W2.S F) xs ds → Stand F W2 x (fun H xs => H a = some (.lst xs)) xs ds := fun {W2 a xs} hk h1 h2 W' σ' Γ' s R' =>
    ⟨less_same _ _ (s _ _ h1), by rw [hk]; exact Paired.mapP (paired_of h2) fun _ _ z => z.same s⟩
  cases x with
  | sh d =>
    cases d with
    | list ds' =>
      cases e
      cases (show Dq K (W.S F) v (.list ds) from o) with
      | lst h1 h2 => exact ⟨W, _, _, rfl, rfl, Stp.refl .., R, shared rfl h1 h2⟩
    | _ => cases e
  | ar d =>
    cases d with
    | list ds' =>
      cases e
      cases (show Dq K (less F.H0 F.rf) v (.list ds) from o) with
      | lst h1 h2 => exact ⟨W, _, _, rfl, rfl, Stp.refl .., R, fun W' σ' Γ' s R' => ⟨R'.ar_same _ _ h1, Paired.mapP (paired_of h2) fun _ _ z => z⟩⟩
    | _ => cases e
  | own i =>
    obtain ⟨s, h1, h2, h3⟩ := o
    simp only [itL, h1] at e
    cases s with
    | no => cases e
    | ar d => cases e
    | rf o => cases e
    | sh d =>
      cases d with
      | list ds' =>
        cases e
        obtain ⟨v', q1, q2⟩ := R.slot i _ h1
        rw [h3] at q1
        cases q1
        cases q2 with
        | lst g1 g2 => exact ⟨W, _, _, rfl, rfl, Stp.refl .., R, shared rfl g1 g2⟩
      | _ => cases e
    | ow o =>
      cases o with
      | lst ds' =>
        cases e
        obtain ⟨W2, e2, s2, R2⟩ := R.freeze h1
        obtain ⟨v', q1, q2⟩ := R2.slot i _ (List.getElem?_set_self (List.getElem?_eq_some_iff.mp h1).1)
        rw [h3] at q1
        cases q1
        cases q2 with
        | lst g1 g2 => exact ⟨W2, _, _, rfl, e2, s2, R2, shared rfl g1 g2⟩
      | _ => cases e
theorem itT_ok (R : Rel F W σ Γ) (o : VOk F W σ Γ v x) (e : itT Γ x = some (ds, Γ2)) : ∃ (W2 : Wd) (a : Addr) (xs : List V), v = .ref a ∧ W2.H = W.H ∧ Stp F W Γ W2 Γ2 ∧ Rel F W2 σ Γ2 ∧ Stand F W2 x (fun H xs => SqT K H a xs) xs ds := by
  have shared : ∀ {a : Addr} {xs : List V}, itK x = RV.sh → Tq K (W.S F) a xs → DqAll K (W.S F) xs ds → Stand F W x (fun H xs => SqT K H a xs) xs ds := fun {a xs} hk h1 h2 W' σ' Γ' s R' =>
    ⟨((h1.same s).same less_same).sq, by rw [hk]; exact Paired.mapP (paired_of h2) fun _ _ z => z.same s⟩
  cases x with
  | sh d =>
    cases d with
    | tuple ds' =>
      cases e
      cases (show Dq K (W.S F) v (.tuple ds) from o) with
      | tup h1 h2 => exact ⟨W, _, _, rfl, rfl, Stp.refl .., R, shared rfl h1 h2⟩
    | _ => cases e
  | ar d =>
    cases d with
    | tuple ds' =>
      cases e
      cases (show Dq K (less F.H0 F.rf) v (.tuple ds) from o) with
      | tup h1 h2 => exact ⟨W, _, _, rfl, rfl, Stp.refl .., R, fun W' σ' Γ' s R' => ⟨(h1.same R'.ar_same).sq, Paired.mapP (paired_of h2) fun _ _ z => z⟩⟩
    | _ => cases e
  | own i =>
    obtain ⟨s, h1, h2, h3⟩ := o
    simp only [itT, h1] at e
    cases s with
    | no => cases e
    | ar d => cases e
    | rf o => cases e
    | ow o => cases e
    | sh d =>
      cases d with
      | tuple ds' =>
        cases e
        obtain ⟨v', q1, q2⟩ := R.slot i _ h1
        rw [h3] at q1
        cases q1
        cases q2 with
        | tup g1 g2 => exact ⟨W, _, _, rfl, rfl, Stp.refl .., R, shared rfl g1 g2⟩
      | _ => cases e
theorem paired_get {α β : Type} {P : α → β → Prop} : ∀ {xs : List α} {ys : List β} {i : Nat} {x : α}, Paired P xs ys → xs[i]? = some x → ∃ y, ys[i]? = some y ∧ P x y
  | _, _, _, _, .nil, e => by simp at e
  | _, _, 0, _, .cons r _, e => by simp at e; subst e; exact ⟨_, rfl, r⟩
  | _, _, i + 1, _, .cons _ t, e => by
    obtain ⟨y, h1, h2⟩ := paired_get (i := i) t (by simpa using e)
    exact ⟨y, by simpa using h1, h2⟩
end
section
variable {K : Fg} {Xw : WX} {te : TE} {de : TEd} {g : TG} {dg : TGd} {ix : List Nat} {tb : TS} {db : TSd}
def dForS (it : G → RV → Option (List PyData × G)) (de : TEd) (dg : TGd) (db : TSd) : TSd := fun E Γ => de Γ fun x Γ1 => ∃ ds Γ2, it Γ1 x = some (ds, Γ2) ∧ ∃ I : Nat → G → Prop, I 0 Γ2 ∧
  (∀ k d Γ', ds[k]? = some d → I k Γ' → dg (itK x d) Γ' fun Γ3 => db (E.lp (I (k + 1))) Γ3) ∧ ∀ Γ', I ds.length Γ' → E.nx Γ'
instance ss_forL [A : SE K te de] [B : SG K g dg ix] [C : SS K Xw tb db] : SS K Xw (tFor (iList K te) g tb) (dForS itL de dg db) := ⟨fun F W σ Γ D E R q L => A.run F W σ Γ _ _ R q fun x W1 Γ1 v s1 R1 o1 ⟨ds, Γ2, e, I, i0, step, done⟩ => by
  obtain ⟨W2, a, xs, rfl, eH, s2, R2, st⟩ := itL_ok R1 o1 e
  have s12 : Same (W.S F) (W2.S F) := s1.sh.trans s2.sh
  refine ⟨a, rfl, ⟨xs, by rw [← eH]; exact SqL.of (st W2 σ Γ2 (Same.refl _) R2).1⟩, ?_⟩
  rw [← eH]
  have hl : xs.length = ds.length := Paired.length (st W2 σ Γ2 (Same.refl _) R2).2
  refine for_list (K := K) (a := a) (xs := xs) (fun k σ' H' => ∃ W' Γ', W'.H = H' ∧ Same (W2.S F) (W'.S F) ∧ Rel F W' σ' Γ' ∧ I k Γ') ⟨W2, Γ2, rfl, Same.refl _, R2, i0⟩ ?_ ?_ ?_
  · rintro k σ' H' hk ⟨W', Γ', rfl, s', R', i'⟩
    exact SqL.of (st W' σ' Γ' s' R').1
  · rintro k y σ' H' hy ⟨W', Γ', rfl, s', R', i'⟩
    obtain ⟨d, hd, od⟩ := paired_get (st W' σ' Γ' s' R').2 hy
    refine B.run F W' σ' Γ' y _ _ _ R' od (step k d Γ' hd i') fun W3 σ3 Γ3 k3 f3 R3 q3 => ?_
    refine C.run F W3 σ3 Γ3 _ _ R3 q3 ⟨fun W4 σ4 Γ4 s4 R4 q4 => ⟨W4, Γ4, rfl, (s'.trans k3.sh).trans s4, R4, q4⟩, fun W4 σ4 Γ4 x4 v4 s4 => L.rt W4 σ4 Γ4 x4 v4 (s12.trans ((s'.trans k3.sh).trans s4)), fun W4 σ4 Γ4 o4 p4 h4 s4 => L.rn W4 σ4 Γ4 o4 p4 h4 (s12.trans ((s'.trans k3.sh).trans s4)), fun W4 σ4 Γ4 s4 => L.nx W4 σ4 Γ4 (s12.trans ((s'.trans k3.sh).trans s4)), fun W4 σ4 Γ4 s4 R4 q4 => ⟨W4, Γ4, rfl, (s'.trans k3.sh).trans s4, R4, q4⟩, fun W4 σ4 Γ4 c4 s4 => L.xs W4 σ4 Γ4 c4 (s12.trans ((s'.trans k3.sh).trans s4))⟩
  · rintro σ' H' ⟨W', Γ', rfl, s', R', i'⟩
    rw [hl] at i'
    exact L.nx W' σ' Γ' (s12.trans s') R' (done Γ' i')⟩
instance ss_forT [A : SE K te de] [B : SG K g dg ix] [C : SS K Xw tb db] : SS K Xw (tFor (iTup K te) g tb) (dForS itT de dg db) := ⟨fun F W σ Γ D E R q L => A.run F W σ Γ _ _ R q fun x W1 Γ1 v s1 R1 o1 ⟨ds, Γ2, e, I, i0, step, done⟩ => by
  obtain ⟨W2, a, xs, rfl, eH, s2, R2, st⟩ := itT_ok R1 o1 e
  have s12 : Same (W.S F) (W2.S F) := s1.sh.trans s2.sh
  refine ⟨a, rfl, ⟨xs, by rw [← eH]; exact (st W2 σ Γ2 (Same.refl _) R2).1⟩, ?_⟩
  rw [← eH]
  have hl : xs.length = ds.length := Paired.length (st W2 σ Γ2 (Same.refl _) R2).2
  refine for_tup (K := K) (a := a) (xs := xs) (fun k σ' H' => ∃ W' Γ', W'.H = H' ∧ Same (W2.S F) (W'.S F) ∧ Rel F W' σ' Γ' ∧ I k Γ') ⟨W2, Γ2, rfl, Same.refl _, R2, i0⟩ ?_ ?_ ?_
  · rintro k σ' H' hk ⟨W', Γ', rfl, s', R', i'⟩
    exact (st W' σ' Γ' s' R').1
  · rintro k y σ' H' hy ⟨W', Γ', rfl, s', R', i'⟩
    obtain ⟨d, hd, od⟩ := paired_get (st W' σ' Γ' s' R').2 hy
    refine B.run F W' σ' Γ' y _ _ _ R' od (step k d Γ' hd i') fun W3 σ3 Γ3 k3 f3 R3 q3 => ?_
    refine C.run F W3 σ3 Γ3 _ _ R3 q3 ⟨fun W4 σ4 Γ4 s4 R4 q4 => ⟨W4, Γ4, rfl, (s'.trans k3.sh).trans s4, R4, q4⟩, fun W4 σ4 Γ4 x4 v4 s4 => L.rt W4 σ4 Γ4 x4 v4 (s12.trans ((s'.trans k3.sh).trans s4)), fun W4 σ4 Γ4 o4 p4 h4 s4 => L.rn W4 σ4 Γ4 o4 p4 h4 (s12.trans ((s'.trans k3.sh).trans s4)), fun W4 σ4 Γ4 s4 => L.nx W4 σ4 Γ4 (s12.trans ((s'.trans k3.sh).trans s4)), fun W4 σ4 Γ4 s4 R4 q4 => ⟨W4, Γ4, rfl, (s'.trans k3.sh).trans s4, R4, q4⟩, fun W4 σ4 Γ4 c4 s4 => L.xs W4 σ4 Γ4 c4 (s12.trans ((s'.trans k3.sh).trans s4))⟩
  · rintro σ' H' ⟨W', Γ', rfl, s', R', i'⟩
    rw [hl] at i'
    exact L.nx W' σ' Γ' (s12.trans s') R' (done Γ' i')⟩
/-- over a range by ones -/
def Rg1 (xs : List PyData) (lo : Int) (n : Nat) : Prop := ∃ j, xs = [.int j] ∧ -(2 ^ 62) ≤ j ∧ j < 2 ^ 62 ∧ lo = 0 ∧ n = j.toNat
def Rg2 (xs : List PyData) (lo : Int) (n : Nat) : Prop := ∃ i j, xs = [.int i, .int j] ∧ (-(2 ^ 62) ≤ i ∧ i < 2 ^ 62 ∧ -(2 ^ 62) ≤ j ∧ j < 2 ^ 62) ∧ lo = i ∧ n = (j - i).toNat
def dForR (rg : List PyData → Int → Nat → Prop) (da : TAd) (dg : TGd) (db : TSd) : TSd := fun E Γ => da Γ fun xs Γ1 => ∃ ds lo n, dats Γ1 xs = some ds ∧ rg ds lo n ∧ ∃ I : Nat → G → Prop, I 0 Γ1 ∧
  (∀ k Γ', k < n → I k Γ' → dg (.sh (.int (lo + k))) Γ' fun Γ3 => db (E.lp (I (k + 1))) Γ3) ∧ ∀ Γ', I n Γ' → E.nx Γ'
theorem forR_run {F : Fx K} {W W1 : Wd} {σ : L2.St} {Γ1 : G} {D : Ends} {E : DE} {lo : Int} {n : Nat} [B : SG K g dg ix] [C : SS K Xw tb db] (s12 : Same (W.S F) (W1.S F)) (R1 : Rel F W1 σ Γ1) (L : Lk F W Xw D E) (I : Nat → G → Prop) (i0 : I 0 Γ1)
    (step : ∀ k Γ', k < n → I k Γ' → dg (.sh (.int (lo + k))) Γ' fun Γ3 => db (E.lp (I (k + 1))) Γ3) (done : ∀ Γ', I n Γ' → E.nx Γ') :
    ∃ W : Nat → Nat → L2.St → Hp → Prop, (∃ m, W 0 m σ W1.H) ∧ ∀ i m σ H, W i m σ H →
      ((Itr lo n).stop i H ∧ D.nx σ H) ∨ ((Itr lo n).go i H ∧ ∃ N : L2.St → Hp → Prop, (∀ σ' H', N σ' H' → ∃ m', m' < m ∧ W (i + 1) m' σ' H') ∧ ∀ x H', (Itr lo n).yld i H x H' → g x σ H' fun σ2 H2 => tb { D with nx := N, ct := N, bk := D.nx } σ2 H2) := by
  refine for_range (lo := lo) (n := n) (fun k σ' H' => ∃ W' Γ', W'.H = H' ∧ Same (W1.S F) (W'.S F) ∧ Rel F W' σ' Γ' ∧ I k Γ') ⟨W1, Γ1, rfl, Same.refl _, R1, i0⟩ ?_ ?_
  · rintro k σ' H' hk ⟨W', Γ', rfl, s', R', i'⟩
    refine B.run F W' σ' Γ' _ _ _ _ R' (.int _) (step k Γ' hk i') fun W3 σ3 Γ3 k3 f3 R3 q3 => ?_
    refine C.run F W3 σ3 Γ3 _ _ R3 q3 ⟨fun W4 σ4 Γ4 s4 R4 q4 => ⟨W4, Γ4, rfl, (s'.trans k3.sh).trans s4, R4, q4⟩, fun W4 σ4 Γ4 x4 v4 s4 => L.rt W4 σ4 Γ4 x4 v4 (s12.trans ((s'.trans k3.sh).trans s4)), fun W4 σ4 Γ4 o4 p4 h4 s4 => L.rn W4 σ4 Γ4 o4 p4 h4 (s12.trans ((s'.trans k3.sh).trans s4)), fun W4 σ4 Γ4 s4 => L.nx W4 σ4 Γ4 (s12.trans ((s'.trans k3.sh).trans s4)), fun W4 σ4 Γ4 s4 R4 q4 => ⟨W4, Γ4, rfl, (s'.trans k3.sh).trans s4, R4, q4⟩, fun W4 σ4 Γ4 c4 s4 => L.xs W4 σ4 Γ4 c4 (s12.trans ((s'.trans k3.sh).trans s4))⟩
  · rintro σ' H' ⟨W', Γ', rfl, s', R', i'⟩
    exact L.nx W' σ' Γ' (s12.trans s') R' (done Γ' i')
theorem ints1 {H : Hp} {vs : List V} {j : Int} (h : DqAll K H vs [.int j]) : vs = [.int j] := DqAll.ints (ns := [j]) h
theorem ints2 {H : Hp} {vs : List V} {i j : Int} (h : DqAll K H vs [.int i, .int j]) : vs = [.int i, .int j] := DqAll.ints (ns := [i, j]) h
instance ss_forR1 {ta : TA} {da : TAd} [A : SA K ta da] [B : SG K g dg ix] [C : SS K Xw tb db] : SS K Xw (tFor (iRng1 ta) g tb) (dForR Rg1 da dg db) := ⟨fun F W σ Γ D E R q L => A.run F W σ Γ _ _ R q fun xs W1 Γ1 vs s1 R1 o1 ⟨ds, lo, n, e, ⟨j, e2, b1, b2, hlo, hn⟩, I, i0, step, done⟩ => by
  subst e2 hlo hn
  exact ⟨j, ints1 (o1.full R1 e), b1, b2, forR_run s1.sh R1 L I i0 step done⟩⟩
instance ss_forR2 {ta : TA} {da : TAd} [A : SA K ta da] [B : SG K g dg ix] [C : SS K Xw tb db] : SS K Xw (tFor (iRng2 ta) g tb) (dForR Rg2 da dg db) := ⟨fun F W σ Γ D E R q L => A.run F W σ Γ _ _ R q fun xs W1 Γ1 vs s1 R1 o1 ⟨ds, lo, n, e, ⟨i, j, e2, b, hlo, hn⟩, I, i0, step, done⟩ => by
  subst e2 hlo hn
  exact ⟨_, j, ints2 (o1.full R1 e), b, forR_run s1.sh R1 L I i0 step done⟩⟩
/-- while -/
def dWhile (c : TTd) (db : TSd) : TSd := fun E Γ => ∃ (I : G → Prop) (μ : G → Nat), I Γ ∧ ∀ Γ1, I Γ1 → c Γ1 fun b Γ2 => if b = true then db (E.lp fun Γ' => I Γ' ∧ μ Γ' < μ Γ1) Γ2 else E.nx Γ2
instance ss_while {c : TT} {dc : TTd} [A : ST K c dc] [C : SS K Xw tb db] : SS K Xw (tWhile c tb) (dWhile dc db) := ⟨fun F W σ Γ D E R ⟨I, μ, i0, step⟩ L => by
  refine ⟨fun m σ' H' => ∃ W' Γ', W'.H = H' ∧ Same (W.S F) (W'.S F) ∧ Rel F W' σ' Γ' ∧ I Γ' ∧ m = μ Γ', ⟨_, W, Γ, rfl, Same.refl _, R, i0, rfl⟩, ?_⟩
  rintro m σ' H' ⟨W', Γ', rfl, s', R', i', rfl⟩
  refine A.run F W' σ' Γ' _ _ R' (step Γ' i') fun b W2 Γ2 s2 R2 q2 => ?_
  have s02 := s'.trans s2.sh
  cases b with
  | false => rw [if_neg Bool.false_ne_true] at q2; exact iteF (L.nx W2 σ' Γ2 s02 R2 q2)
  | true =>
    rw [if_pos rfl] at q2
    refine iteT ⟨fun σ3 H3 => ∃ W3 Γ3, W3.H = H3 ∧ Same (W.S F) (W3.S F) ∧ Rel F W3 σ3 Γ3 ∧ I Γ3 ∧ μ Γ3 < μ Γ', fun σ3 H3 ⟨W3, Γ3, e, s3, R3, i3, l3⟩ => ⟨μ Γ3, l3, W3, Γ3, e, s3, R3, i3, rfl⟩, ?_⟩
    exact C.run F W2 σ' Γ2 _ _ R2 q2 ⟨fun W4 σ4 Γ4 s4 R4 q4 => ⟨W4, Γ4, rfl, s02.trans s4, R4, q4⟩, fun W4 σ4 Γ4 x4 v4 s4 => L.rt W4 σ4 Γ4 x4 v4 (s02.trans s4), fun W4 σ4 Γ4 o4 p4 h4 s4 => L.rn W4 σ4 Γ4 o4 p4 h4 (s02.trans s4), fun W4 σ4 Γ4 s4 => L.nx W4 σ4 Γ4 (s02.trans s4), fun W4 σ4 Γ4 s4 R4 q4 => ⟨W4, Γ4, rfl, s02.trans s4, R4, q4⟩, fun W4 σ4 Γ4 c4 s4 => L.xs W4 σ4 Γ4 c4 (s02.trans s4)⟩⟩
end
end Dk

namespace Dk
open PySem PySem.Spec PyProof.Rows L2
/-! ### a comprehension's own names -/
def wipeG (Γ : G) : List Nat → G
  | [] => Γ
  | v :: vs => (wipeG Γ vs).set v .no
def backG (Γ1 Γ : G) : List Nat → G
  | [] => Γ
  | v :: vs => (backG Γ1 Γ vs).set v (Γ1.getD v .no)
def ownFree (Γ : G) (vs : List Nat) : Bool := vs.all fun i => match Γ[i]? with
  | some s => s.own?.isNone
  | none => true
theorem wipe_len (σ : L2.St) : ∀ vs : List Nat, (wipe σ vs).length = σ.length
  | [] => rfl
  | v :: vs => by simp [wipe, wipe_len σ vs]
theorem wipe_get (σ : L2.St) (j : Nat) : ∀ vs : List Nat, j ∉ vs → (wipe σ vs)[j]? = σ[j]?
  | [], _ => rfl
  | v :: vs, h => by
    have h1 : v ≠ j := fun z => h (by simp [z])
    have h2 : j ∉ vs := fun z => h (by simp [z])
    show ((wipe σ vs).set v none)[j]? = _
    rw [List.getElem?_set_ne h1]
    exact wipe_get σ j vs h2
theorem wipe_in (σ : L2.St) (j : Nat) : ∀ vs : List Nat, j ∈ vs → j < σ.length → (wipe σ vs)[j]? = some none
  | v :: vs, h, hl => by
    show ((wipe σ vs).set v none)[j]? = _
    by_cases e : j = v
    · subst e
      exact List.getElem?_set_self (by rw [wipe_len]; exact hl)
    · rw [List.getElem?_set_ne (Ne.symm e)]
      exact wipe_in σ j vs ((List.mem_cons.mp h).resolve_left e) hl
theorem wipe_eq {σ σ' : L2.St} {vs : List Nat} (h : ∀ j, j ∉ vs → σ'[j]? = σ[j]?) (hl : σ'.length = σ.length) : wipe σ' vs = wipe σ vs := by
  apply List.ext_getElem?
  intro j
  by_cases e : j ∈ vs
  · by_cases l : j < σ.length
    · rw [wipe_in σ' j vs e (by rw [hl]; exact l), wipe_in σ j vs e l]
    · rw [List.getElem?_eq_none (by rw [wipe_len, hl]; omega), List.getElem?_eq_none (by rw [wipe_len]; omega)]
  · rw [wipe_get σ' j vs e, wipe_get σ j vs e]
    exact h j e
theorem wipeG_len (Γ : G) : ∀ vs : List Nat, (wipeG Γ vs).length = Γ.length
  | [] => rfl
  | v :: vs => by simp [wipeG, wipeG_len Γ vs]
theorem wipeG_get (Γ : G) (j : Nat) : ∀ vs : List Nat, j ∉ vs → (wipeG Γ vs)[j]? = Γ[j]?
  | [], _ => rfl
  | v :: vs, h => by
    have h1 : v ≠ j := fun z => h (by simp [z])
    have h2 : j ∉ vs := fun z => h (by simp [z])
    show ((wipeG Γ vs).set v .no)[j]? = _
    rw [List.getElem?_set_ne h1]
    exact wipeG_get Γ j vs h2
theorem wipeG_in (Γ : G) (j : Nat) : ∀ vs : List Nat, j ∈ vs → j < Γ.length → (wipeG Γ vs)[j]? = some .no
  | v :: vs, h, hl => by
    show ((wipeG Γ vs).set v .no)[j]? = _
    by_cases e : j = v
    · subst e
      exact List.getElem?_set_self (by rw [wipeG_len]; exact hl)
    · rw [List.getElem?_set_ne (Ne.symm e)]
      exact wipeG_in Γ j vs ((List.mem_cons.mp h).resolve_left e) hl
theorem backG_len (Γ1 Γ : G) : ∀ vs : List Nat, (backG Γ1 Γ vs).length = Γ.length
  | [] => rfl
  | v :: vs => by simp [backG, backG_len Γ1 Γ vs]
theorem backG_get (Γ1 Γ : G) (j : Nat) : ∀ vs : List Nat, j ∉ vs → (backG Γ1 Γ vs)[j]? = Γ[j]?
  | [], _ => rfl
  | v :: vs, h => by
    have h1 : v ≠ j := fun z => h (by simp [z])
    have h2 : j ∉ vs := fun z => h (by simp [z])
    show ((backG Γ1 Γ vs).set v _)[j]? = _
    rw [List.getElem?_set_ne h1]
    exact backG_get Γ1 Γ j vs h2
theorem backG_in (Γ1 Γ : G) (j : Nat) : ∀ vs : List Nat, j ∈ vs → j < Γ.length → (backG Γ1 Γ vs)[j]? = some (Γ1.getD j .no)
  | v :: vs, h, hl => by
    show ((backG Γ1 Γ vs).set v _)[j]? = _
    by_cases e : j = v
    · subst e
      exact List.getElem?_set_self (by rw [backG_len]; exact hl)
    · rw [List.getElem?_set_ne (Ne.symm e)]
      exact backG_in Γ1 Γ j vs ((List.mem_cons.mp h).resolve_left e) hl
theorem lt_of_get {α : Type} {l : List α} {i : Nat} {x : α} (h : l[i]? = some x) : i < l.length := (List.getElem?_eq_some_iff.mp h).1
theorem getD_of {l : G} {i : Nat} {x : Sl} (h : l[i]? = some x) : l.getD i .no = x := by simp [List.getD, h]
theorem ownFree_at {Γ : G} {vs : List Nat} {i : Nat} {s : Sl} (h : ownFree Γ vs = true) (hi : i ∈ vs) (e : Γ[i]? = some s) : s.own? = none := by
  have q := List.all_eq_true.mp h i hi
  simp only [e] at q
  exact Option.isNone_iff_eq_none.mp q
section
variable {K : Fg} {F : Fx K} {W : Wd} {σ : L2.St} {Γ : G}
theorem Rel.wiped (R : Rel F W σ Γ) : ∀ vs : List Nat, Rel F W (L2.wipe σ vs) (wipeG Γ vs)
  | [] => R
  | v :: vs => (R.wiped vs).setNo
theorem Tm.wipe {p : Addr} (t : Tm W Γ p) (vs : List Nat) : Tm W (wipeG Γ vs) p := ⟨t.1, fun j s o e g => by
  by_cases h : j ∈ vs
  · rw [wipeG_in Γ j vs h (by rw [← wipeG_len Γ vs]; exact lt_of_get e)] at e
    cases e
    cases g
  · rw [wipeG_get Γ j vs h] at e
    exact t.2 j s o e g⟩
theorem Tm.back {Γ1 : G} {p : Addr} {vs : List Nat} (t : Tm W Γ p) (hf : ownFree Γ1 vs = true) (hl : Γ.length = Γ1.length) : Tm W (backG Γ1 Γ vs) p := ⟨t.1, fun j s o e g => by
  by_cases h : j ∈ vs
  · have l : j < Γ.length := by rw [← backG_len Γ1 Γ vs]; exact lt_of_get e
    rw [backG_in Γ1 Γ j vs h l] at e
    have l1 : j < Γ1.length := by rw [← hl]; exact l
    have e1 : Γ1[j]? = some Γ1[j] := List.getElem?_eq_getElem l1
    rw [getD_of e1] at e
    cases e
    rw [ownFree_at hf h e1] at g
    cases g
  · rw [backG_get Γ1 Γ j vs h] at e
    exact t.2 j s o e g⟩
theorem Rel.back {W1 : Wd} {Γ1 : G} {vs : List Nat} (R : Rel F W (wipe σ vs) Γ) (R1 : Rel F W1 σ Γ1) (hs : Same (W1.S F) (W.S F)) (hf : ownFree Γ1 vs = true) (hl : Γ.length = Γ1.length) : Rel F W σ (backG Γ1 Γ vs) := by
  have own : ∀ (j : Nat) (s : Sl) (o : OD), (backG Γ1 Γ vs)[j]? = some s → s.own? = some o → j ∉ vs ∧ Γ[j]? = some s := fun j s o e g => by
    by_cases h : j ∈ vs
    · have l : j < Γ.length := by rw [← backG_len Γ1 Γ vs]; exact lt_of_get e
      rw [backG_in Γ1 Γ j vs h l] at e
      have l1 : j < Γ1.length := by rw [← hl]; exact l
      have e1 : Γ1[j]? = some Γ1[j] := List.getElem?_eq_getElem l1
      rw [getD_of e1] at e
      cases e
      rw [ownFree_at hf h e1] at g
      cases g
    · rw [backG_get Γ1 Γ j vs h] at e
      exact ⟨h, e⟩
  refine ⟨R.base, R.new, R.mu, R.rfo, ?_, fun j s e => ?_, fun j k s t oi oj a ne e1 e2 g1 g2 => ?_⟩
  · rw [backG_len, ← R.len, wipe_len]
  · by_cases h : j ∈ vs
    · have l : j < Γ.length := by rw [← backG_len Γ1 Γ vs]; exact lt_of_get e
      rw [backG_in Γ1 Γ j vs h l] at e
      have l1 : j < Γ1.length := by rw [← hl]; exact l
      have e1 : Γ1[j]? = some Γ1[j] := List.getElem?_eq_getElem l1
      rw [getD_of e1] at e
      have z := R1.slot j _ e1
      have no := ownFree_at hf h e1
      cases e
      cases q : Γ1[j] with
      | no => trivial
      | sh d => rw [q] at z; obtain ⟨v, q1, q2⟩ := z; exact ⟨v, q1, q2.same hs⟩
      | ar d => rw [q] at z; exact z
      | ow o => rw [q] at no; cases no
      | rf o => rw [q] at no; cases no
    · rw [backG_get Γ1 Γ j vs h] at e
      have z := R.slot j s e
      rw [wipe_get σ j vs h] at z
      exact z
  · exact R.dis j k s t oi oj a ne (own j s oi e1 g1).2 (own k t oj e2 g2).2 g1 g2
end
def KnO (vs : List Nat) (Γ Γ' : G) : Prop := Γ'.length = Γ.length ∧ ∀ (i : Nat) (s : Sl), i ∉ vs → Γ[i]? = some s → ∃ s', Γ'[i]? = some s' ∧ Kn s s'
theorem KnO.refl (vs : List Nat) (Γ : G) : KnO vs Γ Γ := ⟨rfl, fun i s _ e => ⟨s, e, Kn.refl s⟩⟩
theorem KnO.trans {vs : List Nat} {Γ Γ1 Γ2 : G} (a : KnO vs Γ Γ1) (b : KnO vs Γ1 Γ2) : KnO vs Γ Γ2 := ⟨b.1.trans a.1, fun i s h e => by
  obtain ⟨s1, e1, k1⟩ := a.2 i s h e
  obtain ⟨s2, e2, k2⟩ := b.2 i s1 h e1
  exact ⟨s2, e2, k1.trans k2⟩⟩
theorem KnO.wipe {vs : List Nat} (Γ : G) : KnO vs Γ (wipeG Γ vs) := ⟨wipeG_len Γ vs, fun i s h e => ⟨s, by rw [wipeG_get Γ i vs h]; exact e, Kn.refl s⟩⟩
theorem KnO.ofStp {K : Fg} {F : Fx K} {W W' : Wd} {vs : List Nat} {Γ Γ' : G} (s : Stp F W Γ W' Γ') : KnO vs Γ Γ' := ⟨s.len, fun i t _ e => s.kin i t e⟩
theorem KnO.ofFm {vs ix : List Nat} {σ σ' : L2.St} {Γ Γ' : G} (h : ∀ i ∈ ix, i ∈ vs) (f : Fm ix σ Γ σ' Γ') : KnO vs Γ Γ' := ⟨f.gl, fun i t n e => f.ga i (fun z => n (h i z)) t e⟩
/-! ### list comprehensions -/
def dYes : TTd := fun Γ Q => Q true Γ
instance st_yes {K : Fg} : ST K tYes dYes := ⟨fun F W σ Γ Q Qd R q k => k true W Γ (Stp.refl ..) R q⟩
def subL (ix vs : List Nat) : Bool := ix.all fun i => vs.contains i
def LcTurn (dg : TGd) (dt : TTd) (de : TEd) (vs : List Nat) (x : RV) (Γ' : G) (I : Option PyData → G → Prop) : Prop :=
  dg x Γ' fun Γ3 => dt Γ3 fun b Γ4 => if b = true then de Γ4 fun y Γ5 => ∃ dy, shOf y = some dy ∧ I (some dy) (wipeG Γ5 vs) else I none (wipeG Γ4 vs)
def dLc (it : G → RV → Option (List PyData × G)) (d0 : TEd) (dg : TGd) (dt : TTd) (de : TEd) (ix vs : List Nat) : TFd := fun Γ Q => d0 Γ fun x Γ1 => ∃ ds Γ2, it Γ1 x = some (ds, Γ2) ∧ ownFree Γ2 vs = true ∧ subL ix vs = true ∧ ds.length ≤ sizeLine ∧
  ∃ I : Nat → List PyData → G → Prop, I 0 [] (wipeG Γ2 vs) ∧ (∀ k d acc Γ', ds[k]? = some d → I k acc Γ' → LcTurn dg dt de vs (itK x d) Γ' fun o Γ5 => I (k + 1) (acc ++ o.toList) Γ5) ∧ ∀ acc Γ', I ds.length acc Γ' → Q (.lst acc) (backG Γ2 Γ' vs)
def dLcR (rg : List PyData → Int → Nat → Prop) (da : TAd) (dg : TGd) (dt : TTd) (de : TEd) (ix vs : List Nat) : TFd := fun Γ Q => da Γ fun xs Γ2 => ∃ ds lo n, dats Γ2 xs = some ds ∧ rg ds lo n ∧ ownFree Γ2 vs = true ∧ subL ix vs = true ∧ n ≤ sizeLine ∧
  ∃ I : Nat → List PyData → G → Prop, I 0 [] (wipeG Γ2 vs) ∧ (∀ k acc Γ', k < n → I k acc Γ' → LcTurn dg dt de vs (.sh (.int (lo + k))) Γ' fun o Γ5 => I (k + 1) (acc ++ o.toList) Γ5) ∧ ∀ acc Γ', I n acc Γ' → Q (.lst acc) (backG Γ2 Γ' vs)
section
variable {K : Fg} {F : Fx K} {W2 : Wd} {σ : L2.St} {Γ2 : G} {vs ix : List Nat} {D : Addr} {n : Nat} {I : Nat → List PyData → G → Prop} {g : TG} {dg : TGd} {tt : TT} {dt : TTd} {te : TE} {de : TEd}
/-- the state between two turns -/
def LcSt (F : Fx K) (W2 : Wd) (σ : L2.St) (Γ2 : G) (vs : List Nat) (D : Addr) (I : Nat → List PyData → G → Prop) (k : Nat) (H' : Hp) : Prop :=
  ∃ (W' : Wd) (Γ' : G) (acc : List PyData) (us : List V), W'.H = H' ∧ Rel F W' (wipe σ vs) Γ' ∧ Tm W' Γ' D ∧ W'.H D = some (.lst us) ∧ us.length ≤ k ∧ DqAll K (W'.S F) us acc ∧ Same (W2.S F) (W'.S F) ∧
    (∀ q, q ≠ D → Tm W2 Γ2 q → Tm W' Γ' q ∧ W'.H q = W2.H q) ∧ KnO vs Γ2 Γ' ∧ I k acc Γ'
theorem lc_begin (R2 : Rel F W2 σ Γ2) (hD : W2.H D = none) (i0 : I 0 [] (wipeG Γ2 vs)) : LcSt F W2 σ Γ2 vs D I 0 (upd W2.H D (.lst [])) := by
  obtain ⟨R3, k3, t3, h0, nrf⟩ := R2.temp (ho := .lst []) hD trivial
  exact ⟨_, wipeG Γ2 vs, [], [], rfl, R3.wiped vs, t3.wipe vs, upd_same, Nat.le_refl _, .nil, k3.sh, fun q ne t => ⟨(k3.tmp q t).1.wipe vs, (k3.tmp q t).2⟩, KnO.wipe Γ2, i0⟩
theorem lc_turn {k : Nat} {y : V} {x : RV} {W' : Wd} {Γ' : G} {acc : List PyData} {us : List V} [B : SG K g dg ix] [T : ST K tt dt] [C : SE K te de] (hix : subL ix vs = true) (nrf : ¬ F.rf D)
    (R' : Rel F W' (wipe σ vs) Γ') (t' : Tm W' Γ' D) (hd' : W'.H D = some (.lst us)) (hu : us.length ≤ k) (hk : k < sizeLine) (ha : DqAll K (W'.S F) us acc) (s' : Same (W2.S F) (W'.S F)) (tm' : ∀ q, q ≠ D → Tm W2 Γ2 q → Tm W' Γ' q ∧ W'.H q = W2.H q) (kn' : KnO vs Γ2 Γ')
    (oy : VOk F W' (wipe σ vs) Γ' y x) (h : LcTurn dg dt de vs x Γ' fun o Γ5 => I (k + 1) (acc ++ o.toList) Γ5) :
    g y (wipe σ vs) W'.H fun σ2 H2 => wipe σ2 vs = wipe σ vs ∧ tt σ2 H2 fun b H3 => if b = true then te σ2 H3 fun y H4 => ∃ acc, H4 D = some (.lst acc) ∧ acc.length < sizeLine ∧ LcSt F W2 σ Γ2 vs D I (k + 1) (upd H4 D (.lst (acc ++ [y]))) else LcSt F W2 σ Γ2 vs D I (k + 1) H3 := by
  have hsub : ∀ i ∈ ix, i ∈ vs := fun i hi => by simpa using List.all_eq_true.mp hix i hi
  refine B.run F W' _ Γ' y x _ _ R' oy h fun W4 σ4 Γ4 k4 f4 R4 q4 => ?_
  have ew : wipe σ4 vs = wipe σ vs := wipe_eq (fun j hj => by rw [f4.st j fun z => hj (hsub j z), wipe_get σ j vs hj]) (by rw [f4.sl, wipe_len])
  refine ⟨ew, T.run F W4 σ4 Γ4 _ _ R4 q4 fun b W5 Γ5 s5 R5 q5 => ?_⟩
  have k5 : Kp F W' Γ' W5 Γ5 := k4.trans s5.toKp
  have kn5 : KnO vs Γ2 Γ5 := (kn'.trans (KnO.ofFm hsub f4)).trans (KnO.ofStp s5)
  cases b with
  | false =>
    rw [if_neg Bool.false_ne_true] at q5
    refine iteF ⟨W5, wipeG Γ5 vs, acc, us, rfl, ew ▸ R5.wiped vs, (k5.tmp D t').1.wipe vs, (k5.tmp D t').2.trans hd', Nat.le_succ_of_le hu, ha.same k5.sh, s'.trans k5.sh, fun q ne t => ?_, kn5.trans (KnO.wipe Γ5), by simpa using q5⟩
    obtain ⟨a1, a2⟩ := tm' q ne t
    exact ⟨(k5.tmp q a1).1.wipe vs, (k5.tmp q a1).2.trans a2⟩
  | true =>
    rw [if_pos rfl] at q5
    refine iteT (C.run F W5 σ4 Γ5 _ _ R5 q5 fun z W6 Γ6 vz s6 R6 o6 ⟨dy, ey, q6⟩ => ?_)
    have k6 : Kp F W' Γ' W6 Γ6 := k5.trans s6.toKp
    have hd6 : W6.H D = some (.lst us) := (k6.tmp D t').2.trans hd'
    refine ⟨us, hd6, by omega, ?_⟩
    have R6w : Rel F W6 (wipe σ vs) (wipeG Γ6 vs) := ew ▸ R6.wiped vs
    have t6 : Tm W6 (wipeG Γ6 vs) D := (k6.tmp D t').1.wipe vs
    obtain ⟨R7, eS⟩ := R6w.putTemp (ho := .lst (us ++ [vz])) t6 trivial nrf
    refine ⟨_, wipeG Γ6 vs, acc ++ [dy], us ++ [vz], rfl, R7, t6, upd_same, by simp; omega, ?_, ?_, fun q ne t => ?_, (kn5.trans (KnO.ofStp s6)).trans (KnO.wipe Γ6), q6⟩
    · rw [eS]
      exact (ha.same k6.sh).app (.cons (o6.sh R6 ey) .nil)
    · rw [eS]
      exact s'.trans k6.sh
    · obtain ⟨a1, a2⟩ := tm' q ne t
      exact ⟨(k6.tmp q a1).1.wipe vs, by show upd W6.H D _ q = _; rw [upd_ne ne]; exact (k6.tmp q a1).2.trans a2⟩
theorem lc_end {k : Nat} {H' : Hp} {Q : VK} {Qd : OD → G → Prop} (R2 : Rel F W2 σ Γ2) (hD : W2.H D = none) (h0 : F.H0 D = none) (nrf : ¬ F.rf D) (hf : ownFree Γ2 vs = true) (h : LcSt F W2 σ Γ2 vs D I k H') (done : ∀ acc Γ', I k acc Γ' → Qd (.lst acc) (backG Γ2 Γ' vs))
    (kk : ∀ (o : OD) (W' : Wd) (Γ' : G) (p : Addr) (ho : HO), Stp F W2 Γ2 W' Γ' → Rel F W' σ Γ' → W'.H p = none → OwnH K (W'.S F) ho o → Qd o Γ' → Q (.ref p) (upd W'.H p ho)) : Q (.ref D) H' := by
  obtain ⟨W', Γ', acc, us, rfl, R', t', hd', hu, ha, s', tm', kn', i'⟩ := h
  have Rb : Rel F W' σ (backG Γ2 Γ' vs) := R'.back R2 s' hf kn'.1
  have tb : Tm W' (backG Γ2 Γ' vs) D := t'.back hf kn'.1
  obtain ⟨Rd, sd⟩ := Rb.dropTemp tb h0 nrf
  rw [← dropW_upd hd']
  refine kk (.lst acc) (dropW W' D) (backG Γ2 Γ' vs) D (.lst us) ⟨⟨s'.trans sd, fun q t => ?_⟩, fun i s e => ?_, ?_⟩ Rd dropW_at ⟨us, rfl, ha.same sd⟩ (done acc Γ' i')
  · have ne : q ≠ D := fun z => by
      have m := R2.mu q t.1
      rw [z, hD] at m
      exact m
    obtain ⟨a1, a2⟩ := tm' q ne t
    have tq := a1.back hf kn'.1 (vs := vs)
    exact ⟨⟨⟨tq.1, ne⟩, tq.2⟩, by rw [dropW_ne ne]; exact a2⟩
  · by_cases hi : i ∈ vs
    · have l : i < Γ'.length := by rw [kn'.1]; exact lt_of_get e
      exact ⟨s, by rw [backG_in Γ2 Γ' i vs hi l, getD_of e], Kn.refl s⟩
    · obtain ⟨s1, e1, k1⟩ := kn'.2 i s hi e
      exact ⟨s1, by rw [backG_get Γ2 Γ' i vs hi]; exact e1, k1⟩
  · rw [backG_len]
    exact kn'.1
end
section
variable {K : Fg} {vs ix : List Nat} {g : TG} {dg : TGd} {tt : TT} {dt : TTd} {te t0 : TE} {de d0 : TEd}
instance sf_lcL [A : SE K t0 d0] [B : SG K g dg ix] [T : ST K tt dt] [C : SE K te de] : SEF K (tLc (iList K t0) g tt te vs) (dLc itL d0 dg dt de ix vs) := ⟨fun F W σ Γ Q Qd R q kk => A.run F W σ Γ _ _ R q fun x W1 Γ1 v s1 R1 o1 ⟨ds, Γ2, e, hf, hix, hl, I, i0, step, done⟩ => by
  obtain ⟨W2, a, xs, rfl, eH, s2, R2, st⟩ := itL_ok R1 o1 e
  refine ⟨a, rfl, ⟨xs, by rw [← eH]; exact SqL.of (st W2 σ Γ2 (Same.refl _) R2).1⟩, fun D hD => ?_⟩
  rw [← eH] at hD ⊢
  have hlen : xs.length = ds.length := Paired.length (st W2 σ Γ2 (Same.refl _) R2).2
  obtain ⟨_, _, _, h0, nrf⟩ := R2.temp (ho := .lst []) hD trivial
  refine lc_list (K := K) (a := a) (xs := xs) (LcSt F W2 σ Γ2 vs D I) (lc_begin R2 hD i0) ?_ ?_ ?_
  · rintro k H' hk ⟨W', Γ', acc, us, rfl, R', t', hd', hu, ha, s', tm', kn', i'⟩
    exact SqL.of (st W' _ Γ' s' R').1
  · rintro k y H' hy ⟨W', Γ', acc, us, rfl, R', t', hd', hu, ha, s', tm', kn', i'⟩
    obtain ⟨d, hd, od⟩ := paired_get (st W' _ Γ' s' R').2 hy
    have hk := lt_of_get hy
    exact lc_turn (x := itK x d) hix nrf R' t' hd' hu (by omega) ha s' tm' kn' od (step k d acc Γ' hd i')
  · intro H' h
    rw [hlen] at h
    exact lc_end R2 hD h0 nrf hf h done fun o W' Γ' p ho s' R' hp oh q => kk o W' Γ' p ho (s1.trans (s2.trans s')) R' hp oh q⟩
instance sf_lcT [A : SE K t0 d0] [B : SG K g dg ix] [T : ST K tt dt] [C : SE K te de] : SEF K (tLc (iTup K t0) g tt te vs) (dLc itT d0 dg dt de ix vs) := ⟨fun F W σ Γ Q Qd R q kk => A.run F W σ Γ _ _ R q fun x W1 Γ1 v s1 R1 o1 ⟨ds, Γ2, e, hf, hix, hl, I, i0, step, done⟩ => by
  obtain ⟨W2, a, xs, rfl, eH, s2, R2, st⟩ := itT_ok R1 o1 e
  refine ⟨a, rfl, ⟨xs, by rw [← eH]; exact (st W2 σ Γ2 (Same.refl _) R2).1⟩, fun D hD => ?_⟩
  rw [← eH] at hD ⊢
  have hlen : xs.length = ds.length := Paired.length (st W2 σ Γ2 (Same.refl _) R2).2
  obtain ⟨_, _, _, h0, nrf⟩ := R2.temp (ho := .lst []) hD trivial
  refine lc_tup (K := K) (a := a) (xs := xs) (LcSt F W2 σ Γ2 vs D I) (lc_begin R2 hD i0) ?_ ?_ ?_
  · rintro k H' hk ⟨W', Γ', acc, us, rfl, R', t', hd', hu, ha, s', tm', kn', i'⟩
    exact (st W' _ Γ' s' R').1
  · rintro k y H' hy ⟨W', Γ', acc, us, rfl, R', t', hd', hu, ha, s', tm', kn', i'⟩
    obtain ⟨d, hd, od⟩ := paired_get (st W' _ Γ' s' R').2 hy
    have hk := lt_of_get hy
    exact lc_turn (x := itK x d) hix nrf R' t' hd' hu (by omega) ha s' tm' kn' od (step k d acc Γ' hd i')
  · intro H' h
    rw [hlen] at h
    exact lc_end R2 hD h0 nrf hf h done fun o W' Γ' p ho s' R' hp oh q => kk o W' Γ' p ho (s1.trans (s2.trans s')) R' hp oh q⟩
instance sf_lcR1 {ta : TA} {da : TAd} [A : SA K ta da] [B : SG K g dg ix] [T : ST K tt dt] [C : SE K te de] : SEF K (tLc (iRng1 ta) g tt te vs) (dLcR Rg1 da dg dt de ix vs) := ⟨fun F W σ Γ Q Qd R q kk => A.run F W σ Γ _ _ R q fun xs W2 Γ2 v s1 R2 o1 ⟨ds, lo, n, e, ⟨j, e2, b1, b2, hlo, hn⟩, hf, hix, hl, I, i0, step, done⟩ => by
  subst e2 hlo hn
  refine ⟨j, ints1 (o1.full R2 e), b1, b2, fun D hD => ?_⟩
  obtain ⟨_, _, _, h0, nrf⟩ := R2.temp (ho := .lst []) hD trivial
  refine lc_range (LcSt F W2 σ Γ2 vs D I) (lc_begin R2 hD i0) ?_ ?_
  · rintro k H' hk ⟨W', Γ', acc, us, rfl, R', t', hd', hu, ha, s', tm', kn', i'⟩
    exact lc_turn (x := .sh (.int _)) hix nrf R' t' hd' hu (by omega) ha s' tm' kn' (.int _) (step k acc Γ' hk i')
  · intro H' h
    exact lc_end R2 hD h0 nrf hf h done fun o W' Γ' p ho s' R' hp oh q => kk o W' Γ' p ho (s1.trans s') R' hp oh q⟩
instance sf_lcR2 {ta : TA} {da : TAd} [A : SA K ta da] [B : SG K g dg ix] [T : ST K tt dt] [C : SE K te de] : SEF K (tLc (iRng2 ta) g tt te vs) (dLcR Rg2 da dg dt de ix vs) := ⟨fun F W σ Γ Q Qd R q kk => A.run F W σ Γ _ _ R q fun xs W2 Γ2 v s1 R2 o1 ⟨ds, lo, n, e, ⟨i, j, e2, b, hlo, hn⟩, hf, hix, hl, I, i0, step, done⟩ => by
  subst e2 hlo hn
  refine ⟨_, j, ints2 (o1.full R2 e), b, fun D hD => ?_⟩
  obtain ⟨_, _, _, h0, nrf⟩ := R2.temp (ho := .lst []) hD trivial
  refine lc_range (LcSt F W2 σ Γ2 vs D I) (lc_begin R2 hD i0) ?_ ?_
  · rintro k H' hk ⟨W', Γ', acc, us, rfl, R', t', hd', hu, ha, s', tm', kn', i'⟩
    exact lc_turn (x := .sh (.int _)) hix nrf R' t' hd' hu (by omega) ha s' tm' kn' (.int _) (step k acc Γ' hk i')
  · intro H' h
    exact lc_end R2 hD h0 nrf hf h done fun o W' Γ' p ho s' R' hp oh q => kk o W' Γ' p ho (s1.trans s') R' hp oh q⟩
end
end Dk

namespace Dk
open PySem PySem.Spec PyProof.Rows L2
/-! ### items -/
def lstOf (Γ : G) : RV → Option (List PyData)
  | .sh (.list ds) => some ds
  | .ar (.list ds) => some ds
  | .own i => match Γ[i]? with
    | some (.ow (.lst ds)) => some ds
    | some (.rf (.lst ds)) => some ds
    | some (.sh (.list ds)) => some ds
    | _ => none
  | _ => none
def tupOf (Γ : G) : RV → Option (List PyData)
  | .sh (.tuple ds) => some ds
  | .ar (.tuple ds) => some ds
  | .own i => match Γ[i]? with
    | some (.sh (.tuple ds)) => some ds
    | _ => none
  | _ => none
section
variable {K : Fg} {F : Fx K} {W : Wd} {σ : L2.St} {Γ : G} {v : V} {x : RV} {ds : List PyData}
theorem lstOf_ok (R : Rel F W σ Γ) (o : VOk F W σ Γ v x) (e : lstOf Γ x = some ds) : ∃ (a : Addr) (xs : List V), v = .ref a ∧ W.H a = some (.lst xs) ∧ Paired (fun v d => VOk F W σ Γ v (itK x d)) xs ds ∧ DqAll K W.H xs ds := by
  cases x with
  | sh d =>
    cases d with
    | list ds' =>
      cases e
      cases (show Dq K (W.S F) v (.list ds) from o) with
      | lst h1 h2 => exact ⟨_, _, rfl, less_same _ _ h1, Paired.mapP (paired_of h2) fun _ _ z => z, h2.same less_same⟩
    | _ => cases e
  | ar d =>
    cases d with
    | list ds' =>
      cases e
      cases (show Dq K (less F.H0 F.rf) v (.list ds) from o) with
      | lst h1 h2 => exact ⟨_, _, rfl, R.ar_same _ _ h1, Paired.mapP (paired_of h2) fun _ _ z => z, h2.same R.ar_same⟩
    | _ => cases e
  | own i =>
    obtain ⟨s, h1, h2, h3⟩ := o
    simp only [lstOf, h1] at e
    cases s with
    | no => cases e
    | ar d => cases e
    | sh d =>
      cases d with
      | list ds' =>
        cases e
        obtain ⟨v', q1, q2⟩ := R.slot i _ h1
        rw [h3] at q1
        cases q1
        cases q2 with
        | lst g1 g2 => exact ⟨_, _, rfl, less_same _ _ g1, Paired.mapP (paired_of g2) fun _ _ z => z, g2.same less_same⟩
      | _ => cases e
    | ow o =>
      cases o with
      | lst ds' =>
        cases e
        obtain ⟨p, q1, _, _, vs, q2, q3⟩ := R.slot i _ h1
        rw [h3] at q1
        cases q1
        exact ⟨_, _, rfl, q2, Paired.mapP (paired_of q3) fun _ _ z => z, q3.same less_same⟩
      | _ => cases e
    | rf o =>
      cases o with
      | lst ds' =>
        cases e
        obtain ⟨p, _, q1, _, _, vs, q2, q3⟩ := R.slot i _ h1
        rw [h3] at q1
        cases q1
        exact ⟨_, _, rfl, q2, Paired.mapP (paired_of q3) fun _ _ z => z, q3.same less_same⟩
      | _ => cases e
theorem tupOf_ok (R : Rel F W σ Γ) (o : VOk F W σ Γ v x) (e : tupOf Γ x = some ds) : ∃ (a : Addr) (xs : List V), v = .ref a ∧ Tq K W.H a xs ∧ Paired (fun v d => VOk F W σ Γ v (itK x d)) xs ds ∧ DqAll K W.H xs ds := by
  cases x with
  | sh d =>
    cases d with
    | tuple ds' =>
      cases e
      cases (show Dq K (W.S F) v (.tuple ds) from o) with
      | tup h1 h2 => exact ⟨_, _, rfl, h1.same less_same, Paired.mapP (paired_of h2) fun _ _ z => z, h2.same less_same⟩
    | _ => cases e
  | ar d =>
    cases d with
    | tuple ds' =>
      cases e
      cases (show Dq K (less F.H0 F.rf) v (.tuple ds) from o) with
      | tup h1 h2 => exact ⟨_, _, rfl, h1.same R.ar_same, Paired.mapP (paired_of h2) fun _ _ z => z, h2.same R.ar_same⟩
    | _ => cases e
  | own i =>
    obtain ⟨s, h1, h2, h3⟩ := o
    simp only [tupOf, h1] at e
    cases s with
    | no => cases e
    | ar d => cases e
    | ow o => cases e
    | rf o => cases e
    | sh d =>
      cases d with
      | tuple ds' =>
        cases e
        obtain ⟨v', q1, q2⟩ := R.slot i _ h1
        rw [h3] at q1
        cases q1
        cases q2 with
        | tup g1 g2 => exact ⟨_, _, rfl, g1.same less_same, Paired.mapP (paired_of g2) fun _ _ z => z, g2.same less_same⟩
      | _ => cases e
theorem paired_get' {α β : Type} {P : α → β → Prop} : ∀ {xs : List α} {ys : List β} {i : Nat} {y : β}, Paired P xs ys → ys[i]? = some y → ∃ x, xs[i]? = some x ∧ P x y
  | _, _, _, _, .nil, e => by simp at e
  | _, _, 0, _, .cons r _, e => by simp at e; subst e; exact ⟨_, rfl, r⟩
  | _, _, i + 1, _, .cons _ t, e => by
    obtain ⟨y, h1, h2⟩ := paired_get' (i := i) t (by simpa using e)
    exact ⟨y, by simpa using h1, h2⟩
theorem paired_atI {P : V → PyData → Prop} {xs : List V} {ys : List PyData} {i : Int} {y : PyData} (h : Paired P xs ys) (e : atI ys i = some y) : ∃ x, atI xs i = some x ∧ P x y := by
  unfold atI at e ⊢
  rw [Paired.length h]
  obtain ⟨j, e1, e2⟩ := Option.bind_eq_some_iff.mp e
  obtain ⟨x, h1, h2⟩ := paired_get' h e2
  exact ⟨x, by rw [e1]; exact h1, h2⟩
end
section
variable {K : Fg} {ta tb : TE} {da db : TEd}
def dIx (sq : G → RV → Option (List PyData)) (da db : TEd) : TEd := fun Γ Q => da Γ fun x Γ1 => db Γ1 fun y Γ2 => ∃ i ds d, dat Γ2 y = some (.int i) ∧ sq Γ2 x = some ds ∧ atI ds i = some d ∧ Q (itK x d) Γ2
instance se_ixL [SE K ta da] [SE K tb db] : SE K (tOp (rIxL K) ta tb) (dIx lstOf da db) := ⟨fun F W σ Γ Q Qd R q k => two R q fun x y W' Γ' u v s' R' o1 o2 ⟨i, ds, d, e1, e2, e3, q⟩ => by
  obtain ⟨a, xs, rfl, h1, h2, _⟩ := lstOf_ok R' o1 e2
  obtain ⟨z, g1, g2⟩ := paired_atI h2 e3
  exact ⟨a, xs, i, z, rfl, int_of (o2.full R' e1), SqL.of h1, g1, k _ W' Γ' _ s' R' g2 q⟩⟩
instance se_ixT [SE K ta da] [SE K tb db] : SE K (tOp (rIxT K) ta tb) (dIx tupOf da db) := ⟨fun F W σ Γ Q Qd R q k => two R q fun x y W' Γ' u v s' R' o1 o2 ⟨i, ds, d, e1, e2, e3, q⟩ => by
  obtain ⟨a, xs, rfl, h1, h2, _⟩ := tupOf_ok R' o1 e2
  obtain ⟨z, g1, g2⟩ := paired_atI h2 e3
  exact ⟨a, xs, i, z, rfl, int_of (o2.full R' e1), h1.sq, g1, k _ W' Γ' _ s' R' g2 q⟩⟩
/-! ### slices -/
class SO (K : Fg) (t : TO) (d : outParam (G → (Option Int → G → Prop) → Prop)) : Prop where
  run : ∀ (F : Fx K) (W : Wd) (σ : L2.St) (Γ : G) (Q : Option Int → Hp → Prop) (Qd : Option Int → G → Prop), Rel F W σ Γ → d Γ Qd →
    (∀ (b : Option Int) (W' : Wd) (Γ' : G), Stp F W Γ W' Γ' → Rel F W' σ Γ' → Qd b Γ' → Q b W'.H) → t σ W.H Q
def dNoPart : G → (Option Int → G → Prop) → Prop := fun Γ Q => Q none Γ
def dPart (da : TEd) : G → (Option Int → G → Prop) → Prop := fun Γ Q => da Γ fun x Γ1 => ∃ i, dat Γ1 x = some (.int i) ∧ Q (some i) Γ1
instance so_none : SO K tNoPart dNoPart := ⟨fun F W σ Γ Q Qd R q k => k none W Γ (Stp.refl ..) R q⟩
instance so_some [A : SE K ta da] : SO K (tPart ta) (dPart da) := ⟨fun F W σ Γ Q Qd R q k => A.run F W σ Γ _ _ R q fun x W' Γ' v s' R' o1 ⟨i, e1, q⟩ => ⟨i, int_of (o1.full R' e1), k _ W' Γ' s' R' q⟩⟩
def cutD (xs : List PyData) (lo hi : Option Int) : List PyData := (xs.drop (HT.sIx xs.length 0 lo)).take (HT.sIx xs.length xs.length hi - HT.sIx xs.length 0 lo)
/-- the items may be kept -/
def keepable (x : RV) (ds : List PyData) : Prop := match x with
  | .ar _ => tupOs ds = true
  | _ => True
theorem DqAll.ofPaired {H : Hp} : ∀ {vs : List V} {ds : List PyData}, Paired (fun v d => Dq K H v d) vs ds → DqAll K H vs ds
  | _, _, .nil => .nil
  | _, _, .cons a b => .cons a (DqAll.ofPaired b)
theorem keep_ok {F : Fx K} {W : Wd} {σ : L2.St} {Γ : G} {x : RV} {xs : List V} {ds : List PyData} (R : Rel F W σ Γ) (h : Paired (fun v d => VOk F W σ Γ v (itK x d)) xs ds) (hk : keepable x ds) : DqAll K (W.S F) xs ds := by
  cases x with
  | sh d => exact DqAll.ofPaired h
  | own i => exact DqAll.ofPaired h
  | ar d =>
    have q : DqAll K (less F.H0 F.rf) xs ds := DqAll.ofPaired h
    exact DqAll.tupO_less (H' := W.H) (fun a z => R.exmo z) _ _ hk (q.same R.ar_same)
def dSl (da : TEd) (dl dh : G → (Option Int → G → Prop) → Prop) : TFd := fun Γ Q => da Γ fun x Γ1 => dl Γ1 fun lo Γ2 => dh Γ2 fun hi Γ3 => ∃ ds, lstOf Γ3 x = some ds ∧ keepable x ds ∧ Q (.lst (cutD ds lo hi)) Γ3
instance sf_slice {tl th : TO} {dl dh : G → (Option Int → G → Prop) → Prop} [A : SE K ta da] [L : SO K tl dl] [U : SO K th dh] : SEF K (L2.tSl (rSlL K) ta tl th) (dSl da dl dh) := ⟨fun F W σ Γ Q Qd R q k => A.run F W σ Γ _ _ R q fun x W1 Γ1 v s1 R1 o1 q => L.run F W1 σ Γ1 _ _ R1 q fun lo W2 Γ2 s2 R2 q => U.run F W2 σ Γ2 _ _ R2 q fun hi W3 Γ3 s3 R3 ⟨ds, e, hk, q⟩ => by
  obtain ⟨a, xs, rfl, h1, h2, _⟩ := lstOf_ok R3 (o1.stp (s2.trans s3)) e
  have hd := keep_ok R3 h2 hk
  refine ⟨a, xs, rfl, SqL.of h1, fun p hp => k (.lst (cutD ds lo hi)) W3 Γ3 p _ (s1.trans (s2.trans s3)) R3 hp ⟨_, rfl, ?_⟩ q⟩
  unfold cutV cutD
  rw [hd.length]
  exact (hd.drop _).take _⟩
/-! ### lists put together -/
def dCat (da db : TEd) : TFd := fun Γ Q => da Γ fun x Γ1 => db Γ1 fun y Γ2 => ∃ ds es, lstOf Γ2 x = some ds ∧ lstOf Γ2 y = some es ∧ keepable x ds ∧ keepable y es ∧ ds.length + es.length ≤ sizeLine ∧ Q (.lst (ds ++ es)) Γ2
instance sf_cat [SE K ta da] [SE K tb db] : SEF K (tOp rCat ta tb) (dCat da db) := ⟨fun F W σ Γ Q Qd R q k => two R q fun x y W' Γ' u v s' R' o1 o2 ⟨ds, es, e1, e2, k1, k2, hl, q⟩ => by
  obtain ⟨a, xs, rfl, h1, h2, _⟩ := lstOf_ok R' o1 e1
  obtain ⟨b, ys, rfl, g1, g2, _⟩ := lstOf_ok R' o2 e2
  have hd := keep_ok R' h2 k1
  have he := keep_ok R' g2 k2
  exact ⟨a, b, xs, ys, rfl, rfl, h1, g1, by rw [hd.length, he.length]; exact hl, fun p hp => k (.lst (ds ++ es)) W' Γ' p _ s' R' hp ⟨_, rfl, hd.app he⟩ q⟩⟩
def repD (ds : List PyData) (n : Nat) : List PyData := (List.replicate n ds).flatten
/-! ### calls of what is built in -/
def rLen (K : Fg) : List V → Hp → VK → Prop := fun xs H Q => ∃ p ys, xs = [.ref p] ∧ (SqL K H p ys ∨ SqT K H p ys) ∧ Q (.int ys.length) H
theorem b_len {X : Cx} : CallR X (.builtin "len") (rLen X.K) := call_len_seq
def rListOf (K : Fg) : List V → Hp → VK → Prop := fun xs H Q => ∃ p ys, xs = [.ref p] ∧ (SqL K H p ys ∨ SqT K H p ys) ∧ ∀ l, H l = none → Q (.ref l) (upd H l (.lst ys))
theorem b_list {X : Cx} : CallR X (.type "list") (rListOf X.K) := call_list_of
def rTupOf (K : Fg) : List V → Hp → VK → Prop := fun xs H Q => ∃ p ys, xs = [.ref p] ∧ ((SqL K H p ys ∧ ∀ l, H l = none → Q (.ref l) (upd H l (.tup ys))) ∨ (SqT K H p ys ∧ Q (.ref p) H))
theorem b_tuple {X : Cx} : CallR X (.type "tuple") (rTupOf X.K) := call_tuple_of
def rAbs : List V → Hp → VK → Prop := fun xs H Q => ∃ i, xs = [.int i] ∧ Q (.int (if i < 0 then -i else i)) H
theorem b_abs {X : Cx} : CallR X (.builtin "abs") rAbs := call_abs
def rMx2 : List V → Hp → VK → Prop := fun xs H Q => ∃ i j, xs = [.int i, .int j] ∧ Q (.int (if j > i then j else i)) H
theorem b_max2 {X : Cx} (hc : X.calm = true) : CallR X (.builtin "max") rMx2 := call_max2 hc
def rMn2 : List V → Hp → VK → Prop := fun xs H Q => ∃ i j, xs = [.int i, .int j] ∧ Q (.int (if j < i then j else i)) H
theorem b_min2 {X : Cx} (hc : X.calm = true) : CallR X (.builtin "min") rMn2 := call_min2 hc
def seqOf (Γ : G) (x : RV) : Option (List PyData) := match lstOf Γ x with
  | some ds => some ds
  | none => tupOf Γ x
theorem seqOf_ok {F : Fx K} {W : Wd} {σ : L2.St} {Γ : G} {v : V} {x : RV} {ds : List PyData} (R : Rel F W σ Γ) (o : VOk F W σ Γ v x) (e : seqOf Γ x = some ds) : ∃ (a : Addr) (xs : List V), v = .ref a ∧ (W.H a = some (.lst xs) ∨ Tq K W.H a xs) ∧ Paired (fun v d => VOk F W σ Γ v (itK x d)) xs ds ∧ DqAll K W.H xs ds := by
  unfold seqOf at e
  split at e
  · rename_i ds' h
    cases e
    obtain ⟨a, xs, h1, h2, h3⟩ := lstOf_ok R o h
    exact ⟨a, xs, h1, .inl h2, h3⟩
  · obtain ⟨a, xs, h1, h2, h3⟩ := tupOf_ok R o e
    exact ⟨a, xs, h1, .inr h2, h3⟩
theorem sq_or {H : Hp} {a : Addr} {xs : List V} (h : H a = some (.lst xs) ∨ Tq K H a xs) : SqL K H a xs ∨ SqT K H a xs := h.imp (fun z => SqL.of z) fun z => z.sq
/-- one argument -/
theorem one {F : Fx K} {W : Wd} {σ : L2.St} {Γ : G} {Qd : RV → G → Prop} {Q : List V → Hp → Prop} [A : SE K ta da] (R : Rel F W σ Γ) (h : da Γ Qd) (k : ∀ (x : RV) (W' : Wd) (Γ' : G) (v : V), Stp F W Γ W' Γ' → Rel F W' σ Γ' → VOk F W' σ Γ' v x → Qd x Γ' → Q [v] W'.H) : tCons ta tNil σ W.H Q :=
  A.run F W σ Γ _ _ R h fun x W' Γ' v s' R' o q => k x W' Γ' v s' R' o q
def dLen (da : TEd) : TEd := fun Γ Q => da Γ fun x Γ1 => ∃ ds, seqOf Γ1 x = some ds ∧ Q (.sh (.int ds.length)) Γ1
instance se_len [SE K ta da] : SE K (tCB (rLen K) (tCons ta tNil)) (dLen da) := ⟨fun F W σ Γ Q Qd R q k => one (ta := ta) (da := da) R q fun x W' Γ' v s' R' o ⟨ds, e, q⟩ => by
  obtain ⟨a, xs, rfl, h1, h2, h3⟩ := seqOf_ok R' o e
  refine ⟨a, xs, rfl, sq_or h1, ?_⟩
  rw [h3.length]
  exact k _ W' Γ' _ s' R' (.int _) q⟩
def dListOf (da : TEd) : TFd := fun Γ Q => da Γ fun x Γ1 => ∃ ds, seqOf Γ1 x = some ds ∧ keepable x ds ∧ Q (.lst ds) Γ1
instance sf_listOf [SE K ta da] : SEF K (tCB (rListOf K) (tCons ta tNil)) (dListOf da) := ⟨fun F W σ Γ Q Qd R q k => one (ta := ta) (da := da) R q fun x W' Γ' v s' R' o ⟨ds, e, hk, q⟩ => by
  obtain ⟨a, xs, rfl, h1, h2, h3⟩ := seqOf_ok R' o e
  exact ⟨a, xs, rfl, sq_or h1, fun l hl => k (.lst ds) W' Γ' l _ s' R' hl ⟨xs, rfl, keep_ok R' h2 hk⟩ q⟩⟩
def dTupOf (da : TEd) : TEd := fun Γ Q => da Γ fun x Γ1 => ∃ ds, lstOf Γ1 x = some ds ∧ keepable x ds ∧ Q (.sh (.tuple ds)) Γ1
instance se_tupOf [SE K ta da] : SE K (tCB (rTupOf K) (tCons ta tNil)) (dTupOf da) := ⟨fun F W σ Γ Q Qd R q k => one (ta := ta) (da := da) R q fun x W' Γ' v s' R' o ⟨ds, e, hk, q⟩ => by
  obtain ⟨a, xs, rfl, h1, h2, h3⟩ := lstOf_ok R' o e
  have hd := keep_ok R' h2 hk
  refine ⟨a, xs, rfl, .inl ⟨SqL.of h1, fun p hp => ?_⟩⟩
  have hS := same_new (o := .tup xs) hp
  refine k (.sh (.tuple ds)) { W' with H := upd W'.H p (.tup xs) } Γ' (.ref p) (s'.trans (Stp.grow R' hS)) (R'.grow hS).1 ?_ q
  exact .tup (.inl (S_of (W := { W' with H := upd W'.H p (.tup xs) }) (R'.free hp) upd_same)) (hd.same (R'.grow hS).2)⟩
def absI (i : Int) : Int := if i < 0 then -i else i
def dAbs (da : TEd) : TEd := fun Γ Q => da Γ fun x Γ1 => ∃ i, dat Γ1 x = some (.int i) ∧ Q (.sh (.int (absI i))) Γ1
instance se_abs [SE K ta da] : SE K (tCB rAbs (tCons ta tNil)) (dAbs da) := ⟨fun F W σ Γ Q Qd R q k => one (ta := ta) (da := da) R q fun x W' Γ' v s' R' o ⟨i, e, q⟩ => ⟨i, by rw [int_of (o.full R' e)], k _ W' Γ' _ s' R' (.int _) q⟩⟩
def d2I (h : Int → Int → Int) (da : TAd) : TEd := fun Γ Q => da Γ fun xs Γ1 => ∃ i j, dats Γ1 xs = some [.int i, .int j] ∧ Q (.sh (.int (h i j))) Γ1
def maxI (i j : Int) : Int := if j > i then j else i
def minI (i j : Int) : Int := if j < i then j else i
instance se_max2 {t : TA} {d : TAd} [A : SA K t d] : SE K (tCB rMx2 t) (d2I maxI d) := ⟨fun F W σ Γ Q Qd R q k => A.run F W σ Γ _ _ R q fun xs W' Γ' vs s' R' o ⟨i, j, e, q⟩ => ⟨i, j, ints2 (o.full R' e), k _ W' Γ' _ s' R' (.int _) q⟩⟩
instance se_min2 {t : TA} {d : TAd} [A : SA K t d] : SE K (tCB rMn2 t) (d2I minI d) := ⟨fun F W σ Γ Q Qd R q k => A.run F W σ Γ _ _ R q fun xs W' Γ' vs s' R' o ⟨i, j, e, q⟩ => ⟨i, j, ints2 (o.full R' e), k _ W' Γ' _ s' R' (.int _) q⟩⟩
/-- a list of numbers -/
def dSum (da : TEd) : TEd := fun Γ Q => da Γ fun x Γ1 => ∃ ns : List Int, lstOf Γ1 x = some (ns.map .int) ∧ Q (.sh (.int ns.sum)) Γ1
instance se_sum [SE K ta da] : SE K (tCB (rSum K) (tCons ta tNil)) (dSum da) := ⟨fun F W σ Γ Q Qd R q k => one (ta := ta) (da := da) R q fun x W' Γ' v s' R' o ⟨ns, e, q⟩ => by
  obtain ⟨a, xs, rfl, h1, h2, h3⟩ := lstOf_ok R' o e
  exact ⟨a, ns, rfl, SqL.of (h3.ints ▸ h1), k _ W' Γ' _ s' R' (.int _) q⟩⟩
def dMaxL (da : TEd) : TEd := fun Γ Q => da Γ fun x Γ1 => ∃ ns : List Int, lstOf Γ1 x = some (ns.map .int) ∧ 0 < ns.length ∧ ∀ m, m ∈ ns → (∀ y, y ∈ ns → y ≤ m) → Q (.sh (.int m)) Γ1
instance se_maxL [SE K ta da] : SE K (tCB (rMax K) (tCons ta tNil)) (dMaxL da) := ⟨fun F W σ Γ Q Qd R q k => one (ta := ta) (da := da) R q fun x W' Γ' v s' R' o ⟨ns, e, hl, q⟩ => by
  obtain ⟨a, xs, rfl, h1, h2, h3⟩ := lstOf_ok R' o e
  exact ⟨a, ns, rfl, SqL.of (h3.ints ▸ h1), hl, fun m hm hy => k _ W' Γ' _ s' R' (.int _) (q m hm hy)⟩⟩
def dMinL (da : TEd) : TEd := fun Γ Q => da Γ fun x Γ1 => ∃ ns : List Int, lstOf Γ1 x = some (ns.map .int) ∧ 0 < ns.length ∧ ∀ m, m ∈ ns → (∀ y, y ∈ ns → m ≤ y) → Q (.sh (.int m)) Γ1
instance se_minL [SE K ta da] : SE K (tCB (rMin K) (tCons ta tNil)) (dMinL da) := ⟨fun F W σ Γ Q Qd R q k => one (ta := ta) (da := da) R q fun x W' Γ' v s' R' o ⟨ns, e, hl, q⟩ => by
  obtain ⟨a, xs, rfl, h1, h2, h3⟩ := lstOf_ok R' o e
  exact ⟨a, ns, rfl, SqL.of (h3.ints ▸ h1), hl, fun m hm hy => k _ W' Γ' _ s' R' (.int _) (q m hm hy)⟩⟩
def dAnyAll (f : List Bool → Bool) (da : TEd) : TEd := fun Γ Q => da Γ fun x Γ1 => ∃ bs : List Bool, lstOf Γ1 x = some (bs.map .bool) ∧ Q (.sh (.bool (f bs))) Γ1
instance se_any [SE K ta da] : SE K (tCB (rAny K) (tCons ta tNil)) (dAnyAll (fun bs => bs.any id) da) := ⟨fun F W σ Γ Q Qd R q k => one (ta := ta) (da := da) R q fun x W' Γ' v s' R' o ⟨ns, e, q⟩ => by
  obtain ⟨a, xs, rfl, h1, h2, h3⟩ := lstOf_ok R' o e
  exact ⟨a, ns, rfl, SqL.of (h3.bools ▸ h1), k _ W' Γ' _ s' R' (.bl _) q⟩⟩
instance se_all [SE K ta da] : SE K (tCB (rAll K) (tCons ta tNil)) (dAnyAll (fun bs => bs.all id) da) := ⟨fun F W σ Γ Q Qd R q k => one (ta := ta) (da := da) R q fun x W' Γ' v s' R' o ⟨ns, e, q⟩ => by
  obtain ⟨a, xs, rfl, h1, h2, h3⟩ := lstOf_ok R' o e
  exact ⟨a, ns, rfl, SqL.of (h3.bools ▸ h1), k _ W' Γ' _ s' R' (.bl _) q⟩⟩
/-- sorted: numbers -/
def dSortI (da : TEd) : TFd := fun Γ Q => da Γ fun x Γ1 => ∃ ns : List Int, lstOf Γ1 x = some (ns.map .int) ∧ ∀ ms : List Int, ms.Perm ns → ms.Pairwise (· ≤ ·) → Q (.lst (ms.map .int)) Γ1
instance sf_sortI [SE K ta da] : SEF K (tCB (rSortedI K) (tCons ta tNil)) (dSortI da) := ⟨fun F W σ Γ Q Qd R q k => one (ta := ta) (da := da) R q fun x W' Γ' v s' R' o ⟨ns, e, q⟩ => by
  obtain ⟨a, xs, rfl, h1, h2, h3⟩ := lstOf_ok R' o e
  exact ⟨a, ns, rfl, SqL.of (h3.ints ▸ h1), fun ms p hp hs hn => k (.lst (ms.map .int)) W' Γ' p _ s' R' hn ⟨_, rfl, DqAll.ofInts ms⟩ (q ms hp hs)⟩⟩
/-- isinstance(x, T) -/
def tyD : PyData → String
  | .none => "NoneType"
  | .bool _ => "bool"
  | .int _ => "int"
  | .str _ => "str"
  | .list _ => "list"
  | .tuple _ => "tuple"
  | .dict _ => "dict"
theorem ty_of {H : Hp} {v : V} {d : PyData} (h : Dq K H v d) : TyX K H v (.type (tyD d)) := by
  cases d with
  | none => cases h; exact .base .non
  | bool b => cases h; exact .base (.bl _)
  | int b => cases h; exact .base (.int _)
  | str b => cases h; exact .base (.str _)
  | list b =>
    cases h with
    | lst a b => exact .base (.lst a)
  | tuple b =>
    cases h with
    | tup a b =>
      rcases a with a | ⟨_, o, _, _, e, c, _⟩
      · exact .base (.tup a)
      · exact .kTuple e c
  | dict b => cases h
def dIsi (n : String) (da : TEd) : TEd := fun Γ Q => da Γ fun x Γ1 => ∃ d b, dat Γ1 x = some d ∧ kitB (tyD d) n = some b ∧ Q (.sh (.bool b)) Γ1
instance se_isi {n : String} [A : SE K ta da] : SE K (tCB (rIsi K) (tCons ta (tCons (tC (.ty n)) tNil))) (dIsi n da) := ⟨fun F W σ Γ Q Qd R q k => A.run F W σ Γ _ _ R q fun x W' Γ' v s' R' o ⟨d, b, e, h, q⟩ =>
  ⟨v, .ty n, _, _, b, rfl, .ty n, ty_of (o.full R' e), kit_ty h, k _ W' Γ' _ s' R' (.bl _) q⟩⟩
/-- x in xs, flat things -/
def scV : PyData → Option V
  | .int i => some (.int i)
  | .str i => some (.str i)
  | .bool i => some (.bl i)
  | .none => some .non
  | _ => none
def scVs : List PyData → Option (List V)
  | [] => some []
  | x :: xs => match scV x, scVs xs with
    | some v, some vs => some (v :: vs)
    | _, _ => none
theorem scV_ok {H : Hp} {v u : V} {d : PyData} (h : Dq K H v d) (e : scV d = some u) : v = u ∧ flatV v = true := by
  cases d with
  | none => cases h; cases e; exact ⟨rfl, rfl⟩
  | bool b => cases h; cases e; exact ⟨rfl, rfl⟩
  | int b => cases h; cases e; exact ⟨rfl, rfl⟩
  | str b => cases h; cases e; exact ⟨rfl, rfl⟩
  | list b => cases e
  | tuple b => cases e
  | dict b => cases e
theorem scVs_ok {H : Hp} : ∀ {vs us : List V} {ds : List PyData}, DqAll K H vs ds → scVs ds = some us → vs = us ∧ vs.all flatV = true
  | _, _, [], h, e => by cases h; cases e; exact ⟨rfl, rfl⟩
  | _, _, d :: ds, h, e => by
    cases h with
    | cons a b =>
      simp only [scVs] at e
      split at e
      · rename_i v vs e1 e2
        cases e
        obtain ⟨r1, r2⟩ := scV_ok a e1
        obtain ⟨q1, q2⟩ := scVs_ok b e2
        subst r1 q1
        exact ⟨rfl, by simp [r2, q2]⟩
      · cases e
def dIn (neg : Bool) (da db : TEd) : TEd := fun Γ Q => da Γ fun x Γ1 => db Γ1 fun y Γ2 => ∃ d ds u us, dat Γ2 x = some d ∧ seqOf Γ2 y = some ds ∧ scV d = some u ∧ scVs ds = some us ∧ Q (.sh (.bool (if neg then !inV u us else inV u us))) Γ2
instance se_in {neg : Bool} [SE K ta da] [SE K tb db] : SE K (tOp (rIn K neg) ta tb) (dIn neg da db) := ⟨fun F W σ Γ Q Qd R q k => two R q fun x y W' Γ' u v s' R' o1 o2 ⟨d, ds, w, ws, e1, e2, e3, e4, q⟩ => by
  obtain ⟨b, ys, rfl, g1, g2, g3⟩ := seqOf_ok R' o2 e2
  obtain ⟨r1, r2⟩ := scV_ok (o1.full R' e1) e3
  obtain ⟨q1, q2⟩ := scVs_ok g3 e4
  subst r1 q1
  exact ⟨b, ys, rfl, sq_or g1, r2, q2, k _ W' Γ' _ s' R' (.bl _) q⟩⟩
theorem inV_ints (i : Int) (ns : List Int) : inV (.int i) (ns.map V.int) = decide (i ∈ ns) := by
  induction ns with
  | nil => rfl
  | cons n ns ih =>
    have e : inV (.int i) ((n :: ns).map V.int) = (eqV (.int n) (.int i) || inV (.int i) (ns.map V.int)) := rfl
    rw [e, ih]
    by_cases h : i = n
    · subst h
      simp [eqV]
    · have h' : n ≠ i := fun z => h z.symm
      simp [eqV, h, h']
theorem scVs_ints (ns : List Int) : scVs (ns.map .int) = some (ns.map V.int) := by
  induction ns with
  | nil => rfl
  | cons n ns ih => simp [scVs, scV, ih]
end
/-! ### the rules by the written part itself -/
section
variable {X : Cx}
theorem kixL (K : Fg) (h : X.K = K := by rfl) : IxR X (rIxL K) := h ▸ ix_list
theorem kixT (K : Fg) (h : X.K = K := by rfl) : IxR X (rIxT K) := h ▸ ix_tup
theorem kslL (K : Fg) (h : X.K = K := by rfl) : SlR X (rSlL K) := h ▸ sl_list
theorem klen (K : Fg) (h : X.K = K := by rfl) : CallR X (.builtin "len") (rLen K) := h ▸ b_len
theorem klist (K : Fg) (h : X.K = K := by rfl) : CallR X (.type "list") (rListOf K) := h ▸ b_list
theorem ktuple (K : Fg) (h : X.K = K := by rfl) : CallR X (.type "tuple") (rTupOf K) := h ▸ b_tuple
theorem ksum (K : Fg) (hc : X.calm = true) (h : X.K = K := by rfl) : CallR X (.builtin "sum") (rSum K) := h ▸ cr_sum hc
theorem kmax (K : Fg) (hc : X.calm = true) (h : X.K = K := by rfl) : CallR X (.builtin "max") (rMax K) := h ▸ cr_max hc
theorem kmin (K : Fg) (hc : X.calm = true) (h : X.K = K := by rfl) : CallR X (.builtin "min") (rMin K) := h ▸ cr_min hc
theorem kany (K : Fg) (hc : X.calm = true) (h : X.K = K := by rfl) : CallR X (.builtin "any") (rAny K) := h ▸ cr_any hc
theorem kall (K : Fg) (hc : X.calm = true) (h : X.K = K := by rfl) : CallR X (.builtin "all") (rAll K) := h ▸ cr_all hc
theorem kisi (K : Fg) (h : X.K = K := by rfl) : CallR X (.builtin "isinstance") (rIsi K) := h ▸ call_isi
theorem ksortI (K : Fg) (h : X.K = K := by rfl) : CallR X (.builtin "sorted") (rSortedI K) := h ▸ cr_sortedI
theorem kin (K : Fg) (h : X.K = K := by rfl) : OpR X (compareOp .In) (rIn K false) := h ▸ op_in_seq
theorem knotin (K : Fg) (h : X.K = K := by rfl) : OpR X (compareOp .NotIn) (rIn K true) := h ▸ op_notIn_seq
theorem keqD (K : Fg) (hu : X.A.units + 64 < cLine) (h : X.K = K := by rfl) : OpR X (compareOp .Eq) (rEqD K) := h ▸ op_eqD hu
theorem kneD (K : Fg) (hu : X.A.units + 64 < cLine) (h : X.K = K := by rfl) : OpR X (compareOp .NotEq) (rNeD K) := h ▸ op_neD hu
theorem kcatT (K : Fg) (h : X.K = K := by rfl) : OpR X (binaryOp .Add) (rCatT K) := h ▸ op_catT
theorem kpil (K : Fg) {tg l : Expr} {tl : TE} (hl : PE X l tl) (h : X.K = K := by rfl) : PI X tg l (iList K tl) := h ▸ pi_list hl
theorem kpit (K : Fg) {tg l : Expr} {tl : TE} (hl : PE X l tl) (h : X.K = K := by rfl) : PI X tg l (iTup K tl) := h ▸ pi_tup hl
theorem kpg (K : Fg) (n : Nat) {es : List Expr} {k : Nat} {pos : Pos} {t : TGs} (hc : X.calm = true) (hg : PGs X es t) (h : X.K = K := by rfl) (hn : (assignEach es X.env).length = n := by rfl) (hst : (assignEach es X.env).findIdx? (·.1) = none := by rfl) : PG X (.Tuple es k pos) (gTup K n t) := h ▸ pg_tup hc hg hn hst
theorem kbm (K : Fg) {T : String} {name : Str} {id : String} {o e : Expr} {es : List Expr} {to : TE} {t : TA} {r : V → List V → Hp → VK → Prop} {apos cpos : Pos} (pa : PlainAttrs T) (slot : Slot T name id) (hty : typeOf (.builtin id) = pure (.type "method_descriptor")) (hm : MtR X id r) (ho : PE X o to) (ha : PA X (e :: es) t) (h : X.K = K := by rfl)
    (hbase : attributeBase o name X.env (eval o X.env) = eval o X.env := by rfl)
    (hfew : ((backTo cpos (starEach (e :: es) X.env)).all (fun x => !x.1) && (backToKw cpos (keywordEach [] X.env)).all (fun x => x.1.isSome)
      && decide ((e :: es).length + ([] : List Keyword).length + (if ([] : List Keyword).isEmpty then 0 else 1) < 30)) = true := by rfl)
    (hline : (apos.endLine == cpos.line) = true := by rfl) (hs : starEach (e :: es) X.env = (false, eval e X.env) :: starEach es X.env := by rfl) (hplain : (backTo cpos (starEach es X.env)).any (·.1) = false := by rfl) :
    PE X (.Call (.Attribute o name apos) (e :: es) [] cpos) (tBM K T r to t) := h ▸ pe_bm pa slot hty hm ho ha hbase hfew hline hs hplain
theorem kbm0 (K : Fg) {T : String} {name : Str} {id : String} {o : Expr} {to : TE} {r : V → List V → Hp → VK → Prop} {apos cpos : Pos} (pa : PlainAttrs T) (slot : Slot T name id) (hty : typeOf (.builtin id) = pure (.type "method_descriptor")) (hm : MtR X id r) (ho : PE X o to) (h : X.K = K := by rfl)
    (hbase : attributeBase o name X.env (eval o X.env) = eval o X.env := by rfl) (hline : (apos.endLine == cpos.line) = true := by rfl) : PE X (.Call (.Attribute o name apos) [] [] cpos) (tBM0 K T r to) := h ▸ pe_bm0 pa slot hty hm ho hbase hline
end
end Dk

namespace Dk
open PySem PySem.Spec PyProof.Rows L2
/-! ### lists that are changed -/
section
variable {K : Fg} {te ti : TE} {de di : TEd}
theorem own_lst {F : Fx K} {W : Wd} {σ : L2.St} {Γ : G} {i : Nat} {s : Sl} {ds : List PyData} {p : Addr} (R : Rel F W σ Γ) (h1 : Γ[i]? = some s) (h2 : s.own? = some (.lst ds)) (h3 : σ[i]? = some (some (.ref p))) : ∃ vs, W.H p = some (.lst vs) ∧ DqAll K (W.S F) vs ds := by
  have q := R.slot i s h1
  cases s with
  | no => cases h2
  | sh _ => cases h2
  | ar _ => cases h2
  | ow o =>
    cases h2
    obtain ⟨p', e1, _, _, vs, e2, e3⟩ := q
    rw [h3] at e1
    cases e1
    exact ⟨vs, e2, e3⟩
  | rf o =>
    cases h2
    obtain ⟨p', _, e1, _, _, vs, e2, e3⟩ := q
    rw [h3] at e1
    cases e1
    exact ⟨vs, e2, e3⟩
theorem own_ref {F : Fx K} {W : Wd} {σ : L2.St} {Γ : G} {i : Nat} {s : Sl} {o : OD} (R : Rel F W σ Γ) (h1 : Γ[i]? = some s) (h2 : s.own? = some o) : ∃ p, σ[i]? = some (some (.ref p)) := by
  have q := R.slot i s h1
  cases s with
  | no => cases h2
  | sh _ => cases h2
  | ar _ => cases h2
  | ow o => obtain ⟨p', e1, _⟩ := q; exact ⟨p', e1⟩
  | rf o => obtain ⟨p', _, e1, _⟩ := q; exact ⟨p', e1⟩
def ownL (Γ : G) (i : Nat) : Option (List PyData) := match Γ[i]? with
  | some (.ow (.lst ds)) => some ds
  | some (.rf (.lst ds)) => some ds
  | _ => none
def putL (Γ : G) (i : Nat) (ds : List PyData) : G := match Γ[i]? with
  | some s => Γ.set i (setOwn s (.lst ds))
  | none => Γ
theorem ownL_of {Γ : G} {i : Nat} {ds : List PyData} (h : ownL Γ i = some ds) : ∃ s, Γ[i]? = some s ∧ s.own? = some (.lst ds) ∧ ∀ es, putL Γ i es = Γ.set i (setOwn s (.lst es)) := by
  unfold ownL at h
  split at h
  · rename_i ds' e
    cases h
    exact ⟨_, e, rfl, fun es => by simp [putL, e]⟩
  · rename_i ds' e
    cases h
    exact ⟨_, e, rfl, fun es => by simp [putL, e]⟩
  · cases h
def dAppend (i : Nat) (de : TEd) : TEd := fun Γ Q => (ownL Γ i).isSome = true ∧ de Γ fun x Γ1 => ∃ ds d, ownL Γ1 i = some ds ∧ shOf x = some d ∧ ds.length < sizeLine ∧ Q (.sh .none) (putL Γ1 i (ds ++ [d]))
instance se_append {i : Nat} [A : SE K te de] : SE K (tBM K "list" rAppend (tVar i) (tCons te tNil)) (dAppend i de) := ⟨fun F W σ Γ Q Qd R ⟨h0, q⟩ k => by
  obtain ⟨ds0, h0⟩ := Option.isSome_iff_exists.mp h0
  obtain ⟨s0, a1, a2, _⟩ := ownL_of h0
  obtain ⟨p, e0⟩ := own_ref R a1 a2
  obtain ⟨vs0, b1, b2⟩ := own_lst R a1 a2 e0
  refine ⟨.ref p, e0, .inl ⟨rfl, _, SqL.of b1⟩, ?_⟩
  refine A.run F W σ Γ _ _ R q fun x W' Γ' v s' R' o ⟨ds, d, h1, e2, hl, q⟩ => ?_
  obtain ⟨s, c1, c2, c3⟩ := ownL_of h1
  obtain ⟨vs, b1, b2⟩ := own_lst R' c1 c2 e0
  have hh : OwnH K (W'.S F) (.lst (vs ++ [v])) (.lst (ds ++ [d])) := ⟨_, rfl, b2.app (.cons (o.sh R' e2) .nil)⟩
  refine ⟨p, vs, v, rfl, rfl, b1, by rw [b2.length]; exact hl, ?_⟩
  rw [c3] at q
  exact k _ { W' with H := upd W'.H p (.lst (vs ++ [v])) } _ _ (s'.trans (Stp.put R' c1 c2 rfl e0 hh)) (R'.put c1 c2 rfl e0 hh).1 .non q⟩
def dExtend (i : Nat) (de : TEd) : TEd := fun Γ Q => (ownL Γ i).isSome = true ∧ de Γ fun x Γ1 => ∃ ds es, ownL Γ1 i = some ds ∧ lstOf Γ1 x = some es ∧ keepable x es ∧ ds.length + es.length ≤ sizeLine ∧ Q (.sh .none) (putL Γ1 i (ds ++ es))
instance se_extend {i : Nat} [A : SE K te de] : SE K (tBM K "list" rExtend (tVar i) (tCons te tNil)) (dExtend i de) := ⟨fun F W σ Γ Q Qd R ⟨h0, q⟩ k => by
  obtain ⟨ds0, h0⟩ := Option.isSome_iff_exists.mp h0
  obtain ⟨s0, a1, a2, _⟩ := ownL_of h0
  obtain ⟨p, e0⟩ := own_ref R a1 a2
  obtain ⟨vs0, b1, b2⟩ := own_lst R a1 a2 e0
  refine ⟨.ref p, e0, .inl ⟨rfl, _, SqL.of b1⟩, ?_⟩
  refine A.run F W σ Γ _ _ R q fun x W' Γ' v s' R' o ⟨ds, es, h1, e2, hk, hl, q⟩ => ?_
  obtain ⟨s, c1, c2, c3⟩ := ownL_of h1
  obtain ⟨vs, b1, b2⟩ := own_lst R' c1 c2 e0
  obtain ⟨b, ys, rfl, g1, g2, g3⟩ := lstOf_ok R' o e2
  have he := keep_ok R' g2 hk
  have hh : OwnH K (W'.S F) (.lst (vs ++ ys)) (.lst (ds ++ es)) := ⟨_, rfl, b2.app he⟩
  refine ⟨p, b, vs, ys, rfl, rfl, b1, g1, by rw [b2.length, he.length]; exact hl, ?_⟩
  rw [c3] at q
  exact k _ { W' with H := upd W'.H p (.lst (vs ++ ys)) } _ _ (s'.trans (Stp.put R' c1 c2 rfl e0 hh)) (R'.put c1 c2 rfl e0 hh).1 .non q⟩
def dPop (i : Nat) : TEd := fun Γ Q => ∃ ds d, ownL Γ i = some ds ∧ ds[ds.length - 1]? = some d ∧ Q (.sh d) (putL Γ i ds.dropLast)
instance se_pop {i : Nat} : SE K (tBM0 K "list" rPop (tVar i)) (dPop i) := ⟨fun F W σ Γ Q Qd R ⟨ds, d, h0, e, q⟩ k => by
  obtain ⟨s, c1, c2, c3⟩ := ownL_of h0
  obtain ⟨p, e0⟩ := own_ref R c1 c2
  obtain ⟨vs, b1, b2⟩ := own_lst R c1 c2 e0
  obtain ⟨v, g1, g2⟩ := b2.get e
  have hh : OwnH K (W.S F) (.lst vs.dropLast) (.lst ds.dropLast) := ⟨_, rfl, b2.dropLast⟩
  refine ⟨.ref p, e0, .inl ⟨rfl, _, SqL.of b1⟩, p, vs, v, rfl, rfl, b1, by rw [b2.length]; exact g1, ?_⟩
  rw [c3] at q
  refine k _ { W with H := upd W.H p (.lst vs.dropLast) } _ _ (Stp.put R c1 c2 rfl e0 hh) (R.put c1 c2 rfl e0 hh).1 (.ofSh ?_) q
  rw [(R.put c1 c2 rfl e0 hh).2]
  exact g2⟩
/-- xs[i] = .. -/
def dSubL (i : Nat) (di : TEd) : TGd := fun x Γ Q => (ownL Γ i).isSome = true ∧ di Γ fun y Γ1 => ∃ k j ds d, dat Γ1 y = some (.int k) ∧ ownL Γ1 i = some ds ∧ ixN ds.length k = some j ∧ shOf x = some d ∧ Q (putL Γ1 i (ds.set j d))
theorem Fm.ofStp {F : Fx K} {W W' : Wd} {Γ Γ' : G} {σ : L2.St} {ix : List Nat} (s : Stp F W Γ W' Γ') : Fm ix σ Γ σ Γ' := ⟨fun _ _ => rfl, fun j _ t e => s.kin j t e, rfl, s.len⟩
instance sg_subL {i : Nat} [A : SE K ti di] : SG K (gSub (tVar i) ti rSetL) (dSubL i di) [i] := ⟨fun F W σ Γ v x Q Qd R o ⟨h0, q⟩ kk => by
  obtain ⟨ds0, h0⟩ := Option.isSome_iff_exists.mp h0
  obtain ⟨s0, a1, a2, _⟩ := ownL_of h0
  obtain ⟨p, e0⟩ := own_ref R a1 a2
  refine ⟨.ref p, e0, A.run F W σ Γ _ _ R q fun y W' Γ' u s' R' o' ⟨k, j, ds, d, e1, h1, e2, e3, q⟩ => ?_⟩
  obtain ⟨s, c1, c2, c3⟩ := ownL_of h1
  obtain ⟨vs, b1, b2⟩ := own_lst R' c1 c2 e0
  have hh : OwnH K (W'.S F) (.lst (vs.set j v)) (.lst (ds.set j d)) := ⟨_, rfl, b2.setAt ((o.stp s').sh R' e3)⟩
  refine ⟨p, vs, k, j, rfl, int_of (o'.full R' e1), b1, by rw [b2.length]; exact e2, ?_⟩
  rw [c3] at q
  have st := s'.trans (Stp.put R' c1 c2 rfl e0 hh)
  exact kk { W' with H := upd W'.H p (.lst (vs.set j v)) } σ _ st.toKp (Fm.ofStp st) (R'.put c1 c2 rfl e0 hh).1 q⟩
end
/-! ### dicts -/
section
variable {κ : Type} [DecidableEq κ]
def valD (kvs : List (κ × PyData)) (k : κ) : Option PyData := (kvs.find? fun kv => decide (kv.1 = k)).map (·.2)
def putD (kvs : List (κ × PyData)) (k : κ) (v : PyData) : List (κ × PyData) :=
  if (kvs.any fun kv => decide (kv.1 = k)) = true then kvs.map (fun kv => if kv.1 = k then (kv.1, v) else kv) else kvs ++ [(k, v)]
variable {K : Fg} {S : Hp}
theorem KvOk.val {us : List (κ × V)} {kvs : List (κ × PyData)} (h : KvOk K S us kvs) (k : κ) : (valD kvs k = none → valV us k = none) ∧ ∀ d, valD kvs k = some d → ∃ v, valV us k = some v ∧ Dq K S v d := by
  unfold KvOk at h
  induction h with
  | nil => exact ⟨fun _ => rfl, fun d e => by cases e⟩
  | @cons p q ps qs h t ih =>
    obtain ⟨h1, h2⟩ := h
    by_cases e : q.1 = k
    · have e' : p.1 = k := h1.trans e
      refine ⟨fun z => by simp [valD, List.find?_cons, e] at z, fun d z => ⟨p.2, valV_pos e', ?_⟩⟩
      simp [valD, List.find?_cons, e] at z
      rw [← z]
      exact h2
    · have e' : ¬ p.1 = k := fun z => e (h1.symm.trans z)
      have r : valD (q :: qs) k = valD qs k := by simp [valD, List.find?_cons, e]
      rw [r, valV_neg e']
      exact ih
theorem KvOk.any {us : List (κ × V)} {kvs : List (κ × PyData)} (h : KvOk K S us kvs) (k : κ) : (us.any fun kv => decide (kv.1 = k)) = (kvs.any fun kv => decide (kv.1 = k)) := by
  unfold KvOk at h
  induction h with
  | nil => rfl
  | @cons p q ps qs h t ih => rw [List.any_cons, List.any_cons, ih, h.1]
theorem KvOk.put {us : List (κ × V)} {kvs : List (κ × PyData)} (h : KvOk K S us kvs) (k : κ) {v : V} {d : PyData} (hv : Dq K S v d) : KvOk K S (putK us k v) (putD kvs k d) := by
  unfold putK putD
  rw [h.any k]
  split
  · unfold KvOk at h ⊢
    rename_i hsp
    clear hsp
    induction h with
    | nil => exact .nil
    | @cons p q ps qs h t ih =>
      refine .cons ?_ ih
      by_cases e : q.1 = k
      · have e' : p.1 = k := h.1.trans e
        simp [e, e', hv]
      · have e' : ¬ p.1 = k := fun z => e (h.1.symm.trans z)
        simp [e, e', h]
  · unfold KvOk at h ⊢
    rename_i hsp
    clear hsp
    induction h with
    | nil => exact .cons ⟨rfl, hv⟩ .nil
    | @cons p q ps qs h t ih => exact .cons h ih
theorem KvOk.length {us : List (κ × V)} {kvs : List (κ × PyData)} (h : KvOk K S us kvs) : us.length = kvs.length := Paired.length h
theorem KvOk.keys {us : List (κ × V)} {kvs : List (κ × PyData)} (h : KvOk K S us kvs) : us.map (·.1) = kvs.map (·.1) := by
  unfold KvOk at h
  induction h with
  | nil => rfl
  | @cons p q ps qs h t ih => rw [List.map_cons, List.map_cons, ih, h.1]
end
def keyD : PyData → Option Key
  | .int i => some (.inl i)
  | .str i => some (.inr i)
  | _ => none
def keysD : List PyData → Option (List Key)
  | [] => some []
  | x :: xs => match keyD x, keysD xs with
    | some v, some vs => some (v :: vs)
    | _, _ => none
section
variable {K : Fg} {te td ty tv : TE} {de dy dv : TEd}
theorem keyD_ok {H : Hp} {v : V} {d : PyData} {k : Key} (h : Dq K H v d) (e : keyD d = some k) : v = kV k := by
  cases d with
  | int b => cases h; cases e; rfl
  | str b => cases h; cases e; rfl
  | _ => cases e
theorem keysD_ok {H : Hp} : ∀ {vs : List V} {ds : List PyData} {ks : List Key}, DqAll K H vs ds → keysD ds = some ks → vs = ks.map kV
  | _, [], _, h, e => by cases h; cases e; rfl
  | _, d :: ds, _, h, e => by
    cases h with
    | cons a b =>
      simp only [keysD] at e
      split at e
      · rename_i v vs e1 e2
        cases e
        rw [keyD_ok a e1, keysD_ok b e2]
        rfl
      · cases e
/-- a dict of a name, as far as one asks: what stands at a key -/
def dictAt (Γ : G) (i : Nat) (key : PyData) : Option (Option PyData) := match Γ[i]? with
  | some (.ow (.dK kvs)) => (keyD key).map fun k => valD kvs k
  | some (.rf (.dK kvs)) => (keyD key).map fun k => valD kvs k
  | some (.ow (.dT kvs)) => match key with
    | .tuple ds => if KT = true then none else (keysD ds).map fun k => valD kvs k
    | _ => none
  | some (.rf (.dT kvs)) => match key with
    | .tuple ds => if KT = true then none else (keysD ds).map fun k => valD kvs k
    | _ => none
  | _ => none
def isDict (Γ : G) (i : Nat) : Bool := match Γ[i]? with
  | some (.ow (.dK _)) => true
  | some (.rf (.dK _)) => true
  | some (.ow (.dT _)) => true
  | some (.rf (.dT _)) => true
  | _ => false
def dictPut (Γ : G) (i : Nat) (key v : PyData) : Option (G × Nat) := match Γ[i]? with
  | some (.ow (.dK kvs)) => (keyD key).map fun k => (Γ.set i (.ow (.dK (putD kvs k v))), kvs.length)
  | some (.rf (.dK kvs)) => (keyD key).map fun k => (Γ.set i (.rf (.dK (putD kvs k v))), kvs.length)
  | some (.ow (.dT kvs)) => match key with
    | .tuple ds => if KT = true then none else (keysD ds).map fun k => (Γ.set i (.ow (.dT (putD kvs k v))), kvs.length)
    | _ => none
  | some (.rf (.dT kvs)) => match key with
    | .tuple ds => if KT = true then none else (keysD ds).map fun k => (Γ.set i (.rf (.dT (putD kvs k v))), kvs.length)
    | _ => none
  | _ => none
theorem own_dK {F : Fx K} {W : Wd} {σ : L2.St} {Γ : G} {i : Nat} {s : Sl} {kvs : List (Key × PyData)} (R : Rel F W σ Γ) (h1 : Γ[i]? = some s) (h2 : s.own? = some (.dK kvs)) : ∃ p us, σ[i]? = some (some (.ref p)) ∧ W.H p = some (.dK us) ∧ KvOk K (W.S F) us kvs := by
  have q := R.slot i s h1
  cases s with
  | no => cases h2
  | sh _ => cases h2
  | ar _ => cases h2
  | ow o =>
    cases h2
    obtain ⟨p', e1, _, _, vs, e2, e3⟩ := q
    exact ⟨p', vs, e1, e2, e3⟩
  | rf o =>
    cases h2
    obtain ⟨p', _, e1, _, _, vs, e2, e3⟩ := q
    exact ⟨p', vs, e1, e2, e3⟩
theorem own_dT {F : Fx K} {W : Wd} {σ : L2.St} {Γ : G} {i : Nat} {s : Sl} {kvs : List (List Key × PyData)} (R : Rel F W σ Γ) (h1 : Γ[i]? = some s) (h2 : s.own? = some (.dT kvs)) : ∃ p us, σ[i]? = some (some (.ref p)) ∧ W.H p = some (.dT us) ∧ KvOk K (W.S F) us kvs := by
  have q := R.slot i s h1
  cases s with
  | no => cases h2
  | sh _ => cases h2
  | ar _ => cases h2
  | ow o =>
    cases h2
    obtain ⟨p', e1, _, _, vs, e2, e3⟩ := q
    exact ⟨p', vs, e1, e2, e3⟩
  | rf o =>
    cases h2
    obtain ⟨p', _, e1, _, _, vs, e2, e3⟩ := q
    exact ⟨p', vs, e1, e2, e3⟩
theorem tup_ref {H : Hp} {v : V} {ds : List PyData} (kt : ¬ KT = true) (h : Dq K H v (.tuple ds)) : ∃ b vs, v = .ref b ∧ H b = some (.tup vs) ∧ DqAll K H vs ds := by
  cases h with
  | tup a b => exact ⟨_, _, rfl, a.resolve_right fun z => kt z.1, b⟩
theorem isDict_ref {F : Fx K} {W : Wd} {σ : L2.St} {Γ : G} {i : Nat} (R : Rel F W σ Γ) (h : isDict Γ i = true) : ∃ p, σ[i]? = some (some (.ref p)) ∧ IsD W.H p := by
  unfold isDict at h
  split at h
  · rename_i kvs e
    obtain ⟨p, us, e1, e2, e3⟩ := own_dK R e rfl
    exact ⟨p, e1, .inl ⟨us, .inl e2⟩⟩
  · rename_i kvs e
    obtain ⟨p, us, e1, e2, e3⟩ := own_dK R e rfl
    exact ⟨p, e1, .inl ⟨us, .inl e2⟩⟩
  · rename_i kvs e
    obtain ⟨p, us, e1, e2, e3⟩ := own_dT R e rfl
    exact ⟨p, e1, .inr ⟨us, .inl e2⟩⟩
  · rename_i kvs e
    obtain ⟨p, us, e1, e2, e3⟩ := own_dT R e rfl
    exact ⟨p, e1, .inr ⟨us, .inl e2⟩⟩
  · cases h
/-- what is looked up -/
theorem dictAt_ok {F : Fx K} {W : Wd} {σ : L2.St} {Γ : G} {i : Nat} {key : PyData} {r : Option PyData} {y : V} {p : Addr} (R : Rel F W σ Γ) (hy : Dq K W.H y key) (e0 : σ[i]? = some (some (.ref p))) (h : dictAt Γ i key = some r) :
    ∃ o, DGet W.H p y o ∧ (r = none → o = none) ∧ ∀ d, r = some d → ∃ v, o = some v ∧ Dq K (W.S F) v d := by
  have useK : ∀ {s : Sl} {kvs : List (Key × PyData)}, Γ[i]? = some s → s.own? = some (.dK kvs) → (keyD key).map (fun k => valD kvs k) = some r → ∃ o, DGet W.H p y o ∧ (r = none → o = none) ∧ ∀ d, r = some d → ∃ v, o = some v ∧ Dq K (W.S F) v d := fun {s kvs} h1 h2 h3 => by
    obtain ⟨p', us, e1, e2, e3⟩ := own_dK R h1 h2
    rw [e0] at e1
    cases e1
    obtain ⟨k, g1, g2⟩ := Option.map_eq_some_iff.mp h3
    rw [keyD_ok hy g1, ← g2]
    exact ⟨_, DGet.k e2, fun z => (e3.val k).1 z, fun d z => (e3.val k).2 d z⟩
  have useT : ∀ (kt : ¬ KT = true) {s : Sl} {kvs : List (List Key × PyData)} {ds : List PyData}, key = .tuple ds → Γ[i]? = some s → s.own? = some (.dT kvs) → (keysD ds).map (fun k => valD kvs k) = some r → ∃ o, DGet W.H p y o ∧ (r = none → o = none) ∧ ∀ d, r = some d → ∃ v, o = some v ∧ Dq K (W.S F) v d := fun kt {s kvs ds} hk h1 h2 h3 => by
    obtain ⟨p', us, e1, e2, e3⟩ := own_dT R h1 h2
    rw [e0] at e1
    cases e1
    obtain ⟨k, g1, g2⟩ := Option.map_eq_some_iff.mp h3
    subst hk
    obtain ⟨b, vs, rfl, t1, t2⟩ := tup_ref kt hy
    rw [keysD_ok t2 g1] at t1
    rw [← g2]
    exact ⟨_, DGet.t e2 t1, fun z => (e3.val k).1 z, fun d z => (e3.val k).2 d z⟩
  unfold dictAt at h
  split at h
  · rename_i kvs e
    exact useK e rfl h
  · rename_i kvs e
    exact useK e rfl h
  · rename_i kvs e
    cases key with
    | tuple ds =>
      by_cases kt : KT = true
      · dsimp only at h; rw [if_pos kt] at h; cases h
      · dsimp only at h; rw [if_neg kt] at h; exact useT kt rfl e rfl h
    | _ => cases h
  · rename_i kvs e
    cases key with
    | tuple ds =>
      by_cases kt : KT = true
      · dsimp only at h; rw [if_pos kt] at h; cases h
      · dsimp only at h; rw [if_neg kt] at h; exact useT kt rfl e rfl h
    | _ => cases h
  · cases h
def dDGet2 (i : Nat) (dy dv : TEd) : TEd := fun Γ Q => isDict Γ i = true ∧ dy Γ fun y Γ1 => dv Γ1 fun z Γ2 => ∃ key r, dat Γ2 y = some key ∧ dictAt Γ2 i key = some r ∧ (r = none → Q z Γ2) ∧ ∀ d, r = some d → Q (.sh d) Γ2
instance se_dget2 {i : Nat} [SE K ty dy] [SE K tv dv] : SE K (tDGet2 (tVar i) ty tv) (dDGet2 i dy dv) := ⟨fun F W σ Γ Q Qd R ⟨h0, q⟩ k => by
  obtain ⟨p, e0, hd⟩ := isDict_ref R h0
  refine ⟨.ref p, e0, p, rfl, hd, ?_⟩
  refine two (ta := ty) (tb := tv) (da := dy) (db := dv) R q fun y z W' Γ' u v s' R' o1 o2 ⟨key, r, e1, e2, q1, q2⟩ => ?_
  obtain ⟨o, g1, g2, g3⟩ := dictAt_ok R' (o1.full R' e1) e0 e2
  refine ⟨o, g1, ?_⟩
  cases r with
  | none => rw [g2 rfl]; exact k _ W' Γ' _ s' R' o2 (q1 rfl)
  | some d =>
    obtain ⟨w, rfl, hw⟩ := g3 d rfl
    exact k _ W' Γ' _ s' R' (.ofSh hw) (q2 d rfl)⟩
def dDGet (i : Nat) (dy : TEd) : TEd := fun Γ Q => isDict Γ i = true ∧ dy Γ fun y Γ2 => ∃ key d, dat Γ2 y = some key ∧ dictAt Γ2 i key = some (some d) ∧ Q (.sh d) Γ2
instance se_dget {i : Nat} [A : SE K ty dy] : SE K (tDGet (tVar i) ty) (dDGet i dy) := ⟨fun F W σ Γ Q Qd R ⟨h0, q⟩ k => by
  obtain ⟨p, e0, hd⟩ := isDict_ref R h0
  refine ⟨.ref p, e0, A.run F W σ Γ _ _ R q fun y W' Γ' u s' R' o1 ⟨key, d, e1, e2, q⟩ => ?_⟩
  obtain ⟨o, g1, g2, g3⟩ := dictAt_ok R' (o1.full R' e1) e0 e2
  obtain ⟨w, rfl, hw⟩ := g3 d rfl
  exact ⟨p, w, rfl, g1, k _ W' Γ' _ s' R' (.ofSh hw) q⟩⟩
def dDIn (f : Bool → Bool) (i : Nat) (dy : TEd) : TEd := fun Γ Q => dy Γ fun y Γ2 => ∃ key r, dat Γ2 y = some key ∧ isDict Γ2 i = true ∧ dictAt Γ2 i key = some r ∧ Q (.sh (.bool (f r.isSome))) Γ2
instance se_din {i : Nat} [A : SE K ty dy] : SE K (tDIn ty (tVar i)) (dDIn id i dy) := ⟨fun F W σ Γ Q Qd R q k => A.run F W σ Γ _ _ R q fun y W' Γ' u s' R' o1 ⟨key, r, e1, h0, e2, q⟩ => by
  obtain ⟨p, e0, hd⟩ := isDict_ref R' h0
  obtain ⟨o, g1, g2, g3⟩ := dictAt_ok R' (o1.full R' e1) e0 e2
  refine ⟨.ref p, e0, p, o, rfl, g1, ?_⟩
  cases r with
  | none => rw [g2 rfl]; exact k _ W' Γ' _ s' R' (.bl _) q
  | some d =>
    obtain ⟨w, rfl, hw⟩ := g3 d rfl
    exact k _ W' Γ' _ s' R' (.bl _) q⟩
instance se_dnotin {i : Nat} [A : SE K ty dy] : SE K (tDNotIn ty (tVar i)) (dDIn not i dy) := ⟨fun F W σ Γ Q Qd R q k => A.run F W σ Γ _ _ R q fun y W' Γ' u s' R' o1 ⟨key, r, e1, h0, e2, q⟩ => by
  obtain ⟨p, e0, hd⟩ := isDict_ref R' h0
  obtain ⟨o, g1, g2, g3⟩ := dictAt_ok R' (o1.full R' e1) e0 e2
  refine ⟨.ref p, e0, p, o, rfl, g1, ?_⟩
  cases r with
  | none => rw [g2 rfl]; exact k _ W' Γ' _ s' R' (.bl _) q
  | some d =>
    obtain ⟨w, rfl, hw⟩ := g3 d rfl
    exact k _ W' Γ' _ s' R' (.bl _) q⟩
def dDPut (i : Nat) (dy dv : TEd) : TSd := fun E Γ => dv Γ fun z Γ1 => isDict Γ1 i = true ∧ dy Γ1 fun y Γ2 => ∃ key d Γ3 n, dat Γ2 y = some key ∧ shOf z = some d ∧ dictPut Γ2 i key d = some (Γ3, n) ∧ n < sizeLine ∧ E.nx Γ3
instance ss_dput {Xw : WX} {i : Nat} [A : SE K ty dy] [B : SE K tv dv] : SS K Xw (sDPut (tVar i) ty tv) (dDPut i dy dv) := ⟨fun F W σ Γ D E R q L => B.run F W σ Γ _ _ R q fun z W1 Γ1 w s1 R1 o1 ⟨h0, q⟩ => by
  obtain ⟨p, e0, hd⟩ := isDict_ref R1 h0
  refine ⟨.ref p, e0, A.run F W1 σ Γ1 _ _ R1 q fun y W' Γ' u s' R' o2 ⟨key, d, Γ3, n, e1, e2, e3, hn, q⟩ => ?_⟩
  have hw := (o1.stp s').sh R' e2
  have hy := o2.full R' e1
  have useK : ∀ {s : Sl} {kvs : List (Key × PyData)}, Γ'[i]? = some s → s.own? = some (.dK kvs) → (keyD key).map (fun k => (Γ'.set i (setOwn s (.dK (putD kvs k d))), kvs.length)) = some (Γ3, n) → ∃ a H4, V.ref p = .ref a ∧ DPut W'.H a u w H4 ∧ D.nx σ H4 := fun {s kvs} h1 h2 h3 => by
    obtain ⟨p', us, g1, g2, g3⟩ := own_dK R' h1 h2
    rw [e0] at g1
    cases g1
    obtain ⟨k, f1, f2⟩ := Option.map_eq_some_iff.mp h3
    cases f2
    have hh : OwnH K (W'.S F) (.dK (putK us k w)) (.dK (putD kvs k d)) := ⟨_, rfl, g3.put k hw⟩
    refine ⟨p, _, rfl, keyD_ok hy f1 ▸ DPut.k g2 (by rw [g3.length]; exact hn), ?_⟩
    exact L.nx { W' with H := upd W'.H p (.dK (putK us k w)) } σ _ (s1.sh.trans (s'.sh.trans (Stp.put R' h1 h2 rfl e0 hh).sh)) (R'.put h1 h2 rfl e0 hh).1 q
  have useT : ∀ (kt : ¬ KT = true) {s : Sl} {kvs : List (List Key × PyData)} {ds : List PyData}, key = .tuple ds → Γ'[i]? = some s → s.own? = some (.dT kvs) → (keysD ds).map (fun k => (Γ'.set i (setOwn s (.dT (putD kvs k d))), kvs.length)) = some (Γ3, n) → ∃ a H4, V.ref p = .ref a ∧ DPut W'.H a u w H4 ∧ D.nx σ H4 := fun kt {s kvs ds} hk h1 h2 h3 => by
    obtain ⟨p', us, g1, g2, g3⟩ := own_dT R' h1 h2
    rw [e0] at g1
    cases g1
    obtain ⟨k, f1, f2⟩ := Option.map_eq_some_iff.mp h3
    cases f2
    subst hk
    obtain ⟨b, vs, rfl, t1, t2⟩ := tup_ref kt hy
    rw [keysD_ok t2 f1] at t1
    have hh : OwnH K (W'.S F) (.dT (putK us k w)) (.dT (putD kvs k d)) := ⟨_, rfl, g3.put k hw⟩
    refine ⟨p, _, rfl, DPut.t g2 t1 (by rw [g3.length]; exact hn), ?_⟩
    exact L.nx { W' with H := upd W'.H p (.dT (putK us k w)) } σ _ (s1.sh.trans (s'.sh.trans (Stp.put R' h1 h2 rfl e0 hh).sh)) (R'.put h1 h2 rfl e0 hh).1 q
  unfold dictPut at e3
  split at e3
  · rename_i kvs e
    exact useK e rfl e3
  · rename_i kvs e
    exact useK e rfl e3
  · rename_i kvs e
    cases key with
    | tuple ds =>
      by_cases kt : KT = true
      · dsimp only at e3; rw [if_pos kt] at e3; cases e3
      · dsimp only at e3; rw [if_neg kt] at e3; exact useT kt rfl e rfl e3
    | _ => cases e3
  · rename_i kvs e
    cases key with
    | tuple ds =>
      by_cases kt : KT = true
      · dsimp only at e3; rw [if_pos kt] at e3; cases e3
      · dsimp only at e3; rw [if_neg kt] at e3; exact useT kt rfl e rfl e3
    | _ => cases e3
  · cases e3⟩
def dDNewK : TFd := fun Γ Q => Q (.dK []) Γ
def dDNewT : TFd := fun Γ Q => Q (.dT []) Γ
instance sf_dnewK : SEF K tDNewK dDNewK := ⟨fun F W σ Γ Q Qd R q k => fun p hp => k (.dK []) W Γ p _ (Stp.refl ..) R hp ⟨[], rfl, .nil⟩ q⟩
instance sf_dnewT : SEF K tDNewT dDNewT := ⟨fun F W σ Γ Q Qd R q k => fun p hp => k (.dT []) W Γ p _ (Stp.refl ..) R hp ⟨[], rfl, .nil⟩ q⟩
/-- sorted(d), keys whole numbers -/
def rSortDI : List V → Hp → VK → Prop := fun xs H Q => ∃ (a : Addr) (kvs : List (Key × V)) (ks : List Int), xs = [.ref a] ∧ Rd H a (.dK kvs) ∧ kvs.map (·.1) = ks.map Sum.inl ∧ ks.length ≤ sizeLine ∧ ∀ (ys : List Int) (p : Addr), ys.Perm ks → ys.Pairwise (· ≤ ·) → H p = none → Q (.ref p) (upd H p (.lst (ys.map V.int)))
/-- whole numbers, place by place -/
theorem ints_by_place : ∀ (us : List Value) (ks : List Int), us.length = ks.length → (∀ (j : Nat) (n : Int), ks[j]? = some n → ∃ t, us[j]? = some (.int n t)) → IntsAre us ks
  | [], [], _, _ => .nil
  | u :: us, n :: ks, el, q => by
    obtain ⟨t, e⟩ := q 0 n rfl
    cases e
    exact .cons n t (ints_by_place us ks (Nat.succ.inj el) fun j m e => q (j + 1) m e)
/-- what a walk over a dict's keys gathers, where all keys are whole numbers -/
theorem gathered_ints {ents : List (Key × Value)} {ks : List Int} {got : Array Value} (hk : ents.map Prod.fst = ks.map Sum.inl) (hn : got.size = ents.length) (hg : ∀ (j : Nat) (v : Value), got[j]? = some v → ∃ (key : Key) (x : Value), ents[j]? = some (key, x) ∧ keyIs key v = true) : IntsAre got.toList ks := by
  have len : ents.length = ks.length := by simpa using congrArg List.length hk
  refine ints_by_place _ _ (by rw [Array.length_toList, hn, len]) fun j n e => ?_
  have jl : j < got.size := by
    have := (List.getElem?_eq_some_iff.mp e).1
    omega
  obtain ⟨key, x, e1, e2⟩ := hg j got[j] (Array.getElem?_eq_getElem jl)
  have e3 : some key = some (Sum.inl n) := by
    have := congrArg (fun l : List Key => l[j]?) hk
    simpa [List.getElem?_map, e1, e] using this
  cases e3
  have e4 : got.toList[j]? = some got[j] := by rw [Array.getElem?_toList]; exact Array.getElem?_eq_getElem jl
  rcases keyIs_shape e2 with ⟨_, t, c, ev⟩ | ⟨_, _, c, _⟩
  · cases c
    exact ⟨t, e4.trans (congrArg some ev)⟩
  · cases c
/-- list.sort on a list of whole numbers that lies on the heap -/
theorem sort_ints_at {prog : Program} {w : World} {A : Around} {Ex : Value → Shared → Prop} {st : Shared} {L : Addr} {us : List Value} {n : Nat} {ks : List Int} {R : PySem.Fin → Shared → Prop} (o : st.heap.get? L = some (seqObj "list" us.toArray n)) (fit : us.length ≤ sizeLine) (hI : IntsAre us ks)
    (go : ∀ (out : List Value) (ms : List Int), IntsAre out ms → ms.Perm ks → ms.Pairwise (· ≤ ·) → R (.done (.ret .none)) { st with heap := sortedHeap st.heap L us out.toArray }) : wpAny (model prog w) A (Builtin.«list.sort» ⟨[.ref L], []⟩) R Ex st :=
  SrtO.list_sort_ord SrtO.swo_int o fit (fun two => SrtO.ints_sortable hI two) fun out a b => go out _ (SrtO.ints_out hI a b).1 (SrtO.ints_out hI a b).2.1 (SrtO.ints_out hI a b).2.2
theorem b_sortDI {X : Cx} (calm : X.calm = true) : CallR X (.builtin "sorted") rSortDI := fun pn st σ H as vals Q J rv ⟨a, kv, ks, ea, rd, hk, fit, go⟩ => by
  cases ea
  obtain ⟨u, rfl, ru⟩ := vals1 rv
  cases ru
  obtain ⟨_, lay, ents, same, dob⟩ := dk_rd J.hok rd
  obtain ⟨_, dAt⟩ := dob.dictAt
  have hk' : ents.map Prod.fst = ks.map Sum.inl := same.keys.symm.trans hk
  have len : ents.length = ks.length := by simpa using congrArg List.length hk'
  apply Calls.call_function_entry kind_sorted plain_sorted entry_sorted (args_sorted1 _)
  unfold Builtin.«sorted»
  apply wpAny_bind (m := checkCount "sorted" 1 1 _)
  apply wpAny_pure
  apply wpAny_bind
  refine PySem.W.kdu_collect (A := X.A.in1) (PySem.W.kdl_dict (knd := mixKind X.prog X.w) lay) (J.ok.hd calm) dAt (len ▸ fit) fun hp tk got keep gath => ?_
  have hI := gathered_ints hk' gath.1 gath.2
  have gl : got.toList.length ≤ sizeLine := by rw [Array.length_toList, gath.1, len]; exact fit
  have J' : Inv X pn σ H { st with heap := hp, toks := tk } := J.kept keep
  apply wpAny_bind
  refine wpAny_newList ?_ gl
  let st2 : Shared := { st with heap := hp.push (seqObj "list" got.toList.toArray 0), toks := tk }
  have atL : st2.heap.get? hp.objs.size = some (seqObj "list" got.toList.toArray 0) := Heap.get?_push_size _ rfl
  show wpAny _ _ _ _ _ st2
  apply wpAny_bind
  apply wpAny_holding
  refine wpAny_call_entry slot_list_sort ⟨_, atL, rfl⟩ entry_list_sort (sort_ints_at atL gl hI fun out ms i1 i2 i3 => ⟨_, rfl, ?_⟩) (args_list_sort _)
  obtain ⟨_, atE⟩ := sortedHeap_at (vs := got.toList) (out := out.toArray) atL
  have ml : (ms.map V.int).length ≤ sizeLine := by rw [List.length_map, i2.length_eq]; exact fit
  apply wpAny_pure
  refine ⟨_, rfl, .ref hp.objs.size, _, J'.laid (o := .lst (ms.map V.int)) (t' := tk) (fun b u e => ?_) (Nat.le_refl _) ⟨ml, out, _, vals_of_ints i1, atE⟩, rfl, go ms _ i2 i3 (J'.hok.fresh (Nat.le_refl _))⟩
  have lt : b < hp.objs.size := Heap.lt_size e
  exact (sortedHeap_old (Nat.ne_of_lt lt) (by show b < (hp.push _).objs.size; rw [size_push']; exact Nat.lt_succ_of_lt lt)).trans (Heap.get?_push_of_some _ e)
def dictKs (Γ : G) (i : Nat) : Option (List Key) := match Γ[i]? with
  | some (.ow (.dK kvs)) => some (kvs.map (·.1))
  | some (.rf (.dK kvs)) => some (kvs.map (·.1))
  | _ => none
def dSortDI (i : Nat) : TFd := fun Γ Q => ∃ ks : List Int, dictKs Γ i = some (ks.map Sum.inl) ∧ ks.length ≤ sizeLine ∧ ∀ ys : List Int, ys.Perm ks → ys.Pairwise (· ≤ ·) → Q (.lst (ys.map .int)) Γ
instance sf_sortDI {i : Nat} : SEF K (tCB rSortDI (tCons (tVar i) tNil)) (dSortDI i) := ⟨fun F W σ Γ Q Qd R ⟨ks, e, hl, q⟩ k => by
  have use : ∀ {s : Sl} {kvs : List (Key × PyData)}, Γ[i]? = some s → s.own? = some (.dK kvs) → kvs.map (·.1) = ks.map Sum.inl → tCB rSortDI (tCons (tVar i) tNil) σ W.H Q := fun {s kvs} h1 h2 h3 => by
    obtain ⟨p, us, g1, g2, g3⟩ := own_dK R h1 h2
    exact ⟨.ref p, g1, p, us, ks, rfl, .inl g2, by rw [g3.keys, h3], hl, fun ys p' hp hs hn => k (.lst (ys.map .int)) W Γ p' _ (Stp.refl ..) R hn ⟨_, rfl, DqAll.ofInts ys⟩ (q ys hp hs)⟩
  unfold dictKs at e
  split at e
  · rename_i kvs h
    exact use h rfl (Option.some.inj e)
  · rename_i kvs h
    exact use h rfl (Option.some.inj e)
  · cases e⟩
end
end Dk

namespace Dk
open PySem PySem.Spec PyProof.Rows L2
/-! ### objects that are told by a word of their own -/
class AbI (I : Hp → Addr → List Addr → Prop) : Prop where
  mem : ∀ {H : Hp} {p : Addr} {f : List Addr}, I H p f → p ∈ f
  mo : ∀ {H : Hp} {p : Addr} {f : List Addr}, I H p f → ∀ a ∈ f, Mo (H a)
  st : ∀ {H H' : Hp} {p : Addr} {f : List Addr}, I H p f → (∀ a ∈ f, H' a = H a) → Tx H H' → I H' p f
/-- the first argument's object may be changed, its word stays -/
def RefSp (K : Fg) (I : Hp → Addr → List Addr → Prop) (C : List PyData → (PyData → Prop) → Prop) : Sp := fun vs H Q _ => ∃ (p : Addr) (f : List Addr) (us : List V) (ds : List PyData) (Qd : PyData → Prop), vs = .ref p :: us ∧ I H p f ∧ DqAll K (less H fun a => a ∈ f) us ds ∧ C ds Qd ∧
  ∀ (v : V) (H' : Hp) (d : PyData), (∀ a o, a ∉ f → H a = some o → H' a = some o) → I H' p f → Dq K (less H' fun a => Mo (H a)) v d → Qd d → Q v H'
def RefFreshSp (K : Fg) (I : Hp → Addr → List Addr → Prop) (C : List PyData → (OD → Prop) → Prop) : Sp := fun vs H Q _ => ∃ (p : Addr) (f : List Addr) (us : List V) (ds : List PyData) (Qd : OD → Prop), vs = .ref p :: us ∧ I H p f ∧ DqAll K (less H fun a => a ∈ f) us ds ∧ C ds Qd ∧
  ∀ (q : Addr) (ho : HO) (H' : Hp) (o : OD), (∀ a o, a ∉ f → H a = some o → H' a = some o) → I H' p f → H' q = none → OwnH K (less H' fun a => Mo (H a)) ho o → Qd o → Q (.ref q) (upd H' q ho)
def isAb (I : Hp → Addr → List Addr → Prop) (Γ : G) (i : Nat) : Prop := Γ[i]? = some (.ow (.ab I)) ∨ Γ[i]? = some (.rf (.ab I))
section
variable {K : Fg} {F : Fx K} {W : Wd} {σ : L2.St} {Γ : G} {I : Hp → Addr → List Addr → Prop} {i : Nat}
theorem isAb.slot (R : Rel F W σ Γ) (h : isAb I Γ i) : ∃ s p, Γ[i]? = some s ∧ s.own? = some (.ab I) ∧ σ[i]? = some (some (.ref p)) ∧ (∀ a ∈ W.ft i, W.O a) ∧ I W.H p (W.ft i) := by
  rcases h with h | h
  · obtain ⟨p, e1, e2, e3⟩ := R.slot i _ h
    exact ⟨_, p, h, rfl, e1, fun a ha => (e2 a ha).1, e3.2.1⟩
  · obtain ⟨p, _, e1, e2, e3⟩ := R.slot i _ h
    exact ⟨_, p, h, rfl, e1, e2, e3.2.1⟩
theorem Rel.ref [A : AbI I] (R : Rel F W σ Γ) (h : isAb I Γ i) {p : Addr} {H' : Hp} (e0 : σ[i]? = some (some (.ref p))) (fr : ∀ a o, a ∉ W.ft i → W.H a = some o → H' a = some o) (hI : I H' p (W.ft i)) :
    Rel F { W with H := H' } σ Γ ∧ Stp F W Γ { W with H := H' } Γ := by
  obtain ⟨s, p', h1, h2, h3, h4, h5⟩ := h.slot R
  rw [e0] at h3
  cases h3
  have hs : Same (W.S F) (({ W with H := H' } : Wd).S F) := same_less fun a o nx e => ⟨nx, fr a o (fun z => nx (.inr (h4 a z))) e⟩
  have tx : Tx W.H H' := fun a o nm e => fr a o (fun z => nm (by have m := A.mo h5 a z; rw [e] at m; exact m)) e
  have keep : ∀ a, a ∉ W.ft i → W.O a → H' a = W.H a := fun a na ha => by
    obtain ⟨o, q⟩ := mo_some (R.mu a ha)
    rw [fr a o na q, q]
  refine ⟨⟨fun a o e nr => ?_, R.new, fun a ha => ?_, R.rfo, R.len, fun j t e => ?_, R.dis⟩, ⟨⟨hs, fun q t => ⟨t, keep q (t.2 i s _ h1 h2) t.1⟩⟩, fun j t e => ⟨t, e, Kn.refl t⟩, rfl⟩⟩
  · refine fr a o (fun z => ?_) (R.base a o e nr)
    rcases R.new a (h4 a z) with q | q
    · rw [q] at e; cases e
    · exact nr q
  · by_cases z : a ∈ W.ft i
    · exact A.mo hI a z
    · show Mo (H' a)
      rw [keep a z ha]
      exact R.mu a ha
  · by_cases q : j = i
    · subst q
      rw [h1] at e
      cases e
      have ok : OwnOk K (({ W with H := H' } : Wd).S F) H' p (W.ft j) (.ab I) := ⟨A.mem hI, hI, fun H'' hk ht => A.st hI hk ht⟩
      have z := R.slot j s h1
      cases s with
      | no => cases h2
      | sh _ => cases h2
      | ar _ => cases h2
      | ow o =>
        cases h2
        obtain ⟨p', a1, a2, a3⟩ := z
        rw [e0] at a1
        cases a1
        exact ⟨p, e0, a2, ok⟩
      | rf o =>
        cases h2
        obtain ⟨p', a0, a1, a2, a3⟩ := z
        rw [e0] at a1
        cases a1
        exact ⟨p, a0, e0, a2, ok⟩
    · have z := R.slot j t e
      refine z.keep (W' := { W with H := H' }) rfl hs (fun _ _ q => q) (fun a ha so => ?_) tx
      obtain ⟨oj, so⟩ := Option.isSome_iff_exists.mp so
      exact keep a (R.dis j i t s oj _ a q e h1 so h2 ha) (slot_O z so a ha)
theorem VOk.apart (R : Rel F W σ Γ) (h : isAb I Γ i) {v : V} {x : RV} {d : PyData} (o : VOk F W σ Γ v x) (e : dat Γ x = some d) : Dq K (less W.H fun a => a ∈ W.ft i) v d := by
  obtain ⟨s, p, h1, h2, h3, h4, h5⟩ := h.slot R
  have sS : Same (W.S F) (less W.H fun a => a ∈ W.ft i) := same_less fun a o nx e => ⟨fun z => nx (.inr (h4 a z)), e⟩
  have sA : Same (less F.H0 F.rf) (less W.H fun a => a ∈ W.ft i) := same_less fun a o nx e => ⟨fun z => by
    rcases R.new a (h4 a z) with q | q
    · rw [q] at e; cases e
    · exact nx q, R.base a o e nx⟩
  cases x with
  | sh d' => cases e; exact Dq.same sS o
  | ar d' => cases e; exact Dq.same sA o
  | own j =>
    obtain ⟨t, g1, g2, g3⟩ := o
    have q := R.slot j t g1
    simp only [dat, g1] at e
    have lst : ∀ {ds : List PyData} {q : Addr} {vs : List V}, t.own? = some (.lst ds) → q ∈ W.ft j → W.H q = some (.lst vs) → DqAll K (W.S F) vs ds → Dq K (less W.H fun a => a ∈ W.ft i) (.ref q) (.list ds) := fun {ds q vs} b1 b2 b3 b4 => by
      refine .lst (less_some.mpr ⟨fun z => ?_, b3⟩) (b4.same sS)
      have ne : j ≠ i := fun w => by
        subst w
        rw [h1] at g1
        cases g1
        rw [h2] at b1
        cases b1
      exact R.dis j i t s _ _ q ne g1 h1 b1 h2 b2 z
    cases t with
    | no => cases g2
    | sh d' =>
      cases e
      obtain ⟨v', e1, e2⟩ := q
      rw [g3] at e1
      cases e1
      exact Dq.same sS e2
    | ar d' =>
      cases e
      obtain ⟨v', e1, e2⟩ := q
      rw [g3] at e1
      cases e1
      exact Dq.same sA e2
    | ow o' =>
      cases o' with
      | lst ds =>
        cases e
        obtain ⟨p, e1, _, hf, vs, e2, e3⟩ := q
        rw [g3] at e1
        cases e1
        exact lst rfl (by rw [hf]; simp) e2 e3
      | dK _ => cases e
      | dT _ => cases e
      | ab _ => cases e
    | rf o' =>
      cases o' with
      | lst ds =>
        cases e
        obtain ⟨p, _, e1, _, hf, vs, e2, e3⟩ := q
        rw [g3] at e1
        cases e1
        exact lst rfl (by rw [hf]; simp) e2 e3
      | dK _ => cases e
      | dT _ => cases e
      | ab _ => cases e
theorem VOks.apart (R : Rel F W σ Γ) (h : isAb I Γ i) : ∀ {xs : List RV} {vs : List V} {ds : List PyData}, VOks F W σ Γ vs xs → dats Γ xs = some ds → DqAll K (less W.H fun a => a ∈ W.ft i) vs ds
  | [], _, _, o, e => by cases o; cases e; exact .nil
  | x :: xs, _, _, o, e => by
    cases o with
    | cons a b =>
      simp only [dats] at e
      split at e
      · rename_i d ds h1 h2
        cases e
        exact .cons (a.apart R h h1) (VOks.apart R h b h2)
      · cases e
end
section
variable {K : Fg} {I : Hp → Addr → List Addr → Prop} {i : Nat} {t : TA} {d : TAd} {E : XK}
def dCallR (I : Hp → Addr → List Addr → Prop) (i : Nat) (C : List PyData → (PyData → Prop) → Prop) (d : TAd) : TEd := fun Γ Q => isAb I Γ i ∧ d Γ fun xs Γ1 => ∃ ds, isAb I Γ1 i ∧ dats Γ1 xs = some ds ∧ C ds fun r => Q (.sh r) Γ1
instance se_callR [AbI I] {C : List PyData → (PyData → Prop) → Prop} [A : SA K t d] : SE K (tCall (RefSp K I C) [] E (tCons (tVar i) t)) (dCallR I i C d) := ⟨fun F W σ Γ Q Qd R ⟨h0, q⟩ k => by
  obtain ⟨_, p, _, _, e0, _, _⟩ := h0.slot R
  refine ⟨.ref p, e0, A.run F W σ Γ _ _ R q fun xs W' Γ' vs s' R' o1 ⟨ds, h1, e1, q⟩ => ?_⟩
  obtain ⟨s, p', g1, g2, g3, g4, g5⟩ := h1.slot R'
  rw [e0] at g3
  cases g3
  rw [List.append_nil]
  refine ⟨p, W'.ft i, vs, ds, _, rfl, g5, o1.apart R' h1 e1, q, fun v H' r fr hI hv hq => ?_⟩
  obtain ⟨R2, s2⟩ := R'.ref h1 e0 fr hI
  refine k (.sh r) { W' with H := H' } Γ' v (s'.trans s2) R2 (.ofSh ?_) hq
  exact hv.same (same_less fun a o nx e => ⟨fun z => nx (R'.exmo z), e⟩)⟩
def dCallRF (I : Hp → Addr → List Addr → Prop) (i : Nat) (C : List PyData → (OD → Prop) → Prop) (d : TAd) : TFd := fun Γ Q => isAb I Γ i ∧ d Γ fun xs Γ1 => ∃ ds, isAb I Γ1 i ∧ dats Γ1 xs = some ds ∧ C ds fun r => Q r Γ1
instance sf_callR [AbI I] {C : List PyData → (OD → Prop) → Prop} [A : SA K t d] : SEF K (tCall (RefFreshSp K I C) [] E (tCons (tVar i) t)) (dCallRF I i C d) := ⟨fun F W σ Γ Q Qd R ⟨h0, q⟩ k => by
  obtain ⟨_, p, _, _, e0, _, _⟩ := h0.slot R
  refine ⟨.ref p, e0, A.run F W σ Γ _ _ R q fun xs W' Γ' vs s' R' o1 ⟨ds, h1, e1, q⟩ => ?_⟩
  obtain ⟨s, p', g1, g2, g3, g4, g5⟩ := h1.slot R'
  rw [e0] at g3
  cases g3
  rw [List.append_nil]
  refine ⟨p, W'.ft i, vs, ds, _, rfl, g5, o1.apart R' h1 e1, q, fun l ho H' r fr hI hl hv hq => ?_⟩
  obtain ⟨R2, s2⟩ := R'.ref h1 e0 fr hI
  refine k r { W' with H := H' } Γ' l ho (s'.trans s2) R2 hl ?_ hq
  exact hv.same (same_less fun a o nx e => ⟨fun z => nx (R'.exmo z), e⟩)⟩
end
/-! ### defs -/
def startG (N : List Str) (sl : List Sl) : G := sl ++ List.replicate (N.length - sl.length) .no
def argOk (s : Sl) (d : PyData) : Prop := s = .ar d ∨ (s = .sh d ∧ tupO d = true)
def retOf (Γ : G) : RV → Option PyData
  | .own i => match Γ[i]? with
    | some (.ow (.lst ds)) => some (.list ds)
    | some (.sh d) => some d
    | _ => none
  | x => shOf x
def retFresh (Γ : G) : RV → Option OD
  | .own i => match Γ[i]? with
    | some (.ow (.lst ds)) => some (.lst ds)
    | some (.ow (.dK ds)) => some (.dK ds)
    | some (.ow (.dT ds)) => some (.dT ds)
    | _ => none
  | _ => none
section
variable {K : Fg} {F : Fx K} {W : Wd} {σ : L2.St} {Γ : G}
theorem ret_ok {v : V} {x : RV} {d : PyData} (R : Rel F W σ Γ) (o : VOk F W σ Γ v x) (e : retOf Γ x = some d) : Dq K (less W.H fun a => Mo (F.H0 a)) v d := by
  have sS : Same (W.S F) (less W.H fun a => Mo (F.H0 a)) := same_less fun a o nx e => ⟨fun z => nx (.inl z), e⟩
  cases x with
  | sh d' => cases e; exact Dq.same sS o
  | ar d' => exact (VOk.sh R o e).same sS
  | own i =>
    obtain ⟨s, h1, h2, h3⟩ := o
    simp only [retOf, h1] at e
    cases s with
    | no => cases e
    | ar d => cases e
    | rf o => cases e
    | sh d' =>
      cases e
      obtain ⟨v', e1, e2⟩ := R.slot i _ h1
      rw [h3] at e1
      cases e1
      exact e2.same sS
    | ow o =>
      cases o with
      | lst ds =>
        cases e
        obtain ⟨p, e1, hO, hf, vs, e2, e3⟩ := R.slot i _ h1
        rw [h3] at e1
        cases e1
        have hp : p ∈ W.ft i := by rw [hf]; simp
        have h0 : F.H0 p = none := (R.new p (hO p hp).1).resolve_right (hO p hp).2
        exact .lst (less_some.mpr ⟨by rw [h0]; exact fun z => z, e2⟩) (e3.same sS)
      | dK _ => cases e
      | dT _ => cases e
      | ab _ => cases e
open Classical in
noncomputable def dropH (H : Hp) (p : Addr) : Hp := fun a => if a = p then none else H a
theorem dropH_at {H : Hp} {p : Addr} : dropH H p p = none := if_pos rfl
theorem dropH_ne {H : Hp} {p a : Addr} (h : a ≠ p) : dropH H p a = H a := if_neg h
theorem dropH_upd {H : Hp} {p : Addr} {ho : HO} (h : H p = some ho) : upd (dropH H p) p ho = H := by
  funext a
  by_cases e : a = p
  · subst e
    rw [upd_same, h]
  · rw [upd_ne e, dropH_ne e]
theorem retFresh_ok {v : V} {x : RV} {od : OD} (R : Rel F W σ Γ) (o : VOk F W σ Γ v x) (e : retFresh Γ x = some od) : ∃ p ho, v = .ref p ∧ W.H p = some ho ∧ F.H0 p = none ∧ ¬ F.rf p ∧ OwnH K (less (dropH W.H p) fun a => Mo (F.H0 a)) ho od := by
  cases x with
  | sh d' => cases e
  | ar d' => cases e
  | own i =>
    obtain ⟨s, h1, h2, h3⟩ := o
    simp only [retFresh, h1] at e
    have key : ∀ {p : Addr} {ho : HO}, (∀ a ∈ W.ft i, W.O a ∧ ¬ F.rf a) → W.ft i = [p] → W.H p = some ho → F.H0 p = none ∧ ¬ F.rf p ∧ Same (W.S F) (less (dropH W.H p) fun a => Mo (F.H0 a)) := fun {p ho} hO hf e2 => by
      have hp : p ∈ W.ft i := by rw [hf]; simp
      refine ⟨(R.new p (hO p hp).1).resolve_right (hO p hp).2, (hO p hp).2, same_less fun a o nx e => ⟨fun z => nx (.inl z), ?_⟩⟩
      rw [dropH_ne]
      · exact e
      · intro z
        subst z
        exact nx (.inr (hO a hp).1)
    cases s with
    | no => cases e
    | ar d => cases e
    | rf o => cases e
    | sh d' => cases e
    | ow o =>
      cases o with
      | lst ds =>
        cases e
        obtain ⟨p, e1, hO, hf, vs, e2, e3⟩ := R.slot i _ h1
        rw [h3] at e1
        cases e1
        obtain ⟨k1, k2, k3⟩ := key hO hf e2
        exact ⟨p, _, rfl, e2, k1, k2, vs, rfl, e3.same k3⟩
      | dK _ =>
        cases e
        obtain ⟨p, e1, hO, hf, vs, e2, e3⟩ := R.slot i _ h1
        rw [h3] at e1
        cases e1
        obtain ⟨k1, k2, k3⟩ := key hO hf e2
        exact ⟨p, _, rfl, e2, k1, k2, vs, rfl, Paired.mapP e3 fun _ _ z => ⟨z.1, z.2.same k3⟩⟩
      | dT _ =>
        cases e
        obtain ⟨p, e1, hO, hf, vs, e2, e3⟩ := R.slot i _ h1
        rw [h3] at e1
        cases e1
        obtain ⟨k1, k2, k3⟩ := key hO hf e2
        exact ⟨p, _, rfl, e2, k1, k2, vs, rfl, Paired.mapP e3 fun _ _ z => ⟨z.1, z.2.same k3⟩⟩
      | ab _ => cases e
theorem start_get {N : List Str} {vs : List V} {i : Nat} {v : V} (h : vs[i]? = some v) : (start N vs)[i]? = some (some v) := by
  have hi := lt_of_get h
  unfold L2.start
  rw [List.getElem?_append_left (by simpa using hi), List.getElem?_map, h]
  rfl
theorem startG_get {N : List Str} {sl : List Sl} {i : Nat} {s : Sl} (h : (startG N sl)[i]? = some s) : sl[i]? = some s ∨ s = .no := by
  unfold startG at h
  by_cases hi : i < sl.length
  · rw [List.getElem?_append_left hi] at h
    exact .inl h
  · rw [List.getElem?_append_right (by omega), List.getElem?_replicate] at h
    split at h
    · cases h; exact .inr rfl
    · cases h
theorem rel_start {H : Hp} {N : List Str} {vs : List V} {ds : List PyData} {sl : List Sl} (h : DqAll K H vs ds) (ha : Paired argOk sl ds) : Rel (K := K) ⟨H, fun _ => False, fun _ => none⟩ ⟨fun _ => False, fun _ => [], H⟩ (start N vs) (startG N sl) := by
  have hl : vs.length = sl.length := by rw [h.length, Paired.length ha]
  refine ⟨fun a o e _ => e, fun a z => z.elim, fun a z => z.elim, fun a z => z, by simp [L2.start, startG, hl], fun i s e => ?_, fun i j s t oi oj a ne e1 e2 g1 g2 => ?_⟩
  · rcases startG_get e with e | e
    · obtain ⟨d, e1, e2⟩ := paired_get ha e
      obtain ⟨v, g1, g2⟩ := h.get e1
      rcases e2 with rfl | ⟨rfl, ht⟩
      · exact ⟨v, start_get g1, g2.same fun a o q => less_some.mpr ⟨fun z => z, q⟩⟩
      · exact ⟨v, start_get g1, Dq.tupO_less (H' := H) (fun a z => by
          rcases z with z | z
          · exact z
          · exact z.elim) _ _ ht g2⟩
    · subst e
      trivial
  · rcases startG_get e1 with e1 | e1
    · obtain ⟨d, q1, q2⟩ := paired_get ha e1
      rcases q2 with rfl | ⟨rfl, _⟩ <;> cases g1
    · subst e1
      cases g1
end
section
variable {P : Program} {w : World} {K : Fg} {mg : Str → Option Value} {base : Heap}
abbrev PEnds (Qd : PyData → Prop) : DE := { nx := fun _ => Qd .none, rt := fun x Γ => ∃ r, retOf Γ x = some r ∧ Qd r, rn := fun o _ => ∃ xs, o = .lst xs ∧ Qd (.list xs) }
/-- a def that changes nothing, in data -/
theorem pure_ok {x qual : Str} {st : Stmt} {f : Addr} {fd : FuncData} {N ps : List Str} {k : Nat} {C : List PyData → (PyData → Prop) → Prop} (Fn : L2.Fun K x qual st f fd) (S : FnScope N ps (defScope st)) (hl : ∀ ds Qd, C ds Qd → ds.length = ps.length)
    (hbody : ∀ (cdv : Value) (A : Around) (outer : List Env) (s : Shared) (H : Hp) (E : XK), Room k (A.deeper (envOfC qual (defScope st) s.heap.objs.size f cdv)) →
      ∃ t, PSs (cxOf CX0 P w K mg base N qual (defScope st) f cdv A outer s H E).nox (defBody st) t ∧ ∃ d, SS K X0 t d ∧ ∀ ds Qd, C ds Qd → ∃ sl, Paired argOk sl ds ∧ d (PEnds Qd) (startG N sl)) : FnOk P w K mg base CX0 (k + 1) f fd ps (PureSp K C) := by
  refine Fn.ok S (fun vs H Q E h => ?_) (fun cdv A outer s H vs Q E hr h => ?_)
  · obtain ⟨ds, Qd, h1, h2, _⟩ := h
    rw [h1.length]
    exact hl ds Qd h2
  · obtain ⟨ds, Qd, h1, h2, q⟩ := h
    obtain ⟨t, ht, d, hs, hd⟩ := hbody cdv A outer s H E hr
    obtain ⟨sl, ha, hd⟩ := hd ds Qd h2
    refine ⟨t, ht, hs.run ⟨H, fun _ => False, fun _ => none⟩ ⟨fun _ => False, fun _ => [], H⟩ (start N vs) (startG N sl) _ _ (rel_start h1 ha) hd ⟨fun W σ Γ _ R e => ?_, fun W σ Γ y v _ R o ⟨r, e, z⟩ => ?_, fun W σ Γ o p ho _ R hp oh ⟨xs, e, z⟩ => ?_, fun W σ Γ _ R e => e, fun W σ Γ _ R e => e, fun W σ Γ c _ R e => e⟩⟩
    · exact q .non W.H .none (fun a o e => R.base a o e fun z => z) .non e
    · exact q v W.H r (fun a o e => R.base a o e fun z => z) (ret_ok R o e) z
    · subst e
      obtain ⟨us, rfl, hu⟩ := oh
      have h0 : H p = none := by
        cases e : H p with
        | none => rfl
        | some o => have := R.base p o e (fun z => z); rw [hp] at this; cases this
      refine q (.ref p) _ (.list xs) (fun a o e => ?_) (.lst (less_some.mpr ⟨by rw [h0]; exact fun z => z, upd_same⟩) (hu.same (same_less fun a o nx e => ⟨fun z => nx (.inl z), ?_⟩))) z
      · have b := R.base a o e (fun z => z)
        rw [upd_ne (ne_of_none b hp)]
        exact b
      · rw [upd_ne (ne_of_none e hp)]
        exact e
abbrev FEnds (Qd : OD → Prop) : DE := { nx := fun _ => False, rt := fun x Γ => ∃ r, retFresh Γ x = some r ∧ Qd r, rn := fun o _ => Qd o }
theorem fresh_ok {x qual : Str} {st : Stmt} {f : Addr} {fd : FuncData} {N ps : List Str} {k : Nat} {C : List PyData → (OD → Prop) → Prop} (Fn : L2.Fun K x qual st f fd) (S : FnScope N ps (defScope st)) (hl : ∀ ds Qd, C ds Qd → ds.length = ps.length)
    (hbody : ∀ (cdv : Value) (A : Around) (outer : List Env) (s : Shared) (H : Hp) (E : XK), Room k (A.deeper (envOfC qual (defScope st) s.heap.objs.size f cdv)) →
      ∃ t, PSs (cxOf CX0 P w K mg base N qual (defScope st) f cdv A outer s H E).nox (defBody st) t ∧ ∃ d, SS K X0 t d ∧ ∀ ds Qd, C ds Qd → ∃ sl, Paired argOk sl ds ∧ d (FEnds Qd) (startG N sl)) : FnOk P w K mg base CX0 (k + 1) f fd ps (FreshSp K C) := by
  refine Fn.ok S (fun vs H Q E h => ?_) (fun cdv A outer s H vs Q E hr h => ?_)
  · obtain ⟨ds, Qd, h1, h2, _⟩ := h
    rw [h1.length]
    exact hl ds Qd h2
  · obtain ⟨ds, Qd, h1, h2, q⟩ := h
    obtain ⟨t, ht, d, hs, hd⟩ := hbody cdv A outer s H E hr
    obtain ⟨sl, ha, hd⟩ := hd ds Qd h2
    refine ⟨t, ht, hs.run ⟨H, fun _ => False, fun _ => none⟩ ⟨fun _ => False, fun _ => [], H⟩ (start N vs) (startG N sl) _ _ (rel_start h1 ha) hd ⟨fun W σ Γ _ R e => e.elim, fun W σ Γ y v _ R o ⟨r, e, z⟩ => ?_, fun W σ Γ o p ho _ R hp oh z => ?_, fun W σ Γ _ R e => e, fun W σ Γ _ R e => e, fun W σ Γ c _ R e => e⟩⟩
    · obtain ⟨p, ho, rfl, g1, g2, g3, g4⟩ := retFresh_ok R o e
      have := q p ho (dropH W.H p) r (fun a o e => ?_) dropH_at g4 z
      · rw [dropH_upd g1] at this
        exact this
      · rw [dropH_ne]
        · exact R.base a o e fun z => z
        · intro z
          have e' : H p = some o := z ▸ e
          rw [show H p = none from g2] at e'
          cases e'
    · exact q p ho W.H o (fun a o e => R.base a o e fun z => z) hp (oh.same (same_less fun a o nx e => ⟨fun z => nx (.inl z), e⟩)) z
end
end Dk

namespace Dk
open PySem PySem.Spec PyProof.Rows L2
/-! ### defs whose first argument is changed -/
section
variable {P : Program} {w : World} {K : Fg} {mg : Str → Option Value} {base : Heap} {I : Hp → Addr → List Addr → Prop}
noncomputable abbrev Fr (K : Fg) (H : Hp) (p : Addr) (f : List Addr) : Fx K := ⟨H, fun a => a ∈ f, fun i => if i = 0 then some (p, f) else none⟩
noncomputable abbrev Wr (H : Hp) (f : List Addr) : Wd := ⟨fun a => a ∈ f, fun i => if i = 0 then f else [], H⟩
theorem rel_startR [A : AbI I] {H : Hp} {N : List Str} {p : Addr} {f : List Addr} {vs : List V} {ds : List PyData} {sl : List Sl} (hI : I H p f) (h : DqAll K (less H fun a => a ∈ f) vs ds) (ha : Paired argOk sl ds) :
    Rel (Fr K H p f) (Wr H f) (L2.start N (.ref p :: vs)) (startG N (.rf (.ab I) :: sl)) := by
  have hl : vs.length = sl.length := by rw [h.length, Paired.length ha]
  have own : ∀ (i : Nat) (s : Sl) (o : OD), (startG N (.rf (.ab I) :: sl))[i]? = some s → s.own? = some o → i = 0 := fun i s o e g => by
    rcases startG_get e with e | e
    · cases i with
      | zero => rfl
      | succ i =>
        obtain ⟨d, q1, q2⟩ := paired_get ha (by simpa using e)
        rcases q2 with rfl | ⟨rfl, _⟩ <;> cases g
    · subst e
      cases g
  refine ⟨fun a o e _ => e, fun a z => .inr z, fun a z => A.mo hI a z, fun a z => z, by simp [L2.start, startG, hl], fun i s e => ?_, fun i j s t oi oj a ne e1 e2 g1 g2 => ?_⟩
  · rcases startG_get e with e | e
    · cases i with
      | zero =>
        cases e
        exact ⟨p, rfl, start_get rfl, fun a ha => ha, A.mem hI, hI, fun H' hk ht => A.st hI hk ht⟩
      | succ i =>
        obtain ⟨d, e1, e2⟩ := paired_get ha (by simpa using e)
        obtain ⟨v, g1, g2⟩ := h.get e1
        have g1' : (V.ref p :: vs)[i + 1]? = some v := by simpa using g1
        rcases e2 with rfl | ⟨rfl, ht⟩
        · exact ⟨v, start_get g1', g2⟩
        · refine ⟨v, start_get g1', Dq.tupO_less (H' := H) (fun a z => ?_) _ _ ht (g2.same less_same)⟩
          rcases z with z | z
          · exact z
          · exact A.mo hI a z
    · subst e
      trivial
  · exact absurd ((own i s oi e1 g1).trans (own j t oj e2 g2).symm) ne
theorem rf_end [A : AbI I] {H : Hp} {p : Addr} {f : List Addr} {W : Wd} {σ : L2.St} {Γ : G} (R : Rel (Fr K H p f) W σ Γ) (h : Γ[0]? = some (.rf (.ab I))) : I W.H p f := by
  obtain ⟨p', e0, e1, e2, e3⟩ := R.slot 0 _ h
  have e0' : some (p, f) = some (p', W.ft 0) := e0
  cases e0'
  exact e3.2.1
abbrev REnds (I : Hp → Addr → List Addr → Prop) (Qd : PyData → Prop) : DE := { nx := fun Γ => Γ[0]? = some (.rf (.ab I)) ∧ Qd .none, rt := fun x Γ => Γ[0]? = some (.rf (.ab I)) ∧ ∃ r, retOf Γ x = some r ∧ Qd r, rn := fun o Γ => Γ[0]? = some (.rf (.ab I)) ∧ ∃ xs, o = .lst xs ∧ Qd (.list xs) }
theorem ref_ok [A : AbI I] {x qual : Str} {st : Stmt} {f : Addr} {fd : FuncData} {N ps : List Str} {k : Nat} {C : List PyData → (PyData → Prop) → Prop} (Fn : L2.Fun K x qual st f fd) (S : FnScope N ps (defScope st)) (hl : ∀ ds Qd, C ds Qd → ds.length + 1 = ps.length)
    (hbody : ∀ (cdv : Value) (A : Around) (outer : List Env) (s : Shared) (H : Hp) (E : XK), Room k (A.deeper (envOfC qual (defScope st) s.heap.objs.size f cdv)) →
      ∃ t, PSs (cxOf CX0 P w K mg base N qual (defScope st) f cdv A outer s H E).nox (defBody st) t ∧ ∃ d, SS K X0 t d ∧ ∀ ds Qd, C ds Qd → ∃ sl, Paired argOk sl ds ∧ d (REnds I Qd) (startG N (.rf (.ab I) :: sl))) : FnOk P w K mg base CX0 (k + 1) f fd ps (RefSp K I C) := by
  refine Fn.ok S (fun vs H Q E h => ?_) (fun cdv A outer s H vs Q E hr h => ?_)
  · obtain ⟨p, g, us, ds, Qd, rfl, h0, h1, h2, _⟩ := h
    rw [List.length_cons, h1.length]
    exact hl ds Qd h2
  · obtain ⟨p, g, us, ds, Qd, rfl, h0, h1, h2, q⟩ := h
    obtain ⟨t, ht, d, hs, hd⟩ := hbody cdv A outer s H E hr
    obtain ⟨sl, ha, hd⟩ := hd ds Qd h2
    refine ⟨t, ht, hs.run (Fr K H p g) (Wr H g) _ _ _ _ (rel_startR h0 h1 ha) hd ⟨fun W σ Γ _ R ⟨e0, e⟩ => ?_, fun W σ Γ y v _ R o ⟨e0, r, e, z⟩ => ?_, fun W σ Γ o l ho _ R hp oh ⟨e0, xs, e, z⟩ => ?_, fun W σ Γ _ R e => e, fun W σ Γ _ R e => e, fun W σ Γ c _ R e => e⟩⟩
    · exact q .non W.H .none (fun a o n e => R.base a o e n) (rf_end R e0) .non e
    · exact q v W.H r (fun a o n e => R.base a o e n) (rf_end R e0) (ret_ok R o e) z
    · subst e
      obtain ⟨us', rfl, hu⟩ := oh
      have nl : ¬ Ex H W.O l := R.free hp
      have ng : l ∉ g := fun z => nl (.inr (R.rfo l z))
      have h0' : H l = none := by
        cases e : H l with
        | none => rfl
        | some o => have := R.base l o e ng; rw [hp] at this; cases this
      have hS : ∀ a o, W.H a = some o → (upd W.H l (.lst us')) a = some o := fun a o e => by
        rw [upd_ne (ne_of_none e hp)]
        exact e
      refine q (.ref l) _ (.list xs) (fun a o n e => hS a o (R.base a o e n)) ?_ (.lst (less_some.mpr ⟨by rw [h0']; exact fun z => z, upd_same⟩) (hu.same (same_less fun a o nx e => ⟨fun z => nx (.inl z), hS a o e⟩))) z
      refine AbI.st (rf_end R e0) (fun a ha => ?_) fun a o nm e => hS a o e
      rw [upd_ne]
      intro z
      exact ng (z ▸ ha)
abbrev RFEnds (I : Hp → Addr → List Addr → Prop) (Qd : OD → Prop) : DE := { nx := fun _ => False, rt := fun x Γ => Γ[0]? = some (.rf (.ab I)) ∧ ∃ r, retFresh Γ x = some r ∧ Qd r, rn := fun o Γ => Γ[0]? = some (.rf (.ab I)) ∧ Qd o }
theorem refFresh_ok [A : AbI I] {x qual : Str} {st : Stmt} {f : Addr} {fd : FuncData} {N ps : List Str} {k : Nat} {C : List PyData → (OD → Prop) → Prop} (Fn : L2.Fun K x qual st f fd) (S : FnScope N ps (defScope st)) (hl : ∀ ds Qd, C ds Qd → ds.length + 1 = ps.length)
    (hbody : ∀ (cdv : Value) (A : Around) (outer : List Env) (s : Shared) (H : Hp) (E : XK), Room k (A.deeper (envOfC qual (defScope st) s.heap.objs.size f cdv)) →
      ∃ t, PSs (cxOf CX0 P w K mg base N qual (defScope st) f cdv A outer s H E).nox (defBody st) t ∧ ∃ d, SS K X0 t d ∧ ∀ ds Qd, C ds Qd → ∃ sl, Paired argOk sl ds ∧ d (RFEnds I Qd) (startG N (.rf (.ab I) :: sl))) : FnOk P w K mg base CX0 (k + 1) f fd ps (RefFreshSp K I C) := by
  refine Fn.ok S (fun vs H Q E h => ?_) (fun cdv A outer s H vs Q E hr h => ?_)
  · obtain ⟨p, g, us, ds, Qd, rfl, h0, h1, h2, _⟩ := h
    rw [List.length_cons, h1.length]
    exact hl ds Qd h2
  · obtain ⟨p, g, us, ds, Qd, rfl, h0, h1, h2, q⟩ := h
    obtain ⟨t, ht, d, hs, hd⟩ := hbody cdv A outer s H E hr
    obtain ⟨sl, ha, hd⟩ := hd ds Qd h2
    refine ⟨t, ht, hs.run (Fr K H p g) (Wr H g) _ _ _ _ (rel_startR h0 h1 ha) hd ⟨fun W σ Γ _ R e => e.elim, fun W σ Γ y v _ R o ⟨e0, r, e, z⟩ => ?_, fun W σ Γ o l ho _ R hp oh ⟨e0, z⟩ => ?_, fun W σ Γ _ R e => e, fun W σ Γ _ R e => e, fun W σ Γ c _ R e => e⟩⟩
    · obtain ⟨l, ho, rfl, g1, g2, g3, g4⟩ := retFresh_ok R o e
      have ne : ∀ a o, H a = some o → a ≠ l := fun a o e z => by
        rw [z] at e
        rw [show H l = none from g2] at e
        cases e
      have := q l ho (dropH W.H l) r (fun a o n e => ?_) ?_ dropH_at g4 z
      · rw [dropH_upd g1] at this
        exact this
      · rw [dropH_ne (ne a o e)]
        exact R.base a o e n
      · have i1 := rf_end R e0
        have nl : l ∉ g := g3
        refine AbI.st i1 (fun a ha => dropH_ne fun z => nl (z ▸ ha)) fun a u nm eu => ?_
        have i0 : a ≠ l := fun z => by
          rw [z, g1] at eu
          cases eu
          exact nm (mo_ownH g4)
        rw [dropH_ne i0]
        exact eu
    · exact q l ho W.H o (fun a o n e => R.base a o e n) (rf_end R e0) hp (oh.same (same_less fun a o nx e => ⟨fun z => nx (.inl z), e⟩)) z
end
/-! isinstance: the kinds of data -/
theorem kb_NoneType_int : kitB "NoneType" "int" = some false := by decide +kernel
theorem kb_NoneType_bool : kitB "NoneType" "bool" = some false := by decide +kernel
theorem kb_NoneType_str : kitB "NoneType" "str" = some false := by decide +kernel
theorem kb_NoneType_list : kitB "NoneType" "list" = some false := by decide +kernel
theorem kb_NoneType_tuple : kitB "NoneType" "tuple" = some false := by decide +kernel
theorem kb_bool_int : kitB "bool" "int" = some true := by decide +kernel
theorem kb_bool_bool : kitB "bool" "bool" = some true := by decide +kernel
theorem kb_bool_str : kitB "bool" "str" = some false := by decide +kernel
theorem kb_bool_list : kitB "bool" "list" = some false := by decide +kernel
theorem kb_bool_tuple : kitB "bool" "tuple" = some false := by decide +kernel
theorem kb_int_int : kitB "int" "int" = some true := by decide +kernel
theorem kb_int_bool : kitB "int" "bool" = some false := by decide +kernel
theorem kb_int_str : kitB "int" "str" = some false := by decide +kernel
theorem kb_int_list : kitB "int" "list" = some false := by decide +kernel
theorem kb_int_tuple : kitB "int" "tuple" = some false := by decide +kernel
theorem kb_str_int : kitB "str" "int" = some false := by decide +kernel
theorem kb_str_bool : kitB "str" "bool" = some false := by decide +kernel
theorem kb_str_str : kitB "str" "str" = some true := by decide +kernel
theorem kb_str_list : kitB "str" "list" = some false := by decide +kernel
theorem kb_str_tuple : kitB "str" "tuple" = some false := by decide +kernel
theorem kb_list_int : kitB "list" "int" = some false := by decide +kernel
theorem kb_list_bool : kitB "list" "bool" = some false := by decide +kernel
theorem kb_list_str : kitB "list" "str" = some false := by decide +kernel
theorem kb_list_list : kitB "list" "list" = some true := by decide +kernel
theorem kb_list_tuple : kitB "list" "tuple" = some false := by decide +kernel
theorem kb_tuple_int : kitB "tuple" "int" = some false := by decide +kernel
theorem kb_tuple_bool : kitB "tuple" "bool" = some false := by decide +kernel
theorem kb_tuple_str : kitB "tuple" "str" = some false := by decide +kernel
theorem kb_tuple_list : kitB "tuple" "list" = some false := by decide +kernel
theorem kb_tuple_tuple : kitB "tuple" "tuple" = some true := by decide +kernel
theorem iteFb {b : Bool} {A B : Prop} (h : b = false) (q : B) : if b = true then A else B := by subst h; exact iteF q
theorem iteTb {b : Bool} {A B : Prop} (h : b = true) (q : A) : if b = true then A else B := by subst h; exact iteT q
theorem ite2b {b : Bool} {A B : Prop} (h1 : b = true → A) (h2 : b = false → B) : if b = true then A else B := by cases b with
  | true => exact iteT (h1 rfl)
  | false => exact iteF (h2 rfl)
/-! ### loops by the part that is gone through -/
theorem take_snoc {α : Type} {xs : List α} {k : Nat} {x : α} (h : xs[k]? = some x) : xs.take (k + 1) = xs.take k ++ [x] := by
  rw [List.take_add_one, h]
  rfl
theorem map_get {α : Type} {f : α → PyData} {xs : List α} {k : Nat} {d : PyData} (h : (xs.map f)[k]? = some d) : ∃ x, xs[k]? = some x ∧ d = f x := by
  rw [List.getElem?_map] at h
  obtain ⟨x, h1, h2⟩ := Option.map_eq_some_iff.mp h
  exact ⟨x, h1, h2.symm⟩
theorem cut_at {α : Type} {xs : List α} {k : Nat} {x : α} (h : xs[k]? = some x) : xs = xs.take k ++ x :: xs.drop (k + 1) := by
  have hk := lt_of_get h
  have e : xs[k] = x := by
    rw [List.getElem?_eq_getElem hk] at h
    exact Option.some.inj h
  rw [← e, List.getElem_cons_drop, List.take_append_drop]
section
variable {α : Type} {xs : List α} {f : α → PyData} {dg : TGd} {db : TSd} {E : DE} {Γ2 : G} {kd : PyData → RV}
/-- for x in xs: what holds between two turns, by the part that is gone through -/
theorem for_pre (I : List α → G → Prop) (h0 : I [] Γ2) (step : ∀ (pre : List α) (x : α) (post : List α) (Γ' : G), xs = pre ++ x :: post → I pre Γ' → dg (kd (f x)) Γ' fun Γ3 => db (E.lp (I (pre ++ [x]))) Γ3) (done : ∀ Γ', I xs Γ' → E.nx Γ') :
    ∃ J : Nat → G → Prop, J 0 Γ2 ∧ (∀ k d Γ', (xs.map f)[k]? = some d → J k Γ' → dg (kd d) Γ' fun Γ3 => db (E.lp (J (k + 1))) Γ3) ∧ ∀ Γ', J (xs.map f).length Γ' → E.nx Γ' := by
  refine ⟨fun k Γ => I (xs.take k) Γ, by simpa using h0, fun k d Γ' hd hi => ?_, fun Γ' hi => ?_⟩
  · obtain ⟨x, hx, rfl⟩ := map_get hd
    have e := take_snoc hx
    have s := step (xs.take k) x (xs.drop (k + 1)) Γ' (cut_at hx) hi
    rw [← e] at s
    exact s
  · rw [List.length_map, List.take_length] at hi
    exact done Γ' hi
end
section
variable {α : Type} {xs : List α} {f : α → PyData} {dg : TGd} {dt : TTd} {de : TEd} {vs : List Nat} {Γ2 : G} {kd : PyData → RV} {Q : OD → G → Prop}
/-- a comprehension by the part that is gone through -/
theorem lc_pre {R : List PyData → G → Prop} (I : List α → List PyData → G → Prop) (h0 : I [] [] (wipeG Γ2 vs)) (step : ∀ (pre : List α) (x : α) (post : List α) (acc : List PyData) (Γ' : G), xs = pre ++ x :: post → I pre acc Γ' → LcTurn dg dt de vs (kd (f x)) Γ' fun o Γ5 => I (pre ++ [x]) (acc ++ o.toList) Γ5) (done : ∀ acc Γ', I xs acc Γ' → R acc Γ') :
    ∃ J : Nat → List PyData → G → Prop, J 0 [] (wipeG Γ2 vs) ∧ (∀ k d acc Γ', (xs.map f)[k]? = some d → J k acc Γ' → LcTurn dg dt de vs (kd d) Γ' fun o Γ5 => J (k + 1) (acc ++ o.toList) Γ5) ∧ ∀ acc Γ', J (xs.map f).length acc Γ' → R acc Γ' := by
  refine ⟨fun k acc Γ => I (xs.take k) acc Γ, by simpa using h0, fun k d acc Γ' hd hi => ?_, fun acc Γ' hi => ?_⟩
  · obtain ⟨x, hx, rfl⟩ := map_get hd
    have e := take_snoc hx
    have s := step (xs.take k) x (xs.drop (k + 1)) acc Γ' (cut_at hx) hi
    rw [← e] at s
    exact s
  · rw [List.length_map, List.take_length] at hi
    exact done acc Γ' hi
/-- .. whose items are told one by one, and nothing else is changed -/
theorem lc_map {R : List PyData → G → Prop} (h : α → Option PyData) (step : ∀ (x : α), x ∈ xs → ∀ P : Option PyData → G → Prop, P (h x) (wipeG Γ2 vs) → LcTurn dg dt de vs (kd (f x)) (wipeG Γ2 vs) P) (done : R (xs.filterMap h) (wipeG Γ2 vs)) :
    ∃ J : Nat → List PyData → G → Prop, J 0 [] (wipeG Γ2 vs) ∧ (∀ k d acc Γ', (xs.map f)[k]? = some d → J k acc Γ' → LcTurn dg dt de vs (kd d) Γ' fun o Γ5 => J (k + 1) (acc ++ o.toList) Γ5) ∧ ∀ acc Γ', J (xs.map f).length acc Γ' → R acc Γ' := by
  refine lc_pre (fun pre acc Γ => acc = pre.filterMap h ∧ Γ = wipeG Γ2 vs) ⟨rfl, rfl⟩ (fun pre x post acc Γ' e hi => ?_) fun acc Γ' hi => ?_
  · obtain ⟨rfl, rfl⟩ := hi
    refine step x (by rw [e]; simp) _ ⟨?_, rfl⟩
    rw [List.filterMap_append]
    cases e' : h x <;> simp [e']
  · obtain ⟨rfl, rfl⟩ := hi
    exact done
/-- .. over a range -/
theorem lcR_map {R : List PyData → G → Prop} {n : Nat} {lo : Int} (h : Nat → Option PyData) (step : ∀ (k : Nat), k < n → ∀ P : Option PyData → G → Prop, P (h k) (wipeG Γ2 vs) → LcTurn dg dt de vs (.sh (.int (lo + k))) (wipeG Γ2 vs) P) (done : R ((List.range n).filterMap h) (wipeG Γ2 vs)) :
    ∃ J : Nat → List PyData → G → Prop, J 0 [] (wipeG Γ2 vs) ∧ (∀ k acc Γ', k < n → J k acc Γ' → LcTurn dg dt de vs (.sh (.int (lo + k))) Γ' fun o Γ5 => J (k + 1) (acc ++ o.toList) Γ5) ∧ ∀ acc Γ', J n acc Γ' → R acc Γ' := by
  refine ⟨fun k acc Γ => acc = (List.range k).filterMap h ∧ Γ = wipeG Γ2 vs, ⟨rfl, rfl⟩, fun k acc Γ' hk hi => ?_, fun acc Γ' hi => ?_⟩
  · obtain ⟨rfl, rfl⟩ := hi
    refine step k hk _ ⟨?_, rfl⟩
    rw [List.range_succ, List.filterMap_append]
    cases e' : h k <;> simp [e']
  · obtain ⟨rfl, rfl⟩ := hi
    exact done
end
end Dk

namespace Dk
open PySem PySem.Spec PyProof.Rows L2
section
variable {K : Fg} {ta tb : TE} {da db : TEd}
/-- a list times a number -/
def dRep (da db : TEd) : TFd := fun Γ Q => da Γ fun x Γ1 => db Γ1 fun y Γ2 => ∃ ds k, lstOf Γ2 x = some ds ∧ dat Γ2 y = some (.int k) ∧ keepable x ds ∧ -(2 ^ 63) ≤ k ∧ k < 2 ^ 63 ∧ ds.length * k.toNat ≤ sizeLine ∧ Q (.lst (repD ds k.toNat)) Γ2
theorem DqAll.rep {H : Hp} {vs : List V} {ds : List PyData} (h : DqAll K H vs ds) : ∀ n : Nat, DqAll K H (List.replicate n vs).flatten (repD ds n)
  | 0 => .nil
  | n + 1 => by
    unfold repD
    rw [List.replicate_succ, List.replicate_succ, List.flatten_cons, List.flatten_cons]
    exact h.app (DqAll.rep h n)
instance sf_rep [SE K ta da] [SE K tb db] : SEF K (tOp rRep ta tb) (dRep da db) := ⟨fun F W σ Γ Q Qd R q k => two R q fun x y W' Γ' u v s' R' o1 o2 ⟨ds, n, e1, e2, k1, h1, h2, hl, q⟩ => by
  obtain ⟨a, xs, rfl, g1, g2, _⟩ := lstOf_ok R' o1 e1
  have hd := keep_ok R' g2 k1
  have hv := int_of (o2.full R' e2)
  subst hv
  exact ⟨a, n, xs, rfl, rfl, g1, h1, h2, by rw [hd.length]; exact hl, fun p hp => k (.lst (repD ds n.toNat)) W' Γ' p _ s' R' hp ⟨_, rfl, DqAll.rep hd _⟩ q⟩⟩
/-- a statement that is never come to -/
def tDead : TS := fun _ _ _ => False
def dDead : TSd := fun _ _ => False
theorem ps_dead {X : Cx} {st : Stmt} : PS X st tDead := ⟨fun _ _ _ _ _ _ h => h.elim⟩
instance ss_dead {Xw : WX} : SS K Xw tDead dDead := ⟨fun _ _ _ _ _ _ _ h _ => h.elim⟩
/-- list.extend by a tuple, whatever else the tuple's object has -/
theorem extT_meets (l b : Addr) (xs ys : Array Value) (n m : Nat) (dd : Option Addr) (sl : Array (Option Value)) (h0 : ¬(!xs.isEmpty && Builtin.List.listTooLong (xs.size + ys.size)) = true) (h1 : xs.size ≤ sizeLine) (h2 : xs.size + ys.size ≤ sizeLine + 1) :
    Meets (Builtin.«list.extend» ⟨[.ref l, .ref b], []⟩) (fun _ R st => st.heap.get? l = some { cls := .type "list", dict := none, data := .seq xs n, slots := #[] } ∧ st.heap.get? b = some { cls := .type "tuple", dict := dd, data := .seq ys m, slots := sl } ∧ R (.ok (.ret Value.none)) { st with heap := st.heap.update l (Obj.mapSeq fun x => x ++ ys), toks := st.toks }) :=
  .of_wp fun prog w A R st h => by
    obtain ⟨hp, gn, dr, tk, os⟩ := st
    obtain ⟨at1, at2, h⟩ := h
    have t1 := PySem.AutoSeq1.sub_tuple_tuple
    have t2 := PySem.AutoSeq1.sub_list_list
    have t3 := PySem.AutoSeq1.sub_tuple_list
    have t4 := PySem.AutoSeq1.sub_list_tuple
    have hz : (xs ++ ys).size ≤ sizeLine + 1 := by rw [Array.size_append]; exact h2
    wp_walk using (wpAny_updateSeq at1 rfl (hz := h1) (_hz' := hz)), PySem.AutoSeq1.wpAny_loadPart' at1, PySem.AutoSeq1.wpAny_loadPart' at2
    exact ⟨_, rfl, h⟩
def rExtT (K : Fg) : V → List V → Hp → VK → Prop := fun x vs H Q => ∃ l b xs zs, x = .ref l ∧ vs = [.ref b] ∧ H l = some (.lst xs) ∧ SqT K H b zs ∧ xs.length + zs.length ≤ sizeLine ∧ Q .non (upd H l (.lst (xs ++ zs)))
theorem mt_extT {X : Cx} : MtR X "list.extend" (rExtT X.K) := by
  intro pn st σ H x vs v us Q J rx rv ⟨l, b, xs, zs, e1, e2, hl, hb, fit, q⟩
  subst e1 e2
  cases rx
  obtain ⟨u, rfl, ru⟩ := rv.one
  cases ru
  obtain ⟨_, its, n, r1, len1, at1⟩ := J.lstM hl
  obtain ⟨its2, r2, ⟨⟨cls, dd, data, sl⟩, at2, hc, m, hd⟩, _⟩ := J.tuple hb
  simp only at hc hd
  subst hc hd
  have s1 : its.toArray.size = xs.length := by rw [List.size_toArray, len1]
  have s2 : its2.toArray.size = zs.length := by rw [List.size_toArray, ← r2.length]
  have nl : ¬(!its.toArray.isEmpty && Builtin.List.listTooLong (its.toArray.size + its2.toArray.size)) = true := by
    rw [notLongL (by omega), Bool.and_false]
    exact Bool.false_ne_true
  refine call_meets F.slot_list_extend ⟨_, at1, rfl⟩ F.entry_list_extend (F.args_list_extend_2 _ _) (extT_meets l b its.toArray its2.toArray n m dd sl nl (by omega) (by omega)) ⟨at1, at2, ?_⟩
  exact ⟨.non, _, J.lset (its' := its ++ its2) hl at1 (by simp) (r1.append r2) (by rw [List.length_append]; omega), rfl, q⟩
theorem kextT {X : Cx} (K : Fg) (h : X.K = K := by rfl) : MtR X "list.extend" (rExtT K) := h ▸ mt_extT
variable {te : TE} {de : TEd}
def dExtT (i : Nat) (de : TEd) : TEd := fun Γ Q => (ownL Γ i).isSome = true ∧ de Γ fun x Γ1 => ∃ ds es, ownL Γ1 i = some ds ∧ tupOf Γ1 x = some es ∧ keepable x es ∧ ds.length + es.length ≤ sizeLine ∧ Q (.sh .none) (putL Γ1 i (ds ++ es))
instance se_extT {i : Nat} [A : SE K te de] : SE K (tBM K "list" (rExtT K) (tVar i) (tCons te tNil)) (dExtT i de) := ⟨fun F W σ Γ Q Qd R ⟨h0, q⟩ k => by
  obtain ⟨ds0, h0⟩ := Option.isSome_iff_exists.mp h0
  obtain ⟨s0, a1, a2, _⟩ := ownL_of h0
  obtain ⟨p, e0⟩ := own_ref R a1 a2
  obtain ⟨vs0, b1, b2⟩ := own_lst R a1 a2 e0
  refine ⟨.ref p, e0, .inl ⟨rfl, _, SqL.of b1⟩, ?_⟩
  refine A.run F W σ Γ _ _ R q fun x W' Γ' v s' R' o ⟨ds, es, h1, e2, hk, hl, q⟩ => ?_
  obtain ⟨s, c1, c2, c3⟩ := ownL_of h1
  obtain ⟨vs, b1, b2⟩ := own_lst R' c1 c2 e0
  obtain ⟨b, ys, rfl, g1, g2, g3⟩ := tupOf_ok R' o e2
  have he := keep_ok R' g2 hk
  have hh : OwnH K (W'.S F) (.lst (vs ++ ys)) (.lst (ds ++ es)) := ⟨_, rfl, b2.app he⟩
  refine ⟨p, b, vs, ys, rfl, rfl, b1, g1.sq, by rw [b2.length, he.length]; exact hl, ?_⟩
  rw [c3] at q
  exact k _ { W' with H := upd W'.H p (.lst (vs ++ ys)) } _ _ (s'.trans (Stp.put R' c1 c2 rfl e0 hh)) (R'.put c1 c2 rfl e0 hh).1 .non q⟩
/-- int(x) of a number or of a truth -/
def rInt1 : List V → Hp → VK → Prop := fun xs H Q => (∃ i, xs = [.int i] ∧ Q (.int i) H) ∨ ∃ k, xs = [.bl k] ∧ Q (.int (if k then 1 else 0)) H
theorem b_int {X : Cx} : CallR X (.type "int") rInt1 := call_int1
def numD : PyData → Option Int
  | .int i => some i
  | .bool b => some (if b then 1 else 0)
  | _ => none
def dInt1 (da : TEd) : TEd := fun Γ Q => da Γ fun x Γ1 => ∃ d i, dat Γ1 x = some d ∧ numD d = some i ∧ Q (.sh (.int i)) Γ1
instance se_int1 [SE K ta da] : SE K (tCB rInt1 (tCons ta tNil)) (dInt1 da) := ⟨fun F W σ Γ Q Qd R q k => one (ta := ta) (da := da) R q fun x W' Γ' v s' R' o ⟨d, i, e, e2, q⟩ => by
  cases d with
  | int j =>
    cases e2
    exact .inl ⟨_, by rw [int_of (o.full R' e)], k _ W' Γ' _ s' R' (.int _) q⟩
  | bool b =>
    cases e2
    exact .inr ⟨_, by rw [bl_of (o.full R' e)], k _ W' Γ' _ s' R' (.int _) q⟩
  | _ => cases e2⟩
end
end Dk

namespace Dk
open PySem PySem.Spec PyProof.Rows L2
/-! ### xs[i] += e -/
theorem get_listP {X : Cx} : PGet X (rIxL X.K) := by
  intro pins s σ H o i ov iv Q I rx ry h
  obtain ⟨p, xs, k, z, rfl, rfl, hq, he, q⟩ := h
  cases rx
  obtain ⟨t, rfl⟩ := ry
  obtain ⟨its, r, pl, hz⟩ := I.list hq
  obtain ⟨j, h1, h2, h3, h4, h5⟩ := atI_get he
  obtain ⟨w, ew, rw'⟩ := r.get h2
  have hl := r.length
  have hn := line63
  have fin : EP X pins σ Q w s := ⟨z, H, I, rw', q⟩
  by_cases h0 : 0 ≤ k
  · have hj : k.toNat = j := by
      rw [seqIndex_of h0 h5] at h1
      exact Option.some.inj h1
    exact wpAny_getItem_list pl.isList h0 (by omega) (by rw [hj]; simpa using ew) fin
  · have hj : (k + (its.toArray.size : Int)).toNat = j := by
      rw [seqIndex_neg (by omega) h4] at h1
      rw [List.size_toArray, ← hl]
      exact Option.some.inj h1
    exact wpAny_getItem_list_neg pl.isList (by omega) (by rw [List.size_toArray] <;> omega) (by omega) (by rw [hj]; simpa using ew) fin
theorem kgetL {X : Cx} (K : Fg) (h : X.K = K := by rfl) : PGet X (rIxL K) := h ▸ get_listP
section
variable {K : Fg} {ti te : TE} {di de : TEd}
def dAugL (i : Nat) (h : Int → Int → Int) (di de : TEd) : TSd := fun E Γ => (ownL Γ i).isSome = true ∧ di Γ fun y Γ1 => ∃ k j ds a, dat Γ1 y = some (.int k) ∧ ownL Γ1 i = some ds ∧ atI ds k = some (.int a) ∧
  de Γ1 fun z Γ2 => ∃ b ds2, dat Γ2 z = some (.int b) ∧ ownL Γ2 i = some ds2 ∧ ixN ds2.length k = some j ∧ E.nx (putL Γ2 i (ds2.set j (.int (h a b))))
instance ss_augL {Xw : WX} {i : Nat} {h : Int → Int → Int} [A : SE K ti di] [B : SE K te de] : SS K Xw (tAugS (tVar i) ti te (rIxL K) (ipI h) rSetL) (dAugL i h di de) := ⟨fun F W σ Γ D E R ⟨h0, q⟩ L => by
  obtain ⟨ds0, h0⟩ := Option.isSome_iff_exists.mp h0
  obtain ⟨s0, a1, a2, _⟩ := ownL_of h0
  obtain ⟨p, e0⟩ := own_ref R a1 a2
  refine ⟨.ref p, e0, A.run F W σ Γ _ _ R q fun y W1 Γ1 u s1 R1 o1 ⟨k, j, ds, a, e1, h1, e2, q⟩ => ?_⟩
  obtain ⟨s, c1, c2, c3⟩ := ownL_of h1
  obtain ⟨vs, b1, b2⟩ := own_lst R1 c1 c2 e0
  obtain ⟨z, g1, g2⟩ := paired_atI (paired_of b2) e2
  refine ⟨p, vs, k, z, rfl, int_of (o1.full R1 e1), SqL.of b1, g1, ?_⟩
  refine B.run F W1 σ Γ1 _ _ R1 q fun y2 W2 Γ2 u2 s2 R2 o2 ⟨b, ds2, e3, h2, e4, q⟩ => ?_
  refine ⟨a, b, int_of g2, int_of (o2.full R2 e3), ?_⟩
  obtain ⟨s', d1, d2, d3⟩ := ownL_of h2
  obtain ⟨vs2, b1', b2'⟩ := own_lst R2 d1 d2 e0
  have hh : OwnH K (W2.S F) (.lst (vs2.set j (.int (h a b)))) (.lst (ds2.set j (.int (h a b)))) := ⟨_, rfl, b2'.setAt (.int _)⟩
  refine ⟨p, vs2, k, j, rfl, int_of (o1.full R1 e1), b1', by rw [b2'.length]; exact e4, ?_⟩
  rw [d3] at q
  exact L.nx { W2 with H := upd W2.H p (.lst (vs2.set j (.int (h a b)))) } σ _ (s1.sh.trans (s2.sh.trans (Stp.put R2 d1 d2 rfl e0 hh).sh)) (R2.put d1 d2 rfl e0 hh).1 q⟩
end
end Dk

namespace Dk
open PySem PySem.Spec PyProof.Rows L2
section
variable {K : Fg} {ta tb : TE} {da db : TEd}
/-! ### list(range(a, b)), xs[::-1] -/
def runD (a b : Int) : List PyData := (List.range (b - a).toNat).map fun (i : Nat) => PyData.int (a + (i : Int))
theorem DqAll.ofRun {H : Hp} (a b : Int) : DqAll K H (rgV a b) (runD a b) := by
  unfold rgV runD
  generalize (b - a).toNat = n
  have h := DqAll.ofInts (K := K) (H := H) ((List.range n).map fun (i : Nat) => a + (i : Int))
  rw [List.map_map, List.map_map] at h
  exact h
def dLstRg2 (da db : TEd) : TFd := fun Γ Q => da Γ fun x Γ1 => db Γ1 fun y Γ2 => ∃ i j, dat Γ2 x = some (.int i) ∧ dat Γ2 y = some (.int j) ∧ RgOk i j ∧ Q (.lst (runD i j)) Γ2
instance sf_lstRg2 [SE K ta da] [SE K tb db] : SEF K (tLstRg (tRg2 ta tb)) (dLstRg2 da db) := ⟨fun F W σ Γ Q Qd R q k => two R q fun x y W' Γ' u v s' R' o1 o2 ⟨i, j, e1, e2, h, q⟩ =>
  ⟨i, j, int_of (o1.full R' e1), int_of (o2.full R' e2), h, fun p hp => k (.lst (runD i j)) W' Γ' p _ s' R' hp ⟨_, rfl, DqAll.ofRun i j⟩ q⟩⟩
def dLstRg1 (da : TEd) : TFd := fun Γ Q => da Γ fun x Γ1 => ∃ j, dat Γ1 x = some (.int j) ∧ RgOk 0 j ∧ Q (.lst (runD 0 j)) Γ1
instance sf_lstRg1 [A : SE K ta da] : SEF K (tLstRg (tRg1 ta)) (dLstRg1 da) := ⟨fun F W σ Γ Q Qd R q k => A.run F W σ Γ _ _ R q fun x W' Γ' u s' R' o1 ⟨j, e1, h, q⟩ =>
  ⟨j, int_of (o1.full R' e1), h, fun p hp => k (.lst (runD 0 j)) W' Γ' p _ s' R' hp ⟨_, rfl, DqAll.ofRun 0 j⟩ q⟩⟩
def dRevL (da : TEd) : TFd := fun Γ Q => da Γ fun x Γ1 => ∃ ds, lstOf Γ1 x = some ds ∧ keepable x ds ∧ Q (.lst ds.reverse) Γ1
instance sf_revL [A : SE K ta da] : SEF K (tRevL K ta) (dRevL da) := ⟨fun F W σ Γ Q Qd R q k => A.run F W σ Γ _ _ R q fun x W' Γ' u s' R' o1 ⟨ds, e1, hk, q⟩ => by
  obtain ⟨a, xs, rfl, h1, h2, _⟩ := lstOf_ok R' o1 e1
  exact ⟨a, xs, rfl, SqL.of h1, fun p hp => k (.lst ds.reverse) W' Γ' p _ s' R' hp ⟨_, rfl, (keep_ok R' h2 hk).reverse⟩ q⟩⟩
theorem krevL {X : Cx} (K : Fg) {e : Expr} {te : TE} {k : Nat} {p1 p2 p3 pos : Pos} (he : PE X e te) (h : X.K = K := by rfl) : PE X (.Subscript e (.Slice none none (some (.UnaryOp .USub (.Constant (.int 1) k p1) p2)) p3) pos) (tRevL K te) := h ▸ pe_revL he
end
/-! ### ranges by steps -/
section
variable {K : Fg} {Xw : WX} {ta : TA} {da : TAd} {g : TG} {dg : TGd} {ix vs : List Nat} {tb : TS} {db : TSd} {tt : TT} {dt : TTd} {te : TE} {de : TEd}
theorem ints3 {H : Hp} {vs : List V} {i j k : Int} (h : DqAll K H vs [.int i, .int j, .int k]) : vs = [.int i, .int j, .int k] := DqAll.ints (ns := [i, j, k]) h
def dForC (da : TAd) (dg : TGd) (db : TSd) : TSd := fun E Γ => da Γ fun xs Γ1 => ∃ lo hi c n, dats Γ1 xs = some [.int lo, .int hi, .int c] ∧ RgC lo hi c n ∧ ∃ I : Nat → G → Prop, I 0 Γ1 ∧
  (∀ k Γ', k < n → I k Γ' → dg (.sh (.int (lo + (k : Int) * c))) Γ' fun Γ3 => db (E.lp (I (k + 1))) Γ3) ∧ ∀ Γ', I n Γ' → E.nx Γ'
instance ss_forR3 [A : SA K ta da] [B : SG K g dg ix] [C : SS K Xw tb db] : SS K Xw (tFor (iRng3 ta) g tb) (dForC da dg db) := ⟨fun F W σ Γ D E R q L => A.run F W σ Γ _ _ R q fun xs W1 Γ1 vs s1 R1 o1 ⟨lo, hi, c, n, e, hr, I, i0, step, done⟩ => by
  refine ⟨lo, hi, c, n, ints3 (o1.full R1 e), hr, ?_⟩
  have s12 := s1.sh
  refine for_rangeC (fun k σ' H' => ∃ W' Γ', W'.H = H' ∧ Same (W1.S F) (W'.S F) ∧ Rel F W' σ' Γ' ∧ I k Γ') ⟨W1, Γ1, rfl, Same.refl _, R1, i0⟩ ?_ ?_
  · rintro k σ' H' hk ⟨W', Γ', rfl, s', R', i'⟩
    refine B.run F W' σ' Γ' _ _ _ _ R' (.int _) (step k Γ' hk i') fun W3 σ3 Γ3 k3 f3 R3 q3 => ?_
    refine C.run F W3 σ3 Γ3 _ _ R3 q3 ⟨fun W4 σ4 Γ4 s4 R4 q4 => ⟨W4, Γ4, rfl, (s'.trans k3.sh).trans s4, R4, q4⟩, fun W4 σ4 Γ4 x4 v4 s4 => L.rt W4 σ4 Γ4 x4 v4 (s12.trans ((s'.trans k3.sh).trans s4)), fun W4 σ4 Γ4 o4 p4 h4 s4 => L.rn W4 σ4 Γ4 o4 p4 h4 (s12.trans ((s'.trans k3.sh).trans s4)), fun W4 σ4 Γ4 s4 => L.nx W4 σ4 Γ4 (s12.trans ((s'.trans k3.sh).trans s4)), fun W4 σ4 Γ4 s4 R4 q4 => ⟨W4, Γ4, rfl, (s'.trans k3.sh).trans s4, R4, q4⟩, fun W4 σ4 Γ4 c4 s4 => L.xs W4 σ4 Γ4 c4 (s12.trans ((s'.trans k3.sh).trans s4))⟩
  · rintro σ' H' ⟨W', Γ', rfl, s', R', i'⟩
    exact L.nx W' σ' Γ' (s12.trans s') R' (done Γ' i')⟩
def dLcC (da : TAd) (dg : TGd) (dt : TTd) (de : TEd) (ix vs : List Nat) : TFd := fun Γ Q => da Γ fun xs Γ2 => ∃ lo hi c n, dats Γ2 xs = some [.int lo, .int hi, .int c] ∧ RgC lo hi c n ∧ ownFree Γ2 vs = true ∧ subL ix vs = true ∧ n ≤ sizeLine ∧
  ∃ I : Nat → List PyData → G → Prop, I 0 [] (wipeG Γ2 vs) ∧ (∀ k acc Γ', k < n → I k acc Γ' → LcTurn dg dt de vs (.sh (.int (lo + (k : Int) * c))) Γ' fun o Γ5 => I (k + 1) (acc ++ o.toList) Γ5) ∧ ∀ acc Γ', I n acc Γ' → Q (.lst acc) (backG Γ2 Γ' vs)
instance sf_lcR3 [A : SA K ta da] [B : SG K g dg ix] [T : ST K tt dt] [C : SE K te de] : SEF K (tLc (iRng3 ta) g tt te vs) (dLcC da dg dt de ix vs) := ⟨fun F W σ Γ Q Qd R q kk => A.run F W σ Γ _ _ R q fun xs W2 Γ2 v s1 R2 o1 ⟨lo, hi, c, n, e, hr, hf, hix, hl, I, i0, step, done⟩ => by
  refine ⟨lo, hi, c, n, ints3 (o1.full R2 e), hr, fun D hD => ?_⟩
  obtain ⟨_, _, _, h0, nrf⟩ := R2.temp (ho := .lst []) hD trivial
  refine lc_it walk_rangeC (LcSt F W2 σ Γ2 vs D I) (lc_begin R2 hD i0) (fun _ _ _ _ => trivial) ?_ ?_
  · rintro k x H' H'' hk ⟨W', Γ', acc, us, rfl, R', t', hd', hu, ha, s', tm', kn', i'⟩ y
    obtain ⟨rfl, rfl⟩ := y
    exact lc_turn (x := .sh (.int _)) hix nrf R' t' hd' hu (by omega) ha s' tm' kn' (.int _) (step k acc Γ' hk i')
  · intro H' h
    exact lc_end R2 hD h0 nrf hf h done fun o W' Γ' p ho s' R' hp oh q => kk o W' Γ' p ho (s1.trans s') R' hp oh q⟩
end
end Dk

namespace Dk
open PySem PySem.Spec PyProof.Rows L2
/-! ### is None -/
def nonD : PyData → Bool
  | .none => true
  | _ => false
def dIsN (f : Bool → Bool) (da db : TEd) : TEd := fun Γ Q => da Γ fun x Γ1 => db Γ1 fun y Γ2 => ∃ a, dat Γ2 x = some a ∧ dat Γ2 y = some .none ∧ Q (.sh (.bool (f (nonD a)))) Γ2
theorem nonD_ok {K : Fg} {H : Hp} {v : V} {d : PyData} (h : Dq K H v d) : decide (v = .non) = nonD d := by
  cases d with
  | none => cases h; rfl
  | bool b => cases h; rfl
  | int b => cases h; rfl
  | str b => cases h; rfl
  | list b => cases h; rfl
  | tuple b => cases h; rfl
  | dict b => cases h
def rNone (f : Bool → Bool) : R2 := fun x y H Q => y = .non ∧ Q (.bl (f (decide (x = .non)))) H
theorem k_isN {X : Cx} : OpR X (compareOp .Is) (rNone id) := op_isN
theorem k_notN {X : Cx} : OpR X (compareOp .IsNot) (rNone not) := op_notN
section
variable {K : Fg} {ta tb : TE} {da db : TEd}
instance se_isN {f : Bool → Bool} [SE K ta da] [SE K tb db] : SE K (tOp (rNone f) ta tb) (dIsN f da db) := ⟨fun F W σ Γ Q Qd R q k => two R q fun x y W' Γ' u v s' R' o1 o2 ⟨a, e1, e2, q⟩ => by
  have h2 := o2.full R' e2
  cases h2
  refine ⟨rfl, ?_⟩
  rw [nonD_ok (o1.full R' e1)]
  exact k _ W' Γ' _ s' R' (.bl _) q⟩
end
theorem ite_and {c b : Bool} {A : Prop} {Q : RV → G → Prop} {Γ : G} (hA : Q (.sh (.bool b)) Γ → A) (h : ∀ x : Bool, x = (c && b) → Q (.sh (.bool x)) Γ) : if c = true then A else Q (.sh (.bool false)) Γ := by
  cases c with
  | true => exact iteT (hA (h b rfl))
  | false => exact iteF (h false rfl)
theorem ixN_at {n j : Nat} (h : j < n) : ixN n (j : Int) = some j := by
  unfold ixN
  rw [if_pos (by omega), if_pos (by omega)]
  congr 1
/-! ### exceptions -/
/-- an own class over ValueError, without own words -/
structure ExcIn (K : Fg) (mg : Str → Option Value) (x : Str) where
  C : Addr
  g : mg x = some (.ref C)
  x : PySem.W.excIn K C [.type "ValueError", .type "Exception", .type "BaseException", .type "object"] "ValueError.__new__" = true
  k : PySem.W.keepIn K (.ref C) = true
  b : PySem.W.subIn K (.ref C) (.type "BaseException") = some true
  t : PySem.W.typeIn K (.ref C) = some (.type "type")
/-- what a caught one is asked -/
structure ToldIn (K : Fg) (D S B : Addr) : Prop where
  c : ExcC K D
  m : PySem.W.exmOne K (.ref D) (.ref D) = some true
  k1 : PySem.W.kitOne K (.ref D) (.ref S) = some true
  k2 : PySem.W.kitOne K (.ref D) (.type "ValueError") = some true
  k3 : PySem.W.kitOne K (.ref D) (.ref B) = some false
def tRaise (Xw : WX) (c : Value) : TS := fun _ σ H => Xw c none σ H
def dRaise (c : Value) : TSd := fun E Γ => E.xs c Γ
theorem ps_raiseD {X : Cx} {W : WX} {mg : Str → Option Value} {x m : Str} {j : Nat} {p p2 pos pos' : Pos} (e : ExcIn X.K mg x) (hc : X.calm = true) (tk : Takes X W) (hg : Gl X x) (hm : X.mg = mg) (hdb : (x == ("__debug__" : Str)) = false := by decide) :
    PS X (.Raise (some (.Call (.Name x p) [.Constant (.str m) j p2] [] pos)) none pos') (tRaise W (.ref e.C)) := by
  subst hm
  exact ps_raise hc tk (pmk_own PySem.F.excBase_ValueError e.x e.g e.k (raises_own e.b e.t) hg hdb)
/-- a promise in data of a def that may raise -/
def PureXSp (K : Fg) (C : List PyData → (PyData → Prop) → (Value → Prop) → Prop) : Sp := fun vs H Q E => ∃ (ds : List PyData) (Qd : PyData → Prop) (Qx : Value → Prop), DqAll K H vs ds ∧ C ds Qd Qx ∧ (∀ (v : V) (H' : Hp) (d : PyData), Same H H' → Dq K (less H' fun a => Mo (H a)) v d → Qd d → Q v H') ∧ ∀ (c : Value) (H' : Hp), Same H H' → Qx c → E c none H'
section
variable {K : Fg} {Xw : WX} {t : TA} {d : TAd} {g : TG} {dg : TGd} {ix : List Nat} {C : List PyData → (PyData → Prop) → (Value → Prop) → Prop}
instance ss_raise {c : Value} : SS K Xw (tRaise Xw c) (dRaise c) := ⟨fun F W σ Γ D E R q L => L.xs W σ Γ c (Same.refl _) R q⟩
theorem callX {F : Fx K} {W : Wd} {σ : L2.St} {Γ : G} {Q : VK} {E : XK} {Qd : PyData → G → Prop} {Qx : Value → G → Prop} [A : SA K t d] (R : Rel F W σ Γ) (q : d Γ fun xs Γ1 => ∃ ds, dats Γ1 xs = some ds ∧ C ds (fun r => Qd r Γ1) fun c => Qx c Γ1)
    (k : ∀ (r : PyData) (W' : Wd) (Γ' : G) (v : V), Stp F W Γ W' Γ' → Rel F W' σ Γ' → VOk F W' σ Γ' v (.sh r) → Qd r Γ' → Q v W'.H) (kx : ∀ (c : Value) (W' : Wd) (Γ' : G), Stp F W Γ W' Γ' → Rel F W' σ Γ' → Qx c Γ' → E c none W'.H) : t σ W.H fun vs H1 => PureXSp K C vs H1 Q E := by
  refine A.run F W σ Γ _ _ R q fun xs W' Γ' vs s' R' o1 ⟨ds, e1, q⟩ => ?_
  refine ⟨ds, _, _, o1.full R' e1, q, fun v H' r hS hv hq => ?_, fun c H' hS hq => ?_⟩
  · refine k r { W' with H := H' } Γ' v (s'.trans (Stp.grow R' hS)) (R'.grow hS).1 (.ofSh ?_) hq
    exact hv.same (same_less fun a o nx e => ⟨fun z => nx (R'.exmo z), e⟩)
  · exact kx c { W' with H := H' } Γ' (s'.trans (Stp.grow R' hS)) (R'.grow hS).1 hq
def dAsgX (C : List PyData → (PyData → Prop) → (Value → Prop) → Prop) (d : TAd) (g : TGd) : TSd := fun E Γ => d Γ fun xs Γ1 => ∃ ds, dats Γ1 xs = some ds ∧ C ds (fun r => g (.sh r) Γ1 E.nx) fun c => E.xs c Γ1
instance ss_asgX [A : SA K t d] [B : SG K g dg ix] : SS K Xw (tAsg (tCallS (PureXSp K C) (WE Xw) t) g) (dAsgX C d dg) := ⟨fun F W σ Γ D E R q L => callX (t := t) (d := d) (C := C) (Qd := fun r Γ1 => dg (.sh r) Γ1 E.nx) (Qx := E.xs) R q (fun r W' Γ' v s R' o q => B.run F W' σ Γ' v _ _ _ R' o q fun W2 σ2 Γ2 s2 _ R2 q => L.nx W2 σ2 Γ2 (s.sh.trans s2.sh) R2 q) fun c W' Γ' s R' q => L.xs W' σ Γ' c s.sh R' q⟩
def dRetX (C : List PyData → (PyData → Prop) → (Value → Prop) → Prop) (d : TAd) : TSd := fun E Γ => d Γ fun xs Γ1 => ∃ ds, dats Γ1 xs = some ds ∧ C ds (fun r => E.rt (.sh r) Γ1) fun c => E.xs c Γ1
instance ss_retX [A : SA K t d] : SS K Xw (tRet (tCallS (PureXSp K C) (WE Xw) t)) (dRetX C d) := ⟨fun F W σ Γ D E R q L => callX (t := t) (d := d) (C := C) (Qd := fun r Γ1 => E.rt (.sh r) Γ1) (Qx := E.xs) R q (fun r W' Γ' v s R' o q => L.rt W' σ Γ' _ v s.sh R' o q) fun c W' Γ' s R' q => L.xs W' σ Γ' c s.sh R' q⟩
def dDropX (C : List PyData → (PyData → Prop) → (Value → Prop) → Prop) (d : TAd) : TSd := fun E Γ => d Γ fun xs Γ1 => ∃ ds, dats Γ1 xs = some ds ∧ C ds (fun _ => E.nx Γ1) fun c => E.xs c Γ1
instance ss_dropX [A : SA K t d] : SS K Xw (tDrop (tCallS (PureXSp K C) (WE Xw) t)) (dDropX C d) := ⟨fun F W σ Γ D E R q L => callX (t := t) (d := d) (C := C) (Qd := fun _ Γ1 => E.nx Γ1) (Qx := E.xs) R q (fun r W' Γ' v s R' o q => L.nx W' σ Γ' s.sh R' q) fun c W' Γ' s R' q => L.xs W' σ Γ' c s.sh R' q⟩
end
/-! a call that raises nothing where it stands: as one that never may -/
def dCallN (C : List PyData → (PyData → Prop) → (Value → Prop) → Prop) (d : TAd) : TEd := fun Γ Q => d Γ fun xs Γ1 => ∃ ds, dats Γ1 xs = some ds ∧ C ds (fun r => Q (.sh r) Γ1) fun _ => False
instance se_callN {K : Fg} {t : TA} {d : TAd} {C : List PyData → (PyData → Prop) → (Value → Prop) → Prop} {E : XK} [A : SA K t d] : SE K (tCall (PureXSp K C) [] E t) (dCallN C d) := ⟨fun F W σ Γ Q Qd R q k => by
  have := callX (t := t) (d := d) (C := C) (Q := Q) (E := E) (Qd := fun r Γ1 => Qd (.sh r) Γ1) (Qx := fun _ _ => False) R q (fun r W' Γ' v s R' o q => k _ W' Γ' v s R' o q) fun c W' Γ' s R' q => q.elim
  simp only [tCall, List.append_nil]
  exact this⟩
/-! ### try: x = f(..) except X as e: y = (isinstance(e, ..), isinstance(e, ..), isinstance(e, ..)) -/
def vOf : V → Option Value
  | .ref a => some (.ref a)
  | .ty n => some (.type n)
  | _ => none
theorem vOf_ok {c : V} {cv u : Value} (h : vOf c = some cv) (r : RelV c u) : u = cv := by
  cases c with
  | ref a => cases h; cases r; rfl
  | ty n => cases h; cases r; rfl
  | _ => cases h
def tIs (D : Addr) (cls : Value) (d : Option Addr) (t : TS) : TS := fun Dn σ H => cls = .ref D ∧ d = none ∧ t Dn σ H
abbrev tAsk (K : Fg) (D a : Addr) (i : Nat) (c : V) : TE := tCB (rIsE K D a) (tCons (tVar i) (tCons (tC c) tNil))
abbrev tTold (K : Fg) (D a : Addr) (i l : Nat) (c1 c2 c3 : V) : TS := tAsg (tTup (tCons (tAsk K D a i c1) (tCons (tAsk K D a i c2) (tCons (tAsk K D a i c3) tNil)))) (gName l)
def tTry (K : Fg) (c : Value) (i : Nat) (tb : WX → TS) (ts : Addr → Value → Option Addr → TS) (Wout : WX) : TS := fun D σ H => tb (wAs K c i ts Wout D) D σ H
theorem ps_tryD {X : Cx} {x n : Str} {c : Value} {i : Nat} {body suite : List Stmt} {b₀ : Stmt} {np pos pos' : Pos} {tb : WX → TS} {D : Addr} {ts : Addr → TS} {Wout : WX} (hs : X.stack = X.env :: X.outer) (hf : X.env.frame = some X.env.locals) (hN : X.N.Nodup) (hi : X.N[i]? = some n) (hln : X.env.kindOf n = some .local) (hc : Names X x c) (tk : Takes X Wout)
    (hb : ∀ (W : WX) (pn : List (Addr × Obj)) (xe : Value → Shared → Prop), Takes (X.tr pn xe) W → PassesOwn (model X.prog X.w) X.A X.env xe → PSs (X.tr pn xe) body (tb W))
    (hsu : ∀ (a : Addr) (oe : Obj) (pn : List (Addr × Obj)), Zc (.ref D) none oe → (∃ vs, oe.data = .fields vs) → PSs (X.suite a ((a, oe) :: pn)) (b₀ :: suite) (ts a)) :
    PS X (.Try body [.ExceptHandler (some (.Name x np)) (some n) (b₀ :: suite) pos'] [] [] pos) (tTry X.K c i tb (fun a cls d => tIs D cls d (ts a)) Wout) :=
  ps_try_as hs hf hN hi hln hc tk hb fun a oe cls d pn hz hv => ⟨fun pins s σ H Dn I h => by
    obtain ⟨rfl, rfl, h⟩ := h
    exact (hsu a oe pn hz hv).run pins s σ H Dn I h⟩
section
variable {K : Fg} {Xw : WX} {t : TA} {d : TAd} {C : List PyData → (PyData → Prop) → (Value → Prop) → Prop}
def dTry (K : Fg) (c : Value) (i j l : Nat) (D : Addr) (c1 c2 c3 : V) (C : List PyData → (PyData → Prop) → (Value → Prop) → Prop) (d : TAd) : TSd := fun E Γ => d Γ fun xs Γ1 => ∃ ds, dats Γ1 xs = some ds ∧ C ds (fun r => E.nx (Γ1.set j (.sh r)))
  fun cx => cx = .ref D ∧ PySem.W.exmOne K (.ref D) c = some true ∧ ∃ v1 v2 v3 b1 b2 b3, vOf c1 = some v1 ∧ vOf c2 = some v2 ∧ vOf c3 = some v3 ∧ PySem.W.kitOne K (.ref D) v1 = some b1 ∧ PySem.W.kitOne K (.ref D) v2 = some b2 ∧ PySem.W.kitOne K (.ref D) v3 = some b3 ∧ i < Γ1.length ∧ i ≠ l ∧ E.nx (((Γ1.set i .no).set l (.sh (.tuple [.bool b1, .bool b2, .bool b3]))).set i .no)
instance ss_try {c : Value} {i j l : Nat} {D : Addr} {c1 c2 c3 : V} [A : SA K t d] : SS K Xw (tTry K c i (fun W => tAsg (tCallS (PureXSp K C) (WE W) t) (gName j)) (fun a cls dd => tIs D cls dd (tTold K D a i l c1 c2 c3)) Xw) (dTry K c i j l D c1 c2 c3 C d) := ⟨fun F W σ Γ Dn E R q L => by
  refine callX (t := t) (d := d) (C := C) (Qd := fun r Γ1 => E.nx (Γ1.set j (.sh r))) R q (fun r W' Γ' v s R' o q => ?_) fun cx W' Γ' s R' q => ?_
  · exact L.nx W' _ _ s.sh (R'.setSh o) q
  · obtain ⟨rfl, hm, v1, v2, v3, b1, b2, b3, w1, w2, w3, k1, k2, k3, hi, ne, q⟩ := q
    refine ⟨true, hm, fun _ a ha => ⟨rfl, rfl, ?_⟩, fun z => nomatch z⟩
    have hl : i < σ.length := by rw [R'.len]; exact hi
    have ei : (σ.set i (some (.ref a)))[i]? = some (some (V.ref a)) := List.getElem?_set_self hl
    refine ⟨_, ei, c1, v1, b1, rfl, fun u r => vOf_ok w1 r, k1, ?_⟩
    refine ⟨_, ei, c2, v2, b2, rfl, fun u r => vOf_ok w2 r, k2, ?_⟩
    refine ⟨_, ei, c3, v3, b3, rfl, fun u r => vOf_ok w3 r, k3, ?_⟩
    refine ⟨by show 3 ≤ sizeLine; decide, fun p hp => ?_⟩
    have hS := same_new (o := .tup [V.bl b1, .bl b2, .bl b3]) hp
    have R2 := (R'.grow hS).1
    have ok : Dq K (({ W' with H := upd W'.H p (.tup [V.bl b1, .bl b2, .bl b3]) } : Wd).S F) (.ref p) (.tuple [.bool b1, .bool b2, .bool b3]) :=
      .tup (.inl (S_of (W := { W' with H := upd W'.H p (.tup [V.bl b1, .bl b2, .bl b3]) }) (R'.free hp) upd_same)) (.cons (.bl _) (.cons (.bl _) (.cons (.bl _) .nil)))
    exact L.nx { W' with H := upd W'.H p (.tup [V.bl b1, .bl b2, .bl b3]) } _ _ (s.sh.trans (R'.grow hS).2) (((R2.setNo).setSh ok).setNo) q⟩
end
/-! ### defs that may raise -/
section
variable {P : Program} {w : World} {K : Fg} {mg : Str → Option Value} {base : Heap}
abbrev PXEnds (Qd : PyData → Prop) (Qx : Value → Prop) : DE := { nx := fun _ => Qd .none, rt := fun x Γ => ∃ r, retOf Γ x = some r ∧ Qd r, rn := fun o _ => ∃ xs, o = .lst xs ∧ Qd (.list xs), xs := fun c _ => Qx c }
theorem pureX_ok {x qual : Str} {st : Stmt} {f : Addr} {fd : FuncData} {N ps : List Str} {k : Nat} {C : List PyData → (PyData → Prop) → (Value → Prop) → Prop} (Fn : L2.Fun K x qual st f fd) (S : FnScope N ps (defScope st)) (hl : ∀ ds Qd Qx, C ds Qd Qx → ds.length = ps.length)
    (hbody : ∀ (cdv : Value) (A : Around) (outer : List Env) (s : Shared) (H : Hp) (E : XK), Room k (A.deeper (envOfC qual (defScope st) s.heap.objs.size f cdv)) →
      ∃ t, PSs (cxOf (L2.CX P w) P w K mg base N qual (defScope st) f cdv A outer s H E) (defBody st) t ∧ ∃ d, SS K (fun cls d _ H => E cls d H) t d ∧ ∀ ds Qd Qx, C ds Qd Qx → ∃ sl, Paired argOk sl ds ∧ d (PXEnds Qd Qx) (startG N sl)) : FnOk P w K mg base (L2.CX P w) (k + 1) f fd ps (PureXSp K C) := by
  refine Fn.okX S (fun vs H Q E h => ?_) (fun cdv A outer s H vs Q E hr h => ?_)
  · obtain ⟨ds, Qd, Qx, h1, h2, _⟩ := h
    rw [h1.length]
    exact hl ds Qd Qx h2
  · obtain ⟨ds, Qd, Qx, h1, h2, q, qx⟩ := h
    obtain ⟨t, ht, d, hs, hd⟩ := hbody cdv A outer s H E hr
    obtain ⟨sl, ha, hd⟩ := hd ds Qd Qx h2
    refine ⟨t, ht, hs.run ⟨H, fun _ => False, fun _ => none⟩ ⟨fun _ => False, fun _ => [], H⟩ (start N vs) (startG N sl) _ _ (rel_start h1 ha) hd ⟨fun W σ Γ _ R e => ?_, fun W σ Γ y v _ R o ⟨r, e, z⟩ => ?_, fun W σ Γ o p ho _ R hp oh ⟨xs, e, z⟩ => ?_, fun W σ Γ _ R e => e, fun W σ Γ _ R e => e, fun W σ Γ c _ R e => ?_⟩⟩
    · exact q .non W.H .none (fun a o e => R.base a o e fun z => z) .non e
    · exact q v W.H r (fun a o e => R.base a o e fun z => z) (ret_ok R o e) z
    · subst e
      obtain ⟨us, rfl, hu⟩ := oh
      have h0 : H p = none := by
        cases e : H p with
        | none => rfl
        | some o => have := R.base p o e (fun z => z); rw [hp] at this; cases this
      refine q (.ref p) _ (.list xs) (fun a o e => ?_) (.lst (less_some.mpr ⟨by rw [h0]; exact fun z => z, upd_same⟩) (hu.same (same_less fun a o nx e => ⟨fun z => nx (.inl z), ?_⟩))) z
      · have b := R.base a o e (fun z => z)
        rw [upd_ne (ne_of_none b hp)]
        exact b
      · rw [upd_ne (ne_of_none e hp)]
        exact e
    · exact qx c W.H (fun a o e => R.base a o e fun z => z) e
end
end Dk

namespace Dk
open PySem PySem.Spec PyProof.Rows L2
/-! ### how numbers, pairs, patterns, rounds stand as data -/
/-- plain data of a depth -/
def Shp (n : Nat) (d : PyData) : Prop := d.canLay0 = true ∧ d.depth ≤ n
theorem Shp.int (i : Int) : Shp 0 (.int i) := ⟨by simp [PyData.canLay0], by simp [PyData.depth]⟩
theorem Shp.bool (i : Bool) : Shp 0 (.bool i) := ⟨by simp [PyData.canLay0], by simp [PyData.depth]⟩
theorem Shp.none : Shp 0 .none := ⟨by simp [PyData.canLay0], by simp [PyData.depth]⟩
theorem Shp.mono {n m : Nat} {d : PyData} (h : Shp n d) (l : n ≤ m) : Shp m d := ⟨h.1, Nat.le_trans h.2 l⟩
theorem shp_all {n : Nat} : ∀ {ds : List PyData}, (∀ d ∈ ds, Shp n d) → PyData.canLayAll0 ds = true ∧ PyData.depthAll ds ≤ n
  | [], _ => ⟨by simp [PyData.canLayAll0], by simp [PyData.depthAll]⟩
  | d :: ds, h => by
    obtain ⟨h1, h2⟩ := h d (by simp)
    obtain ⟨h3, h4⟩ := shp_all fun x hx => h x (List.mem_cons_of_mem _ hx)
    refine ⟨by simp [PyData.canLayAll0, h1, h3], ?_⟩
    simp only [PyData.depthAll]
    omega
theorem Shp.tup {n : Nat} {ds : List PyData} (h : ∀ d ∈ ds, Shp n d) : Shp (n + 1) (.tuple ds) := by
  obtain ⟨h1, h2⟩ := shp_all h
  refine ⟨by simpa [PyData.canLay0] using h1, ?_⟩
  simp only [PyData.depth]
  omega
theorem Shp.list {n : Nat} {ds : List PyData} (h : ∀ d ∈ ds, Shp n d) : Shp (n + 1) (.list ds) := by
  obtain ⟨h1, h2⟩ := shp_all h
  refine ⟨by simpa [PyData.canLay0] using h1, ?_⟩
  simp only [PyData.depth]
  omega
theorem Shp.ok {n : Nat} {d : PyData} (h : Shp n d) (l : n ≤ 64 := by decide) : SeqAt.shaped d = true := by
  show (d.canLay0 && decide (d.depth ≤ 64)) = true
  rw [Bool.and_eq_true]
  exact ⟨h.1, decide_eq_true (Nat.le_trans h.2 l)⟩
theorem Shp.refl {n : Nat} {d : PyData} (h : Shp n d) : PyData.eqv d d = true := SeqAt.eqv_refl d h.1
/-- things that are equal just where their data are -/
class EqE {α : Type} [DecidableEq α] (e : α → PyData) : Prop where
  eq : ∀ x y, PyData.eqv (e x) (e y) = decide (x = y)
theorem eqvAll_map {α : Type} [DecidableEq α] {e : α → PyData} [h : EqE e] : ∀ xs ys : List α, PyData.eqvAll (xs.map e) (ys.map e) = decide (xs = ys)
  | [], [] => by simp [PyData.eqvAll]
  | [], _ :: _ => by simp [PyData.eqvAll]
  | _ :: _, [] => by simp [PyData.eqvAll]
  | x :: xs, y :: ys => by
    simp only [List.map_cons, PyData.eqvAll, h.eq, eqvAll_map xs ys]
    by_cases e1 : x = y
    · by_cases e2 : xs = ys <;> simp [e1, e2]
    · simp [e1]
def ePair (x : Int × Int) : PyData := .tuple [.int x.1, .int x.2]
def ePat (xs : Pt.Pat) : PyData := .tuple (xs.map ePair)
def ePairs (xs : Pt.Pat) : PyData := .list (xs.map ePair)
def eRound (r : Int × Pt.Pat) : PyData := .tuple [.int r.1, ePat r.2]
theorem ePair_tupO (x : Int × Int) : tupO (ePair x) = true := rfl
theorem map_tupO {α : Type} {e : α → PyData} (h : ∀ x, tupO (e x) = true) : ∀ xs : List α, tupOs (xs.map e) = true
  | [] => rfl
  | x :: xs => by
    simp only [List.map_cons, tupOs, h x, map_tupO h xs]
    rfl
theorem ePairs_tupO (xs : Pt.Pat) : tupOs (xs.map ePair) = true := map_tupO ePair_tupO xs
theorem ePat_tupO (xs : Pt.Pat) : tupO (ePat xs) = true := ePairs_tupO xs
theorem eRound_tupO (r : Int × Pt.Pat) : tupO (eRound r) = true := by
  show (tupO (.int r.1) && (tupO (ePat r.2) && true)) = true
  rw [ePat_tupO]
  rfl
theorem ePair_shp (x : Int × Int) : Shp 1 (ePair x) := Shp.tup fun d hd => by
  simp only [List.mem_cons, List.not_mem_nil, or_false] at hd
  rcases hd with rfl | rfl <;> exact Shp.int _
theorem ePat_shp (xs : Pt.Pat) : Shp 2 (ePat xs) := Shp.tup fun d hd => by
  obtain ⟨x, _, rfl⟩ := List.mem_map.mp hd
  exact ePair_shp x
theorem ePairs_shp (xs : Pt.Pat) : Shp 2 (ePairs xs) := Shp.list fun d hd => by
  obtain ⟨x, _, rfl⟩ := List.mem_map.mp hd
  exact ePair_shp x
theorem eRound_shp (r : Int × Pt.Pat) : Shp 3 (eRound r) := Shp.tup fun d hd => by
  simp only [List.mem_cons, List.not_mem_nil, or_false] at hd
  rcases hd with rfl | rfl
  · exact (Shp.int _).mono (by decide)
  · exact ePat_shp _
instance eqe_pair : EqE ePair := ⟨fun x y => by
  simp only [ePair, PyData.eqv, PyData.eqvAll, Bool.and_true]
  obtain ⟨a, b⟩ := x
  obtain ⟨c, d⟩ := y
  simp only [Prod.mk.injEq]
  by_cases h1 : a = c <;> by_cases h2 : b = d <;> simp [h1, h2]⟩
instance eqe_pat : EqE ePat := ⟨fun x y => by
  simp only [ePat, PyData.eqv]
  exact eqvAll_map x y⟩
instance eqe_pairs : EqE ePairs := ⟨fun x y => by
  simp only [ePairs, PyData.eqv]
  exact eqvAll_map x y⟩
instance eqe_round : EqE eRound := ⟨fun x y => by
  simp only [eRound, PyData.eqv, PyData.eqvAll, Bool.and_true, eqe_pat.eq]
  obtain ⟨a, b⟩ := x
  obtain ⟨c, d⟩ := y
  simp only [Prod.mk.injEq]
  by_cases h1 : a = c <;> by_cases h2 : b = d <;> simp [h1, h2]⟩
end Dk

namespace Dk
open PySem PySem.Spec PyProof.Rows L2
/-! ### contracts and what they lean on -/
def sumsD (p : Int) (xs : Pt.Pat) : List (Key × PyData) := (Pt.keys xs).map fun k => (Sum.inl k, .int (Pt.sumAt xs k % p))
theorem valD_map (ks : List Int) (f : Int → PyData) (k : Int) : valD (ks.map fun j => ((Sum.inl j : Key), f j)) (Sum.inl k) = if k ∈ ks then some (f k) else none := by
  induction ks with
  | nil => rfl
  | cons j r ih =>
    by_cases e : j = k
    · subst e
      simp [valD, List.find?_cons]
    · have h1 : ¬ (Sum.inl j : Key) = Sum.inl k := fun z => e (Sum.inl.inj z)
      have h2 : valD ((j :: r).map fun j => ((Sum.inl j : Key), f j)) (Sum.inl k) = valD (r.map fun j => ((Sum.inl j : Key), f j)) (Sum.inl k) := by
        simp [valD, List.find?_cons, h1]
      rw [h2, ih]
      simp [Ne.symm e]
theorem putD_map (ks : List Int) (f : Int → PyData) (k : Int) (v : PyData) : putD (ks.map fun j => ((Sum.inl j : Key), f j)) (Sum.inl k) v = (Pt.addK ks k).map fun j => ((Sum.inl j : Key), if j = k then v else f j) := by
  have ha : ((ks.map fun j => ((Sum.inl j : Key), f j)).any fun kv => decide (kv.1 = Sum.inl k)) = decide (k ∈ ks) := by
    rw [Bool.eq_iff_iff]
    simp
  unfold putD Pt.addK
  rw [ha]
  by_cases h : k ∈ ks
  · simp only [h, decide_true, if_true]
    rw [List.map_map]
    refine List.map_congr_left fun j hj => ?_
    simp only [Function.comp]
    by_cases e : j = k
    · subst e
      simp
    · have h1 : ¬ (Sum.inl j : Key) = Sum.inl k := fun z => e (Sum.inl.inj z)
      rw [if_neg h1, if_neg e]
  · simp only [h, decide_false, if_false, Bool.false_eq_true]
    rw [List.map_append]
    congr 1
    · refine List.map_congr_left fun j hj => ?_
      rw [if_neg (fun z : j = k => h (z ▸ hj))]
    · simp
theorem sums_turn {p : Int} (xs : Pt.Pat) (x : Int × Int) : putD (sumsD p xs) (Sum.inl x.1) (.int ((((if x.1 ∈ Pt.keys xs then Pt.sumAt xs x.1 % p else 0) + x.2) % p))) = sumsD p (xs ++ [x]) := by
  unfold sumsD
  rw [putD_map, Pt.keys_snoc]
  refine List.map_congr_left fun j hj => ?_
  rw [Pt.sumAt_app]
  simp only [Pt.sumAt]
  by_cases e : j = x.1
  · subst e
    rw [if_pos rfl, if_pos rfl]
    split
    · rw [Int.emod_add_emod]
      congr 2
      congr 1
      omega
    · rename_i h
      rw [Pt.sumAt_none (fun y hy z => h ((Pt.mem_keys xs x.1).mpr ⟨y, hy, z⟩))]
      congr 2
      congr 1
      omega
  · rw [if_neg e, if_neg (Ne.symm e)]
    congr 2
    congr 1
    omega
theorem ePair_pick (p : Int) (xs : Pt.Pat) (ys : List Int) : ys.filterMap (fun k => (Pt.pick p xs k).map ePair) = (ys.filterMap (Pt.pick p xs)).map ePair := by
  rw [List.map_filterMap]
def cTidy : List PyData → (PyData → Prop) → Prop := fun ds Qd => ∃ (p : Int) (xs : Pt.Pat), ds = [.int p, ePairs xs] ∧ 0 < p ∧ (Pt.keys xs).length ≤ 100000 ∧ Qd (ePat (Pt.tidy p xs))
/-! the draws: a list of the script's numbers, a place, a number, a seed -/
def IsDraw : Hp → Addr → List Addr → Prop := fun H p f => ∃ (l : Addr) (ns : List Int) (pos left seed : Int), f = [p, l] ∧ p ≠ l ∧ H p = some (.lst [.ref l, .int pos, .int left, .int seed]) ∧ H l = some (.lst (ns.map V.int)) ∧ 0 ≤ pos ∧ 0 ≤ left
instance abDraw : AbI IsDraw where
  mem := fun h => by
    obtain ⟨l, ns, pos, left, seed, rfl, _⟩ := h
    simp
  mo := fun h => by
    obtain ⟨l, ns, pos, left, seed, rfl, ne, h1, h2, _⟩ := h
    intro a ha
    simp only [List.mem_cons, List.not_mem_nil, or_false] at ha
    rcases ha with rfl | rfl
    · rw [h1]; trivial
    · rw [h2]; trivial
  st := fun h hk _ => by
    obtain ⟨l, ns, pos, left, seed, rfl, ne, h1, h2, h3⟩ := h
    exact ⟨l, ns, pos, left, seed, rfl, ne, (hk _ (by simp)).trans h1, (hk _ (by simp)).trans h2, h3⟩
def spBegin (K : Fg) : Sp := fun vs H Q _ => ∃ (a : Addr) (ns : List Int), vs = [.ref a] ∧ SqL K H a (ns.map V.int) ∧ ∀ (p : Addr) (f : List Addr) (H' : Hp), Same H H' → (∀ x ∈ f, H x = none) → IsDraw H' p f → Q (.ref p) H'
section
variable {P : Program} {w : World} {K : Fg} {mg : Str → Option Value} {base : Heap}
/-! the law's own def: the first line makes the draws -/
def spLaw (K : Fg) : Sp := fun vs H Q _ => ∃ (a : Addr) (ns : List Int), vs = [.ref a] ∧ SqL K H a (ns.map V.int) ∧ ∀ H', Q (.bl true) H'
abbrev LEnds : DE := { nx := fun _ => False, rt := fun x Γ => dat Γ x = some (.bool true) }
def lawG (N : List Str) : G := .no :: .ow (.ab IsDraw) :: List.replicate (N.length - 2) .no
theorem law_ok {st : Stmt} {f : Addr} {fd : FuncData} {N : List Str} {k : Nat} (Fn : L2.Fun K "law" "law" st f fd) (S : FnScope N ["_law_script"] (defScope st)) (hN : 2 ≤ N.length)
    (hbody : ∀ (cdv : Value) (A : Around) (outer : List Env) (s : Shared) (H : Hp) (E : XK), Room k (A.deeper (envOfC "law" (defScope st) s.heap.objs.size f cdv)) →
      ∃ (E' : XK) (t : TS), PSs (cxOf CX0 P w K mg base N "law" (defScope st) f cdv A outer s H E).nox (defBody st) (tSeq (tAsg (tCall (spBegin K) [] E' (tCons (tVar 0) tNil)) (gName 1)) t) ∧ ∃ d, SS K X0 t d ∧ d LEnds (lawG N)) : FnOk P w K mg base CX0 (k + 1) f fd ["_law_script"] (spLaw K) := by
  refine Fn.ok S (fun vs H Q E h => ?_) (fun cdv A outer s H vs Q E hr h => ?_)
  · obtain ⟨a, ns, rfl, _⟩ := h
    rfl
  · obtain ⟨a, ns, rfl, hS, q⟩ := h
    obtain ⟨E', t, ht, d, hs, hd⟩ := hbody cdv A outer s H E hr
    refine ⟨_, ht, .ref a, start_get rfl, a, ns, rfl, hS, fun p g H' sm nf hI => ?_⟩
    have hl : ((L2.start N [V.ref a]).set 1 (some (.ref p))).length = (lawG N).length := by
      simp [L2.start, lawG]
      omega
    have own : ∀ (i : Nat) (u : Sl) (o : OD), (lawG N)[i]? = some u → u.own? = some o → i = 1 ∧ u = .ow (.ab IsDraw) := fun i u o e1 e2 => by
      match i, e1 with
      | 0, e1 => cases e1; cases e2
      | 1, e1 => cases e1; exact ⟨rfl, rfl⟩
      | i + 2, e1 =>
        simp only [lawG, List.getElem?_cons_succ, List.getElem?_replicate] at e1
        split at e1
        · cases e1; cases e2
        · cases e1
    refine hs.run (K := K) ⟨fun _ => none, fun _ => False, fun _ => none⟩ ⟨fun x => x ∈ g, fun i => if i = 1 then g else [], H'⟩ _ (lawG N) _ LEnds ⟨(fun _ _ e => by cases e), (fun _ _ => .inl rfl), fun x hx => AbI.mo hI x hx, fun _ z => z.elim, hl, fun i u e => ?_, fun i j u v oi oj x ne e1 e2 g1 g2 => ?_⟩ hd ⟨fun W σ Γ _ R e => e.elim, fun W σ Γ x v _ R o e => ?_, fun W σ Γ o p ho _ R hp oh e => e.elim, fun W σ Γ _ R e => e, fun W σ Γ _ R e => e, fun W σ Γ c _ R e => e⟩
    · cases u with
      | no => trivial
      | sh d => 
        exfalso
        match i, e with
        | 0, e => cases e
        | 1, e => cases e
        | i + 2, e =>
          simp only [lawG, List.getElem?_cons_succ, List.getElem?_replicate] at e
          split at e <;> cases e
      | ar d =>
        exfalso
        match i, e with
        | 0, e => cases e
        | 1, e => cases e
        | i + 2, e =>
          simp only [lawG, List.getElem?_cons_succ, List.getElem?_replicate] at e
          split at e <;> cases e
      | ow o =>
        obtain ⟨rfl, e2⟩ := own i _ o e rfl
        cases e2
        refine ⟨p, ?_, fun x hx => ⟨hx, fun z => z⟩, AbI.mem hI, hI, fun H'' hk ht => AbI.st hI hk ht⟩
        refine List.getElem?_set_self ?_
        simp [L2.start]
        omega
      | rf o =>
        obtain ⟨_, e2⟩ := own i _ o e rfl
        cases e2
    · exact absurd ((own i u oi e1 g1).1.trans (own j v oj e2 g2).1.symm) ne
    · rw [bl_of (o.full R e)]
      exact q _
end
def cTake : List PyData → (PyData → Prop) → Prop := fun ds Qd => ∃ m : Int, ds = [.int m] ∧ 0 < m ∧ m < 1073741824 ∧ ∀ r : Int, 0 ≤ r → r < m → Qd (.int r)
def GoodP (p : Int) : Prop := p = 2 ∨ p = 3 ∨ p = 5 ∨ p = 7
theorem GoodP.pos {p : Int} (h : GoodP p) : 0 < p := by unfold GoodP at h; omega
theorem GoodP.le {p : Int} (h : GoodP p) : p ≤ 7 := by unfold GoodP at h; omega
theorem GoodP.two {p : Int} (h : GoodP p) : 2 ≤ p := by unfold GoodP at h; omega
def cP : List PyData → (PyData → Prop) → Prop := fun ds Qd => ds = [] ∧ ∀ p : Int, GoodP p → Qd (.int p)
def cWide : List PyData → (PyData → Prop) → Prop := fun ds Qd => ds = [] ∧ ∀ n : Int, -(10 ^ 22) < n → n < 10 ^ 22 → Qd (.int n)
def cAt : List PyData → (PyData → Prop) → Prop := fun ds Qd => ∃ (xs : Pt.Pat) (k : Int), ds = [ePat xs, .int k] ∧ Qd (.int (Pt.at_ xs k))
theorem at_pre {pre post : Pt.Pat} {x : Int × Int} {k : Int} (h : ∀ y ∈ pre, y.1 ≠ k) : Pt.at_ (pre ++ x :: post) k = if x.1 = k then x.2 else Pt.at_ post k := by
  induction pre with
  | nil => rfl
  | cons y r ih =>
    have h1 := h y (by simp)
    simp only [List.cons_append, Pt.at_, if_neg h1]
    exact ih fun z hz => h z (by simp [hz])
def isIntD : PyData → Bool
  | .int _ => true
  | _ => false
def cInt : List PyData → (PyData → Prop) → Prop := fun ds Qd => ∃ d : PyData, ds = [d] ∧ (∀ kvs, d ≠ .dict kvs) ∧ Qd (.bool (isIntD d))
def cIsPattern : List PyData → (PyData → Prop) → Prop := fun ds Qd => ∃ (p : Int) (xs : Pt.Pat), ds = [.int p, ePat xs] ∧ Pt.IsPat p xs ∧ xs.length < 2 ^ 62 ∧ Qd (.bool true)
theorem fm_ints (xs : Pt.Pat) (h : Int × Int → Option Int) : xs.filterMap (fun x => (h x).map PyData.int) = (xs.filterMap h).map PyData.int := by rw [List.map_filterMap]
theorem fm_fst (xs : Pt.Pat) : xs.filterMap (fun y => some (PyData.int y.1)) = (xs.map (·.1)).map PyData.int := by
  rw [List.map_map, ← List.filterMap_eq_map]
  rfl
theorem fm_sum (xs : Pt.Pat) (k : Int) : (xs.filterMap fun x => if x.1 = k then some x.2 else none).sum = Pt.sumAt xs k := by
  induction xs with
  | nil => rfl
  | cons x r ih =>
    rw [List.filterMap_cons]
    by_cases e : x.1 = k
    · rw [if_pos e]
      simp only [List.sum_cons, Pt.sumAt, if_pos e, ih]
    · rw [if_neg e]
      simp only [Pt.sumAt, if_neg e, ih, Int.zero_add]
def cMoved : List PyData → (PyData → Prop) → Prop := fun ds Qd => ∃ (xs : Pt.Pat) (b : Int), ds = [ePat xs, .int b] ∧ xs.length ≤ 100000 ∧ Qd (ePat (Pt.moved xs b))
theorem small100000 {n : Nat} (h : n ≤ 100000) : n < sizeLine := Nat.lt_of_le_of_lt h (by decide)
theorem fm_map {α : Type} (xs : List α) (f : α → PyData) : xs.filterMap (fun x => some (f x)) = xs.map f := by
  rw [← List.filterMap_eq_map]
  rfl
/-- a pattern that is drawn -/
def cPattern : List PyData → (PyData → Prop) → Prop := fun ds Qd => ∃ (p most far : Int), ds = [.int p, .int most, .int far] ∧ GoodP p ∧ 0 ≤ most ∧ most ≤ 63 ∧ 0 ≤ far ∧ far ≤ 100000 ∧ ∀ xs : Pt.Pat, Pt.IsPat p xs → (xs.length : Int) ≤ most → (∀ x ∈ xs, -far ≤ x.1 ∧ x.1 ≤ far) → Qd (ePat xs)
def cAdded : List PyData → (PyData → Prop) → Prop := fun ds Qd => ∃ (p : Int) (xs ys : Pt.Pat), ds = [.int p, ePat xs, ePat ys] ∧ 0 < p ∧ xs.length ≤ 50000 ∧ ys.length ≤ 50000 ∧ Qd (ePat (Pt.added p xs ys))
def cTimed : List PyData → (PyData → Prop) → Prop := fun ds Qd => ∃ (p : Int) (xs : Pt.Pat) (n : Int), ds = [.int p, ePat xs, .int n] ∧ 0 < p ∧ xs.length ≤ 100000 ∧ (∀ x ∈ xs, CMul x.2 n) ∧ Qd (ePat (Pt.timed p xs n))
def cSum : List PyData → (PyData → Prop) → Prop := fun ds Qd => ∃ (p : Int) (xs ys : Pt.Pat) (b n : Int), ds = [.int p, ePat xs, ePat ys, .int b, .int n] ∧ 0 < p ∧ xs.length ≤ 50000 ∧ ys.length ≤ 50000 ∧ (∀ y ∈ ys, CMul y.2 n) ∧ Qd (ePat (Pt.tidy p (xs ++ ys.map fun y => (y.1 + b, y.2 * n))))
theorem mulPat {p n : Int} {xs : Pt.Pat} (hp : GoodP p) (h : Pt.IsPat p xs) : ∀ x ∈ xs, CMul x.2 n := fun x hx => .inl ⟨by have := h.rng x hx; omega, by have := h.rng x hx; have := hp.le; omega⟩
/-! rounds -/
def cJoin : List PyData → (PyData → Prop) → Prop := fun ds Qd => ∃ (p : Int) (a b : Rd.R), ds = [.int p, eRound a, eRound b] ∧ 0 < p ∧ a.2.length ≤ 50000 ∧ b.2.length ≤ 50000 ∧ Qd (eRound (Rd.join p a b))
def cInv : List PyData → (PyData → Prop) → Prop := fun ds Qd => ∃ (p : Int) (a : Rd.R), ds = [.int p, eRound a] ∧ 0 < p ∧ a.2.length ≤ 50000 ∧ Qd (eRound (Rd.inv p a))
def cStill : List PyData → (PyData → Prop) → Prop := fun ds Qd => ds = [] ∧ Qd (eRound Rd.still)
def cIsRound : List PyData → (PyData → Prop) → Prop := fun ds Qd => ∃ (p : Int) (a : Rd.R), ds = [.int p, eRound a] ∧ Rd.IsRound p a ∧ a.2.length < 2 ^ 62 ∧ Qd (.bool true)
/-- a round that is drawn -/
def cRound : List PyData → (PyData → Prop) → Prop := fun ds Qd => ∃ (p fin most far : Int), ds = [.int p, .int fin, .int most, .int far] ∧ GoodP p ∧ 0 ≤ fin ∧ fin ≤ 100000 ∧ 0 ≤ most ∧ most ≤ 63 ∧ 0 ≤ far ∧ far ≤ 100000 ∧
  ∀ a : Rd.R, Rd.IsRound p a → (a.2.length : Int) ≤ most → -fin ≤ a.1 → a.1 ≤ fin → (∀ x ∈ a.2, -far ≤ x.1 ∧ x.1 ≤ far) → Qd (eRound a)
/-! rows of numbers -/
def eNums (xs : List Int) : PyData := .tuple (xs.map .int)
theorem nums_len (xs : List Int) : (xs.map PyData.int).length = xs.length := by simp
theorem at4 {a b c d r : Int} (r0 : 0 ≤ r) (r1 : r < 4) : ∃ e : Int, atI [PyData.int a, .int b, .int c, .int d] r = some (.int e) ∧ (e = a ∨ e = b ∨ e = c ∨ e = d) := by
  have h : r = 0 ∨ r = 1 ∨ r = 2 ∨ r = 3 := by omega
  rcases h with rfl | rfl | rfl | rfl
  · exact ⟨a, rfl, .inl rfl⟩
  · exact ⟨b, rfl, .inr (.inl rfl)⟩
  · exact ⟨c, rfl, .inr (.inr (.inl rfl))⟩
  · exact ⟨d, rfl, .inr (.inr (.inr rfl))⟩
theorem eNums_shp (xs : List Int) : Shp 1 (eNums xs) := Shp.tup fun d hd => by
  obtain ⟨x, _, rfl⟩ := List.mem_map.mp hd
  exact Shp.int _
theorem eNums_tupO (xs : List Int) : tupO (eNums xs) = true := map_tupO (fun _ => rfl) xs
instance eqe_int : EqE PyData.int := ⟨fun x y => by simp only [PyData.eqv]; by_cases h : x = y <;> simp [h]⟩
instance eqe_nums : EqE eNums := ⟨fun x y => by
  simp only [eNums, PyData.eqv]
  exact eqvAll_map x y⟩
def eList (xs : List Int) : PyData := .list (xs.map .int)
theorem eList_shp (xs : List Int) : Shp 1 (eList xs) := Shp.list fun d hd => by
  obtain ⟨x, _, rfl⟩ := List.mem_map.mp hd
  exact Shp.int _
instance eqe_list : EqE eList := ⟨fun x y => by
  simp only [eList, PyData.eqv]
  exact eqvAll_map x y⟩
end Dk

namespace Dk
open PySem PySem.Spec PyProof.Rows L2
/-! ### constants of the module -/
structure CInt (mg : Str → Option Value) (x : Str) (i : Int) where
  u : Value
  g : mg x = some u
  r : RelV (.int i) u
/-- a written tuple -/
class KtLink (K : Fg) (a : Addr) (ds : outParam (List PyData)) : Prop where
  ok : ∀ H, Dq K H (.ref a) (.tuple ds)
structure KTup (K : Fg) (mg : Str → Option Value) (x : Str) (ds : List PyData) where
  a : Addr
  g : mg x = some (.ref a)
  l : KtLink K a ds
instance se_kt {K : Fg} {a : Addr} {ds : List PyData} [L : KtLink K a ds] : SE K (tC (.ref a)) (dC (.tuple ds)) := ⟨fun F W σ Γ Q Qd R h k => k _ W Γ _ (Stp.refl ..) R (.ofSh (L.ok _)) h⟩
/-- a written dict with text keys: f what stands at a key, m whether a key is there (as far as one asks) -/
class KdLink (K : Fg) (w : World) (d : Addr) (f : outParam (Str → Option PyData)) (m : outParam (Str → Option Bool)) : Prop where
  item : ∀ z x, f z = some x → ∃ v, KDct K w d z v ∧ ∀ H, Dq K H v x
  mem : ∀ z b, m z = some b → ∃ r, PySem.W.nsIn K d z = some r ∧ r.isSome = b
structure KDic (K : Fg) (w : World) (mg : Str → Option Value) (x : Str) (f : Str → Option PyData) (m : Str → Option Bool) where
  d : Addr
  es : Array DictEntry
  n : Nat
  g : mg x = some (.ref d)
  D : KDict K w d es n
  l : KdLink K w d f m
theorem kixD {X : Cx} (K : Fg) (w : World) (h : X.K = K := by rfl) (h2 : X.w = w := by rfl) : IxR X (rIxD K w) := h ▸ h2 ▸ ix_kdict
def rNotInD (K : Fg) (w : World) (d : Addr) : R2 := fun x y H Q => ∃ (z : Str) (r : Option Value), x = .str z ∧ y = .ref d ∧ PySem.W.nsIn K d z = some r ∧ Q (.bl (!r.isSome)) H
theorem knotInD {X : Cx} (K : Fg) (w : World) {d : Addr} {es : Array DictEntry} {n : Nat} (D : KDict K w d es n) (h : X.K = K := by rfl) (h2 : X.w = w := by rfl) : OpR X (compareOp .NotIn) (rNotInD K w d) := by
  subst h h2
  exact op_notIn_kd D
section
variable {K : Fg} {w : World} {d : Addr} {f : Str → Option PyData} {m : Str → Option Bool} {ta : TE} {da : TEd}
def dKdIx (f : Str → Option PyData) (da : TEd) : TEd := fun Γ Q => da Γ fun x Γ1 => ∃ z y, dat Γ1 x = some (.str z) ∧ f z = some y ∧ Q (.sh y) Γ1
instance se_kdIx [L : KdLink K w d f m] [A : SE K ta da] : SE K (tOp (rIxD K w) (tC (.ref d)) ta) (dKdIx f da) := ⟨fun F W σ Γ Q Qd R q k => A.run F W σ Γ _ _ R q fun x W' Γ' u s' R' o ⟨z, y, e1, e2, q⟩ => by
  obtain ⟨v, h1, h2⟩ := L.item z y e2
  exact ⟨d, z, v, rfl, str_of (o.full R' e1), h1, k _ W' Γ' _ s' R' (.ofSh (h2 _)) q⟩⟩
def dKdNot (m : Str → Option Bool) (da : TEd) : TEd := fun Γ Q => da Γ fun x Γ1 => ∃ z b, dat Γ1 x = some (.str z) ∧ m z = some b ∧ Q (.sh (.bool (!b))) Γ1
instance se_kdNot [L : KdLink K w d f m] [A : SE K ta da] : SE K (tOp (rNotInD K w d) ta (tC (.ref d))) (dKdNot m da) := ⟨fun F W σ Γ Q Qd R q k => A.run F W σ Γ _ _ R q fun x W' Γ' u s' R' o ⟨z, b, e1, e2, q⟩ => by
  obtain ⟨r, h1, h2⟩ := L.mem z b e2
  refine ⟨z, r, str_of (o.full R' e1), rfl, h1, ?_⟩
  rw [h2]
  exact k _ W' Γ' _ s' R' (.bl _) q⟩
end
theorem kt_of {K : Fg} {a : Addr} {xs : List V} {ds : List PyData} {od : Option Addr} {its : Array Value} {n : Nat} {sl : Array (Option Value)} (kt : KT = true) (h : K.lookup a = some ⟨.type "tuple", od, .seq its n, sl⟩) (hz : its.size ≤ sizeLine) (hv : Vals xs its.toList) (hd : ∀ H, DqAll K H xs ds) : ∀ H, Dq K H (.ref a) (.tuple ds) := fun H =>
  .tup (.inr ⟨kt, _, its, n, h, rfl, rfl, hz, hv⟩) (hd H)
end Dk

/-! workings spelled out -/
namespace Sp
inductive Line where
  | rest
  | mem (k : Int)
  | join (i j : Nat)
  | times (i : Nat) (n : Int)
abbrev Row := List (Int × Int)
def back (r : Row) : Row := (r.map fun x => (x.1, -x.2)).reverse
theorem back_back (r : Row) : back (back r) = r := by
  unfold back
  rw [List.map_reverse, List.reverse_reverse, List.map_map]
  conv => rhs; rw [← List.map_id r]
  refine List.map_congr_left fun x _ => ?_
  simp
theorem back_app (a b : Row) : back (a ++ b) = back b ++ back a := by simp [back]
theorem back_len (r : Row) : (back r).length = r.length := by simp [back]
def rep (n : Nat) (r : Row) : Row := (List.replicate n r).flatten
theorem rep_len (n : Nat) (r : Row) : (rep n r).length = n * r.length := by simp [rep]
theorem rep_succ (n : Nat) (r : Row) : rep (n + 1) r = r ++ rep n r := by simp [rep, List.replicate_succ]
theorem rep_succ' (n : Nat) (r : Row) : rep (n + 1) r = rep n r ++ r := by simp [rep, List.replicate_succ']
theorem back_rep (n : Nat) (r : Row) : back (rep n r) = rep n (back r) := by
  induction n with
  | zero => rfl
  | succ n ih => rw [rep_succ, back_app, ih, ← rep_succ']
def rowL (acc : List Row) : Line → Row
  | .rest => []
  | .mem k => [(k, 1)]
  | .join i j => acc.getD i [] ++ acc.getD j []
  | .times i n => if n < 0 then rep n.natAbs (back (acc.getD i [])) else rep n.natAbs (acc.getD i [])
def rowsFrom (acc : List Row) (ls : List Line) : List Row := ls.foldl (fun a l => a ++ [rowL a l]) acc
def rows (ls : List Line) : List Row := rowsFrom [] ls
theorem rows_snoc (ls : List Line) (l : Line) : rows (ls ++ [l]) = rows ls ++ [rowL (rows ls) l] := by simp [rows, rowsFrom, List.foldl_append]
theorem rows_len (ls : List Line) : (rows ls).length = ls.length := by
  have : ∀ (ls : List Line) (acc : List Row), (rowsFrom acc ls).length = acc.length + ls.length := by
    intro ls
    induction ls with
    | nil => intro acc; simp [rowsFrom]
    | cons l r ih =>
      intro acc
      show (rowsFrom (acc ++ [rowL acc l]) r).length = _
      rw [ih]
      simp
      omega
  simpa [rows] using this ls []
/-- a line's parts stand ahead of it -/
def Ahead (k : Nat) : Line → Prop
  | .rest => True
  | .mem _ => True
  | .join i j => i < k ∧ j < k
  | .times i _ => i < k
def WF (ls : List Line) : Prop := ∀ k l, ls[k]? = some l → Ahead k l
theorem rows_pre (ls rs : List Line) {i : Nat} (h : i < ls.length) : (rows (ls ++ rs)).getD i [] = (rows ls).getD i [] := by
  have : ∀ (rs : List Line) (acc : List Row), i < acc.length → (rowsFrom acc rs).getD i [] = acc.getD i [] := by
    intro rs
    induction rs with
    | nil => intro acc _; rfl
    | cons l r ih =>
      intro acc hi
      show (rowsFrom (acc ++ [rowL acc l]) r).getD i [] = _
      rw [ih _ (by simp; omega)]
      simp [List.getD, List.getElem?_append_left hi]
  have e : rows (ls ++ rs) = rowsFrom (rows ls) rs := by simp [rows, rowsFrom, List.foldl_append]
  rw [e]
  exact this rs (rows ls) (by rw [rows_len]; exact h)
def row (ls : List Line) (k : Nat) : Row := (rows ls).getD k []
theorem row_at {ls : List Line} {k : Nat} {l : Line} (h : ls[k]? = some l) : row ls k = rowL (rows (ls.take k)) l := by
  obtain ⟨hk, e⟩ := List.getElem?_eq_some_iff.mp h
  have e1 : ls = ls.take k ++ ([l] ++ ls.drop (k + 1)) := by
    rw [← e]
    simp
  unfold row
  conv => lhs; rw [e1, ← List.append_assoc]
  rw [rows_pre _ _ (by simp; omega), rows_snoc]
  have : (rows (ls.take k)).length = k := by rw [rows_len]; simp; omega
  simp [List.getD, this]
theorem row_take {ls : List Line} {k i : Nat} (hi : i < k) (hk : k ≤ ls.length) : (rows (ls.take k)).getD i [] = row ls i := by
  have := rows_pre (ls.take k) (ls.drop k) (i := i) (by simp; omega)
  rw [List.take_append_drop] at this
  exact this.symm
def turned (w : Bool) (r : Row) : Row := if w then r else back r
/-- what a waiting pair stands for -/
def sp (ls : List Line) (x : Nat × Bool) : Row := turned x.2 (row ls x.1)
def wts (ls : List Line) : Nat → Nat → Nat
  | 0, _ => 1
  | f + 1, k => if (row ls k).length = 0 then 1 else match ls[k]? with
    | some (.join i j) => 1 + wts ls f i + wts ls f j
    | some (.times i n) => 1 + n.natAbs * wts ls f i
    | _ => 1
theorem wts_pos (ls : List Line) : ∀ f k, 1 ≤ wts ls f k
  | 0, _ => Nat.le_refl _
  | f + 1, k => by
    unfold wts
    split
    · exact Nat.le_refl _
    · split <;> omega
theorem wts_eq {ls : List Line} (h : WF ls) : ∀ (f g k : Nat), k < f → k < g → wts ls f k = wts ls g k
  | 0, _, _, h1, _ => by omega
  | _, 0, _, _, h2 => by omega
  | f + 1, g + 1, k, h1, h2 => by
    unfold wts
    split
    · rfl
    · split
      · rename_i i j e
        have a := h k _ e
        rw [wts_eq h f g i (by have := a.1; omega) (by have := a.1; omega), wts_eq h f g j (by have := a.2; omega) (by have := a.2; omega)]
      · rename_i i n e
        have a : i < k := h k _ e
        rw [wts_eq h f g i (by omega) (by omega)]
      · rfl
def wt (ls : List Line) (k : Nat) : Nat := wts ls (k + 1) k
theorem wt_join {ls : List Line} (h : WF ls) {k i j : Nat} (e : ls[k]? = some (.join i j)) (hz : (row ls k).length ≠ 0) : wt ls k = 1 + wt ls i + wt ls j := by
  have a := h k _ e
  unfold wt
  rw [wts, if_neg hz, e]
  show 1 + wts ls k i + wts ls k j = _
  rw [wts_eq h k (i + 1) i a.1 (by omega), wts_eq h k (j + 1) j a.2 (by omega)]
theorem wt_times {ls : List Line} (h : WF ls) {k i : Nat} {n : Int} (e : ls[k]? = some (.times i n)) (hz : (row ls k).length ≠ 0) : wt ls k = 1 + n.natAbs * wt ls i := by
  have a : i < k := h k _ e
  unfold wt
  rw [wts, if_neg hz, e]
  show 1 + n.natAbs * wts ls k i = _
  rw [wts_eq h k (i + 1) i a (by omega)]
theorem row_join {ls : List Line} (h : WF ls) {k i j : Nat} (e : ls[k]? = some (.join i j)) : row ls k = row ls i ++ row ls j := by
  have a := h k _ e
  have hk := (List.getElem?_eq_some_iff.mp e).1
  rw [row_at e, rowL, row_take a.1 (by omega), row_take a.2 (by omega)]
theorem row_times {ls : List Line} (h : WF ls) {k i : Nat} {n : Int} (e : ls[k]? = some (.times i n)) : row ls k = if n < 0 then rep n.natAbs (back (row ls i)) else rep n.natAbs (row ls i) := by
  have a : i < k := h k _ e
  have hk := (List.getElem?_eq_some_iff.mp e).1
  rw [row_at e, rowL, row_take a (by omega)]
/-- a line's weight by its length -/
theorem wt_le {ls : List Line} (h : WF ls) : ∀ (m k : Nat), k < m → wt ls k ≤ 1 + 3 * (k + 1) * (row ls k).length
  | 0, _, h1 => by omega
  | m + 1, k, h1 => by
    by_cases hz : (row ls k).length = 0
    · have : wt ls k = 1 := by unfold wt; rw [wts, if_pos hz]
      omega
    · cases e : ls[k]? with
      | none =>
        have : wt ls k = 1 := by unfold wt; rw [wts, if_neg hz, e]
        omega
      | some l =>
        cases l with
        | rest =>
          have : wt ls k = 1 := by unfold wt; rw [wts, if_neg hz, e]
          omega
        | mem v =>
          have : wt ls k = 1 := by unfold wt; rw [wts, if_neg hz, e]
          omega
        | join i j =>
          have a := h k _ e
          have hi := wt_le h m i (by have := a.1; omega)
          have hj := wt_le h m j (by have := a.2; omega)
          rw [wt_join h e hz]
          have el : (row ls k).length = (row ls i).length + (row ls j).length := by rw [row_join h e, List.length_append]
          rw [el] at hz ⊢
          have m1 : 3 * (i + 1) * (row ls i).length ≤ 3 * k * (row ls i).length := Nat.mul_le_mul_right _ (by have := a.1; omega)
          have m2 : 3 * (j + 1) * (row ls j).length ≤ 3 * k * (row ls j).length := Nat.mul_le_mul_right _ (by have := a.2; omega)
          have m3 : 3 * (k + 1) * ((row ls i).length + (row ls j).length) = 3 * k * (row ls i).length + 3 * k * (row ls j).length + 3 * ((row ls i).length + (row ls j).length) := by
            rw [Nat.mul_add 3 k 1, Nat.add_mul, Nat.mul_add (3 * k)]
          omega
        | times i n =>
          have a : i < k := h k _ e
          have hi := wt_le h m i (by omega)
          rw [wt_times h e hz]
          have el : (row ls k).length = n.natAbs * (row ls i).length := by
            rw [row_times h e]
            split <;> rw [rep_len]
            rw [back_len]
          rw [el] at hz ⊢
          have hr : 0 < (row ls i).length := Nat.pos_of_ne_zero fun z => hz (by rw [z, Nat.mul_zero])
          have m1 : n.natAbs * wt ls i ≤ n.natAbs * (1 + 3 * (i + 1) * (row ls i).length) := Nat.mul_le_mul_left _ hi
          have m2 : n.natAbs * (1 + 3 * (i + 1) * (row ls i).length) ≤ n.natAbs * (1 + 3 * k * (row ls i).length) := Nat.mul_le_mul_left _ (Nat.add_le_add_left (Nat.mul_le_mul_right _ (by omega)) _)
          have m3 : n.natAbs ≤ n.natAbs * (row ls i).length := Nat.le_mul_of_pos_right _ hr
          have m4 : n.natAbs * (1 + 3 * k * (row ls i).length) = n.natAbs + 3 * k * (n.natAbs * (row ls i).length) := by
            rw [Nat.mul_add, Nat.mul_one, Nat.mul_left_comm]
          have m5 : 3 * (k + 1) * (n.natAbs * (row ls i).length) = 3 * k * (n.natAbs * (row ls i).length) + 3 * (n.natAbs * (row ls i).length) := by rw [Nat.mul_add 3 k 1, Nat.add_mul]
          omega
end Sp

namespace Dk
open PySem PySem.Spec PyProof.Rows L2
def eLine : Sp.Line → PyData
  | .rest => .tuple [.str "rest"]
  | .mem k => .tuple [.str "member", .int k]
  | .join i j => .tuple [.str "join", .int (i : Int), .int (j : Int)]
  | .times i n => .tuple [.str "times", .int (i : Int), .int n]
def eLines (ls : List Sp.Line) : PyData := .list (ls.map eLine)
def lenD (r : Sp.Row) : PyData := .int (r.length : Int)
def Fits (ls : List Sp.Line) : Prop := Sp.WF ls ∧ ls.length ≤ 100 ∧ ∀ k, ((Sp.row ls k).length : Int) < 2 ^ 62
def cSizes : List PyData → (OD → Prop) → Prop := fun ds Qd => ∃ ls : List Sp.Line, ds = [eLines ls] ∧ Fits ls ∧ Qd (.lst ((Sp.rows ls).map lenD))
def cSpelledX (c : Value) : List PyData → (PyData → Prop) → (Value → Prop) → Prop := fun ds Qd Qx => ∃ ls : List Sp.Line, ds = [eLines ls] ∧ Fits ls ∧ (ls = [] → Qd (.list [])) ∧ (ls ≠ [] → (Sp.row ls (ls.length - 1)).length ≤ 2000 → Qd (ePairs (Sp.row ls (ls.length - 1)))) ∧ (ls ≠ [] → 2000 < (Sp.row ls (ls.length - 1)).length → Qx c)
theorem rows_at {rs : List Sp.Row} {i : Nat} (h : i < rs.length) : atI (rs.map lenD) (i : Int) = some (.int ((rs.getD i []).length : Int)) := by
  refine atI_nat ?_
  rw [List.getElem?_map, List.getElem?_eq_getElem h]
  simp [lenD, List.getD, List.getElem?_eq_getElem h]
theorem rows_last {rs : List Sp.Row} (h : rs ≠ []) : atI (rs.map lenD) (-1) = some (.int ((rs.getD (rs.length - 1) []).length : Int)) := by
  have hl : 0 < rs.length := List.length_pos_iff.mpr h
  unfold atI
  have e : ixN (rs.map lenD).length (-1) = some (rs.length - 1) := by
    unfold ixN
    rw [List.length_map]
    simp only [show ¬ (0 : Int) ≤ -1 by omega, if_false]
    rw [if_pos (by omega)]
    congr 1
    omega
  rw [e]
  show (rs.map lenD)[rs.length - 1]? = _
  rw [List.getElem?_map, List.getElem?_eq_getElem (by omega)]
  simp [lenD, List.getD, List.getElem?_eq_getElem (show rs.length - 1 < rs.length by omega)]
def eW (x : Nat × Bool) : PyData := .tuple [.int (x.1 : Int), .int (if x.2 then 1 else -1)]
def wD (ls : List Sp.Line) : PyData → Nat
  | .tuple (.int a :: _) => Sp.wt ls a.toNat
  | _ => 0
def muW (ls : List Sp.Line) (Γ : G) : Nat := match (Γ[(3 : Nat)]? : Option Sl) with
  | some (Sl.ow (OD.lst ds)) => (ds.map (wD ls)).sum
  | _ => 0
def sumW (ls : List Sp.Line) (W : List (Nat × Bool)) : Nat := (W.map fun x => Sp.wt ls x.1).sum
theorem muW_of (ls : List Sp.Line) (W : List (Nat × Bool)) : ((W.map eW).map (wD ls)).sum = sumW ls W := by
  unfold sumW
  rw [List.map_map]
  rfl
theorem sumW_len (ls : List Sp.Line) : ∀ W : List (Nat × Bool), W.length ≤ sumW ls W
  | [] => Nat.le_refl _
  | x :: r => by
    have := sumW_len ls r
    have := Sp.wts_pos ls (x.1 + 1) x.1
    simp only [sumW, List.map_cons, List.sum_cons, List.length_cons, Sp.wt] at *
    omega
theorem sumW_app (ls : List Sp.Line) (a b : List (Nat × Bool)) : sumW ls (a ++ b) = sumW ls a + sumW ls b := by simp [sumW]
theorem sumW_rep (ls : List Sp.Line) (x : Nat × Bool) (n : Nat) : sumW ls (List.replicate n x) = n * Sp.wt ls x.1 := by simp [sumW]
/-- what waits, last first -/
def waitR (ls : List Sp.Line) (W : List (Nat × Bool)) : Sp.Row := (W.reverse.map (Sp.sp ls)).flatten
theorem waitR_snoc (ls : List Sp.Line) (W : List (Nat × Bool)) (x : Nat × Bool) : waitR ls (W ++ [x]) = Sp.sp ls x ++ waitR ls W := by simp [waitR]
theorem waitR_rep (ls : List Sp.Line) (W : List (Nat × Bool)) (x : Nat × Bool) : ∀ n : Nat, waitR ls (W ++ List.replicate n x) = Sp.rep n (Sp.sp ls x) ++ waitR ls W
  | 0 => by simp [Sp.rep]
  | n + 1 => by rw [List.replicate_succ', ← List.append_assoc, waitR_snoc, waitR_rep ls W x n, Sp.rep_succ, List.append_assoc]
theorem rep_eW (x : Nat × Bool) (n : Nat) : repD [eW x] n = (List.replicate n x).map eW := by
  unfold repD
  induction n with
  | zero => rfl
  | succ n ih => rw [List.replicate_succ, List.flatten_cons, ih, List.replicate_succ]; rfl
theorem sp_len (ls : List Sp.Line) (x : Nat × Bool) : (Sp.sp ls x).length = (Sp.row ls x.1).length := by
  unfold Sp.sp Sp.turned
  split
  · rfl
  · rw [Sp.back_len]
theorem sp_mem {ls : List Sp.Line} {k : Nat} {v : Int} (e : ls[k]? = some (.mem v)) (b : Bool) : Sp.sp ls (k, b) = [(v, if b then 1 else -1)] := by
  unfold Sp.sp Sp.turned
  rw [show Sp.row ls (k, b).1 = [(v, 1)] from Sp.row_at e]
  cases b <;> rfl
theorem sp_join {ls : List Sp.Line} (h : Sp.WF ls) {k i j : Nat} (e : ls[k]? = some (.join i j)) (b : Bool) : Sp.sp ls (k, b) = if b then Sp.sp ls (i, true) ++ Sp.sp ls (j, true) else Sp.sp ls (j, false) ++ Sp.sp ls (i, false) := by
  unfold Sp.sp Sp.turned
  rw [show Sp.row ls (k, b).1 = _ from Sp.row_join h e]
  cases b
  · exact Sp.back_app _ _
  · rfl
theorem sp_times {ls : List Sp.Line} (h : Sp.WF ls) {k i : Nat} {n : Int} (e : ls[k]? = some (.times i n)) (b : Bool) : Sp.sp ls (k, b) = Sp.rep n.natAbs (Sp.sp ls (i, if n < 0 then !b else b)) := by
  unfold Sp.sp Sp.turned
  rw [show Sp.row ls (k, b).1 = _ from Sp.row_times h e]
  by_cases hn : n < 0
  · rw [if_pos hn, if_pos hn]
    cases b
    · show Sp.back (Sp.rep _ (Sp.back _)) = Sp.rep _ (Sp.row ls i)
      rw [Sp.back_rep, Sp.back_back]
    · rfl
  · rw [if_neg hn, if_neg hn]
    cases b
    · exact Sp.back_rep _ _
    · rfl
theorem pop_eW (W : List (Nat × Bool)) (x : Nat × Bool) : ((W ++ [x]).map eW)[((W ++ [x]).map eW).length - 1]? = some (eW x) ∧ ((W ++ [x]).map eW).dropLast = W.map eW := by
  rw [List.map_append]
  constructor
  · simp
  · simp
def nOk : Sp.Line → Prop
  | .times _ n => n.natAbs ≤ 3000
  | _ => True
def eRows (rs : List Sp.Row) : PyData := .list (rs.map ePairs)
def cDrawLine : List PyData → (PyData → Prop) → Prop := fun ds Qd => ∃ rs : List Sp.Row, ds = [.list (rs.map lenD), .int 5] ∧ rs.length ≤ 100 ∧ (∀ i, (rs.getD i []).length ≤ 6000) ∧ ∀ l, Sp.Ahead rs.length l → (Sp.rowL rs l).length ≤ 6000 → nOk l → Qd (eLine l)
def cLastLine : List PyData → (PyData → Prop) → Prop := fun ds Qd => ∃ rs : List Sp.Row, ds = [.list (rs.map lenD)] ∧ 0 < rs.length ∧ rs.length ≤ 100 ∧ (∀ i, (rs.getD i []).length ≤ 6000) ∧ ∀ (i : Nat) (n : Int), i < rs.length → (rs.getD i []).length * n.natAbs ≤ 6000 → n.natAbs ≤ 3000 → Qd (eLine (.times i n))
def cRowOf : List PyData → (OD → Prop) → Prop := fun ds Qd => ∃ (rs : List Sp.Row) (l : Sp.Line), ds = [eRows rs, eLine l] ∧ (∀ i, (rs.getD i []).length ≤ 6000) ∧ Sp.Ahead rs.length l ∧ (Sp.rowL rs l).length ≤ 6000 ∧ nOk l ∧ Qd (.lst ((Sp.rowL rs l).map ePair))
def cIsSpelled : List PyData → (PyData → Prop) → Prop := fun ds Qd => ∃ r : Sp.Row, ds = [ePairs r] ∧ Qd (.bool true)
theorem rowsE_at {rs : List Sp.Row} {i : Nat} (h : i < rs.length) : atI (rs.map ePairs) (i : Int) = some (ePairs (rs.getD i [])) := by
  refine atI_nat ?_
  rw [List.getElem?_map, List.getElem?_eq_getElem h]
  simp [List.getD, List.getElem?_eq_getElem h]
theorem rep_ePair (r : Sp.Row) (n : Nat) : repD (r.map ePair) n = (Sp.rep n r).map ePair := by
  unfold repD
  induction n with
  | zero => rfl
  | succ n ih => rw [List.replicate_succ, List.flatten_cons, ih, Sp.rep_succ, List.map_append]
theorem back_ePair (r : Sp.Row) : (r.reverse.map fun x => ePair (x.1, -x.2)) = (Sp.back r).map ePair := by
  unfold Sp.back
  rw [← List.map_reverse, List.map_map]
  rfl
theorem wf_snoc {ls : List Sp.Line} {l : Sp.Line} (h : Sp.WF ls) (a : Sp.Ahead ls.length l) : Sp.WF (ls ++ [l]) := by
  intro k x e
  by_cases hk : k < ls.length
  · rw [List.getElem?_append_left hk] at e
    exact h k x e
  · obtain ⟨h1, _⟩ := List.getElem?_eq_some_iff.mp e
    rw [List.length_append] at h1
    simp at h1
    have : k = ls.length := by omega
    subst this
    simp at e
    subst e
    exact a
theorem few_snoc {rs : List Sp.Row} {r : Sp.Row} (h : ∀ i, (rs.getD i []).length ≤ 6000) (hr : r.length ≤ 6000) : ∀ i, ((rs ++ [r]).getD i []).length ≤ 6000 := by
  intro i
  have := h i
  by_cases hi : i < rs.length
  · rw [List.getD, List.getElem?_append_left hi]
    exact this
  · by_cases e : i = rs.length
    · subst e
      simpa [List.getD] using hr
    · rw [List.getD, List.getElem?_eq_none (by rw [List.length_append]; simp; omega)]
      simp
theorem at_last (xs : List PyData) (d : PyData) : atI (xs ++ [d]) (-1) = some d := by
  unfold atI
  have e : ixN (xs ++ [d]).length (-1) = some xs.length := by
    unfold ixN
    rw [List.length_append]
    simp only [show ¬ (0 : Int) ≤ -1 by omega, if_false]
    simp
    omega
  rw [e]
  show (xs ++ [d])[xs.length]? = _
  simp
theorem shp_word {i : Str} (h : PyData.strOk i = true) : Shp 0 (.str i) := ⟨by simpa [PyData.canLay0] using h, by simp [PyData.depth]⟩
theorem eLine_shp (l : Sp.Line) : Shp 1 (eLine l) := by
  cases l with
  | rest =>
      refine Shp.tup fun d hd => ?_
      simp only [List.mem_cons, List.not_mem_nil, or_false] at hd
      subst hd
      exact shp_word (by decide +kernel)
  | mem v =>
      refine Shp.tup fun d hd => ?_
      simp only [List.mem_cons, List.not_mem_nil, or_false] at hd
      rcases hd with rfl | rfl
      · exact shp_word (by decide +kernel)
      · exact Shp.int _
  | join i j =>
      refine Shp.tup fun d hd => ?_
      simp only [List.mem_cons, List.not_mem_nil, or_false] at hd
      rcases hd with rfl | rfl | rfl
      · exact shp_word (by decide +kernel)
      · exact Shp.int _
      · exact Shp.int _
  | times i n =>
      refine Shp.tup fun d hd => ?_
      simp only [List.mem_cons, List.not_mem_nil, or_false] at hd
      rcases hd with rfl | rfl | rfl
      · exact shp_word (by decide +kernel)
      · exact Shp.int _
      · exact Shp.int _
theorem eLines_shp (ls : List Sp.Line) : Shp 2 (eLines ls) := Shp.list fun d hd => by
  obtain ⟨x, _, rfl⟩ := List.mem_map.mp hd
  exact eLine_shp x
theorem big_line {n : Nat} (h : n ≤ 1000000) : n < sizeLine := by rw [sizeLine_eq]; omega
end Dk

namespace Dk
open PySem PySem.Spec PyProof.Rows L2
/-! ### try: x = f(..) except X: .. (no name) -/
def tTryO (K : Fg) (c : Value) (tb : WX → TS) (ts : TS) (Wout : WX) : TS := fun D σ H => tb (wOnly K c (fun _ _ _ => ts) Wout D) D σ H
theorem ps_tryO {X : Cx} {x : Str} {c : Value} {body suite : List Stmt} {b₀ : Stmt} {np pos pos' : Pos} {tb : WX → TS} {ts : TS} {Wout : WX} (hs : X.stack = X.env :: X.outer) (hf : X.env.frame = some X.env.locals) (hc : Names X x c) (tk : Takes X Wout)
    (hb : ∀ (W : WX) (pn : List (Addr × Obj)) (xe : Value → Shared → Prop), Takes (X.tr pn xe) W → PassesOwn (model X.prog X.w) X.A X.env xe → PSs (X.tr pn xe) body (tb W))
    (hsu : ∀ (a : Addr) (oe : Obj) (pn : List (Addr × Obj)), PSs (X.suite a ((a, oe) :: pn)) (b₀ :: suite) ts) :
    PS X (.Try body [.ExceptHandler (some (.Name x np)) none (b₀ :: suite) pos'] [] [] pos) (tTryO X.K c tb ts Wout) :=
  ps_try_only hs hf hc tk hb fun a oe cls d pn hz hv => hsu a oe pn
section
variable {K : Fg} {Xw : WX} {t : TA} {d : TAd} {C : List PyData → (PyData → Prop) → (Value → Prop) → Prop}
def dTryO (K : Fg) (c : Value) (j : Nat) (C : List PyData → (PyData → Prop) → (Value → Prop) → Prop) (d : TAd) (db : TSd) : TSd := fun E Γ => d Γ fun xs Γ1 => ∃ ds, dats Γ1 xs = some ds ∧ C ds (fun r => E.nx (Γ1.set j (.sh r))) fun cx => PySem.W.exmOne K cx c = some true ∧ db E Γ1
instance ss_tryO {c : Value} {j : Nat} {tb : TS} {db : TSd} [A : SA K t d] [B : SS K Xw tb db] : SS K Xw (tTryO K c (fun W => tAsg (tCallS (PureXSp K C) (WE W) t) (gName j)) tb Xw) (dTryO K c j C d db) := ⟨fun F W σ Γ Dn E R q L => by
  refine callX (t := t) (d := d) (C := C) (Qd := fun r Γ1 => E.nx (Γ1.set j (.sh r))) R q (fun r W' Γ' v s R' o q => ?_) fun cx W' Γ' s R' q => ?_
  · exact L.nx W' _ _ s.sh (R'.setSh o) q
  · obtain ⟨hm, q⟩ := q
    exact ⟨true, hm, fun _ a ha => B.run F W' σ Γ' Dn E R' q (L.mono s.sh), fun z => nomatch z⟩⟩
end
/-! ### a def whose answer may hold what it was handed: its arguments stand from then on -/
def RefZSp (K : Fg) (I : Hp → Addr → List Addr → Prop) (C : List PyData → (PyData → Prop) → Prop) : Sp := fun vs H Q _ => ∃ (p : Addr) (f : List Addr) (us : List V) (ds : List PyData) (Qd : PyData → Prop) (x : Addr → Prop), vs = .ref p :: us ∧ I H p f ∧ (∀ a ∈ f, x a) ∧ (∀ a, x a → Mo (H a)) ∧ DqAll K (less H x) us ds ∧ C ds Qd ∧
  ∀ (v : V) (H' : Hp) (d : PyData), (∀ a o, a ∉ f → H a = some o → H' a = some o) → I H' p f → Dq K (less H' x) v d → Qd d → Q v H'
section
variable {K : Fg} {I : Hp → Addr → List Addr → Prop} {i : Nat} {t : TA} {d : TAd} {E : XK}
def dCallRZ (I : Hp → Addr → List Addr → Prop) (i : Nat) (C : List PyData → (PyData → Prop) → Prop) (d : TAd) : TEd := fun Γ Q => ∃ j ds0, Γ[j]? = some (.ow (.lst ds0)) ∧ isAb I Γ i ∧ d (Γ.set j (.sh (.list ds0))) fun xs Γ1 => ∃ ds, isAb I Γ1 i ∧ shsOf xs = some ds ∧ C ds fun r => Q (.sh r) Γ1
instance se_callRZ [AbI I] {C : List PyData → (PyData → Prop) → Prop} [A : SA K t d] : SE K (tCall (RefZSp K I C) [] E (tCons (tVar i) t)) (dCallRZ I i C d) := ⟨fun F W0 σ Γ Q Qd R0 ⟨j, ds0, hj, h0, q⟩ k => by
  obtain ⟨_, p, _, _, e0, _, _⟩ := h0.slot R0
  obtain ⟨W, eW, sW, R⟩ := R0.freeze hj
  rw [← eW]
  refine ⟨.ref p, e0, A.run F W σ _ _ _ R q fun xs W' Γ' vs s' R' o1 ⟨ds, h1, e1, q⟩ => ?_⟩
  obtain ⟨s, p', g1, g2, g3, g4, g5⟩ := h1.slot R'
  rw [e0] at g3
  cases g3
  rw [List.append_nil]
  refine ⟨p, W'.ft i, vs, ds, _, Ex F.H0 W'.O, rfl, g5, fun a ha => .inr (g4 a ha), fun a z => R'.exmo z, o1.shs R' e1, q, fun v H' r fr hI hv hq => ?_⟩
  obtain ⟨R2, s2⟩ := R'.ref h1 e0 fr hI
  exact k (.sh r) { W' with H := H' } Γ' v ((sW.trans s').trans s2) R2 (.ofSh hv) hq⟩
end
section
variable {P : Program} {w : World} {K : Fg} {mg : Str → Option Value} {base : Heap} {I : Hp → Addr → List Addr → Prop}
open Classical in
noncomputable def onlyH (H : Hp) (x : Addr → Prop) : Hp := fun a => if x a then H a else none
theorem onlyH_some {H : Hp} {x : Addr → Prop} {a : Addr} {o : HO} : onlyH H x a = some o ↔ x a ∧ H a = some o := by
  unfold onlyH
  by_cases h : x a
  · simp [h]
  · simp [h]
theorem onlyH_mo {H : Hp} {x : Addr → Prop} (hx : ∀ a, x a → Mo (H a)) {a : Addr} : Mo (onlyH H x a) ↔ x a := by
  unfold onlyH
  by_cases h : x a
  · simp [h, hx a h]
  · simp [h]
    exact fun z => z
noncomputable abbrev Fz (K : Fg) (H : Hp) (x : Addr → Prop) (p : Addr) (f : List Addr) : Fx K := ⟨onlyH H x, fun a => a ∈ f, fun i => if i = 0 then some (p, f) else none⟩
theorem rel_startZ [A : AbI I] {H : Hp} {x : Addr → Prop} {N : List Str} {p : Addr} {f : List Addr} {vs : List V} {ds : List PyData} (hI : I H p f) (hf : ∀ a ∈ f, x a) (hx : ∀ a, x a → Mo (H a)) (h : DqAll K (less H x) vs ds) :
    Rel (Fz K H x p f) (Wr H f) (L2.start N (.ref p :: vs)) (startG N (.rf (.ab I) :: ds.map Sl.sh)) := by
  have hl : vs.length = ds.length := h.length
  have own : ∀ (i : Nat) (s : Sl) (o : OD), (startG N (.rf (.ab I) :: ds.map Sl.sh))[i]? = some s → s.own? = some o → i = 0 := fun i s o e g => by
    rcases startG_get e with e | e
    · cases i with
      | zero => rfl
      | succ i =>
        rw [List.getElem?_cons_succ, List.getElem?_map] at e
        obtain ⟨d, _, rfl⟩ := Option.map_eq_some_iff.mp e
        cases g
    · subst e
      cases g
  have sS : Same (less H x) ((Wr H f).S (Fz K H x p f)) := same_less fun a o nx e => ⟨fun z => by
    rcases z with z | z
    · exact nx ((onlyH_mo hx).mp z)
    · exact nx (hf a z), e⟩
  refine ⟨fun a o e _ => (onlyH_some.mp e).2, fun a z => .inr z, fun a z => A.mo hI a z, fun a z => z, by simp [L2.start, startG, hl], fun i s e => ?_, fun i j s t oi oj a ne e1 e2 g1 g2 => ?_⟩
  · rcases startG_get e with e | e
    · cases i with
      | zero =>
        cases e
        exact ⟨p, rfl, start_get rfl, fun a ha => ha, A.mem hI, hI, fun H' hk ht => A.st hI hk ht⟩
      | succ i =>
        rw [List.getElem?_cons_succ, List.getElem?_map] at e
        obtain ⟨d, e1, rfl⟩ := Option.map_eq_some_iff.mp e
        obtain ⟨v, g1, g2⟩ := h.get e1
        exact ⟨v, start_get (by simpa using g1), g2.same sS⟩
    · subst e
      trivial
  · exact absurd ((own i s oi e1 g1).trans (own j t oj e2 g2).symm) ne
abbrev ZEnds (I : Hp → Addr → List Addr → Prop) (Qd : PyData → Prop) : DE := { nx := fun _ => False, rt := fun x Γ => Γ[0]? = some (.rf (.ab I)) ∧ ∃ r, x = .sh r ∧ Qd r, rn := fun _ _ => False }
theorem refZ_ok [A : AbI I] {x qual : Str} {st : Stmt} {f : Addr} {fd : FuncData} {N ps : List Str} {k : Nat} {C : List PyData → (PyData → Prop) → Prop} (Fn : L2.Fun K x qual st f fd) (S : FnScope N ps (defScope st)) (hl : ∀ ds Qd, C ds Qd → ds.length + 1 = ps.length)
    (hbody : ∀ (cdv : Value) (A : Around) (outer : List Env) (s : Shared) (H : Hp) (E : XK), Room k (A.deeper (envOfC qual (defScope st) s.heap.objs.size f cdv)) →
      ∃ t, PSs (cxOf CX0 P w K mg base N qual (defScope st) f cdv A outer s H E).nox (defBody st) t ∧ ∃ d, SS K X0 t d ∧ ∀ ds Qd, C ds Qd → d (ZEnds I Qd) (startG N (.rf (.ab I) :: ds.map Sl.sh))) : FnOk P w K mg base CX0 (k + 1) f fd ps (RefZSp K I C) := by
  refine Fn.ok S (fun vs H Q E h => ?_) (fun cdv A outer s H vs Q E hr h => ?_)
  · obtain ⟨p, g, us, ds, Qd, z, rfl, h0, _, _, h1, h2, _⟩ := h
    rw [List.length_cons, h1.length]
    exact hl ds Qd h2
  · obtain ⟨p, g, us, ds, Qd, z, rfl, h0, hf, hx, h1, h2, q⟩ := h
    obtain ⟨t, ht, d, hs, hd⟩ := hbody cdv A outer s H E hr
    refine ⟨t, ht, hs.run (Fz K H z p g) (Wr H g) _ _ _ _ (rel_startZ h0 hf hx h1) (hd ds Qd h2) ⟨fun W σ Γ _ R e => e.elim, fun W σ Γ y v sm R o ⟨e0, r, e, u⟩ => ?_, fun W σ Γ o l ho _ R hp oh e => e.elim, fun W σ Γ _ R e => e, fun W σ Γ _ R e => e, fun W σ Γ c _ R e => e⟩⟩
    subst e
    have o' : Dq K (W.S (Fz K H z p g)) v r := o
    obtain ⟨p', e1, e2, e3, e4⟩ := R.slot 0 _ e0
    have e1' : some (p, g) = some (p', W.ft 0) := e1
    cases e1'
    refine q v W.H r (fun a u ng eu => ?_) e4.2.1 (o'.same (same_less fun a u nx eu => ⟨fun zz => nx (.inl ((onlyH_mo hx).mpr zz)), eu⟩)) u
    by_cases c : z a
    · exact R.base a u (onlyH_some.mpr ⟨c, eu⟩) ng
    · refine less_same _ _ (sm a u (less_some.mpr ⟨fun zz => ?_, eu⟩))
      rcases zz with zz | zz
      · exact c ((onlyH_mo hx).mp zz)
      · exact ng zz
end
end Dk

/-! lines that join the one ahead with itself -/
namespace Sp
def dbl (m : Int) (k : Nat) : List Line := .mem m :: (List.range k).map fun j => .join j j
theorem dbl_len (m : Int) (k : Nat) : (dbl m k).length = k + 1 := by simp [dbl]
theorem dbl_succ (m : Int) (k : Nat) : dbl m (k + 1) = dbl m k ++ [.join k k] := by
  unfold dbl
  rw [List.range_succ, List.map_append]
  rfl
theorem rep_add (a b : Nat) (r : Row) : rep (a + b) r = rep a r ++ rep b r := by
  unfold rep
  rw [← List.flatten_append, List.replicate_append_replicate]
theorem dbl_rows (m : Int) : ∀ k : Nat, rows (dbl m k) = (List.range (k + 1)).map fun j => rep (2 ^ j) [(m, 1)]
  | 0 => by simp [dbl, rows, rowsFrom, rowL, rep]
  | k + 1 => by
    rw [dbl_succ, rows_snoc, dbl_rows m k, List.range_succ (n := k + 1), List.map_append]
    congr 1
    have e : ((List.range (k + 1)).map fun j => rep (2 ^ j) [(m, 1)]).getD k [] = rep (2 ^ k) [(m, 1)] := by
      simp [List.getD, List.getElem?_map, List.getElem?_range (show k < k + 1 by omega)]
    show [_ ++ _] = [rep (2 ^ (k + 1)) [(m, 1)]]
    rw [e, ← rep_add, Nat.pow_succ, Nat.mul_two]
theorem dbl_get (m : Int) (k j : Nat) : (rows (dbl m k)).getD j [] = if j ≤ k then rep (2 ^ j) [(m, 1)] else [] := by
  rw [dbl_rows]
  by_cases c : j ≤ k
  · rw [if_pos c]
    simp [List.getD, List.getElem?_map, List.getElem?_range (show j < k + 1 by omega)]
  · rw [if_neg c]
    simp [List.getD, List.getElem?_eq_none (show (List.range (k + 1)).length ≤ j by simp; omega)]
theorem wf_add {ls : List Line} {l : Line} (h : WF ls) (a : Ahead ls.length l) : WF (ls ++ [l]) := by
  intro k l' e
  by_cases c : k < ls.length
  · rw [List.getElem?_append_left c] at e
    exact h k l' e
  · have hk : k = ls.length := by
      have := (List.getElem?_eq_some_iff.mp e).1
      simp at this
      omega
    subst hk
    rw [List.getElem?_append_right (Nat.le_refl _)] at e
    simp at e
    subst e
    exact a
theorem dbl_wf (m : Int) : ∀ k : Nat, WF (dbl m k)
  | 0 => fun k l e => by
    cases k with
    | zero => simp [dbl] at e; subst e; trivial
    | succ k => simp [dbl] at e
  | k + 1 => by
    rw [dbl_succ]
    refine wf_add (dbl_wf m k) ?_
    rw [dbl_len]
    exact ⟨by omega, by omega⟩
/-- all that spelled wants -/
structure Fit (ls : List Line) : Prop where
  wf : WF ls
  len : ls.length ≤ 90
  sm : ∀ k, (row ls k).length < 2 ^ 61
theorem row_snoc (ls : List Line) (l : Line) (k : Nat) : row (ls ++ [l]) k = if k < ls.length then row ls k else if k = ls.length then rowL (rows ls) l else [] := by
  unfold row
  rw [rows_snoc]
  have hl := rows_len ls
  by_cases c : k < ls.length
  · rw [if_pos c]
    simp [List.getD, List.getElem?_append_left (show k < (rows ls).length by omega)]
  · rw [if_neg c]
    by_cases d : k = ls.length
    · rw [if_pos d, d, ← hl]
      simp [List.getD]
    · rw [if_neg d]
      simp [List.getD, List.getElem?_eq_none (show (rows ls ++ [rowL (rows ls) l]).length ≤ k by simp; omega)]
theorem Fit.snoc {ls : List Line} {l : Line} (h : Fit ls) (hl : ls.length ≤ 80) (a : Ahead ls.length l) (s : (rowL (rows ls) l).length < 2 ^ 61) : Fit (ls ++ [l]) := by
  refine ⟨wf_add h.wf a, by simp; omega, fun k => ?_⟩
  rw [row_snoc]
  split
  · exact h.sm k
  · split
    · exact s
    · exact Nat.pow_pos (by decide)
theorem row_last (ls : List Line) (l : Line) : row (ls ++ [l]) ((ls ++ [l]).length - 1) = rowL (rows ls) l := by
  rw [row_snoc, if_neg (by simp), if_pos (by simp)]
theorem rep_one_len (n : Nat) (x : Int × Int) : (rep n [x]).length = n := by rw [rep_len]; simp
theorem dbl_fit (m : Int) {k : Nat} (h : k ≤ 60) : Fit (dbl m k) := by
  refine ⟨dbl_wf m k, by rw [dbl_len]; omega, fun j => ?_⟩
  unfold row
  rw [dbl_get]
  split
  · rw [rep_one_len]
    exact Nat.pow_lt_pow_right (by decide) (by omega)
  · exact Nat.pow_pos (by decide)
theorem dbl_last (m : Int) (k : Nat) : row (dbl m k) ((dbl m k).length - 1) = rep (2 ^ k) [(m, 1)] := by
  unfold row
  rw [dbl_get, dbl_len, if_pos (by omega)]
  rfl
theorem times_zero (m : Int) (k : Nat) (n : Int) : rowL (rows (dbl m k)) (.times 0 n) = rep n.natAbs [(m, if n < 0 then -1 else 1)] := by
  have e := dbl_get m k 0
  rw [if_pos (by omega)] at e
  have e2 : rep (2 ^ 0) [(m, 1)] = [(m, 1)] := by simp [rep]
  rw [e2] at e
  show (if n < 0 then rep n.natAbs (back ((rows (dbl m k)).getD 0 [])) else rep n.natAbs ((rows (dbl m k)).getD 0 [])) = _
  rw [e]
  by_cases c : n < 0
  · rw [if_pos c, if_pos c]
    rfl
  · rw [if_neg c, if_neg c]
theorem times_rest (m : Int) (k : Nat) (n : Int) : rowL (rows (dbl m k ++ [.rest])) (.times (dbl m k).length n) = [] := by
  have e : (rows (dbl m k ++ [.rest])).getD (dbl m k).length [] = [] := by
    have := row_snoc (dbl m k) .rest (dbl m k).length
    rw [if_neg (by omega), if_pos rfl] at this
    exact this
  show (if n < 0 then rep n.natAbs (back ((rows (dbl m k ++ [.rest])).getD (dbl m k).length [])) else rep n.natAbs ((rows (dbl m k ++ [.rest])).getD (dbl m k).length [])) = _
  rw [e]
  have z : ∀ n : Nat, rep n [] = [] := fun n => by
    apply List.length_eq_zero_iff.mp
    rw [rep_len]
    simp
  split
  · exact z _
  · exact z _
end Sp

namespace Dk
open PySem PySem.Spec PyProof.Rows L2
theorem fits_of {ls : List Sp.Line} (h : Sp.Fit ls) : Fits ls := ⟨h.wf, by have := h.len; omega, fun k => by
  have := h.sm k
  have e : (2 : Nat) ^ 61 = 2305843009213693952 := by decide
  omega⟩
def cToldL : List PyData → (PyData → Prop) → Prop := fun ds Qd => ∃ ls : List Sp.Line, ds = [eLines ls] ∧ Sp.Fit ls ∧ ls ≠ [] ∧ ((Sp.row ls (ls.length - 1)).length ≤ 2000 → Qd (ePairs (Sp.row ls (ls.length - 1)))) ∧ (2000 < (Sp.row ls (ls.length - 1)).length → Qd (.str "long"))
def cEnded : List PyData → (PyData → Prop) → Prop := fun ds Qd => ∃ (m : Int) (k : Nat), ds = [eLines (Sp.dbl m k), .int ((2 ^ k : Nat) : Int)] ∧ k ≤ 60 ∧
  ∀ (ls : List Sp.Line) (sz : Nat) (mem turn : Int), Sp.Fit ls → ls ≠ [] → Sp.row ls (ls.length - 1) = Sp.rep sz [(mem, turn)] → Qd (.tuple [eLines ls, .int (sz : Int), .int mem, .int turn])
theorem dbl_first (m : Int) (k : Nat) : atI ((Sp.dbl m k).map eLine) 0 = some (eLine (.mem m)) := atI_nat (j := 0) rfl
theorem ids3 {a b : PyData} {r : Int} (h : r = 0 ∨ r = 1) : ∃ d, atI [a, b] r = some d ∧ (r = 0 → d = a) ∧ (r = 1 → d = b) := by
  rcases h with rfl | rfl
  · exact ⟨a, rfl, fun _ => rfl, fun z => absurd z (by decide)⟩
  · exact ⟨b, rfl, fun z => absurd z (by decide), fun _ => rfl⟩
end Dk

local macro_rules | `(tactic| walk_at "ss") => `(tactic| ((try dsimp only [L2.cxOf, List.map]); refine ⟨_, inferInstance, ?_⟩))
local macro_rules | `(tactic| walk_at "s1") => `(tactic| first
  | refine ⟨_, rfl, ?_⟩
  | refine ⟨rfl, ?_⟩
  | refine ⟨_, _, rfl, rfl, ?_⟩
  | refine ⟨_, _, _, rfl, rfl, rfl, ?_⟩
  | refine ⟨_, fun _ h => h, ?_⟩
  | refine L2.iteT ?_
  | refine L2.iteF ?_
  | refine ⟨_, rfl, Nat.le_of_ble_eq_true rfl, ?_⟩
  | refine ⟨_, _, _, rfl, rfl, by assumption, ?_⟩
  | refine ⟨.inr rfl, ?_⟩
  | refine ⟨.inl rfl, ?_⟩)
local macro_rules | `(tactic| walk_at "w") => `(tactic| repeat walk_at "s1")

local macro_rules | `(tactic| walk_at "ln") => `(tactic| ((try simp only [List.length_append, List.length_map, List.length_cons, List.length_nil, List.length_range, List.length_replicate, Dk.fm_map, Pt.moved_len]); first | exact Dk.small100000 (by omega) | exact Nat.le_of_lt (Dk.small100000 (by omega)) | omega))
local macro_rules | `(tactic| walk_at "sd") => `(tactic| first | assumption | omega | (walk_at "ln") | rfl | trivial | decide | exact Nat.le_of_ble_eq_true rfl | exact (Dk.ePat_shp _).ok | exact (Dk.eRound_shp _).ok | exact (Dk.ePairs_shp _).ok | exact (Dk.ePair_shp _).ok | exact (Dk.eNums_shp _).ok | exact (Dk.eList_shp _).ok | walk_at "ln" | (exact Or.inl ⟨by first | decide | omega, by first | decide | omega⟩) | (exact Or.inr ⟨by first | decide | omega, by first | decide | omega⟩) | (intro kvs hne; (cases hne; done)))
local macro_rules | `(tactic| walk_at "g1") => `(tactic| first
  | refine ⟨_, rfl, ?_⟩
  | refine ⟨rfl, ?_⟩
  | refine ⟨.inl rfl, ?_⟩
  | refine ⟨.inr rfl, ?_⟩
  | refine ⟨_, .inl rfl, rfl, ?_⟩
  | refine ⟨_, .inr rfl, rfl, ?_⟩
  | refine ⟨_, _, rfl, rfl, ?_⟩
  | refine ⟨_, _, rfl, ?_⟩
  | refine ⟨_, _, _, rfl, rfl, rfl, ?_⟩
  | refine ⟨_, _, _, rfl, rfl, ?_⟩
  | refine ⟨_, _, _, rfl, ?_⟩
  | refine ⟨_, _, _, _, rfl, rfl, rfl, ?_⟩
  | refine ⟨_, _, _, _, rfl, rfl, ?_⟩
  | refine ⟨_, _, _, _, rfl, ?_⟩
  | refine ⟨_, _, _, _, _, rfl, ?_⟩
  | refine ⟨_, _, _, _, _, _, rfl, ?_⟩
  | refine ⟨_, fun _ h => h, ?_⟩
  | refine L2.iteT ?_
  | refine L2.iteF ?_
  | refine ⟨_, _, .inl rfl, ?_⟩
  | refine ⟨_, _, .inr rfl, ?_⟩
  | (refine And.intro ?_ ?_; (focus (walk_at "sd"))))
local macro_rules | `(tactic| walk_at "g") => `(tactic| repeat walk_at "g1")
local macro_rules | `(tactic| walk_at "h1") => `(tactic| first
  | refine ⟨_, rfl, ?_⟩
  | refine ⟨rfl, ?_⟩
  | refine ⟨.inl rfl, ?_⟩
  | refine ⟨.inr rfl, ?_⟩
  | refine ⟨_, .inl rfl, rfl, ?_⟩
  | refine ⟨_, .inr rfl, rfl, ?_⟩
  | refine ⟨_, _, rfl, rfl, ?_⟩
  | refine ⟨_, _, rfl, ?_⟩
  | refine ⟨_, _, _, rfl, rfl, rfl, ?_⟩
  | refine ⟨_, _, _, rfl, rfl, ?_⟩
  | refine ⟨_, _, _, rfl, ?_⟩
  | refine ⟨_, _, _, _, rfl, rfl, rfl, ?_⟩
  | refine ⟨_, _, _, _, rfl, rfl, ?_⟩
  | refine ⟨_, _, _, _, rfl, ?_⟩
  | refine ⟨_, _, _, _, _, rfl, ?_⟩
  | refine ⟨_, _, _, _, _, _, rfl, ?_⟩
  | refine L2.iteT ?_
  | refine L2.iteF ?_
  | refine ⟨_, _, .inl rfl, ?_⟩
  | refine ⟨_, _, .inr rfl, ?_⟩
  | (refine And.intro ?_ ?_; (focus (walk_at "sd"))))
local macro_rules | `(tactic| walk_at "h") => `(tactic| repeat walk_at "h1")
local macro_rules | `(tactic| walk_at "rf") => `(tactic| first
  | refine Dk.iteFb (by rw [(Dk.ePat_shp _).refl]; rfl) ?_
  | refine Dk.iteFb (by rw [(Dk.eRound_shp _).refl]; rfl) ?_
  | refine Dk.iteFb (by rw [(Dk.ePairs_shp _).refl]; rfl) ?_
  | refine Dk.iteFb (by rw [(Dk.eNums_shp _).refl]; rfl) ?_
  | refine Dk.iteFb (by rw [(Dk.eList_shp _).refl]; rfl) ?_
  | refine Dk.iteTb (by rw [(Dk.eNums_shp _).refl]; rfl) ?_
  | refine Dk.iteTb (by rw [(Dk.eList_shp _).refl]; rfl) ?_
  | refine Dk.iteTb (by rw [(Dk.ePat_shp _).refl]; rfl) ?_
  | refine Dk.iteTb (by rw [(Dk.eRound_shp _).refl]; rfl) ?_
  | refine Dk.iteTb (by rw [(Dk.ePairs_shp _).refl]; rfl) ?_)
namespace Law
open PySem PySem.Spec PyProof.Rows L2 Dk
def topS (i : Nat) : Stmt := PySem.Challenge.pw_duskround_k58_spelled_behind_long_lines.main.body.getD i (.Pass ⟨0, 0, 0, 0⟩)
structure FnIn (K : Fg) (mg : Str → Option Value) (x : Str) (st : Stmt) (ps : List Str) where
  f : Addr
  fd : FuncData
  F : L2.Fun K x x st f fd
  b : Binds K fd ps []
  m : mg x = some (.ref f)
abbrev sSizes_of : Stmt := topS 5
abbrev nSizes_of : List Str := ["lines", "sizes", "line"]
theorem scSizes_of : FnScope nSizes_of ["lines"] (defScope sSizes_of) := ⟨rfl, rfl, rfl, by decide +kernel, rfl, by decide +kernel, by decide +kernel⟩
abbrev sSpelled : Stmt := topS 6
abbrev nSpelled : List Str := ["lines", "sizes", "row", "waiting", "at", "way", "line", "turn"]
theorem scSpelled : FnScope nSpelled ["lines"] (defScope sSpelled) := ⟨rfl, rfl, rfl, by decide +kernel, rfl, by decide +kernel, by decide +kernel⟩
abbrev sL_begin : Stmt := topS 8
abbrev nL_begin : List Str := ["_law_script"]
theorem scL_begin : FnScope nL_begin ["_law_script"] (defScope sL_begin) := ⟨rfl, rfl, rfl, by decide +kernel, rfl, by decide +kernel, by decide +kernel⟩
abbrev sL_take : Stmt := topS 9
abbrev nL_take : List Str := ["_law_draw", "_law_many", "_law_number", "_law_got"]
theorem scL_take : FnScope nL_take ["_law_draw", "_law_many"] (defScope sL_take) := ⟨rfl, rfl, rfl, by decide +kernel, rfl, by decide +kernel, by decide +kernel⟩
abbrev sL_wide : Stmt := topS 10
abbrev nL_wide : List Str := ["_law_draw", "_law_number", "_law_size"]
theorem scL_wide : FnScope nL_wide ["_law_draw"] (defScope sL_wide) := ⟨rfl, rfl, rfl, by decide +kernel, rfl, by decide +kernel, by decide +kernel⟩
abbrev sL_int : Stmt := topS 11
abbrev nL_int : List Str := ["_law_thing"]
theorem scL_int : FnScope nL_int ["_law_thing"] (defScope sL_int) := ⟨rfl, rfl, rfl, by decide +kernel, rfl, by decide +kernel, by decide +kernel⟩
abbrev sL_told : Stmt := topS 12
abbrev nL_told : List Str := ["_law_lines", "_law_told_here"]
theorem scL_told : FnScope nL_told ["_law_lines"] (defScope sL_told) := ⟨rfl, rfl, rfl, by decide +kernel, rfl, by decide +kernel, by decide +kernel⟩
abbrev sL_ended : Stmt := topS 13
abbrev nL_ended : List Str := ["_law_draw", "_law_lines", "_law_size", "_law_way", "_law_first", "_law_n"]
theorem scL_ended : FnScope nL_ended ["_law_draw", "_law_lines", "_law_size"] (defScope sL_ended) := ⟨rfl, rfl, rfl, by decide +kernel, rfl, by decide +kernel, by decide +kernel⟩
abbrev sLaw : Stmt := topS 14
abbrev nLaw : List Str := ["_law_script", "_law_draw", "_law_lines", "_law_size", "_law_k", "_law_member", "_law_turn", "_law_handed", "_law_found", "_law_pair"]
theorem scLaw : FnScope nLaw ["_law_script"] (defScope sLaw) := ⟨rfl, rfl, rfl, by decide +kernel, rfl, by decide +kernel, by decide +kernel⟩
structure Txt (K : Fg) (mg : Str → Option Value) where
  sizes_of : FnIn K mg "sizes_of" sSizes_of ["lines"]
  spelled : FnIn K mg "spelled" sSpelled ["lines"]
  l_begin : FnIn K mg "_law_begin" sL_begin ["_law_script"]
  l_take : FnIn K mg "_law_take" sL_take ["_law_draw", "_law_many"]
  l_wide : FnIn K mg "_law_wide" sL_wide ["_law_draw"]
  l_int : FnIn K mg "_law_int" sL_int ["_law_thing"]
  l_told : FnIn K mg "_law_told" sL_told ["_law_lines"]
  l_ended : FnIn K mg "_law_ended" sL_ended ["_law_draw", "_law_lines", "_law_size"]
  zabs : mg "abs" = none
  zall : mg "all" = none
  zbool : mg "bool" = none
  zint : mg "int" = none
  zisinstance : mg "isinstance" = none
  zlen : mg "len" = none
  zlist : mg "list" = none
  zrange : mg "range" = none
  ztuple : mg "tuple" = none
  xTooLong : ExcIn K mg "TooLong"
  exm : PySem.W.exmOne K (.ref xTooLong.C) (.ref xTooLong.C) = some true
  kL : CInt mg "MOST_SPELLED" 2000
end Law
namespace Law
open PySem PySem.Spec PyProof.Rows L2 Dk
section
variable {P : Program} {w : World} {K : Fg} {mg : Str → Option Value} {base : Heap}
set_option maxHeartbeats 4000000 in
theorem ok_sizes_of (T : Txt K mg) : FnOk P w K mg base CX0 1 T.sizes_of.f T.sizes_of.fd ["lines"] (FreshSp K cSizes) := by
  refine fresh_ok T.sizes_of.F scSizes_of (fun ds Qd h => by obtain ⟨ls, rfl, _⟩ := h; rfl) fun cdv A outer s H E hr => ?_
  refine ⟨_, (pss_cons (ps_set (i := 1) scSizes_of.nd rfl (.inl rfl) (pe_lst pa_nil))
        (pss_cons (ps_for PassesOwn.never rfl (kpil K (pv 0)) (pg_name (i := 2) scSizes_of.nd rfl (.inl rfl)) (pss_one (ps_if (pt_cmpR op_eq (pe_ix (kixT K) (pv 2) pe_int (fun _ _ => rfl)) pe_str (nomark _)) (pss_one (ps_expr (kbm K PySem.F.plainAttrs_list PySem.F.slot_list_append PySem.F.type_list_append mt_append (pv 1) (pa_cons pe_int pa_nil)))) (pss_one (ps_if (pt_cmpR op_eq (pe_ix (kixT K) (pv 2) pe_int (fun _ _ => rfl)) pe_str (nomark _)) (pss_one (ps_expr (kbm K PySem.F.plainAttrs_list PySem.F.slot_list_append PySem.F.type_list_append mt_append (pv 1) (pa_cons pe_int pa_nil)))) (pss_one (ps_if (pt_cmpR op_eq (pe_ix (kixT K) (pv 2) pe_int (fun _ _ => rfl)) pe_str (nomark _)) (pss_one (ps_expr (kbm K PySem.F.plainAttrs_list PySem.F.slot_list_append PySem.F.type_list_append mt_append (pv 1) (pa_cons (pe_op op_add (pe_ix (kixL K) (pv 1) (pe_ix (kixT K) (pv 2) pe_int (fun _ _ => rfl)) (fun _ _ => rfl)) (pe_ix (kixL K) (pv 1) (pe_ix (kixT K) (pv 2) pe_int (fun _ _ => rfl)) (fun _ _ => rfl))) pa_nil)))) (pss_one (ps_expr (kbm K PySem.F.plainAttrs_list PySem.F.slot_list_append PySem.F.type_list_append mt_append (pv 1) (pa_cons (pe_op op_mul (pe_ix (kixL K) (pv 1) (pe_ix (kixT K) (pv 2) pe_int (fun _ _ => rfl)) (fun _ _ => rfl)) (pe_callB b_abs (by rfl) T.zabs (by decide +kernel) (pa_cons (pe_ix (kixT K) (pv 2) pe_int (fun _ _ => rfl)) pa_nil))) pa_nil)))))))))))
        (pss_one (ps_ret (pv 1))))), ?_⟩
  walk_at "ss"
  rintro ds Qd ⟨ls, rfl, ⟨wf, hl, hb⟩, q⟩
  refine ⟨[.ar (eLines ls)], .cons (.inl rfl) .nil, ?_⟩
  walk_at "h"
  refine for_pre (f := eLine) (fun pre Γ => ∃ y2 : Sl, Γ = [.ar (eLines ls), .ow (.lst ((Sp.rows pre).map lenD)), y2]) ⟨.no, rfl⟩ ?_ ?_
  · rintro pre l post Γ e ⟨y2, rfl⟩
    have el := congrArg List.length e
    simp only [List.length_append, List.length_cons] at el
    have rl := Sp.rows_len pre
    have hk : ls[pre.length]? = some l := by rw [e]; simp
    have ah := wf pre.length l hk
    have l1 : ((Sp.rows pre).map lenD).length < sizeLine := small100000 (by rw [List.length_map]; omega)
    have sn : ((Sp.rows (pre ++ [l])).map lenD) = (Sp.rows pre).map lenD ++ [lenD (Sp.rowL (Sp.rows pre) l)] := by rw [Sp.rows_snoc, List.map_append]; rfl
    have small : ∀ i, i < pre.length → (((Sp.rows pre).getD i []).length : Int) < 2 ^ 62 := fun i hi => by
      have := Sp.rows_pre pre (l :: post) hi
      rw [← e] at this
      have h2 := hb i
      unfold Sp.row at h2
      rw [this] at h2
      exact h2
    cases l with
    | rest =>
      walk_at "g"
      exact ⟨_, congrArg (fun z => [Sl.ar (eLines ls), .ow (.lst z), .ar (eLine .rest)]) sn.symm⟩
    | mem v =>
      walk_at "g"
      exact ⟨_, congrArg (fun z => [Sl.ar (eLines ls), .ow (.lst z), .ar (eLine (.mem v))]) sn.symm⟩
    | join i j =>
      have g1 := rows_at (rs := Sp.rows pre) (i := i) (by have := ah.1; omega)
      have g2 := rows_at (rs := Sp.rows pre) (i := j) (by have := ah.2; omega)
      have e1 : lenD (Sp.rowL (Sp.rows pre) (.join i j)) = .int ((((Sp.rows pre).getD i []).length : Int) + (((Sp.rows pre).getD j []).length : Int)) := by
        unfold lenD Sp.rowL
        rw [List.length_append]
        congr 1
      rw [e1] at sn
      walk_at "g"
      refine ⟨_, _, _, rfl, rfl, g1, ?_⟩
      walk_at "g"
      refine ⟨_, _, _, rfl, rfl, g2, ?_⟩
      walk_at "g"
      exact ⟨_, congrArg (fun z => [Sl.ar (eLines ls), .ow (.lst z), .ar (eLine (.join i j))]) sn.symm⟩
    | times i n =>
      have hi : i < pre.length := ah
      have g1 := rows_at (rs := Sp.rows pre) (i := i) (by omega)
      have sm := small i hi
      have hc : CMul (((Sp.rows pre).getD i []).length : Int) (absI n) := .inl ⟨by omega, by omega⟩
      have e1 : lenD (Sp.rowL (Sp.rows pre) (.times i n)) = .int ((((Sp.rows pre).getD i []).length : Int) * absI n) := by
        have ea : (n.natAbs : Int) = absI n := by unfold absI; split <;> omega
        unfold lenD
        simp only [Sp.rowL]
        split
        · rw [Sp.rep_len, Sp.back_len, Int.natCast_mul, ea, Int.mul_comm]
        · rw [Sp.rep_len, Int.natCast_mul, ea, Int.mul_comm]
      rw [e1] at sn
      walk_at "g"
      refine ⟨_, _, _, rfl, rfl, g1, ?_⟩
      walk_at "g"
      exact ⟨_, congrArg (fun z => [Sl.ar (eLines ls), .ow (.lst z), .ar (eLine (.times i n))]) sn.symm⟩
  · rintro Γ ⟨y2, rfl⟩
    walk_at "g"
    exact q

end
end Law
namespace Law
open PySem PySem.Spec PyProof.Rows L2 Dk
section
variable {P : Program} {w : World} {K : Fg} {mg : Str → Option Value} {base : Heap}
set_option maxHeartbeats 4000000 in
theorem ok_l_begin (T : Txt K mg) : FnOk P w K mg base CX0 1 T.l_begin.f T.l_begin.fd ["_law_script"] (spBegin K) := by
  refine T.l_begin.F.ok scL_begin (fun vs H Q E h => ?_) (fun cdv A outer s H vs Q E hr h => ?_)
  · obtain ⟨a, ns, rfl, _⟩ := h
    rfl
  · obtain ⟨a, ns, rfl, hS, q⟩ := h
    refine ⟨_, (pss_one (ps_ret (pe_lst (pa_cons (pe_callTy (klist K) (by rfl) T.zlist (by decide +kernel) (pa_cons (pe_slice (kslL K) (pv 0) po_none (po_some pe_int)) pa_nil)) (pa_cons pe_int (pa_cons pe_int (pa_cons pe_int pa_nil))))))), ?_⟩
    refine ⟨.ref a, rfl, 63, rfl, a, _, rfl, hS, fun c nc => ?_⟩
    have s1 : Same H (upd H c (.lst (cutV (ns.map V.int) none (some 63)))) := same_new nc
    refine ⟨c, _, rfl, .inl (SqL.of upd_same), fun l nl => ?_⟩
    have s2 := s1.trans (same_new (o := .lst (cutV (ns.map V.int) none (some 63))) nl)
    refine ⟨by show 4 ≤ sizeLine; decide, fun p np => ?_⟩
    have s3 := s2.trans (same_new (o := .lst [.ref l, .int 0, .int 0, .int 11]) np)
    have npl : p ≠ l := fun z => by
      rw [z, upd_same] at np
      cases np
    refine q p [p, l] _ s3 (fun x hx => ?_) ⟨l, (ns.map fun n => n).take 63, 0, 0, 11, rfl, npl, upd_same, ?_, by decide, by decide⟩
    · simp only [List.mem_cons, List.not_mem_nil, or_false] at hx
      rcases hx with rfl | rfl
      · exact s2.free np
      · exact s1.free nl
    · rw [upd_ne npl.symm, upd_same]
      congr 2
      unfold cutV
      rw [HT.sIx_none, show HT.sIx (ns.map V.int).length (ns.map V.int).length (some 63) = min 63 (ns.map V.int).length from HT.sIx_nat _ _ 63]
      simp [List.map_take]

end
end Law
namespace Law
open PySem PySem.Spec PyProof.Rows L2 Dk
section
variable {P : Program} {w : World} {K : Fg} {mg : Str → Option Value} {base : Heap}
set_option maxHeartbeats 4000000 in
theorem ok_l_take (T : Txt K mg) : FnOk P w K mg base CX0 1 T.l_take.f T.l_take.fd ["_law_draw", "_law_many"] (RefSp K IsDraw cTake) := by
  refine T.l_take.F.ok scL_take (fun vs H Q E h => ?_) (fun cdv A outer s H vs Q E hr h => ?_)
  · obtain ⟨p, f, us, ds, Qd, rfl, _, h1, ⟨m, rfl, _⟩, _⟩ := h
    rw [List.length_cons, h1.length]
    rfl
  · obtain ⟨p, f, us, ds, Qd, rfl, hI, h1, ⟨m, rfl, m0, m1, q⟩, k⟩ := h
    obtain rfl := ints1 h1
    obtain ⟨l, ns, pos, left, seed, rfl, ne, hp, hl, b1, b2⟩ := hI
    have fin : ∀ (pos left seed r : Int) (H' : Hp), 0 ≤ pos → 0 ≤ left → 0 ≤ r → r < m → (∀ a o, a ∉ [p, l] → H a = some o → H' a = some o) → H' p = some (.lst [.ref l, .int pos, .int left, .int seed]) → H' l = some (.lst (ns.map V.int)) → Q (.int r) H' := fun pos left seed r H' c1 c2 c3 c4 fr g1 g2 =>
      k (.int r) H' (.int r) fr ⟨l, ns, pos, left, seed, rfl, ne, g1, g2, c1, c2⟩ (.int r) (q r c3 c4)
    have put : ∀ {H' : Hp} {o : HO}, (∀ a o, a ∉ [p, l] → H a = some o → H' a = some o) → ∀ a u, a ∉ [p, l] → H a = some u → (upd H' p o) a = some u := fun {H' o} fr a u na e => by
      rw [upd_ne (fun z => na (by simp [z]))]
      exact fr a u na e
    have putl : ∀ {H' : Hp} {o : HO}, H' l = some (.lst (ns.map V.int)) → (upd H' p o) l = some (.lst (ns.map V.int)) := fun {H' o} e => by
      rw [upd_ne ne.symm]
      exact e
    obtain ⟨t2, ht2, tail⟩ : ∃ t2, PSs (cxOf CX0 P w K mg base nL_take "_law_take" (defScope sL_take) T.l_take.f cdv A outer s H E).nox (defBody sL_take).tail t2 ∧ ∀ (y2 y3 : Option V) (pos left seed : Int) (H' : Hp), 0 ≤ pos → 0 ≤ left → (∀ a o, a ∉ [p, l] → H a = some o → H' a = some o) → H' p = some (.lst [.ref l, .int pos, .int left, .int seed]) → H' l = some (.lst (ns.map V.int)) →
        t2 { nx := fun _ H' => Q .non H', rt := Q } [some (.ref p), some (.int m), y2, y3] H' := by
      refine ⟨_, (pss_cons (ps_if (pt_cmpR op_ge (pe_ix (kixL K) (pv 0) pe_int (fun _ _ => rfl)) (pv 1) (nomark _)) (pss_cons (ps_set (i := 3) scL_take.nd rfl (.inl rfl) (pe_op op_mod (pe_ix (kixL K) (pv 0) pe_int (fun _ _ => rfl)) (pv 1)))
        (pss_cons (ps_asg (pe_op op_fdiv (pe_ix (kixL K) (pv 0) pe_int (fun _ _ => rfl)) (pv 1)) (pg_sub (pv 0) pe_int set_list))
        (pss_one (ps_ret (pv 3))))) pss_nil)
        (pss_cons (ps_asg (pe_op op_mod (pe_op op_add (pe_op op_mul (pe_ix (kixL K) (pv 0) pe_int (fun _ _ => rfl)) pe_int) pe_int) pe_int) (pg_sub (pv 0) pe_int set_list))
        (pss_one (ps_ret (pe_op op_mod (pe_op op_fdiv (pe_ix (kixL K) (pv 0) pe_int (fun _ _ => rfl)) pe_int) (pv 1)))))), fun y2 y3 pos left seed H' c1 c2 fr g1 g2 => ?_⟩
      refine ⟨_, rfl, p, _, 2, _, rfl, rfl, SqL.of g1, rfl, _, rfl, _, _, rfl, rfl, _, rfl, ite2 (fun e1 => ?_) fun e1 => ?_⟩
      · refine ⟨_, rfl, p, _, 2, _, rfl, rfl, SqL.of g1, rfl, _, rfl, _, _, rfl, rfl, m0, ?_⟩
        refine ⟨_, rfl, p, _, 2, _, rfl, rfl, SqL.of g1, rfl, _, rfl, _, _, rfl, rfl, ⟨m0, m1⟩, _, rfl, p, _, 2, 2, rfl, rfl, g1, rfl, ?_⟩
        refine ⟨_, rfl, ?_⟩
        exact fin pos (left / m) seed _ _ c1 (Int.ediv_nonneg c2 (Int.le_of_lt m0)) (Int.emod_nonneg _ (by omega)) (Int.emod_lt_of_pos _ m0) (put fr) upd_same (putl g2)
      · refine ⟨_, rfl, p, _, 3, _, rfl, rfl, SqL.of g1, rfl, _, _, rfl, rfl, .inr ⟨by decide, by decide⟩, _, _, rfl, rfl, _, _, rfl, rfl, (by show (0 : Int) < 2147483647; decide), _, rfl, p, _, 3, 3, rfl, rfl, g1, rfl, ?_⟩
        refine ⟨_, rfl, p, _, 3, _, rfl, rfl, SqL.of upd_same, rfl, _, _, rfl, rfl, ⟨by decide, by decide⟩, _, rfl, _, _, rfl, rfl, m0, ?_⟩
        exact fin pos left _ _ _ c1 c2 (Int.emod_nonneg _ (by omega)) (Int.emod_lt_of_pos _ m0) (put fr) upd_same (putl g2)
    refine ⟨_, pss_cons (ps_if (PW.pt (pw_and (pt_cmpR op_lt (pe_ix (kixL K) (pv 0) pe_int (fun _ _ => rfl)) (pv 1) (nomark _)) (pw_and1 (pt_cmpR op_lt (pe_ix (kixL K) (pv 0) pe_int (fun _ _ => rfl)) (pe_callB (klen K) (by rfl) T.zlen (by decide +kernel) (pa_cons (pe_ix (kixL K) (pv 0) pe_int (fun _ _ => rfl)) pa_nil)) (nomark _))))) (pss_cons (ps_set (i := 2) scL_take.nd rfl (.inl rfl) (pe_ix (kixL K) (pe_ix (kixL K) (pv 0) pe_int (fun _ _ => rfl)) (pe_ix (kixL K) (pv 0) pe_int (fun _ _ => rfl)) (fun _ _ => rfl)))
        (pss_cons (ps_asg (pe_op op_add (pe_ix (kixL K) (pv 0) pe_int (fun _ _ => rfl)) pe_int) (pg_sub (pv 0) pe_int set_list))
        (pss_cons (ps_asg pe_int (pg_sub (pv 0) pe_int set_list))
        (pss_one (ps_if (pt_cmpR op_ge (pe_callB b_abs (by rfl) T.zabs (by decide +kernel) (pa_cons (pv 2) pa_nil)) (pe_op op_pow pe_int pe_int) (nomark _)) (pss_one (ps_asg (pe_callB b_abs (by rfl) T.zabs (by decide +kernel) (pa_cons (pv 2) pa_nil)) (pg_sub (pv 0) pe_int set_list))) (pss_one (ps_asg (pe_op op_mod (pe_op op_add (pe_op op_add (pe_op op_mul (pe_ix (kixL K) (pv 0) pe_int (fun _ _ => rfl)) pe_int) (pe_op op_mul (pe_op op_mod (pv 2) pe_int) pe_int)) pe_int) pe_int) (pg_sub (pv 0) pe_int set_list)))))))) pss_nil) ht2, ?_⟩
    have fr0 : ∀ a o, a ∉ [p, l] → H a = some o → H a = some o := fun _ _ _ e => e
    refine ⟨_, rfl, p, _, 2, _, rfl, rfl, SqL.of hp, rfl, _, rfl, _, _, rfl, rfl, _, rfl, ite2 (fun e1 => ?_) fun e1 => ?_⟩
    · refine ⟨_, rfl, p, _, 1, _, rfl, rfl, SqL.of hp, rfl, _, rfl, p, _, 0, _, rfl, rfl, SqL.of hp, rfl, l, _, rfl, .inl (SqL.of hl), _, _, rfl, rfl, _, rfl, ite2 (fun e2 => ?_) fun e2 => ?_⟩
      · have hlt : pos.toNat < ns.length := by
          have := of_decide_eq_true e2
          rw [List.length_map] at this
          omega
        obtain ⟨z, hat⟩ : ∃ z, atI (ns.map V.int) pos = some (.int z) := by
          have e : pos = (pos.toNat : Int) := by omega
          refine ⟨ns[pos.toNat], ?_⟩
          generalize pos.toNat = j at e hlt ⊢
          subst e
          exact atI_nat (by rw [List.getElem?_map, List.getElem?_eq_getElem hlt]; rfl)
        refine ⟨_, rfl, p, _, 0, _, rfl, rfl, SqL.of hp, rfl, _, rfl, p, _, 1, _, rfl, rfl, SqL.of hp, rfl, l, _, _, _, rfl, rfl, SqL.of hl, hat, ?_⟩
        refine ⟨_, rfl, p, _, 1, _, rfl, rfl, SqL.of hp, rfl, _, _, rfl, rfl, _, rfl, p, _, 1, 1, rfl, rfl, hp, rfl, ?_⟩
        refine ⟨_, rfl, p, _, 2, 2, rfl, rfl, upd_same, rfl, ?_⟩
        refine ⟨_, rfl, _, rfl, _, _, rfl, rfl, ⟨by decide, by decide, by decide⟩, _, _, rfl, rfl, _, rfl, ite2 (fun e3 => ?_) fun e3 => ?_⟩
        · refine ⟨_, rfl, _, rfl, _, rfl, p, _, 2, 2, rfl, rfl, upd_same, rfl, ?_⟩
          refine tail _ _ (pos + 1) _ seed _ (by omega) ?_ (put (put (put fr0))) upd_same (putl (putl (putl hl)))
          split <;> omega
        · refine ⟨_, rfl, p, _, 3, _, rfl, rfl, SqL.of upd_same, rfl, _, _, rfl, rfl, .inr ⟨by decide, by decide⟩, _, rfl, _, _, rfl, rfl, (by show (0 : Int) < 2147483629; decide), _, _, rfl, rfl, .inr ⟨by decide, by decide⟩, _, _, rfl, rfl, _, _, rfl, rfl, _, _, rfl, rfl, (by show (0 : Int) < 2147483647; decide), _, rfl, p, _, 3, 3, rfl, rfl, upd_same, rfl, ?_⟩
          exact tail _ _ (pos + 1) 0 _ _ (by omega) (by omega) (put (put (put fr0))) upd_same (putl (putl (putl hl)))
      · exact tail _ _ pos left seed H b1 b2 fr0 hp hl
    · exact tail _ _ pos left seed H b1 b2 fr0 hp hl

end
end Law
namespace Law
open PySem PySem.Spec PyProof.Rows L2 Dk
section
variable {P : Program} {w : World} {K : Fg} {mg : Str → Option Value} {base : Heap}
set_option maxHeartbeats 4000000 in
theorem ok_l_int (T : Txt K mg) : FnOk P w K mg base CX0 1 T.l_int.f T.l_int.fd ["_law_thing"] (PureSp K cInt) := by
  refine pure_ok T.l_int.F scL_int (fun ds Qd h => by obtain ⟨d, rfl, _⟩ := h; rfl) fun cdv A outer s H E hr => ?_
  refine ⟨_, (pss_one (ps_ret (pe_and (pe_callB (kisi K) (by rfl) T.zisinstance (by decide +kernel) (pa_cons (pv 0) (pa_cons (pe_bltn (v := .ty "int") (by rfl) T.zint (by decide +kernel) rfl) pa_nil))) (pe_one (pe_not (pe_callB (kisi K) (by rfl) T.zisinstance (by decide +kernel) (pa_cons (pv 0) (pa_cons (pe_bltn (v := .ty "bool") (by rfl) T.zbool (by decide +kernel) rfl) pa_nil)))))))), ?_⟩
  walk_at "ss"
  rintro ds Qd ⟨d, rfl, nd, q⟩
  refine ⟨[.ar d], .cons (.inl rfl) .nil, ?_⟩
  cases d with
  | int i => exact ⟨_, rfl, _, true, rfl, kb_int_int, _, rfl, iteT ⟨_, rfl, _, false, rfl, kb_int_bool, _, rfl, _, rfl, q⟩⟩
  | bool i => exact ⟨_, rfl, _, true, rfl, kb_bool_int, _, rfl, iteT ⟨_, rfl, _, true, rfl, kb_bool_bool, _, rfl, _, rfl, q⟩⟩
  | none => exact ⟨_, rfl, _, false, rfl, kb_NoneType_int, _, rfl, iteF ⟨_, rfl, q⟩⟩
  | str i => exact ⟨_, rfl, _, false, rfl, kb_str_int, _, rfl, iteF ⟨_, rfl, q⟩⟩
  | list i => exact ⟨_, rfl, _, false, rfl, kb_list_int, _, rfl, iteF ⟨_, rfl, q⟩⟩
  | tuple i => exact ⟨_, rfl, _, false, rfl, kb_tuple_int, _, rfl, iteF ⟨_, rfl, q⟩⟩
  | dict kvs => exact absurd rfl (nd kvs)

end
end Law
namespace Law
open PySem PySem.Spec PyProof.Rows L2 Dk
section
variable {P : Program} {w : World} {K : Fg} {mg : Str → Option Value} {base : Heap}
set_option maxHeartbeats 4000000 in
theorem ok_spelled (T : Txt K mg) : FnOk P w K mg base (L2.CX P w) 2 T.spelled.f T.spelled.fd ["lines"] (PureXSp K (cSpelledX (.ref T.xTooLong.C))) := by
  refine pureX_ok T.spelled.F scSpelled (fun ds Qd Qx h => by obtain ⟨ls, rfl, _⟩ := h; rfl) fun cdv A outer s H E hr => ?_
  refine ⟨_, (pss_cons (ps_if (pt_cmpR op_eq (pe_callB (klen K) (by rfl) T.zlen (by decide +kernel) (pa_cons (pv 0) pa_nil)) pe_int (nomark _)) (pss_one (ps_ret (pe_lst pa_nil))) pss_nil)
        (pss_cons (ps_set (i := 1) scSpelled.nd rfl (.inl rfl) (pe_call (ok_sizes_of T) (hr.mono (by decide)) (by rfl) T.sizes_of.m T.sizes_of.F.kp T.sizes_of.b .nil pass0 (pa_cons (pv 0) pa_nil)))
        (pss_cons (ps_if (pt_cmpR op_gt (pe_ix (kixL K) (pv 1) (pe_un un_neg pe_int) (fun _ _ => rfl)) (pe_glob (v := .int 2000) (by rfl) T.kL.g T.kL.r) (nomark _)) (pss_one (ps_raiseD T.xTooLong rfl (takes_of rfl rfl rfl rfl) (by rfl) rfl)) pss_nil)
        (pss_cons (ps_set (i := 2) scSpelled.nd rfl (.inl rfl) (pe_lst pa_nil))
        (pss_cons (ps_set (i := 3) scSpelled.nd rfl (.inl rfl) (pe_lst (pa_cons (pe_tup (pa_cons (pe_op op_sub (pe_callB (klen K) (by rfl) T.zlen (by decide +kernel) (pa_cons (pv 0) pa_nil)) pe_int) (pa_cons pe_int pa_nil))) pa_nil)))
        (pss_cons (ps_while (passes_of rfl) (pt_cmpR op_gt (pe_callB (klen K) (by rfl) T.zlen (by decide +kernel) (pa_cons (pv 3) pa_nil)) pe_int (nomark _)) (pss_cons (ps_asg (kbm0 K PySem.F.plainAttrs_list PySem.F.slot_list_pop PySem.F.type_list_pop mt_pop (pv 3)) (kpg K 2 rfl (pgs_cons (pg_name (i := 4) scSpelled.nd rfl (.inl rfl)) (pgs_cons (pg_name (i := 5) scSpelled.nd rfl (.inl rfl)) pgs_nil))))
        (pss_cons (ps_set (i := 6) scSpelled.nd rfl (.inl rfl) (pe_ix (kixL K) (pv 0) (pv 4) (fun _ _ => rfl)))
        (pss_cons (ps_if (pt_cmpR op_eq (pe_ix (kixL K) (pv 1) (pv 4) (fun _ _ => rfl)) pe_int (nomark _)) (pss_one ps_continue) pss_nil)
        (pss_one (ps_if (pt_cmpR op_eq (pe_ix (kixT K) (pv 6) pe_int (fun _ _ => rfl)) pe_str (nomark _)) (pss_one (ps_expr (kbm K PySem.F.plainAttrs_list PySem.F.slot_list_append PySem.F.type_list_append mt_append (pv 2) (pa_cons (pe_tup (pa_cons (pe_ix (kixT K) (pv 6) pe_int (fun _ _ => rfl)) (pa_cons (pv 5) pa_nil))) pa_nil)))) (pss_one (ps_if (PW.pt (pw_and (pt_cmpR op_eq (pe_ix (kixT K) (pv 6) pe_int (fun _ _ => rfl)) pe_str (nomark _)) (pw_and1 (pt_cmpR op_eq (pv 5) pe_int (nomark _))))) (pss_cons (ps_expr (kbm K PySem.F.plainAttrs_list PySem.F.slot_list_append PySem.F.type_list_append mt_append (pv 3) (pa_cons (pe_tup (pa_cons (pe_ix (kixT K) (pv 6) pe_int (fun _ _ => rfl)) (pa_cons pe_int pa_nil))) pa_nil)))
        (pss_one (ps_expr (kbm K PySem.F.plainAttrs_list PySem.F.slot_list_append PySem.F.type_list_append mt_append (pv 3) (pa_cons (pe_tup (pa_cons (pe_ix (kixT K) (pv 6) pe_int (fun _ _ => rfl)) (pa_cons pe_int pa_nil))) pa_nil))))) (pss_one (ps_if (pt_cmpR op_eq (pe_ix (kixT K) (pv 6) pe_int (fun _ _ => rfl)) pe_str (nomark _)) (pss_cons (ps_expr (kbm K PySem.F.plainAttrs_list PySem.F.slot_list_append PySem.F.type_list_append mt_append (pv 3) (pa_cons (pe_tup (pa_cons (pe_ix (kixT K) (pv 6) pe_int (fun _ _ => rfl)) (pa_cons (pe_un un_neg pe_int) pa_nil))) pa_nil)))
        (pss_one (ps_expr (kbm K PySem.F.plainAttrs_list PySem.F.slot_list_append PySem.F.type_list_append mt_append (pv 3) (pa_cons (pe_tup (pa_cons (pe_ix (kixT K) (pv 6) pe_int (fun _ _ => rfl)) (pa_cons (pe_un un_neg pe_int) pa_nil))) pa_nil))))) (pss_cons (ps_set (i := 7) scSpelled.nd rfl (.inl rfl) (pv 5))
        (pss_cons (ps_if (pt_cmpR op_lt (pe_ix (kixT K) (pv 6) pe_int (fun _ _ => rfl)) pe_int (nomark _)) (pss_one (ps_set (i := 7) scSpelled.nd rfl (.inl rfl) (pe_un un_neg (pv 5)))) pss_nil)
        (pss_one (ps_expr (kbm K PySem.F.plainAttrs_list PySem.F.slot_list_extend PySem.F.type_list_extend mt_extend (pv 3) (pa_cons (pe_op op_rep (pe_lst (pa_cons (pe_tup (pa_cons (pe_ix (kixT K) (pv 6) pe_int (fun _ _ => rfl)) (pa_cons (pv 7) pa_nil))) pa_nil)) (pe_callB b_abs (by rfl) T.zabs (by decide +kernel) (pa_cons (pe_ix (kixT K) (pv 6) pe_int (fun _ _ => rfl)) pa_nil))) pa_nil))))))))))))))))
        (pss_one (ps_ret (pv 2))))))))), ?_⟩
  walk_at "ss"
  rintro ds Qd Qx ⟨ls, rfl, fit, q0, q, qx⟩
  refine ⟨[.ar (eLines ls)], .cons (.inl rfl) .nil, ?_⟩
  have fit0 := fit
  obtain ⟨wf, hl, hb⟩ := fit
  walk_at "g"
  by_cases h0 : ls = []
  · subst h0
    refine iteTb rfl ?_
    walk_at "g"
    exact q0 rfl
  have hlp : 0 < ls.length := List.length_pos_iff.mpr h0
  replace q := q h0
  replace qx := qx h0
  refine iteFb (by show decide (_ = _) = false; rw [decide_eq_false (by rw [List.length_map]; omega)]) ?_
  have rl := Sp.rows_len ls
  have g0 := rows_last (rs := Sp.rows ls) (by intro z; rw [z] at rl; simp at rl; omega)
  rw [rl] at g0
  walk_at "h"
  refine ⟨_, fun _ h => h, ?_⟩
  walk_at "h"
  refine ⟨_, _, _, rfl, rfl, g0, ?_⟩
  walk_at "h"
  by_cases big : 2000 < (Sp.row ls (ls.length - 1)).length
  · refine iteTb (by show decide ((2000 : Int) < _) = true; rw [decide_eq_true (by show (2000 : Int) < ((Sp.row ls (ls.length - 1)).length : Int); omega)]) ?_
    exact qx big
  refine iteFb (by show decide ((2000 : Int) < _) = false; rw [decide_eq_false (by show ¬ (2000 : Int) < ((Sp.row ls (ls.length - 1)).length : Int); omega)]) ?_
  walk_at "h"
  have w1 := Sp.wt_le wf ls.length (ls.length - 1) (by omega)
  have w2 : Sp.wt ls (ls.length - 1) ≤ 700000 := by
    have : 3 * (ls.length - 1 + 1) * (Sp.row ls (ls.length - 1)).length ≤ 300 * 2000 := Nat.mul_le_mul (by omega) (by omega)
    omega
  refine ⟨fun Γ => ∃ (r : Sp.Row) (W : List (Nat × Bool)) (y4 y5 y6 y7 : Sl), Γ = [.ar (eLines ls), .ow (.lst ((Sp.rows ls).map lenD)), .ow (.lst (r.map ePair)), .ow (.lst (W.map eW)), y4, y5, y6, y7] ∧ r ++ waitR ls W = Sp.row ls (ls.length - 1) ∧ (∀ x ∈ W, x.1 < ls.length) ∧ sumW ls W ≤ 700000, muW ls, ⟨[], [(ls.length - 1, true)], .no, .no, .no, .no, ?_, ?_, ?_, ?_⟩, ?_⟩
  · exact congrArg (fun z => [Sl.ar (eLines ls), .ow (.lst ((Sp.rows ls).map lenD)), .ow (.lst []), .ow (.lst [.tuple [.int z, .int 1]]), .no, .no, .no, .no]) (show ((List.map eLine ls).length : Int) - 1 = ((ls.length - 1 : Nat) : Int) by rw [List.length_map]; omega)
  · simp [waitR, Sp.sp, Sp.turned]
  · intro x hx
    simp at hx
    subst hx
    show ls.length - 1 < ls.length
    omega
  · simpa [sumW] using w2
  rintro Γ1 ⟨r, W, y4, y5, y6, y7, rfl, hr, hW, hs⟩
  walk_at "h"
  rcases List.eq_nil_or_concat W with rfl | ⟨W', ⟨k, wy⟩, rfl⟩
  · refine iteFb rfl ?_
    walk_at "g"
    have : r = Sp.row ls (ls.length - 1) := by simpa [waitR] using hr
    subst this
    exact q (by omega)
  rw [List.concat_eq_append] at *
  refine iteTb (by show decide ((0 : Int) < _) = true; rw [decide_eq_true (by rw [List.length_map, List.length_append]; simp)]) ?_
  obtain ⟨p1, p2⟩ := pop_eW W' (k, wy)
  have hk : k < ls.length := hW (k, wy) (by simp)
  have hW' : ∀ x ∈ W', x.1 < ls.length := fun x hx => hW x (by simp [hx])
  have sw : sumW ls (W' ++ [(k, wy)]) = sumW ls W' + Sp.wt ls k := by rw [sumW_app]; simp [sumW]
  have lw := sumW_len ls W'
  have pw : 1 ≤ Sp.wt ls k := Sp.wts_pos ls _ _
  rw [waitR_snoc] at hr
  obtain ⟨l, el⟩ : ∃ l, ls[k]? = some l := ⟨_, List.getElem?_eq_getElem hk⟩
  have gl : atI (ls.map eLine) (k : Int) = some (eLine l) := atI_nat (by rw [List.getElem?_map, el]; rfl)
  have gs : atI ((Sp.rows ls).map lenD) (k : Int) = some (.int ((Sp.row ls k).length : Int)) := rows_at (by omega)
  have fin : ∀ (r2 : Sp.Row) (W2 : List (Nat × Bool)) (R D : List PyData) (z4 z5 z6 z7 : Sl), R = r2.map ePair → D = W2.map eW → r2 ++ waitR ls W2 = Sp.row ls (ls.length - 1) → (∀ x ∈ W2, x.1 < ls.length) → sumW ls W2 < sumW ls (W' ++ [(k, wy)]) → (∃ (r : Sp.Row) (W : List (Nat × Bool)) (y4 y5 y6 y7 : Sl), ([.ar (eLines ls), .ow (.lst ((Sp.rows ls).map lenD)), .ow (.lst R), .ow (.lst D), z4, z5, z6, z7] : G) = [.ar (eLines ls), .ow (.lst ((Sp.rows ls).map lenD)), .ow (.lst (r.map ePair)), .ow (.lst (W.map eW)), y4, y5, y6, y7] ∧ r ++ waitR ls W = Sp.row ls (ls.length - 1) ∧ (∀ x ∈ W, x.1 < ls.length) ∧ sumW ls W ≤ 700000) ∧ muW ls [.ar (eLines ls), .ow (.lst ((Sp.rows ls).map lenD)), .ow (.lst R), .ow (.lst D), z4, z5, z6, z7] < muW ls [.ar (eLines ls), .ow (.lst ((Sp.rows ls).map lenD)), .ow (.lst (r.map ePair)), .ow (.lst ((W' ++ [(k, wy)]).map eW)), y4, y5, y6, y7] := by
    rintro r2 W2 R D z4 z5 z6 z7 rfl rfl h1 h2 h3
    refine ⟨⟨r2, W2, z4, z5, z6, z7, rfl, h1, h2, by omega⟩, ?_⟩
    show ((W2.map eW).map (wD ls)).sum < (((W' ++ [(k, wy)]).map eW).map (wD ls)).sum
    rw [muW_of, muW_of]
    exact h3
  refine ⟨_, eW (k, wy), rfl, p1, ?_⟩
  rw [p2]
  walk_at "g"
  refine ⟨_, _, _, rfl, rfl, gl, ?_⟩
  walk_at "g"
  refine ⟨_, _, _, rfl, rfl, gs, ?_⟩
  walk_at "g"
  by_cases hz : (Sp.row ls k).length = 0
  · refine iteTb (by show decide (((Sp.row ls k).length : Int) = 0) = true; rw [decide_eq_true (by omega)]) ?_
    have z0 : Sp.sp ls (k, wy) = [] := List.eq_nil_of_length_eq_zero (by rw [sp_len]; exact hz)
    rw [z0, List.nil_append] at hr
    exact fin r W' _ _ _ _ _ _ rfl rfl hr hW' (by omega)
  refine iteFb (by show decide (((Sp.row ls k).length : Int) = 0) = false; rw [decide_eq_false (by omega)]) ?_
  have ah := wf k l el
  have lr : (r.map ePair).length < sizeLine := big_line (by
    have := congrArg List.length hr
    rw [List.length_append] at this
    rw [List.length_map]
    omega)
  have lW : ∀ D : List (Nat × Bool), D.length ≤ 800000 → (D.map eW).length < sizeLine := fun D h => big_line (by rw [List.length_map]; omega)
  cases l with
  | rest => exact absurd (by rw [show Sp.row ls k = [] from Sp.row_at el]; rfl) hz
  | mem v =>
    walk_at "g"
    rw [sp_mem el, ← List.append_assoc] at hr
    refine fin (r ++ [(v, if wy then 1 else -1)]) W' _ _ _ _ _ _ ?_ rfl hr hW' (by omega)
    rw [List.map_append]
    rfl
  | join i j =>
    have wj := Sp.wt_join wf el hz
    rw [sp_join wf el] at hr
    have l1 := lW W' (by omega)
    cases wy with
    | true =>
      have l2 := lW (W' ++ [(j, true)]) (by rw [List.length_append]; simp; omega)
      rw [List.map_append] at l2
      walk_at "g"
      refine fin r (W' ++ [(j, true)] ++ [(i, true)]) _ _ _ _ _ _ rfl ?_ ?_ ?_ ?_
      · rw [List.map_append, List.map_append]
        rfl
      · rw [waitR_snoc, waitR_snoc, ← List.append_assoc (Sp.sp ls (i, true))]
        exact hr
      · intro x hx
        simp at hx
        rcases hx with h | rfl | rfl
        · exact hW' x h
        · exact Nat.lt_trans ah.2 hk
        · exact Nat.lt_trans ah.1 hk
      · rw [sumW_app, sumW_app, sw, wj]
        simp [sumW]
        omega
    | false =>
      have l2 := lW (W' ++ [(i, false)]) (by rw [List.length_append]; simp; omega)
      rw [List.map_append] at l2
      walk_at "g"
      refine fin r (W' ++ [(i, false)] ++ [(j, false)]) _ _ _ _ _ _ rfl ?_ ?_ ?_ ?_
      · rw [List.map_append, List.map_append]
        rfl
      · rw [waitR_snoc, waitR_snoc, ← List.append_assoc (Sp.sp ls (j, false))]
        exact hr
      · intro x hx
        simp at hx
        rcases hx with h | rfl | rfl
        · exact hW' x h
        · exact Nat.lt_trans ah.1 hk
        · exact Nat.lt_trans ah.2 hk
      · rw [sumW_app, sumW_app, sw, wj]
        simp [sumW]
        omega
  | times i n =>
    have wj := Sp.wt_times wf el hz
    rw [sp_times wf el] at hr
    have pi : 1 ≤ Sp.wt ls i := Sp.wts_pos ls _ _
    have ni : n.natAbs ≤ n.natAbs * Sp.wt ls i := Nat.le_mul_of_pos_right _ pi
    have an : absI n = (n.natAbs : Int) := by unfold absI; split <;> omega
    have b1 : -(2 ^ 63) ≤ absI n := by rw [an]; omega
    have b2 : absI n < 2 ^ 63 := by rw [an]; omega
    have an2 : (absI n).toNat = n.natAbs := by rw [an]; rfl
    have b3 : ∀ d : PyData, [d].length * (absI n).toNat ≤ sizeLine := fun d => by
      rw [an2]
      show 1 * n.natAbs ≤ sizeLine
      rw [sizeLine_eq]
      omega
    have b4 : ∀ d : Nat × Bool, (W'.map eW).length + (repD [eW d] (absI n).toNat).length ≤ sizeLine := fun d => by
      rw [an2, rep_eW, List.length_map, List.length_map, List.length_replicate, sizeLine_eq]
      omega
    have done : ∀ t : Bool, t = (if n < 0 then !wy else wy) → (r ++ waitR ls (W' ++ List.replicate n.natAbs (i, t)) = Sp.row ls (ls.length - 1)) ∧ (∀ x ∈ W' ++ List.replicate n.natAbs (i, t), x.1 < ls.length) ∧ sumW ls (W' ++ List.replicate n.natAbs (i, t)) < sumW ls (W' ++ [(k, wy)]) ∧ W'.map eW ++ repD [eW (i, t)] (absI n).toNat = (W' ++ List.replicate n.natAbs (i, t)).map eW := by
      rintro t rfl
      refine ⟨by rw [waitR_rep]; exact hr, ?_, ?_, ?_⟩
      · intro x hx
        rcases List.mem_append.mp hx with h | h
        · exact hW' x h
        · rw [(List.mem_replicate.mp h).2]
          exact Nat.lt_trans ah hk
      · rw [sumW_app, sumW_rep, sw, wj]
        show _ + n.natAbs * Sp.wt ls i < _
        omega
      · rw [an2, rep_eW, List.map_append]
    walk_at "g"
    by_cases hn : n < 0
    · refine iteTb (by show decide (n < 0) = true; rw [decide_eq_true hn]) ?_
      rw [if_pos hn] at done
      cases wy
      · obtain ⟨d1, d2, d3, d4⟩ := done true rfl
        repeat (first | refine ⟨b3 _, ?_⟩ | refine ⟨b4 (i, true), ?_⟩ | walk_at "h1")
        exact fin r (W' ++ List.replicate n.natAbs (i, true)) _ _ _ _ _ _ rfl d4 d1 d2 d3
      · obtain ⟨d1, d2, d3, d4⟩ := done false rfl
        repeat (first | refine ⟨b3 _, ?_⟩ | refine ⟨b4 (i, false), ?_⟩ | walk_at "h1")
        exact fin r (W' ++ List.replicate n.natAbs (i, false)) _ _ _ _ _ _ rfl d4 d1 d2 d3
    · refine iteFb (by show decide (n < 0) = false; rw [decide_eq_false hn]) ?_
      rw [if_neg hn] at done
      cases wy
      · obtain ⟨d1, d2, d3, d4⟩ := done false rfl
        repeat (first | refine ⟨b3 _, ?_⟩ | refine ⟨b4 (i, false), ?_⟩ | walk_at "h1")
        exact fin r (W' ++ List.replicate n.natAbs (i, false)) _ _ _ _ _ _ rfl d4 d1 d2 d3
      · obtain ⟨d1, d2, d3, d4⟩ := done true rfl
        repeat (first | refine ⟨b3 _, ?_⟩ | refine ⟨b4 (i, true), ?_⟩ | walk_at "h1")
        exact fin r (W' ++ List.replicate n.natAbs (i, true)) _ _ _ _ _ _ rfl d4 d1 d2 d3

end
end Law
namespace Law
open PySem PySem.Spec PyProof.Rows L2 Dk
section
variable {P : Program} {w : World} {K : Fg} {mg : Str → Option Value} {base : Heap}
set_option maxHeartbeats 4000000 in
theorem ok_l_wide (T : Txt K mg) : FnOk P w K mg base CX0 2 T.l_wide.f T.l_wide.fd ["_law_draw"] (RefSp K IsDraw cWide) := by
  refine ref_ok T.l_wide.F scL_wide (fun ds Qd h => by obtain ⟨rfl, _⟩ := h; rfl) fun cdv A outer s H E hr => ?_
  refine ⟨_, (pss_cons (ps_set (i := 1) scL_wide.nd rfl (.inl rfl) (pe_call (ok_l_take T) (hr.mono (by decide)) (by rfl) T.l_take.m T.l_take.F.kp T.l_take.b .nil pass0 (pa_cons (pv 0) (pa_cons pe_int pa_nil))))
        (pss_cons (ps_set (i := 2) scL_wide.nd rfl (.inl rfl) (pe_call (ok_l_take T) (hr.mono (by decide)) (by rfl) T.l_take.m T.l_take.F.kp T.l_take.b .nil pass0 (pa_cons (pv 0) (pa_cons pe_int pa_nil))))
        (pss_cons (ps_if (pt_cmpR op_gt (pv 2) pe_int (nomark _)) (pss_one (ps_set (i := 1) scL_wide.nd rfl (.inl rfl) (pe_op op_add (pe_op op_mul (pv 1) pe_int) (pe_call (ok_l_take T) (hr.mono (by decide)) (by rfl) T.l_take.m T.l_take.F.kp T.l_take.b .nil pass0 (pa_cons (pv 0) (pa_cons pe_int pa_nil)))))) pss_nil)
        (pss_cons (ps_if (pt_cmpR op_gt (pv 2) pe_int (nomark _)) (pss_cons (ps_set (i := 1) scL_wide.nd rfl (.inl rfl) (pe_op op_add (pe_op op_add (pe_op op_mul (pv 1) (pe_op op_pow pe_int pe_int)) (pe_op op_mul (pe_call (ok_l_take T) (hr.mono (by decide)) (by rfl) T.l_take.m T.l_take.F.kp T.l_take.b .nil pass0 (pa_cons (pv 0) (pa_cons (pe_op op_pow pe_int pe_int) pa_nil))) (pe_op op_pow pe_int pe_int))) (pe_op op_mul (pe_call (ok_l_take T) (hr.mono (by decide)) (by rfl) T.l_take.m T.l_take.F.kp T.l_take.b .nil pass0 (pa_cons (pv 0) (pa_cons (pe_op op_pow pe_int pe_int) pa_nil))) (pe_op op_pow pe_int pe_int))))
        (pss_one (ps_set (i := 1) scL_wide.nd rfl (.inl rfl) (pe_op op_add (pv 1) (pe_call (ok_l_take T) (hr.mono (by decide)) (by rfl) T.l_take.m T.l_take.F.kp T.l_take.b .nil pass0 (pa_cons (pv 0) (pa_cons (pe_op op_pow pe_int pe_int) pa_nil))))))) pss_nil)
        (pss_one (ps_ret (pe_op op_mul (pv 1) (pe_op op_sub pe_int (pe_op op_mul pe_int (pe_call (ok_l_take T) (hr.mono (by decide)) (by rfl) T.l_take.m T.l_take.F.kp T.l_take.b .nil pass0 (pa_cons (pv 0) (pa_cons pe_int pa_nil)))))))))))), ?_⟩
  walk_at "ss"
  rintro ds Qd ⟨rfl, q⟩
  refine ⟨[], .nil, ?_⟩
  refine ⟨.inr rfl, _, .inr rfl, rfl, 9, rfl, by decide, by decide, fun a a0 a1 => ⟨_, rfl, ?_⟩⟩
  refine ⟨.inr rfl, _, .inr rfl, rfl, 4, rfl, by decide, by decide, fun z z0 z1 => ⟨_, rfl, ?_⟩⟩
  -- if size > 1
  refine ⟨fun Γ => ∃ b : Int, 0 ≤ b ∧ b < 9000 ∧ Γ = [.rf (.ab IsDraw), .sh (.int b), .sh (.int z)], ?_, _, rfl, _, _, rfl, rfl, _, rfl, ite2 (fun _ => ?_) fun _ => ⟨a, a0, by omega, rfl⟩⟩
  case refine_2 => exact ⟨_, rfl, _, _, rfl, rfl, .inr ⟨by decide, by decide⟩, .inr rfl, _, .inr rfl, rfl, 1000, rfl, by decide, by decide, fun r r0 r1 => ⟨_, _, rfl, rfl, _, rfl, a * 1000 + r, by omega, by omega, rfl⟩⟩
  rintro Γ ⟨b, b0, b1, rfl⟩
  -- if size > 2
  refine ⟨fun Γ => ∃ c : Int, 0 ≤ c ∧ c < 10 ^ 22 ∧ Γ = [.rf (.ab IsDraw), .sh (.int c), .sh (.int z)], ?_, _, rfl, _, _, rfl, rfl, _, rfl, ite2 (fun _ => ?_) fun _ => ⟨b, b0, by omega, rfl⟩⟩
  · rintro Γ ⟨c, c0, c1, rfl⟩
    refine ⟨_, rfl, .inr rfl, _, .inr rfl, rfl, 2, rfl, by decide, by decide, fun r r0 r1 => ⟨_, _, rfl, rfl, .inl ⟨by decide, by decide⟩, _, _, rfl, rfl, _, _, rfl, rfl, .inr ⟨by omega, by omega⟩, rfl, _, rfl, ?_⟩⟩
    have hr : r = 0 ∨ r = 1 := by omega
    rcases hr with rfl | rfl
    · exact q _ (by omega) (by omega)
    · exact q _ (by omega) (by omega)
  · refine ⟨_, rfl, _, _, rfl, rfl, ⟨by decide, by decide, by decide⟩, _, _, rfl, rfl, .inr ⟨by decide, by decide⟩, .inr rfl, _, _, rfl, rfl, ⟨by decide, by decide, by decide⟩, _, .inr rfl, rfl, _, rfl, by decide, by decide, fun r r0 r1 => ?_⟩
    refine ⟨_, _, rfl, rfl, ⟨by decide, by decide, by decide⟩, _, _, rfl, rfl, .inr ⟨by decide, by decide⟩, _, _, rfl, rfl, .inr rfl, _, _, rfl, rfl, ⟨by decide, by decide, by decide⟩, _, .inr rfl, rfl, _, rfl, by decide, by decide, fun t t0 t1 => ?_⟩
    refine ⟨_, _, rfl, rfl, ⟨by decide, by decide, by decide⟩, _, _, rfl, rfl, .inr ⟨by decide, by decide⟩, _, _, rfl, rfl, _, rfl, ?_⟩
    refine ⟨_, rfl, .inr rfl, _, _, rfl, rfl, ⟨by decide, by decide, by decide⟩, _, .inr rfl, rfl, _, rfl, by decide, by decide, fun u u0 u1 => ⟨_, _, rfl, rfl, _, rfl, ?_⟩⟩
    refine ⟨_, ?_, ?_, rfl⟩
    · have e1 : ((18 : Int).toNat) = 18 := rfl
      have e2 : ((12 : Int).toNat) = 12 := rfl
      have e3 : ((6 : Int).toNat) = 6 := rfl
      simp only [e1, e2, e3] at *
      omega
    · have e1 : ((18 : Int).toNat) = 18 := rfl
      have e2 : ((12 : Int).toNat) = 12 := rfl
      have e3 : ((6 : Int).toNat) = 6 := rfl
      simp only [e1, e2, e3] at *
      omega

end
end Law
namespace Law
open PySem PySem.Spec PyProof.Rows L2 Dk
section
variable {P : Program} {w : World} {K : Fg} {mg : Str → Option Value} {base : Heap}
set_option maxHeartbeats 4000000 in
theorem ok_l_told (T : Txt K mg) : FnOk P w K mg base CX0 3 T.l_told.f T.l_told.fd ["_law_lines"] (PureSp K cToldL) := by
  refine pure_ok T.l_told.F scL_told (fun ds Qd h => by obtain ⟨ls, rfl, _⟩ := h; rfl) fun cdv A outer s H E hr => ?_
  refine ⟨_, (pss_cons (ps_set (i := 1) scL_told.nd rfl (.inl rfl) pe_non)
        (pss_cons (ps_tryO rfl rfl ⟨rfl, by decide, .inl T.xTooLong.g⟩ takes0 (fun W pn xe tk _ => pss_one (ps_set (i := 1) scL_told.nd rfl (.inl rfl) (pe_callS (ok_spelled T) (hr.mono (by decide)) (by rfl) T.spelled.m T.spelled.F.kp T.spelled.b (fun σ => passAt tk σ) (pa_cons (pv 0) pa_nil)))) (fun a oe pn => pss_one (ps_set (i := 1) scL_told.nd rfl (.inl rfl) pe_str)))
        (pss_one (ps_ret (pv 1))))), ?_⟩
  walk_at "ss"
  rintro ds Qd ⟨ls, rfl, hf, hn, q1, q2⟩
  refine ⟨[.ar (eLines ls)], .cons (.inl rfl) .nil, ?_⟩
  have ff := fits_of hf
  walk_at "h"
  refine ⟨fun z => absurd z hn, fun _ h => ?_, fun _ h => ⟨T.exm, ?_⟩⟩
  · walk_at "g"
    exact q1 h
  · walk_at "g"
    exact q2 h

end
end Law
namespace Law
open PySem PySem.Spec PyProof.Rows L2 Dk
section
variable {P : Program} {w : World} {K : Fg} {mg : Str → Option Value} {base : Heap}
set_option maxHeartbeats 4000000 in
theorem ok_l_ended (T : Txt K mg) : FnOk P w K mg base CX0 3 T.l_ended.f T.l_ended.fd ["_law_draw", "_law_lines", "_law_size"] (RefZSp K IsDraw cEnded) := by
  refine refZ_ok T.l_ended.F scL_ended (fun ds Qd h => by obtain ⟨m, k, rfl, _⟩ := h; rfl) fun cdv A outer s H E hr => ?_
  refine ⟨_, (pss_cons (ps_set (i := 3) scL_ended.nd rfl (.inl rfl) (pe_call (ok_l_take T) (hr.mono (by decide)) (by rfl) T.l_take.m T.l_take.F.kp T.l_take.b .nil pass0 (pa_cons (pv 0) (pa_cons pe_int pa_nil))))
        (pss_cons (ps_set (i := 4) scL_ended.nd rfl (.inl rfl) (pe_ix (kixT K) (pe_ix (kixL K) (pv 1) pe_int (fun _ _ => rfl)) pe_int (fun _ _ => rfl)))
        (pss_cons (ps_if (pt_cmpR op_eq (pv 3) pe_int (nomark _)) (pss_one (ps_ret (pe_tup (pa_cons (pe_op op_cat (pv 1) (pe_lst (pa_cons (pe_tup (pa_cons pe_str pa_nil)) pa_nil))) (pa_cons pe_int (pa_cons (pv 4) (pa_cons pe_int pa_nil))))))) pss_nil)
        (pss_cons (ps_if (pt_cmpR op_eq (pv 3) pe_int (nomark _)) (pss_one (ps_ret (pe_tup (pa_cons (pe_op op_cat (pv 1) (pe_lst (pa_cons (pe_tup (pa_cons pe_str (pa_cons (pe_op op_add (pv 4) pe_int) pa_nil))) pa_nil))) (pa_cons pe_int (pa_cons (pe_op op_add (pv 4) pe_int) (pa_cons pe_int pa_nil))))))) pss_nil)
        (pss_cons (ps_if (pt_cmpR op_eq (pv 3) pe_int (nomark _)) (pss_one (ps_ret (pe_tup (pa_cons (pe_op op_cat (pv 1) (pe_lst (pa_cons (pe_tup (pa_cons pe_str pa_nil)) (pa_cons (pe_tup (pa_cons pe_str (pa_cons (pe_callB (klen K) (by rfl) T.zlen (by decide +kernel) (pa_cons (pv 1) pa_nil)) (pa_cons (pe_call (ok_l_wide T) (hr.mono (by decide)) (by rfl) T.l_wide.m T.l_wide.F.kp T.l_wide.b .nil pass0 (pa_cons (pv 0) pa_nil)) pa_nil)))) pa_nil)))) (pa_cons pe_int (pa_cons (pv 4) (pa_cons pe_int pa_nil))))))) pss_nil)
        (pss_cons (ps_if (pt_cmpR op_lt (pv 3) pe_int (nomark _)) (pss_cons (ps_set (i := 5) scL_ended.nd rfl (.inl rfl) (pe_ix (kixT K) (pe_tup (pa_cons (pe_op op_sub (pe_call (ok_l_take T) (hr.mono (by decide)) (by rfl) T.l_take.m T.l_take.F.kp T.l_take.b .nil pass0 (pa_cons (pv 0) (pa_cons pe_int pa_nil))) pe_int) (pa_cons (pe_op op_add pe_int (pe_call (ok_l_take T) (hr.mono (by decide)) (by rfl) T.l_take.m T.l_take.F.kp T.l_take.b .nil pass0 (pa_cons (pv 0) (pa_cons pe_int pa_nil)))) pa_nil))) (pe_op op_sub (pv 3) pe_int) (fun _ _ => rfl)))
        (pss_one (ps_ret (pe_tup (pa_cons (pe_op op_cat (pv 1) (pe_lst (pa_cons (pe_tup (pa_cons pe_str (pa_cons pe_int (pa_cons (pv 5) pa_nil)))) pa_nil))) (pa_cons (pe_callB b_abs (by rfl) T.zabs (by decide +kernel) (pa_cons (pv 5) pa_nil)) (pa_cons (pv 4) (pa_cons (pe_op op_sub pe_int (pe_op op_mul pe_int (pe_callTy b_int (by rfl) T.zint (by decide +kernel) (pa_cons (pe_cmpR op_lt (pv 5) pe_int (nomark _)) pa_nil)))) pa_nil)))))))) pss_nil)
        (pss_one (ps_ret (pe_tup (pa_cons (pv 1) (pa_cons (pv 2) (pa_cons (pv 4) (pa_cons pe_int pa_nil))))))))))))), ?_⟩
  walk_at "ss"
  rintro ds Qd ⟨m, k, rfl, hk, q⟩
  have g0 := dbl_first m k
  walk_at "h"
  intro way w0 w1
  walk_at "h"
  refine ⟨_, _, _, rfl, rfl, g0, ?_⟩
  have dl := Sp.dbl_len m k
  have dm : ((Sp.dbl m k).map eLine).length = k + 1 := by rw [List.length_map, dl]
  have df := Sp.dbl_fit m hk
  have s1 : ((Sp.dbl m k).map eLine).length + 1 ≤ sizeLine := Nat.le_of_lt (small100000 (by omega))
  have s2 : ((Sp.dbl m k).map eLine).length + 2 ≤ sizeLine := Nat.le_of_lt (small100000 (by omega))
  have p61 : (0 : Nat) < 2 ^ 61 := Nat.pow_pos (by decide)
  walk_at "g"
  refine ite2b (fun hz => ?_) fun h0 => ?_
  · have := q (Sp.dbl m k ++ [.rest]) 0 m 1 (df.snoc (l := .rest) (by omega) trivial p61) (by simp) (Sp.row_last _ _)
    rw [show eLines (Sp.dbl m k ++ [.rest]) = .list ((Sp.dbl m k).map eLine ++ [.tuple [.str "rest"]]) by unfold eLines; rw [List.map_append]; rfl] at this
    walk_at "g"
    exact this
  walk_at "g"
  refine ite2b (fun hz => ?_) fun h1 => ?_
  · have := q (Sp.dbl m k ++ [.mem (m + 1)]) 1 (m + 1) 1 (df.snoc (l := .mem (m + 1)) (by omega) trivial (by show 1 < 2 ^ 61; exact Nat.one_lt_two_pow (by decide))) (by simp) (Sp.row_last _ _)
    rw [show eLines (Sp.dbl m k ++ [.mem (m + 1)]) = .list ((Sp.dbl m k).map eLine ++ [.tuple [.str "member", .int (m + 1)]]) by unfold eLines; rw [List.map_append]; rfl] at this
    walk_at "g"
    exact this
  walk_at "g"
  refine ite2b (fun hz => ?_) fun h2 => ?_
  · walk_at "g"
    intro n n0 n1
    have f1 : Sp.Fit (Sp.dbl m k ++ [.rest]) := df.snoc (l := .rest) (by omega) trivial p61
    have hr := Sp.times_rest m k n
    have := q (Sp.dbl m k ++ [.rest] ++ [.times (Sp.dbl m k).length n]) 0 m 1 (f1.snoc (by rw [List.length_append]; simp; omega) (by show _ < _; simp) (by rw [hr]; exact p61)) (by simp) ((Sp.row_last _ _).trans hr)
    rw [show eLines (Sp.dbl m k ++ [.rest] ++ [.times (Sp.dbl m k).length n]) = .list ((Sp.dbl m k).map eLine ++ [.tuple [.str "rest"], .tuple [.str "times", .int (((Sp.dbl m k).map eLine).length : Int), .int n]]) by unfold eLines; rw [List.append_assoc, List.map_append, List.length_map]; rfl] at this
    walk_at "g"
    exact this
  walk_at "g"
  refine ite2b (fun hz => ?_) fun h3 => ?_
  · have hz' : way < 5 := of_decide_eq_true hz
    have h0' : ¬ way = 0 := of_decide_eq_false h0
    have h1' : ¬ way = 1 := of_decide_eq_false h1
    have h2' : ¬ way = 2 := of_decide_eq_false h2
    walk_at "g"
    intro r1 r10 r11
    walk_at "g"
    intro r2 r20 r21
    obtain ⟨d, gd, d0, d1⟩ := ids3 (a := .int (r1 - 2010)) (b := .int (1999 + r2)) (r := way - 3) (by omega)
    obtain ⟨n, hn, nb⟩ : ∃ n : Int, d = .int n ∧ -2010 ≤ n ∧ n ≤ 2010 := by
      rcases (show way - 3 = 0 ∨ way - 3 = 1 by omega) with z | z
      · exact ⟨_, d0 z, by omega, by omega⟩
      · exact ⟨_, d1 z, by omega, by omega⟩
    subst hn
    have hr := Sp.times_zero m k n
    have := q (Sp.dbl m k ++ [.times 0 n]) n.natAbs m (if n < 0 then -1 else 1) (df.snoc (l := .times 0 n) (by omega) (by show 0 < _; omega) (by rw [hr, Sp.rep_one_len]; exact Nat.lt_of_le_of_lt (show n.natAbs ≤ 2010 by omega) (by decide))) (by simp) ((Sp.row_last _ _).trans hr)
    rw [show eLines (Sp.dbl m k ++ [.times 0 n]) = .list ((Sp.dbl m k).map eLine ++ [.tuple [.str "times", .int 0, .int n]]) by unfold eLines; rw [List.map_append]; rfl, show ((n.natAbs : Nat) : Int) = absI n by unfold absI; split <;> omega, show (if n < 0 then (-1 : Int) else 1) = 1 - 2 * (if decide (n < 0) = true then 1 else 0) by by_cases c : n < 0 <;> simp [c]] at this
    walk_at "g"
    refine ⟨_, _, _, rfl, rfl, gd, ?_⟩
    have cm : CMul 2 (if decide (n < 0) = true then 1 else 0) := .inl ⟨by decide, by decide⟩
    walk_at "g"
    exact this
  · have := q (Sp.dbl m k) (2 ^ k) m 1 df (by intro z; rw [z] at dl; simp at dl) (Sp.dbl_last m k)
    walk_at "g"
    exact this

end
end Law
namespace Law
open PySem PySem.Spec PyProof.Rows L2 Dk
section
variable {P : Program} {w : World} {K : Fg} {mg : Str → Option Value} {base : Heap}
set_option maxHeartbeats 4000000 in
theorem ok_law {f : Addr} {fd : FuncData} (Fn : L2.Fun K "law" "law" sLaw f fd) (T : Txt K mg) : FnOk P w K mg base CX0 4 f fd ["_law_script"] (spLaw K) := by
  refine law_ok Fn scLaw (by decide) fun cdv A outer s H E hr => ?_
  refine ⟨_, _, (pss_cons (ps_set (i := 1) scLaw.nd rfl (.inl rfl) (pe_call (ok_l_begin T) (hr.mono (by decide)) (by rfl) T.l_begin.m T.l_begin.F.kp T.l_begin.b .nil pass0 (pa_cons (pv 0) pa_nil)))
        (pss_cons (ps_set (i := 2) scLaw.nd rfl (.inl rfl) (pe_lst (pa_cons (pe_tup (pa_cons pe_str (pa_cons (pe_call (ok_l_take T) (hr.mono (by decide)) (by rfl) T.l_take.m T.l_take.F.kp T.l_take.b .nil pass0 (pa_cons (pv 1) (pa_cons pe_int pa_nil))) pa_nil))) pa_nil)))
        (pss_cons (ps_set (i := 3) scLaw.nd rfl (.inl rfl) pe_int)
        (pss_cons (ps_for PassesOwn.never rfl (pi_range1 rfl T.zrange (pa_cons (pe_call (ok_l_take T) (hr.mono (by decide)) (by rfl) T.l_take.m T.l_take.F.kp T.l_take.b .nil pass0 (pa_cons (pv 1) (pa_cons pe_int pa_nil))) pa_nil)) (pg_name (i := 4) scLaw.nd rfl (.inl rfl)) (pss_cons (ps_expr (kbm K PySem.F.plainAttrs_list PySem.F.slot_list_append PySem.F.type_list_append mt_append (pv 2) (pa_cons (pe_tup (pa_cons pe_str (pa_cons (pv 4) (pa_cons (pv 4) pa_nil)))) pa_nil)))
        (pss_one (ps_set (i := 3) scLaw.nd rfl (.inl rfl) (pe_op op_add (pv 3) (pv 3))))))
        (pss_cons (ps_asg (pe_call (ok_l_ended T) (hr.mono (by decide)) (by rfl) T.l_ended.m T.l_ended.F.kp T.l_ended.b .nil pass0 (pa_cons (pv 1) (pa_cons (pv 2) (pa_cons (pv 3) pa_nil)))) (kpg K 4 rfl (pgs_cons (pg_name (i := 2) scLaw.nd rfl (.inl rfl)) (pgs_cons (pg_name (i := 3) scLaw.nd rfl (.inl rfl)) (pgs_cons (pg_name (i := 5) scLaw.nd rfl (.inl rfl)) (pgs_cons (pg_name (i := 6) scLaw.nd rfl (.inl rfl)) pgs_nil))))))
        (pss_cons (ps_set (i := 7) scLaw.nd rfl (.inl rfl) (pe_callTy (klist K) (by rfl) T.zlist (by decide +kernel) (pa_cons (pv 2) pa_nil)))
        (pss_cons (ps_set (i := 8) scLaw.nd rfl (.inl rfl) (pe_call (ok_l_told T) (hr.mono (by decide)) (by rfl) T.l_told.m T.l_told.F.kp T.l_told.b .nil pass0 (pa_cons (pv 7) pa_nil)))
        (pss_cons (ps_if (pt_cmpR (kneD K hr.units) (pv 7) (pv 2) (nomark _)) (pss_one (ps_ret pe_bl)) pss_nil)
        (pss_cons (ps_if (pt_cmpR op_gt (pv 3) pe_int (nomark _)) (pss_one (ps_ret (pe_cmpR op_eq (pv 8) pe_str (nomark _)))) pss_nil)
        (pss_cons (ps_if (PW.pt (pw_or (pt_not (pt_val (pe_callB (kisi K) (by rfl) T.zisinstance (by decide +kernel) (pa_cons (pv 8) (pa_cons (pe_bltn (v := .ty "list") (by rfl) T.zlist (by decide +kernel) rfl) pa_nil))))) (pw_or1 (pt_cmpR (kneD K hr.units) (pv 8) (pe_op op_rep (pe_lst (pa_cons (pe_tup (pa_cons (pv 5) (pa_cons (pv 6) pa_nil))) pa_nil)) (pv 3)) (nomark _))))) (pss_one (ps_ret pe_bl)) pss_nil)
        (pss_one (ps_ret (pe_callB (kall K rfl) (by rfl) T.zall (by decide +kernel) (pa_cons (pe_lc (own := [("_law_pair", 9)]) rfl scLaw.nd (kpil K (pv 8)) (blkOk_by (own := [("_law_pair", 9)]) (N := nLaw) (sc := defScope sLaw) (by decide +kernel)) (fun _ _ _ _ _ => (pg_name (i := 9) scLaw.nd rfl (.inl rfl) (.inr rfl))) (fun _ _ _ _ _ => pts_nil) (fun _ _ _ _ _ => (pe_and (pe_callB (kisi K) (by rfl) T.zisinstance (by decide +kernel) (pa_cons (pv 9) (pa_cons (pe_bltn (v := .ty "tuple") (by rfl) T.ztuple (by decide +kernel) rfl) pa_nil))) (pe_and (pe_call (ok_l_int T) (hr.mono (by decide)) (by rfl) T.l_int.m T.l_int.F.kp T.l_int.b .nil pass0 (pa_cons (pe_ix (kixT K) (pv 9) pe_int (fun _ _ => rfl)) pa_nil)) (pe_one (pe_call (ok_l_int T) (hr.mono (by decide)) (by rfl) T.l_int.m T.l_int.F.kp T.l_int.b .nil pass0 (pa_cons (pe_ix (kixT K) (pv 9) pe_int (fun _ _ => rfl)) pa_nil))))))) pa_nil)))))))))))))), ?_⟩
  walk_at "ss"
  walk_at "h"
  intro m m0 m1
  walk_at "h"
  intro many k0 k1
  walk_at "h"
  refine ⟨_, _, _, rfl, ⟨_, rfl, by omega, by omega, rfl, rfl⟩, fun k Γ => ∃ y4 : Sl, Γ = [.no, .ow (.ab IsDraw), .ow (.lst ((Sp.dbl m k).map eLine)), .sh (.int ((2 ^ k : Nat) : Int)), y4, .no, .no, .no, .no, .no], ⟨.no, rfl⟩, ?_, ?_⟩
  · rintro k Γ hk ⟨y4, rfl⟩
    have dm : ((Sp.dbl m k).map eLine).length < sizeLine := small100000 (by rw [List.length_map, Sp.dbl_len]; omega)
    walk_at "h"
    refine ⟨.sh (.int (0 + (k : Int))), ?_⟩
    rw [Sp.dbl_succ, List.map_append, show ((2 ^ (k + 1) : Nat) : Int) = ((2 ^ k : Nat) : Int) + ((2 ^ k : Nat) : Int) by rw [Nat.pow_succ]; omega, Int.zero_add]
    rfl
  rintro Γ ⟨y4, rfl⟩
  obtain ⟨k, hk⟩ : ∃ k : Nat, many.toNat = k := ⟨_, rfl⟩
  rw [hk]
  have hk2 : k ≤ 60 := by omega
  clear hk k0 k1 many
  refine ⟨2, _, rfl, ?_⟩
  walk_at "h"
  intro ls sz mem turn fit hne hrow
  generalize (Sp.dbl m k).map eLine = dl0
  generalize ((2 ^ k : Nat) : Int) = pw
  have ll := fit.len
  have hrl : (Sp.row ls (ls.length - 1)).length = sz := by rw [hrow, Sp.rep_one_len]
  have lm : (ls.map eLine).length = ls.length := by simp
  have ok1 : SeqAt.shaped (eLines ls) = true := (eLines_shp ls).ok
  have rf1 : PyData.eqv (eLines ls) (eLines ls) = true := (eLines_shp ls).refl
  walk_at "h"
  refine ⟨fun h => ?_, fun h => ?_⟩
  · rw [hrl] at h
    rw [hrow]
    have d1 : decide ((2000 : Int) < (sz : Int)) = false := decide_eq_false (by omega)
    obtain ⟨r, hr⟩ : ∃ r, r = Sp.rep sz [(mem, turn)] := ⟨_, rfl⟩
    have rp := rep_ePair [(mem, turn)] sz
    rw [← hr] at rp ⊢
    have lr : r.length = sz := by rw [hr, Sp.rep_one_len]
    have lr2 : (r.map ePair).length ≤ sizeLine := Nat.le_of_lt (small100000 (by rw [List.length_map]; omega))
    clear hr hrow
    walk_at "g"
    refine iteFb (by show (!(PyData.eqv (eLines ls) (eLines ls))) = false; rw [rf1]; rfl) ?_
    walk_at "g"
    refine iteFb d1 ?_
    have b0 : -(2 ^ 63) ≤ (sz : Int) := by omega
    have b1 : (sz : Int) < 2 ^ 63 := by omega
    have b2 : [PyData.tuple [PyData.int mem, .int turn]].length * (sz : Int).toNat ≤ sizeLine := Nat.le_of_lt (small100000 (by simp; omega))
    iterate 14 walk_at "g1"
    refine ⟨trivial, b0, b1, b2, ?_⟩
    rw [Int.toNat_natCast, show [PyData.tuple [PyData.int mem, .int turn]] = [(mem, turn)].map ePair from rfl, rp]
    have ok2 : SeqAt.shaped (ePairs r) = true := (ePairs_shp r).ok
    refine ⟨_, rfl, ePairs r, ePairs r, rfl, rfl, ok2, ok2, _, rfl, ?_⟩
    refine iteFb (by show (!(PyData.eqv (ePairs r) (ePairs r))) = false; rw [(ePairs_shp r).refl]; rfl) ?_
    walk_at "g"
    clear b0 b1 b2 d1 lr2 rp ok1 rf1 ok2 ll lm hrl
    refine lc_map (f := ePair) (fun _ => some (.bool true)) (fun x hx P hP => ?_) ?_
    · walk_at "g"
      exact hP
    have eb : (r.filterMap fun _ => some (PyData.bool true)) = (r.map fun _ => true).map PyData.bool := by rw [fm_map, List.map_map]; rfl
    rw [eb]
    refine ⟨_, rfl, _, rfl, ?_⟩
    show some (PyData.bool ((r.map fun _ => true).all id)) = _
    rw [show ((r.map fun _ => true).all id) = true by simp]
  · rw [hrl] at h
    have d1 : decide ((2000 : Int) < (sz : Int)) = true := decide_eq_true (by omega)
    walk_at "g"
    refine iteFb (by show (!(PyData.eqv (eLines ls) (eLines ls))) = false; rw [rf1]; rfl) ?_
    walk_at "g"
    refine iteTb d1 ?_
    walk_at "g"
    rfl

end
end Law
namespace Law
open PySem PySem.Spec PyProof.Rows L2 Dk
def mkFn {K : Fg} {h : Heap} {mg : Str → Option Value} {x : Str} {st : Stmt} {ps : List Str} {f : Addr} {od an : Option Addr} {sl : Array (Option Value)} {oc kV dc pm cd ct : Value} (X : K.In h) (G : h.Ns mainGlobals mg)
    (a : PySem.W.nsIn K mainGlobals x = some (some (.ref f))) (l : K.lookup f = some ⟨oc, od, .func (PySem.W.fnOf x x (defArgs st) (defBody st) (defScope st) .none kV dc pm an cd ct), sl⟩) (c : PySem.W.codeIn K cd x = true) (k : PySem.W.keepIn K (.ref f) = true)
    (hb : ∀ fd, L2.Fun K x x st f fd → Binds K fd ps []) : FnIn K mg x st ps := ⟨f, _, fun_mk (st := st) l c k, hb _ (fun_mk (st := st) l c k), PySem.W.mg_of X G a⟩
theorem all_mk {l : PySem.W.OpenLaw} {w : World} {K : Fg} {h : Heap} {mg : Str → Option Value} {fa : Addr} (X : K.In h) (G : h.Ns mainGlobals mg) (hfa : mg "law" = some (.ref fa))
    {f0 : Addr} {od0 an0 : Option Addr} {sl0 : Array (Option Value)} {oc0 kV0 dc0 pm0 cd0 ct0 : Value} (a0 : PySem.W.nsIn K mainGlobals "sizes_of" = some (some (.ref f0))) (l0 : K.lookup f0 = some ⟨oc0, od0, .func (PySem.W.fnOf "sizes_of" "sizes_of" (defArgs sSizes_of) (defBody sSizes_of) (defScope sSizes_of) .none kV0 dc0 pm0 an0 cd0 ct0), sl0⟩) (c0 : PySem.W.codeIn K cd0 "sizes_of" = true) (k0 : PySem.W.keepIn K (.ref f0) = true)
    {f1 : Addr} {od1 an1 : Option Addr} {sl1 : Array (Option Value)} {oc1 kV1 dc1 pm1 cd1 ct1 : Value} (a1 : PySem.W.nsIn K mainGlobals "spelled" = some (some (.ref f1))) (l1 : K.lookup f1 = some ⟨oc1, od1, .func (PySem.W.fnOf "spelled" "spelled" (defArgs sSpelled) (defBody sSpelled) (defScope sSpelled) .none kV1 dc1 pm1 an1 cd1 ct1), sl1⟩) (c1 : PySem.W.codeIn K cd1 "spelled" = true) (k1 : PySem.W.keepIn K (.ref f1) = true)
    {f2 : Addr} {od2 an2 : Option Addr} {sl2 : Array (Option Value)} {oc2 kV2 dc2 pm2 cd2 ct2 : Value} (a2 : PySem.W.nsIn K mainGlobals "_law_begin" = some (some (.ref f2))) (l2 : K.lookup f2 = some ⟨oc2, od2, .func (PySem.W.fnOf "_law_begin" "_law_begin" (defArgs sL_begin) (defBody sL_begin) (defScope sL_begin) .none kV2 dc2 pm2 an2 cd2 ct2), sl2⟩) (c2 : PySem.W.codeIn K cd2 "_law_begin" = true) (k2 : PySem.W.keepIn K (.ref f2) = true)
    {f3 : Addr} {od3 an3 : Option Addr} {sl3 : Array (Option Value)} {oc3 kV3 dc3 pm3 cd3 ct3 : Value} (a3 : PySem.W.nsIn K mainGlobals "_law_take" = some (some (.ref f3))) (l3 : K.lookup f3 = some ⟨oc3, od3, .func (PySem.W.fnOf "_law_take" "_law_take" (defArgs sL_take) (defBody sL_take) (defScope sL_take) .none kV3 dc3 pm3 an3 cd3 ct3), sl3⟩) (c3 : PySem.W.codeIn K cd3 "_law_take" = true) (k3 : PySem.W.keepIn K (.ref f3) = true)
    {f4 : Addr} {od4 an4 : Option Addr} {sl4 : Array (Option Value)} {oc4 kV4 dc4 pm4 cd4 ct4 : Value} (a4 : PySem.W.nsIn K mainGlobals "_law_wide" = some (some (.ref f4))) (l4 : K.lookup f4 = some ⟨oc4, od4, .func (PySem.W.fnOf "_law_wide" "_law_wide" (defArgs sL_wide) (defBody sL_wide) (defScope sL_wide) .none kV4 dc4 pm4 an4 cd4 ct4), sl4⟩) (c4 : PySem.W.codeIn K cd4 "_law_wide" = true) (k4 : PySem.W.keepIn K (.ref f4) = true)
    {f5 : Addr} {od5 an5 : Option Addr} {sl5 : Array (Option Value)} {oc5 kV5 dc5 pm5 cd5 ct5 : Value} (a5 : PySem.W.nsIn K mainGlobals "_law_int" = some (some (.ref f5))) (l5 : K.lookup f5 = some ⟨oc5, od5, .func (PySem.W.fnOf "_law_int" "_law_int" (defArgs sL_int) (defBody sL_int) (defScope sL_int) .none kV5 dc5 pm5 an5 cd5 ct5), sl5⟩) (c5 : PySem.W.codeIn K cd5 "_law_int" = true) (k5 : PySem.W.keepIn K (.ref f5) = true)
    {f6 : Addr} {od6 an6 : Option Addr} {sl6 : Array (Option Value)} {oc6 kV6 dc6 pm6 cd6 ct6 : Value} (a6 : PySem.W.nsIn K mainGlobals "_law_told" = some (some (.ref f6))) (l6 : K.lookup f6 = some ⟨oc6, od6, .func (PySem.W.fnOf "_law_told" "_law_told" (defArgs sL_told) (defBody sL_told) (defScope sL_told) .none kV6 dc6 pm6 an6 cd6 ct6), sl6⟩) (c6 : PySem.W.codeIn K cd6 "_law_told" = true) (k6 : PySem.W.keepIn K (.ref f6) = true)
    {f7 : Addr} {od7 an7 : Option Addr} {sl7 : Array (Option Value)} {oc7 kV7 dc7 pm7 cd7 ct7 : Value} (a7 : PySem.W.nsIn K mainGlobals "_law_ended" = some (some (.ref f7))) (l7 : K.lookup f7 = some ⟨oc7, od7, .func (PySem.W.fnOf "_law_ended" "_law_ended" (defArgs sL_ended) (defBody sL_ended) (defScope sL_ended) .none kV7 dc7 pm7 an7 cd7 ct7), sl7⟩) (c7 : PySem.W.codeIn K cd7 "_law_ended" = true) (k7 : PySem.W.keepIn K (.ref f7) = true)
    {f8 : Addr} {od8 an8 : Option Addr} {sl8 : Array (Option Value)} {oc8 kV8 dc8 pm8 cd8 ct8 : Value} (a8 : PySem.W.nsIn K mainGlobals "law" = some (some (.ref f8))) (l8 : K.lookup f8 = some ⟨oc8, od8, .func (PySem.W.fnOf "law" "law" (defArgs sLaw) (defBody sLaw) (defScope sLaw) .none kV8 dc8 pm8 an8 cd8 ct8), sl8⟩) (c8 : PySem.W.codeIn K cd8 "law" = true) (k8 : PySem.W.keepIn K (.ref f8) = true)
    (z_abs : PySem.W.nsIn K mainGlobals "abs" = some none)
    (z_all : PySem.W.nsIn K mainGlobals "all" = some none)
    (z_bool : PySem.W.nsIn K mainGlobals "bool" = some none)
    (z_int : PySem.W.nsIn K mainGlobals "int" = some none)
    (z_isinstance : PySem.W.nsIn K mainGlobals "isinstance" = some none)
    (z_len : PySem.W.nsIn K mainGlobals "len" = some none)
    (z_list : PySem.W.nsIn K mainGlobals "list" = some none)
    (z_range : PySem.W.nsIn K mainGlobals "range" = some none)
    (z_tuple : PySem.W.nsIn K mainGlobals "tuple" = some none)
    {CTooLong : Addr} (xaTooLong : PySem.W.nsIn K mainGlobals "TooLong" = some (some (.ref CTooLong))) (xxTooLong : PySem.W.excIn K CTooLong [.type "ValueError", .type "Exception", .type "BaseException", .type "object"] "ValueError.__new__" = true) (xkTooLong : PySem.W.keepIn K (.ref CTooLong) = true) (xbTooLong : PySem.W.subIn K (.ref CTooLong) (.type "BaseException") = some true) (xtTooLong : PySem.W.typeIn K (.ref CTooLong) = some (.type "type"))
    (etd : PySem.W.hasDictIn K CTooLong = true) (ets : PySem.W.subIn K (.ref CTooLong) (.ref CTooLong) = some true)
    {uL : Value} (la : PySem.W.nsIn K mainGlobals "MOST_SPELLED" = some (some uL))
    (lr : RelV (.int 2000) uL)
    : ∃ fd : FuncData, (∀ (s : Shared) (v : Value), BindsTo s fd ⟨[v], []⟩ [("_law_script", v)]) ∧ ∀ base : Heap, K.In base → base.Ns mainGlobals mg → FnOk l.prog w K mg base CX0 4 fa fd ["_law_script"] (spLaw K) := by
  have T : Txt K mg := {
    sizes_of := mkFn X G a0 l0 c0 k0 fun fd F => F.binds (ps := ["lines"]) fun _ _ _ _ _ _ us hl => match us, hl with | [_], _ => rfl
    spelled := mkFn X G a1 l1 c1 k1 fun fd F => F.binds (ps := ["lines"]) fun _ _ _ _ _ _ us hl => match us, hl with | [_], _ => rfl
    l_begin := mkFn X G a2 l2 c2 k2 fun fd F => F.binds (ps := ["_law_script"]) fun _ _ _ _ _ _ us hl => match us, hl with | [_], _ => rfl
    l_take := mkFn X G a3 l3 c3 k3 fun fd F => F.binds (ps := ["_law_draw", "_law_many"]) fun _ _ _ _ _ _ us hl => match us, hl with | [_, _], _ => rfl
    l_wide := mkFn X G a4 l4 c4 k4 fun fd F => F.binds (ps := ["_law_draw"]) fun _ _ _ _ _ _ us hl => match us, hl with | [_], _ => rfl
    l_int := mkFn X G a5 l5 c5 k5 fun fd F => F.binds (ps := ["_law_thing"]) fun _ _ _ _ _ _ us hl => match us, hl with | [_], _ => rfl
    l_told := mkFn X G a6 l6 c6 k6 fun fd F => F.binds (ps := ["_law_lines"]) fun _ _ _ _ _ _ us hl => match us, hl with | [_], _ => rfl
    l_ended := mkFn X G a7 l7 c7 k7 fun fd F => F.binds (ps := ["_law_draw", "_law_lines", "_law_size"]) fun _ _ _ _ _ _ us hl => match us, hl with | [_, _, _], _ => rfl
    zabs := PySem.W.mg_none_of X G z_abs
    zall := PySem.W.mg_none_of X G z_all
    zbool := PySem.W.mg_none_of X G z_bool
    zint := PySem.W.mg_none_of X G z_int
    zisinstance := PySem.W.mg_none_of X G z_isinstance
    zlen := PySem.W.mg_none_of X G z_len
    zlist := PySem.W.mg_none_of X G z_list
    zrange := PySem.W.mg_none_of X G z_range
    ztuple := PySem.W.mg_none_of X G z_tuple
    xTooLong := ⟨CTooLong, PySem.W.mg_of X G xaTooLong, xxTooLong, xkTooLong, xbTooLong, xtTooLong⟩
    exm := PySem.W.exm_ref xbTooLong etd xtTooLong ets
    kL := ⟨uL, PySem.W.mg_of X G la, lr⟩
  }
  have e := hfa.symm.trans (PySem.W.mg_of X G a8)
  cases e
  exact ⟨PySem.W.fnOf "law" "law" (defArgs sLaw) (defBody sLaw) (defScope sLaw) .none kV8 dc8 pm8 an8 cd8 ct8, fun s v => .of_eq rfl, fun base _ _ => ok_law (fun_mk (st := sLaw) l8 c8 k8) T⟩
end Law
open PySem PySem.W PyProof.Rows
set_option maxHeartbeats 0 in
theorem PySem.Challenge.cw_duskround_k58_spelled_behind_long_lines_holds : PySem.Challenge.rw_duskround_k58_spelled_behind_long_lines.Holds := by
  w_on; o_law; k_head; (case hw => w_witness2)
  k_fill
  refine L2.walk_of (l := PySem.Challenge.rw_duskround_k58_spelled_behind_long_lines) (n := 63) (k := 4) (x := "_law_script") (CX := fun _ => L2.CX0) (sp := fun w => Dk.spLaw _) rfl (by decide) rfl ⟨rfl, by decide, by decide⟩ (fun w h Y => PySem.W.kIn_of Y) ?F (fun _ _ a ns hl _ hS => ⟨a, ns, rfl, hS, fun _ => rfl⟩) (fun _ _ _ _ _ h => h)
  case F =>
    intro w mg fa h KX G hmg
    refine' Law.all_mk KX G hmg ?a0 ?l0 ?c0 ?k0 ?a1 ?l1 ?c1 ?k1 ?a2 ?l2 ?c2 ?k2 ?a3 ?l3 ?c3 ?k3 ?a4 ?l4 ?c4 ?k4 ?a5 ?l5 ?c5 ?k5 ?a6 ?l6 ?c6 ?k6 ?a7 ?l7 ?c7 ?k7 ?a8 ?l8 ?c8 ?k8 ?z_abs ?z_all ?z_bool ?z_int ?z_isinstance ?z_len ?z_list ?z_range ?z_tuple ?xaTooLong ?xxTooLong ?xkTooLong ?xbTooLong ?xtTooLong ?etd ?ets ?la ?lr
    (case a0 => k_is); (case l0 => k_is); (case c0 => k_is); (case k0 => k_is); (case a1 => k_is); (case l1 => k_is); (case c1 => k_is); (case k1 => k_is); (case a2 => k_is); (case l2 => k_is); (case c2 => k_is); (case k2 => k_is); (case a3 => k_is); (case l3 => k_is); (case c3 => k_is); (case k3 => k_is); (case a4 => k_is); (case l4 => k_is); (case c4 => k_is); (case k4 => k_is); (case a5 => k_is); (case l5 => k_is); (case c5 => k_is); (case k5 => k_is); (case a6 => k_is); (case l6 => k_is); (case c6 => k_is); (case k6 => k_is); (case a7 => k_is); (case l7 => k_is); (case c7 => k_is); (case k7 => k_is); (case a8 => k_is); (case l8 => k_is); (case c8 => k_is); (case k8 => k_is); (case z_abs => k_is); (case z_all => k_is); (case z_bool => k_is); (case z_int => k_is); (case z_isinstance => k_is); (case z_len => k_is); (case z_list => k_is); (case z_range => k_is); (case z_tuple => k_is); (case xaTooLong => k_is); (case xxTooLong => k_exc); (case xkTooLong => k_is); (case xbTooLong => k_is); (case xtTooLong => k_is); (case etd => k_is); (case ets => k_is); (case la => k_is); (case lr => exact ⟨_, rfl⟩)
