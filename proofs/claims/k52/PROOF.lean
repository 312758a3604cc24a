import PyProof.Rows.All
import Wide.All
import OpenK.AllK
import Wide.FinOn
import HandS.ForMost
import HandS.EndBits
import HandS.IsInst
import HandS.Wide
import HandS.More
import HandS.SortInts
import HandS.Deep
import HandS.Exc
import HandS.TryOnly
import HandS.ExcOwn
import HandS.ExcIs
import HandS.WordsExc
import HandS.Style
import HandS.Conv
import HandS.Walk
import KE.RegKIsAll
import HandS.TupAny
import HandS.Text
import PyProof.StrOps2
import HandS.TryMany
import PyProof.Rows.StrMeet
import PyProof.Rows.StrFin3
import PySem.Challenge.RW_duskround_k52_books_written
set_option Elab.async false
set_option linter.all false
set_option maxRecDepth 100000
set_option autoImplicit false
set_option synthInstance.maxHeartbeats 4000000
set_option synthInstance.maxSize 100000
namespace Pt
/-! patterns: which lamps were turned how far -/
abbrev Pat := List (Int × Int)
def at_ : Pat → Int → Int
  | [], _ => 0
  | x :: r, k => if x.1 = k then x.2 else at_ r k
def sumAt : Pat → Int → Int
  | [], _ => 0
  | x :: r, k => (if x.1 = k then x.2 else 0) + sumAt r k
structure IsPat (p : Int) (xs : Pat) : Prop where
  srt : xs.Pairwise fun a b => a.1 < b.1
  rng : ∀ x ∈ xs, 0 < x.2 ∧ x.2 < p
theorem sumAt_app (xs ys : Pat) (k : Int) : sumAt (xs ++ ys) k = sumAt xs k + sumAt ys k := by
  induction xs with
  | nil => simp [sumAt]
  | cons x r ih => simp only [List.cons_append, sumAt, ih]; omega
theorem at_none {xs : Pat} {k : Int} (h : ∀ x ∈ xs, x.1 ≠ k) : at_ xs k = 0 := by
  induction xs with
  | nil => rfl
  | cons x r ih =>
    have h1 := h x (by simp)
    simp only [at_, if_neg h1]
    exact ih fun y hy => h y (by simp [hy])
theorem sumAt_none {xs : Pat} {k : Int} (h : ∀ x ∈ xs, x.1 ≠ k) : sumAt xs k = 0 := by
  induction xs with
  | nil => rfl
  | cons x r ih =>
    have h1 := h x (by simp)
    simp only [sumAt, if_neg h1]
    rw [ih fun y hy => h y (by simp [hy])]
    rfl
theorem at_mem {xs : Pat} {k : Int} (h : at_ xs k ≠ 0) : (k, at_ xs k) ∈ xs := by
  induction xs with
  | nil => exact absurd rfl h
  | cons x r ih =>
    simp only [at_] at h ⊢
    split at h
    · rename_i e
      rw [if_pos e]
      subst e
      simp
    · rename_i e
      rw [if_neg e]
      exact List.mem_cons_of_mem _ (ih h)
theorem IsPat.tail {p : Int} {x : Int × Int} {r : Pat} (h : IsPat p (x :: r)) : IsPat p r := ⟨(List.pairwise_cons.mp h.srt).2, fun y hy => h.rng y (by simp [hy])⟩
theorem IsPat.nil (p : Int) : IsPat p [] := ⟨.nil, by simp⟩
theorem IsPat.head {p : Int} {x : Int × Int} {r : Pat} (h : IsPat p (x :: r)) : ∀ y ∈ r, x.1 < y.1 := (List.pairwise_cons.mp h.srt).1
theorem IsPat.at_of_mem {p : Int} {xs : Pat} {x : Int × Int} (h : IsPat p xs) (hx : x ∈ xs) : at_ xs x.1 = x.2 := by
  induction xs with
  | nil => simp at hx
  | cons y r ih =>
    rcases List.mem_cons.mp hx with rfl | hx'
    · simp [at_]
    · have := h.head x hx'
      simp only [at_]
      rw [if_neg (by omega)]
      exact ih h.tail hx'
theorem IsPat.at_sum {p : Int} {xs : Pat} (h : IsPat p xs) (k : Int) : sumAt xs k = at_ xs k := by
  induction xs with
  | nil => rfl
  | cons x r ih =>
    simp only [at_, sumAt]
    split
    · rename_i e
      rw [sumAt_none]
      · omega
      · intro y hy
        have := h.head y hy
        omega
    · rw [ih h.tail]
      omega
theorem IsPat.at_rng {p : Int} {xs : Pat} (h : IsPat p xs) (hp : 0 < p) (k : Int) : 0 ≤ at_ xs k ∧ at_ xs k < p := by
  by_cases e : at_ xs k = 0
  · omega
  · have := h.rng _ (at_mem e)
    simp only at this
    omega
theorem pat_ext {p : Int} {xs ys : Pat} (hx : IsPat p xs) (hy : IsPat p ys) (h : ∀ k, at_ xs k = at_ ys k) : xs = ys := by
  induction xs generalizing ys with
  | nil =>
    cases ys with
    | nil => rfl
    | cons y r =>
      have h1 := h y.1
      have h2 := hy.rng y (by simp)
      simp [at_] at h1
      omega
  | cons x r ih =>
    cases ys with
    | nil =>
      have h1 := h x.1
      have h2 := hx.rng x (by simp)
      simp [at_] at h1
      omega
    | cons y s =>
      have hx2 := hx.rng x (by simp)
      have hy2 := hy.rng y (by simp)
      have e1 : x.1 = y.1 := by
        have a1 := h x.1
        have a2 := h y.1
        simp only [at_, if_true] at a1 a2
        by_cases q : x.1 = y.1
        · exact q
        · exfalso
          by_cases l : x.1 < y.1
          · rw [if_neg (fun z => q z.symm), at_none fun z hz => by have := hy.head z hz; omega] at a1
            omega
          · rw [if_neg q, at_none fun z hz => by have := hx.head z hz; omega] at a2
            omega
      have e2 : x.2 = y.2 := by
        have a1 := h x.1
        simp only [at_, if_true] at a1
        rw [if_pos e1.symm] at a1
        exact a1
      have e : x = y := Prod.ext e1 e2
      subst e
      congr 1
      refine ih hx.tail hy.tail fun k => ?_
      have a := h k
      simp only [at_] at a
      by_cases q : x.1 = k
      · rw [at_none fun z hz => by have := hx.head z hz; omega, at_none fun z hz => by have := hy.head z hz; omega]
      · rw [if_neg q, if_neg q] at a
        exact a
/-- one lamp turned on -/
def addAt (p : Int) : Pat → Int → Int → Pat
  | [], k, v => if v % p = 0 then [] else [(k, v % p)]
  | x :: r, k, v =>
    if k < x.1 then (if v % p = 0 then x :: r else (k, v % p) :: x :: r)
    else if k = x.1 then (if (x.2 + v) % p = 0 then r else (k, (x.2 + v) % p) :: r)
    else x :: addAt p r k v
theorem addAt_ok {p : Int} (hp : 0 < p) : ∀ {xs : Pat} (k v : Int), IsPat p xs → IsPat p (addAt p xs k v) ∧ (∀ j, at_ (addAt p xs k v) j = if j = k then (at_ xs k + v) % p else at_ xs j) ∧ (∀ y ∈ addAt p xs k v, y.1 = k ∨ ∃ x ∈ xs, x.1 = y.1)
  | [], k, v, h => by
    have m1 := Int.emod_nonneg v (show p ≠ 0 by omega)
    have m2 := Int.emod_lt_of_pos v hp
    simp only [addAt]
    split
    · rename_i e
      refine ⟨h, fun j => ?_, by simp⟩
      simp [at_, e]
    · rename_i e
      refine ⟨⟨by simp, by simp; omega⟩, fun j => ?_, by simp⟩
      simp only [at_, Int.zero_add]
      by_cases q : k = j
      · rw [if_pos q, if_pos q.symm]
      · rw [if_neg q, if_neg (Ne.symm q)]
  | x :: r, k, v, h => by
    have m1 := Int.emod_nonneg v (show p ≠ 0 by omega)
    have m2 := Int.emod_lt_of_pos v hp
    have n1 := Int.emod_nonneg (x.2 + v) (show p ≠ 0 by omega)
    have n2 := Int.emod_lt_of_pos (x.2 + v) hp
    have hx := h.rng x (by simp)
    simp only [addAt]
    split
    · rename_i lt
      have z : at_ (x :: r) k = 0 := at_none fun y hy => by
        rcases List.mem_cons.mp hy with rfl | hy
        · omega
        · have := h.head y hy; omega
      split
      · rename_i e
        refine ⟨h, fun j => ?_, fun y hy => .inr ⟨y, hy, rfl⟩⟩
        by_cases q : j = k
        · subst q
          rw [if_pos rfl, z, Int.zero_add, e]
        · rw [if_neg q]
      · rename_i e
        refine ⟨⟨List.pairwise_cons.mpr ⟨fun y hy => ?_, h.srt⟩, fun y hy => ?_⟩, fun j => ?_, fun y hy => ?_⟩
        · rcases List.mem_cons.mp hy with rfl | hy
          · exact lt
          · have := h.head y hy
            show k < y.1
            omega
        · rcases List.mem_cons.mp hy with rfl | hy
          · simp only; omega
          · exact h.rng y hy
        · by_cases q : j = k
          · subst q
            rw [if_pos rfl, z, Int.zero_add]
            simp [at_]
          · rw [if_neg q]
            show (if k = j then _ else at_ (x :: r) j) = _
            rw [if_neg (Ne.symm q)]
        · rcases List.mem_cons.mp hy with rfl | hy
          · exact .inl rfl
          · exact .inr ⟨y, hy, rfl⟩
    · rename_i nlt
      split
      · rename_i e
        subst e
        have z : at_ r x.1 = 0 := at_none fun y hy => by have := h.head y hy; omega
        split
        · rename_i e2
          refine ⟨h.tail, fun j => ?_, fun y hy => .inr ⟨y, by simp [hy], rfl⟩⟩
          by_cases q : j = x.1
          · subst q
            rw [if_pos rfl, z]
            simp only [at_, if_true]
            exact e2.symm
          · rw [if_neg q]
            simp only [at_]
            rw [if_neg (Ne.symm q)]
        · rename_i e2
          refine ⟨⟨List.pairwise_cons.mpr ⟨fun y hy => h.head y hy, h.tail.srt⟩, fun y hy => ?_⟩, fun j => ?_, fun y hy => ?_⟩
          · rcases List.mem_cons.mp hy with rfl | hy
            · simp only; omega
            · exact h.rng y (by simp [hy])
          · by_cases q : j = x.1
            · subst q
              rw [if_pos rfl]
              simp only [at_, if_true]
            · rw [if_neg q]
              simp only [at_]
              rw [if_neg (Ne.symm q), if_neg (Ne.symm q)]
          · rcases List.mem_cons.mp hy with rfl | hy
            · exact .inl rfl
            · exact .inr ⟨y, by simp [hy], rfl⟩
      · rename_i ne
        obtain ⟨i1, i2, i3⟩ := addAt_ok hp k v h.tail
        refine ⟨⟨List.pairwise_cons.mpr ⟨fun y hy => ?_, i1.srt⟩, fun y hy => ?_⟩, fun j => ?_, fun y hy => ?_⟩
        · rcases i3 y hy with q | ⟨z, hz, q⟩
          · omega
          · have := h.head z hz
            omega
        · rcases List.mem_cons.mp hy with rfl | hy
          · exact hx
          · exact i1.rng y hy
        · by_cases q : j = k
          · subst q
            rw [if_pos rfl]
            simp only [at_]
            rw [if_neg (fun z => ne z.symm), if_neg (fun z => ne z.symm), i2 j, if_pos rfl]
          · rw [if_neg q]
            simp only [at_]
            by_cases q2 : x.1 = j
            · rw [if_pos q2, if_pos q2]
            · rw [if_neg q2, if_neg q2, i2 j, if_neg q]
        · rcases List.mem_cons.mp hy with rfl | hy
          · exact .inr ⟨y, by simp, rfl⟩
          · rcases i3 y hy with q | ⟨z, hz, q⟩
            · exact .inl q
            · exact .inr ⟨z, by simp [hz], q⟩
/-- the pattern of pairs in any order -/
def tidy (p : Int) (xs : Pat) : Pat := xs.foldl (fun a x => addAt p a x.1 x.2) []
theorem tidy_go {p : Int} (hp : 0 < p) : ∀ (xs a : Pat), IsPat p a → IsPat p (xs.foldl (fun a x => addAt p a x.1 x.2) a) ∧ ∀ k, at_ (xs.foldl (fun a x => addAt p a x.1 x.2) a) k = (at_ a k + sumAt xs k) % p
  | [], a, h => ⟨h, fun k => by
    have := h.at_rng hp k
    simp only [List.foldl_nil, sumAt, Int.add_zero]
    rw [Int.emod_eq_of_lt this.1 this.2]⟩
  | x :: r, a, h => by
    obtain ⟨h1, h2, _⟩ := addAt_ok hp x.1 x.2 h
    obtain ⟨i1, i2⟩ := tidy_go hp r _ h1
    refine ⟨i1, fun k => ?_⟩
    rw [List.foldl_cons, i2 k, h2 k]
    simp only [sumAt]
    by_cases q : k = x.1
    · subst q
      rw [if_pos rfl, if_pos rfl, Int.emod_add_emod]
      congr 1
      omega
    · rw [if_neg q, if_neg (Ne.symm q), Int.zero_add]
theorem tidy_pat {p : Int} (hp : 0 < p) (xs : Pat) : IsPat p (tidy p xs) := (tidy_go hp xs [] (IsPat.nil p)).1
theorem tidy_at {p : Int} (hp : 0 < p) (xs : Pat) (k : Int) : at_ (tidy p xs) k = sumAt xs k % p := by
  have := (tidy_go hp xs [] (IsPat.nil p)).2 k
  unfold tidy
  simpa [at_] using this
theorem tidy_eq {p : Int} (hp : 0 < p) {xs ys : Pat} (hy : IsPat p ys) (h : ∀ k, at_ ys k = sumAt xs k % p) : ys = tidy p xs :=
  pat_ext hy (tidy_pat hp xs) fun k => by rw [h k, tidy_at hp]
theorem addAt_len (p : Int) : ∀ (xs : Pat) (k v : Int), (addAt p xs k v).length ≤ xs.length + 1
  | [], k, v => by simp only [addAt]; split <;> simp
  | x :: r, k, v => by
    have ih := addAt_len p r k v
    simp only [addAt]
    split
    · split <;> simp
    · split
      · split <;> simp <;> omega
      · simp only [List.length_cons]; omega
theorem tidy_len (p : Int) (xs : Pat) : (tidy p xs).length ≤ xs.length := by
  have go : ∀ (xs a : Pat), (xs.foldl (fun a x => addAt p a x.1 x.2) a).length ≤ a.length + xs.length := by
    intro xs
    induction xs with
    | nil => exact fun a => Nat.le_refl _
    | cons x r ih =>
      intro a
      have h1 := ih (addAt p a x.1 x.2)
      have h2 := addAt_len p a x.1 x.2
      simp only [List.foldl_cons, List.length_cons]
      omega
  unfold tidy
  simpa using go xs []
/-- each place once, as they come -/
def places : Pat → List Int
  | [] => []
  | x :: r => x.1 :: (places r).filter fun k => decide (k ≠ x.1)
def addK (ks : List Int) (k : Int) : List Int := if k ∈ ks then ks else ks ++ [k]
def keys (xs : Pat) : List Int := xs.foldl (fun ks x => addK ks x.1) []
theorem keys_snoc (xs : Pat) (x : Int × Int) : keys (xs ++ [x]) = addK (keys xs) x.1 := by simp [keys, List.foldl_append]
theorem addK_nodup {ks : List Int} {k : Int} (h : ks.Nodup) : (addK ks k).Nodup := by
  unfold addK
  split
  · exact h
  · rename_i n
    rw [List.nodup_append]
    exact ⟨h, by simp, fun a ha b hb => by simp at hb; subst hb; exact fun z => n (z ▸ ha)⟩
theorem mem_addK {ks : List Int} {k j : Int} : j ∈ addK ks k ↔ j ∈ ks ∨ j = k := by
  unfold addK
  split
  · rename_i h
    refine ⟨.inl, fun z => z.elim id fun e => e ▸ h⟩
  · simp
theorem keys_nodup (xs : Pat) : (keys xs).Nodup := by
  have go : ∀ (xs : Pat) (ks : List Int), ks.Nodup → (xs.foldl (fun ks x => addK ks x.1) ks).Nodup := by
    intro xs
    induction xs with
    | nil => exact fun ks h => h
    | cons x r ih => exact fun ks h => ih _ (addK_nodup h)
  exact go xs [] (by simp)
theorem mem_keys (xs : Pat) (k : Int) : k ∈ keys xs ↔ ∃ x ∈ xs, x.1 = k := by
  have go : ∀ (xs : Pat) (ks : List Int), k ∈ (xs.foldl (fun ks x => addK ks x.1) ks) ↔ k ∈ ks ∨ ∃ x ∈ xs, x.1 = k := by
    intro xs
    induction xs with
    | nil => simp
    | cons x r ih =>
      intro ks
      rw [List.foldl_cons, ih, mem_addK]
      simp only [List.mem_cons, exists_eq_or_imp]
      constructor
      · rintro ((h | h) | h)
        · exact .inl h
        · exact .inr (.inl h.symm)
        · exact .inr (.inr h)
      · rintro (h | h | h)
        · exact .inl (.inl h)
        · exact .inl (.inr h.symm)
        · exact .inr h
  have := go xs []
  simpa [keys] using this
theorem keys_len (xs : Pat) : (keys xs).length ≤ xs.length := by
  have go : ∀ (xs : Pat) (ks : List Int), (xs.foldl (fun ks x => addK ks x.1) ks).length ≤ ks.length + xs.length := by
    intro xs
    induction xs with
    | nil => exact fun ks => Nat.le_refl _
    | cons x r ih =>
      intro ks
      have h1 := ih (addK ks x.1)
      have h2 : (addK ks x.1).length ≤ ks.length + 1 := by
        unfold addK
        split
        · omega
        · simp
      simp only [List.foldl_cons, List.length_cons]
      omega
  simpa [keys] using go xs []
theorem keys_mono (xs ys : Pat) : (keys xs).length ≤ (keys (xs ++ ys)).length := by
  have go : ∀ (ys : Pat) (ks : List Int), ks.length ≤ (ys.foldl (fun ks x => addK ks x.1) ks).length := by
    intro ys
    induction ys with
    | nil => exact fun ks => Nat.le_refl _
    | cons y r ih =>
      intro ks
      have h1 := ih (addK ks y.1)
      have h2 : ks.length ≤ (addK ks y.1).length := by
        unfold addK
        split
        · omega
        · simp
      simp only [List.foldl_cons]
      omega
  unfold keys
  rw [List.foldl_append]
  exact go ys _
/-- the pattern that sorted keys with their sums make -/
def pick (p : Int) (xs : Pat) (k : Int) : Option (Int × Int) := if sumAt xs k % p ≠ 0 then some (k, sumAt xs k % p) else none
theorem sorted_strict {ys ks : List Int} (hp : ys.Perm ks) (hn : ks.Nodup) (hs : ys.Pairwise (· ≤ ·)) : ys.Pairwise (· < ·) := by
  have hn' : ys.Nodup := hp.nodup_iff.mpr hn
  have := List.Pairwise.and hs hn'
  exact this.imp fun h => by omega
theorem pick_at (p : Int) (xs : Pat) : ∀ {ys : List Int} (k : Int), at_ (ys.filterMap (pick p xs)) k = if k ∈ ys then sumAt xs k % p else 0
  | [], k => rfl
  | y :: r, k => by
    have ih := pick_at p xs (ys := r) k
    rw [List.filterMap_cons]
    unfold pick at *
    by_cases e : sumAt xs y % p ≠ 0
    · rw [if_pos e]
      simp only [at_]
      by_cases q : y = k
      · subst q
        rw [if_pos rfl, if_pos (by simp)]
      · rw [if_neg q, ih]
        simp [Ne.symm q]
    · rw [if_neg e]
      simp only
      rw [ih]
      by_cases q : k = y
      · subst q
        have e' : sumAt xs k % p = 0 := by omega
        by_cases m : k ∈ r <;> simp [m, e']
      · simp [q]
theorem pick_pat {p : Int} (hp : 0 < p) {xs : Pat} {ys : List Int} (hperm : ys.Perm (keys xs)) (hs : ys.Pairwise (· ≤ ·)) : ys.filterMap (pick p xs) = tidy p xs := by
  have st := sorted_strict hperm (keys_nodup xs) hs
  refine tidy_eq hp ⟨?_, fun x hx => ?_⟩ fun k => ?_
  · rw [List.pairwise_filterMap]
    refine st.imp fun {a b} h x hx y hy => ?_
    unfold pick at hx hy
    split at hx
    · split at hy
      · cases hx; cases hy; exact h
      · cases hy
    · cases hx
  · obtain ⟨y, hy, e⟩ := List.mem_filterMap.mp hx
    unfold pick at e
    split at e
    · rename_i ne
      cases e
      have m1 := Int.emod_nonneg (sumAt xs y) (show p ≠ 0 by omega)
      have m2 := Int.emod_lt_of_pos (sumAt xs y) hp
      simp only
      omega
    · cases e
  · rw [pick_at]
    split
    · rfl
    · rename_i nm
      rw [sumAt_none]
      · simp
      · intro x hx e
        exact nm (hperm.mem_iff.mpr ((mem_keys xs k).mpr ⟨x, hx, e⟩))
def moved (xs : Pat) (b : Int) : Pat := xs.map fun x => (x.1 + b, x.2)
theorem moved_len (xs : Pat) (b : Int) : (moved xs b).length = xs.length := by simp [moved]
theorem moved_at (b : Int) : ∀ (xs : Pat) (k : Int), at_ (moved xs b) k = at_ xs (k - b)
  | [], k => rfl
  | x :: r, k => by
    show (if x.1 + b = k then x.2 else at_ (moved r b) k) = if x.1 = k - b then x.2 else at_ r (k - b)
    rw [moved_at b r k]
    by_cases e : x.1 + b = k
    · rw [if_pos e, if_pos (by omega)]
    · rw [if_neg e, if_neg (by omega)]
theorem moved_pat {p : Int} {xs : Pat} (h : IsPat p xs) (b : Int) : IsPat p (moved xs b) := by
  refine ⟨?_, fun x hx => ?_⟩
  · unfold moved
    rw [List.pairwise_map]
    exact h.srt.imp fun z => by simp only; omega
  · obtain ⟨y, hy, rfl⟩ := List.mem_map.mp hx
    exact h.rng y hy
theorem moved_moved (xs : Pat) (a b : Int) : moved (moved xs a) b = moved xs (a + b) := by
  unfold moved
  rw [List.map_map]
  refine List.map_congr_left fun x _ => ?_
  simp only [Function.comp]
  congr 1
  omega
theorem moved_zero (xs : Pat) : moved xs 0 = xs := by
  unfold moved
  conv => rhs; rw [← List.map_id xs]
  refine List.map_congr_left fun x _ => ?_
  simp
theorem tidy_mem {p : Int} (hp : 0 < p) {xs : Pat} {x : Int × Int} (h : x ∈ tidy p xs) : ∃ y ∈ xs, y.1 = x.1 := by
  have ha := (tidy_pat hp xs).at_of_mem h
  have hr := (tidy_pat hp xs).rng x h
  rw [tidy_at hp] at ha
  by_cases z : ∃ y ∈ xs, y.1 = x.1
  · exact z
  · rw [sumAt_none (fun y hy e => z ⟨y, hy, e⟩)] at ha
    simp at ha
    omega
def added (p : Int) (xs ys : Pat) : Pat := tidy p (xs ++ ys)
def timed (p : Int) (xs : Pat) (n : Int) : Pat := tidy p (xs.map fun x => (x.1, x.2 * n))
theorem sumAt_map_mul (n : Int) : ∀ (xs : Pat) (k : Int), sumAt (xs.map fun x => (x.1, x.2 * n)) k = sumAt xs k * n
  | [], k => by simp [sumAt]
  | x :: r, k => by
    simp only [List.map_cons, sumAt, sumAt_map_mul n r k]
    split
    · rw [Int.add_mul]
    · rw [Int.add_mul, Int.zero_mul]
theorem added_pat {p : Int} (hp : 0 < p) (xs ys : Pat) : IsPat p (added p xs ys) := tidy_pat hp _
theorem timed_pat {p : Int} (hp : 0 < p) (xs : Pat) (n : Int) : IsPat p (timed p xs n) := tidy_pat hp _
theorem added_at {p : Int} (hp : 0 < p) {xs ys : Pat} (hx : IsPat p xs) (hy : IsPat p ys) (k : Int) : at_ (added p xs ys) k = (at_ xs k + at_ ys k) % p := by
  unfold added
  rw [tidy_at hp, sumAt_app, hx.at_sum, hy.at_sum]
theorem timed_at {p : Int} (hp : 0 < p) {xs : Pat} (hx : IsPat p xs) (n k : Int) : at_ (timed p xs n) k = at_ xs k * n % p := by
  unfold timed
  rw [tidy_at hp, sumAt_map_mul, hx.at_sum]
theorem added_len (p : Int) (xs ys : Pat) : (added p xs ys).length ≤ xs.length + ys.length := by
  have := tidy_len p (xs ++ ys)
  rw [List.length_append] at this
  exact this
theorem timed_len (p : Int) (xs : Pat) (n : Int) : (timed p xs n).length ≤ xs.length := by
  have := tidy_len p (xs.map fun x => (x.1, x.2 * n))
  rw [List.length_map] at this
  exact this
theorem added_comm {p : Int} (hp : 0 < p) {xs ys : Pat} (hx : IsPat p xs) (hy : IsPat p ys) : added p xs ys = added p ys xs :=
  pat_ext (added_pat hp xs ys) (added_pat hp ys xs) fun k => by rw [added_at hp hx hy, added_at hp hy hx, Int.add_comm]
theorem dark_of {p : Int} {xs : Pat} (hx : IsPat p xs) (h : ∀ k, at_ xs k = 0) : xs = [] := pat_ext hx (IsPat.nil p) fun k => by rw [h k]; rfl
theorem map01 (ys : Pat) : (ys.map fun y => (y.1 + 0, y.2 * 1)) = ys := by
  have : (fun y : Int × Int => (y.1 + 0, y.2 * 1)) = id := funext fun y => by simp
  rw [this, List.map_id]
theorem map0n (ys : Pat) (n : Int) : (ys.map fun y => (y.1 + 0, y.2 * n)) = ys.map fun y => (y.1, y.2 * n) := by
  simp only [Int.add_zero]
end Pt

/-! rounds: an end and a pattern -/
namespace Rd
open Pt
abbrev R := Int × Pat
def IsRound (p : Int) (r : R) : Prop := IsPat p r.2
def join (p : Int) (a b : R) : R := (a.1 + b.1, added p a.2 (moved b.2 a.1))
def inv (p : Int) (a : R) : R := (-a.1, timed p (moved a.2 (-a.1)) (-1))
def still : R := (0, [])
theorem ext {p : Int} {a b : R} (ha : IsRound p a) (hb : IsRound p b) (h1 : a.1 = b.1) (h2 : ∀ k, at_ a.2 k = at_ b.2 k) : a = b := Prod.ext h1 (pat_ext ha hb h2)
theorem still_ok (p : Int) : IsRound p still := IsPat.nil p
section
variable {p : Int} (hp : 0 < p)
include hp
theorem join_ok (a b : R) : IsRound p (join p a b) := added_pat hp _ _
theorem inv_ok (a : R) : IsRound p (inv p a) := timed_pat hp _ _
theorem join_at {a b : R} (ha : IsRound p a) (hb : IsRound p b) (k : Int) : at_ (join p a b).2 k = (at_ a.2 k + at_ b.2 (k - a.1)) % p := by
  show at_ (added p a.2 (moved b.2 a.1)) k = _
  rw [added_at hp ha (moved_pat hb a.1), moved_at]
theorem inv_at {a : R} (ha : IsRound p a) (k : Int) : at_ (inv p a).2 k = -(at_ a.2 (k + a.1)) % p := by
  show at_ (timed p (moved a.2 (-a.1)) (-1)) k = _
  rw [timed_at hp (moved_pat ha (-a.1)), moved_at, show k - -a.1 = k + a.1 by omega, show at_ a.2 (k + a.1) * -1 = -(at_ a.2 (k + a.1)) by omega]
theorem at_mod {a : R} (ha : IsRound p a) (k : Int) : at_ a.2 k % p = at_ a.2 k := by
  have h := IsPat.at_rng ha hp k
  exact Int.emod_eq_of_lt h.1 h.2
theorem assoc {a b c : R} (ha : IsRound p a) (hb : IsRound p b) (hc : IsRound p c) : join p (join p a b) c = join p a (join p b c) := by
  refine ext (p := p) (join_ok hp _ _) (join_ok hp _ _) (by simp only [join]; omega) fun k => ?_
  rw [join_at hp (join_ok hp a b) hc, join_at hp ha hb, join_at hp ha (join_ok hp b c), join_at hp hb hc, Int.emod_add_emod, Int.add_emod_emod]
  simp only [join]
  rw [show k - a.1 - b.1 = k - (a.1 + b.1) by omega, Int.add_assoc]
theorem join_still {a : R} (ha : IsRound p a) : join p a still = a := by
  refine ext (p := p) (join_ok hp _ _) ha (by simp [join, still]) fun k => ?_
  rw [join_at hp ha (still_ok p)]
  show (at_ a.2 k + 0) % p = _
  rw [Int.add_zero, at_mod hp ha]
theorem still_join {a : R} (ha : IsRound p a) : join p still a = a := by
  refine ext (p := p) (join_ok hp _ _) ha (by simp [join, still]) fun k => ?_
  rw [join_at hp (still_ok p) ha]
  show (0 + at_ a.2 (k - 0)) % p = _
  rw [Int.zero_add, Int.sub_zero, at_mod hp ha]
theorem join_inv {a : R} (ha : IsRound p a) : join p a (inv p a) = still := by
  refine ext (p := p) (join_ok hp _ _) (still_ok p) (by simp only [join, inv, still]; omega) fun k => ?_
  rw [join_at hp ha (inv_ok hp a), inv_at hp ha, Int.add_emod_emod, show k - a.1 + a.1 = k by omega, Int.add_right_neg]
  rfl
theorem inv_join {a : R} (ha : IsRound p a) : join p (inv p a) a = still := by
  refine ext (p := p) (join_ok hp _ _) (still_ok p) (by simp only [join, inv, still]; omega) fun k => ?_
  rw [join_at hp (inv_ok hp a) ha, inv_at hp ha, Int.emod_add_emod, show k - (inv p a).1 = k + a.1 by simp only [inv]; omega, Int.add_left_neg]
  rfl
theorem inv_uniq {a b : R} (ha : IsRound p a) (hb : IsRound p b) (h : join p a b = still) : b = inv p a := by
  have h2 := assoc hp (inv_ok hp a) ha hb
  rw [h, inv_join hp ha, still_join hp hb, join_still hp (inv_ok hp a)] at h2
  exact h2
theorem inv_inv {a : R} (ha : IsRound p a) : inv p (inv p a) = a := (inv_uniq hp (inv_ok hp a) ha (inv_join hp ha)).symm
theorem inv_of_join {a b : R} (ha : IsRound p a) (hb : IsRound p b) : inv p (join p a b) = join p (inv p b) (inv p a) := by
  refine (inv_uniq hp (join_ok hp a b) (join_ok hp _ _) ?_).symm
  rw [assoc hp ha hb (join_ok hp _ _), ← assoc hp hb (inv_ok hp b) (inv_ok hp a), join_inv hp hb, still_join hp (inv_ok hp a), join_inv hp ha]
end
theorem join_len (p : Int) (a b : R) : (join p a b).2.length ≤ a.2.length + b.2.length := by
  have := added_len p a.2 (moved b.2 a.1)
  rw [moved_len] at this
  exact this
theorem inv_len (p : Int) (a : R) : (inv p a).2.length ≤ a.2.length := by
  have := timed_len p (moved a.2 (-a.1)) (-1)
  rw [moved_len] at this
  exact this
end Rd

namespace Dk
/-- whether tuples of the module's own text may be data -/
abbrev KT : Bool := true
end Dk

/-! Data over the hand layer: what a name holds, as plain data. -/
namespace Dk
open PySem PySem.Spec PyProof.Rows L2

abbrev Fg := PySem.W.Frag
/-! ### data in a heap -/
/-- a tuple of the module's own text -/
def SqK (K : Fg) (a : Addr) (xs : List V) : Prop := ∃ (o : Obj) (its : Array Value) (n : Nat), K.lookup a = some o ∧ o.cls = .type "tuple" ∧ o.data = .seq its n ∧ its.size ≤ sizeLine ∧ Vals xs its.toList
def Tq (K : Fg) (H : Hp) (a : Addr) (xs : List V) : Prop := H a = some (.tup xs) ∨ (KT = true ∧ SqK K a xs)
theorem Tq.sq {K : Fg} {H : Hp} {a : Addr} {xs : List V} (h : Tq K H a xs) : SqT K H a xs := h.elim (fun z => .inl (.inl z)) fun z => .inr z.2
theorem Tq.mono {K : Fg} {H H' : Hp} {a : Addr} {xs : List V} (h : Tq K H a xs) (e : H a = some (.tup xs) → H' a = some (.tup xs)) : Tq K H' a xs := h.elim (fun z => .inl (e z)) fun z => .inr z
theorem Tq.same {K : Fg} {H H' : Hp} {a : Addr} {xs : List V} (h : Tq K H a xs) (e : Same H H') : Tq K H' a xs := h.mono fun z => e _ _ z
/-- a dict's key as data -/
def kD : Key → PyData
  | .inl i => .int i
  | .inr x => .str x
mutual
inductive Dq (K : Fg) (H : Hp) : V → PyData → Prop
  | non : Dq K H .non .none
  | bl (b : Bool) : Dq K H (.bl b) (.bool b)
  | int (i : Int) : Dq K H (.int i) (.int i)
  | str (x : Str) : Dq K H (.str x) (.str x)
  | lst {a : Addr} {xs : List V} {ds : List PyData} : H a = some (.lst xs) → DqAll K H xs ds → Dq K H (.ref a) (.list ds)
  | tup {a : Addr} {xs : List V} {ds : List PyData} : Tq K H a xs → DqAll K H xs ds → Dq K H (.ref a) (.tuple ds)
  | dct {a : Addr} {us : List (Key × V)} {kvs : List (PyData × PyData)} : L2.Rd H a (.dK us) → DqKv K H us kvs → Dq K H (.ref a) (.dict kvs)
inductive DqKv (K : Fg) (H : Hp) : List (Key × V) → List (PyData × PyData) → Prop
  | nil : DqKv K H [] []
  | cons {k : Key} {v : V} {us : List (Key × V)} {e d : PyData} {kvs : List (PyData × PyData)} : e = kD k → Dq K H v d → DqKv K H us kvs → DqKv K H ((k, v) :: us) ((e, d) :: kvs)
inductive DqAll (K : Fg) (H : Hp) : List V → List PyData → Prop
  | nil : DqAll K H [] []
  | cons {v : V} {vs : List V} {d : PyData} {ds : List PyData} : Dq K H v d → DqAll K H vs ds → DqAll K H (v :: vs) (d :: ds)
end
section
variable {K : Fg} {H H' : Hp}
mutual
theorem Dq.mono (e1 : ∀ a xs, H a = some (.lst xs) → H' a = some (.lst xs)) (e2 : ∀ a xs, H a = some (.tup xs) → H' a = some (.tup xs)) (e3 : ∀ a us, L2.Rd H a (.dK us) → L2.Rd H' a (.dK us)) : ∀ {d : PyData} {v : V}, Dq K H v d → Dq K H' v d
  | _, _, .non => .non
  | _, _, .bl _ => .bl _
  | _, _, .int _ => .int _
  | _, _, .str _ => .str _
  | _, _, .lst a b => .lst (e1 _ _ a) (DqAll.mono e1 e2 e3 b)
  | _, _, .tup a b => .tup (a.mono (e2 _ _)) (DqAll.mono e1 e2 e3 b)
  | _, _, .dct a b => .dct (e3 _ _ a) (DqKv.mono e1 e2 e3 b)
theorem DqAll.mono (e1 : ∀ a xs, H a = some (.lst xs) → H' a = some (.lst xs)) (e2 : ∀ a xs, H a = some (.tup xs) → H' a = some (.tup xs)) (e3 : ∀ a us, L2.Rd H a (.dK us) → L2.Rd H' a (.dK us)) : ∀ {ds : List PyData} {vs : List V}, DqAll K H vs ds → DqAll K H' vs ds
  | _, _, .nil => .nil
  | _, _, .cons a b => .cons (Dq.mono e1 e2 e3 a) (DqAll.mono e1 e2 e3 b)
theorem DqKv.mono (e1 : ∀ a xs, H a = some (.lst xs) → H' a = some (.lst xs)) (e2 : ∀ a xs, H a = some (.tup xs) → H' a = some (.tup xs)) (e3 : ∀ a us, L2.Rd H a (.dK us) → L2.Rd H' a (.dK us)) : ∀ {ds : List (PyData × PyData)} {vs : List (Key × V)}, DqKv K H vs ds → DqKv K H' vs ds
  | _, _, .nil => .nil
  | _, _, .cons e a b => .cons e (Dq.mono e1 e2 e3 a) (DqKv.mono e1 e2 e3 b)
end
theorem _root_.L2.Same.rd (e : Same H H') {a : Addr} {o : HO} (h : L2.Rd H a o) : L2.Rd H' a o := h.imp (e _ _) fun ⟨od, q⟩ => ⟨od, e _ _ q⟩
theorem Dq.same (e : Same H H') {d : PyData} {v : V} (h : Dq K H v d) : Dq K H' v d := Dq.mono (fun a xs q => e _ _ q) (fun a xs q => e _ _ q) (fun a xs q => e.rd q) h
theorem DqAll.same (e : Same H H') {d : List PyData} {v : List V} (h : DqAll K H v d) : DqAll K H' v d := DqAll.mono (fun a xs q => e _ _ q) (fun a xs q => e _ _ q) (fun a xs q => e.rd q) h
theorem DqKv.same (e : Same H H') {d : List (PyData × PyData)} {v : List (Key × V)} (h : DqKv K H v d) : DqKv K H' v d := DqKv.mono (fun a xs q => e _ _ q) (fun a xs q => e _ _ q) (fun a xs q => e.rd q) h
mutual
theorem Dq.dp : ∀ (d : PyData) (v : V), d.canLay0 = true → Dq K H v d → Dp K H v d
  | .none, _, _, h => by cases h; exact .non
  | .bool _, _, _, h => by cases h; exact .bl _
  | .int _, _, _, h => by cases h; exact .int _
  | .str _, _, _, h => by cases h; exact .str _
  | .list ds, _, c, h => by
    cases h with
    | lst a b => exact .lst (.inl (.inl a)) (DqAll.dp ds _ (by simpa [PyData.canLay0] using c) b)
  | .tuple ds, _, c, h => by
    cases h with
    | tup a b => exact .tup a.sq (DqAll.dp ds _ (by simpa [PyData.canLay0] using c) b)
  | .dict _, _, c, h => by simp [PyData.canLay0] at c
theorem DqAll.dp : ∀ (ds : List PyData) (vs : List V), PyData.canLayAll0 ds = true → DqAll K H vs ds → DpAll K H vs ds
  | [], _, _, h => by cases h; exact .nil
  | d :: ds, _, c, h => by
    simp only [PyData.canLayAll0, Bool.and_eq_true] at c
    cases h with
    | cons a b => exact .cons (Dq.dp d _ c.1 a) (DqAll.dp ds _ c.2 b)
end
theorem DqAll.length : ∀ {ds : List PyData} {vs : List V}, DqAll K H vs ds → vs.length = ds.length
  | [], _, h => by cases h; rfl
  | _ :: _, _, h => by
    cases h with
    | cons a b => simp [DqAll.length b]
theorem DqAll.get : ∀ {ds : List PyData} {vs : List V} {i : Nat} {d : PyData}, DqAll K H vs ds → ds[i]? = some d → ∃ v, vs[i]? = some v ∧ Dq K H v d
  | [], _, _, _, h, e => by simp at e
  | _ :: _, _, 0, _, h, e => by
    cases h with
    | cons a b => simp at e; subst e; exact ⟨_, rfl, a⟩
  | _ :: _, _, i + 1, _, h, e => by
    cases h with
    | cons a b => simp at e; obtain ⟨v, h1, h2⟩ := DqAll.get b e; exact ⟨v, by simpa using h1, h2⟩
theorem DqAll.app : ∀ {ds es : List PyData} {vs us : List V}, DqAll K H vs ds → DqAll K H us es → DqAll K H (vs ++ us) (ds ++ es)
  | [], _, _, _, h, g => by cases h; exact g
  | _ :: _, _, _, _, h, g => by
    cases h with
    | cons a b => exact .cons a (DqAll.app b g)
theorem DqAll.setAt : ∀ {ds : List PyData} {vs : List V} {i : Nat} {d : PyData} {v : V}, DqAll K H vs ds → Dq K H v d → DqAll K H (vs.set i v) (ds.set i d)
  | [], _, _, _, _, h, _ => by cases h; exact .nil
  | _ :: _, _, 0, _, _, h, g => by
    cases h with
    | cons a b => exact .cons g b
  | _ :: _, _, i + 1, _, _, h, g => by
    cases h with
    | cons a b => exact .cons a (DqAll.setAt b g)
theorem DqAll.dropLast : ∀ {ds : List PyData} {vs : List V}, DqAll K H vs ds → DqAll K H vs.dropLast ds.dropLast
  | [], _, h => by cases h; exact .nil
  | [_], _, h => by
    cases h with
    | cons a b => cases b; exact .nil
  | _ :: _ :: _, _, h => by
    cases h with
    | cons a b =>
      cases b with
      | cons c d => exact .cons a (DqAll.dropLast (.cons c d))
theorem DqAll.take : ∀ {ds : List PyData} {vs : List V} (n : Nat), DqAll K H vs ds → DqAll K H (vs.take n) (ds.take n)
  | _, _, 0, _ => by simp; exact .nil
  | [], _, n + 1, h => by cases h; exact .nil
  | _ :: _, _, n + 1, h => by
    cases h with
    | cons a b => exact .cons a (DqAll.take n b)
theorem DqAll.drop : ∀ {ds : List PyData} {vs : List V} (n : Nat), DqAll K H vs ds → DqAll K H (vs.drop n) (ds.drop n)
  | _, _, 0, h => by simpa using h
  | [], _, n + 1, h => by cases h; exact .nil
  | _ :: _, _, n + 1, h => by
    cases h with
    | cons a b => exact DqAll.drop n b
theorem DqAll.reverse : ∀ {ds : List PyData} {vs : List V}, DqAll K H vs ds → DqAll K H vs.reverse ds.reverse
  | [], _, h => by cases h; exact .nil
  | _ :: _, _, h => by
    cases h with
    | cons a b => rw [List.reverse_cons, List.reverse_cons]; exact DqAll.app (DqAll.reverse b) (.cons a .nil)
theorem DqAll.ints : ∀ {ns : List Int} {vs : List V}, DqAll K H vs (ns.map PyData.int) → vs = ns.map V.int
  | [], _, h => by cases h; rfl
  | n :: ns, _, h => by
    cases h with
    | cons a b => cases a; rw [DqAll.ints b]; rfl
theorem DqAll.ofInts : ∀ (ns : List Int), DqAll K H (ns.map V.int) (ns.map PyData.int)
  | [] => .nil
  | n :: ns => .cons (.int n) (DqAll.ofInts ns)
theorem DqAll.bools : ∀ {ns : List Bool} {vs : List V}, DqAll K H vs (ns.map PyData.bool) → vs = ns.map V.bl
  | [], _, h => by cases h; rfl
  | n :: ns, _, h => by
    cases h with
    | cons a b => cases a; rw [DqAll.bools b]; rfl
theorem DqAll.strs : ∀ {ns : List Str} {vs : List V}, DqAll K H vs (ns.map PyData.str) → vs = ns.map V.str
  | [], _, h => by cases h; rfl
  | n :: ns, _, h => by
    cases h with
    | cons a b => cases a; rw [DqAll.strs b]; rfl
theorem DqAll.ofStrs : ∀ (ns : List Str), DqAll K H (ns.map V.str) (ns.map PyData.str)
  | [] => .nil
  | n :: ns => .cons (.str n) (DqAll.ofStrs ns)
end

/-! ### parts of a heap -/
/-- what a run may change -/
def Mo : Option HO → Prop
  | none => False
  | some (.tup _) => False
  | _ => True
open Classical in
noncomputable def less (H : Hp) (x : Addr → Prop) : Hp := fun a => if x a then none else H a
theorem less_some {H : Hp} {x : Addr → Prop} {a : Addr} {o : HO} : less H x a = some o ↔ ¬ x a ∧ H a = some o := by
  unfold less
  by_cases h : x a
  · simp [h]
  · simp [h]
theorem less_same {H : Hp} {x : Addr → Prop} : Same (less H x) H := fun a o e => (less_some.mp e).2
theorem same_less {H H' : Hp} {x y : Addr → Prop} (h : ∀ a o, ¬ x a → H a = some o → ¬ y a ∧ H' a = some o) : Same (less H x) (less H' y) := fun a o e =>
  less_some.mpr (h a o (less_some.mp e).1 (less_some.mp e).2)
theorem not_mo_tup {H : Hp} {a : Addr} {xs : List V} (h : H a = some (.tup xs)) : ¬ Mo (H a) := by
  rw [h]
  exact fun z => z

/-! only numbers, texts and tuples -/
mutual
def tupO : PyData → Bool
  | .tuple xs => tupOs xs
  | .list _ => false
  | .dict _ => false
  | _ => true
def tupOs : List PyData → Bool
  | [] => true
  | x :: xs => tupO x && tupOs xs
end
mutual
theorem Dq.tupO_less {K : Fg} {H H' : Hp} {x : Addr → Prop} (hx : ∀ a, x a → Mo (H a)) : ∀ (d : PyData) (v : V), tupO d = true → Dq K H v d → Dq K (less H x) v d
  | .none, _, _, h => by cases h; exact .non
  | .bool _, _, _, h => by cases h; exact .bl _
  | .int _, _, _, h => by cases h; exact .int _
  | .str _, _, _, h => by cases h; exact .str _
  | .list ds, _, t, h => by simp [tupO] at t
  | .tuple ds, _, t, h => by
    cases h with
    | tup a b =>
      simp only [tupO] at t
      exact .tup (a.mono fun a => less_some.mpr ⟨fun z => not_mo_tup a (hx _ z), a⟩) (DqAll.tupO_less (H' := H') hx ds _ t b)
  | .dict _, _, t, h => by simp [tupO] at t
theorem DqAll.tupO_less {K : Fg} {H H' : Hp} {x : Addr → Prop} (hx : ∀ a, x a → Mo (H a)) : ∀ (ds : List PyData) (vs : List V), tupOs ds = true → DqAll K H vs ds → DqAll K (less H x) vs ds
  | [], _, _, h => by cases h; exact .nil
  | d :: ds, _, t, h => by
    cases h with
    | cons a b =>
      simp only [tupOs, Bool.and_eq_true] at t
      exact .cons (Dq.tupO_less (H' := H') hx d _ t.1 a) (DqAll.tupO_less (H' := H') hx ds _ t.2 b)
end

/-! ### what a name holds -/
mutual
inductive OD where
  | lst (ds : List PyData)
  | dK (kvs : List (Key × PyData))
  | dT (kvs : List (List Key × PyData))
  | ab (I : Hp → Addr → List Addr → Prop)
  | ins (C : Addr) (fs : Fs)
/-- the attributes of an instance: data, or objects of its own -/
inductive Fs where
  | nil
  | sh (f : Str) (d : PyData) (r : Fs)
  | ow (f : Str) (o : OD) (r : Fs)
  | no (f : Str) (r : Fs)
end
inductive Sl where
  | no
  | sh (d : PyData)
  | ar (d : PyData)
  | ow (o : OD)
  | rf (o : OD)
  | ro (o : OD)
abbrev G := List Sl
def Sl.own? : Sl → Option OD
  | .ow o => some o
  | .rf o => some o
  | _ => none
def OD.isIns : OD → Bool
  | .ins _ _ => true
  | _ => false
def insO (o : OD) : Option OD := if o.isIns = true then some o else none
/-- the object that a name stands for, if it is an instance -/
def Sl.ins? : Sl → Option OD
  | .ow o => insO o
  | .rf o => insO o
  | .ro o => insO o
  | _ => none
/-- what an attribute's attribute .. holds -/
def PathV (H : Hp) : Addr → List Str → V → Prop
  | p, [], v => v = .ref p
  | p, f :: r, v => ∃ C dx vs u, H p = some (.ins C dx vs) ∧ vs.lookup f = some u ∧ ((r = [] ∧ v = u) ∨ (r ≠ [] ∧ ∃ q, u = .ref q ∧ PathV H q r v))
theorem PathV.mono {H H' : Hp} (e : ∀ a C dx vs, H a = some (.ins C dx vs) → H' a = some (.ins C dx vs)) : ∀ {path : List Str} {p : Addr} {v : V}, PathV H p path v → PathV H' p path v
  | [], _, _, h => h
  | _ :: _, _, _, ⟨C, dx, vs, u, h1, h2, h3⟩ => ⟨C, dx, vs, u, e _ _ _ _ h1, h2, h3.imp id fun ⟨n, q, h4, h5⟩ => ⟨n, q, h4, PathV.mono e h5⟩⟩
def Fs.getO : Fs → Str → Option OD
  | .nil, _ => none
  | .sh g _ r, f => if f = g then none else r.getO f
  | .ow g o r, f => if f = g then some o else r.getO f
  | .no g r, f => if f = g then none else r.getO f
def Fs.getD : Fs → Str → Option PyData
  | .nil, _ => none
  | .sh g d r, f => if f = g then some d else r.getD f
  | .ow g _ r, f => if f = g then none else r.getD f
  | .no g r, f => if f = g then none else r.getD f
def Fs.has : Fs → Str → Bool
  | .nil, _ => false
  | .sh g _ r, f => decide (f = g) || r.has f
  | .ow g _ r, f => decide (f = g) || r.has f
  | .no g r, f => decide (f = g) || r.has f
/-- what the text says of an instance's class -/
structure ClsI (K : Fg) (C : Addr) (fs : Fs) : Prop where
  cl : Cls K C
  na : ∀ f, fs.has f = true → NoAttr K C f
/-- an object of an object .. -/
def OD.at_ : OD → List Str → Option OD
  | o, [] => some o
  | .ins _ fs, f :: r => (fs.getO f).bind fun o => o.at_ r
  | _, _ => none
def Sl.there : Sl → Bool
  | .no => false
  | _ => true
inductive RV where
  | sh (d : PyData)
  | ar (d : PyData)
  | own (i : Nat)
  | fld (i : Nat) (path : List Str)
def notIns : Option HO → Prop
  | some (.ins _ _ _) => False
  | _ => True
/-- fixed objects are kept -/
def Tx (H H' : Hp) : Prop := ∀ a o, ¬ Mo (some o) → H a = some o → H' a = some o
def KvOk {κ : Type} (K : Fg) (S : Hp) (us : List (κ × V)) (kvs : List (κ × PyData)) : Prop := Paired (fun (p : κ × V) (q : κ × PyData) => p.1 = q.1 ∧ Dq K S p.2 q.2) us kvs
mutual
def OwnO (K : Fg) (S H : Hp) : OD → Addr → List Addr → Prop
  | .lst ds, p, F => F = [p] ∧ ∃ vs, H p = some (.lst vs) ∧ DqAll K S vs ds
  | .dK kvs, p, F => F = [p] ∧ ∃ us, H p = some (.dK us) ∧ KvOk K S us kvs
  | .dT kvs, p, F => F = [p] ∧ ∃ us, H p = some (.dT us) ∧ KvOk K S us kvs
  | .ab I, p, F => p ∈ F ∧ I H p F ∧ (∀ H', (∀ a ∈ F, H' a = H a) → Tx H H' → I H' p F) ∧ ∀ a ∈ F, Mo (H a) ∧ notIns (H a)
  | .ins C fs, p, F => ∃ dx vs qs, F = p :: dx :: qs ∧ F.Nodup ∧ H p = some (.ins C dx vs) ∧ H dx = some (.own p) ∧ FsOk K S H fs vs qs ∧ ClsI K C fs
def FsOk (K : Fg) (S H : Hp) : Fs → List (Str × V) → List Addr → Prop
  | .nil, vs, qs => vs = [] ∧ qs = []
  | .sh f d r, vs, qs => ∃ v vs', vs = (f, v) :: vs' ∧ Dq K S v d ∧ FsOk K S H r vs' qs
  | .ow f o r, vs, qs => ∃ p vs' q1 q2, vs = (f, .ref p) :: vs' ∧ qs = q1 ++ q2 ∧ OwnO K S H o p q1 ∧ FsOk K S H r vs' q2
  | .no f r, vs, qs => ∃ v vs', vs = (f, v) :: vs' ∧ FsOk K S H r vs' qs
end
def OwnOk (K : Fg) (S H : Hp) (p : Addr) (F : List Addr) : OD → Prop
  | .lst ds => F = [p] ∧ ∃ vs, H p = some (.lst vs) ∧ DqAll K S vs ds
  | .dK kvs => F = [p] ∧ ∃ us, H p = some (.dK us) ∧ KvOk K S us kvs
  | .dT kvs => F = [p] ∧ ∃ us, H p = some (.dT us) ∧ KvOk K S us kvs
  | .ab I => p ∈ F ∧ I H p F ∧ (∀ H', (∀ a ∈ F, H' a = H a) → Tx H H' → I H' p F) ∧ ∀ a ∈ F, Mo (H a) ∧ notIns (H a)
  | .ins C fs => ∃ dx vs qs, F = p :: dx :: qs ∧ F.Nodup ∧ H p = some (.ins C dx vs) ∧ H dx = some (.own p) ∧ FsOk K S H fs vs qs ∧ ClsI K C fs
theorem ownO_ok {K : Fg} {S H : Hp} {p : Addr} {F : List Addr} {o : OD} : OwnO K S H o p F ↔ OwnOk K S H p F o := by
  cases o <;> simp only [OwnO, OwnOk]

theorem kvOk_dq {K : Fg} {S : Hp} : ∀ {us : List (Key × V)} {kvs : List (Key × PyData)}, KvOk K S us kvs → DqKv K S us (kvs.map fun p => (kD p.1, p.2))
  | _, _, .nil => .nil
  | (k, v) :: _, (k', d) :: _, .cons ⟨e, a⟩ b => by
    cases e
    exact .cons rfl a (kvOk_dq b)
theorem DqAll.map {K : Fg} {S S' : Hp} (hs : ∀ v d, Dq K S v d → Dq K S' v d) : ∀ {vs : List V} {ds : List PyData}, DqAll K S vs ds → DqAll K S' vs ds
  | _, _, .nil => .nil
  | _, _, .cons a b => .cons (hs _ _ a) (DqAll.map hs b)
mutual
theorem OwnO.keepD {K : Fg} {S S' H H' : Hp} (hs : ∀ v d, Dq K S v d → Dq K S' v d) (ht : Tx H H') : ∀ {o : OD} {p : Addr} {f : List Addr}, OwnO K S H o p f → (∀ a ∈ f, H' a = H a) → OwnO K S' H' o p f
  | .lst ds, p, f, h, hk => by
    simp only [OwnO] at h ⊢
    obtain ⟨e, vs, h1, h2⟩ := h
    subst e
    exact ⟨rfl, vs, by rw [hk p (by simp)]; exact h1, DqAll.map hs h2⟩
  | .dK kvs, p, f, h, hk => by
    simp only [OwnO] at h ⊢
    obtain ⟨e, vs, h1, h2⟩ := h
    subst e
    exact ⟨rfl, vs, by rw [hk p (by simp)]; exact h1, Paired.mapP h2 fun _ _ z => ⟨z.1, hs _ _ z.2⟩⟩
  | .dT kvs, p, f, h, hk => by
    simp only [OwnO] at h ⊢
    obtain ⟨e, vs, h1, h2⟩ := h
    subst e
    exact ⟨rfl, vs, by rw [hk p (by simp)]; exact h1, Paired.mapP h2 fun _ _ z => ⟨z.1, hs _ _ z.2⟩⟩
  | .ab I, p, f, h, hk => by
    simp only [OwnO] at h ⊢
    obtain ⟨e, h1, h2, h3⟩ := h
    exact ⟨e, h2 H' hk ht, (fun H'' hk' ht' => h2 H'' (fun a ha => (hk' a ha).trans (hk a ha)) fun a o nm q => ht' a o nm (ht a o nm q)), fun a ha => by rw [hk a ha]; exact h3 a ha⟩
  | .ins C fs, p, f, h, hk => by
    simp only [OwnO] at h ⊢
    obtain ⟨dx, vs, qs, e, nd, h1, h2, h3, h4⟩ := h
    subst e
    exact ⟨dx, vs, qs, rfl, nd, by rw [hk p (by simp)]; exact h1, by rw [hk dx (by simp)]; exact h2, FsOk.keepD hs ht h3 fun a ha => hk a (by simp [ha]), h4⟩
theorem FsOk.keepD {K : Fg} {S S' H H' : Hp} (hs : ∀ v d, Dq K S v d → Dq K S' v d) (ht : Tx H H') : ∀ {fs : Fs} {vs : List (Str × V)} {f : List Addr}, FsOk K S H fs vs f → (∀ a ∈ f, H' a = H a) → FsOk K S' H' fs vs f
  | .nil, vs, f, h, hk => by simp only [FsOk] at h ⊢; exact h
  | .sh g d r, vs, f, h, hk => by
    simp only [FsOk] at h ⊢
    obtain ⟨v, vs', e, h1, h2⟩ := h
    exact ⟨v, vs', e, hs _ _ h1, FsOk.keepD hs ht h2 hk⟩
  | .ow g o r, vs, f, h, hk => by
    simp only [FsOk] at h ⊢
    obtain ⟨p, vs', q1, q2, e, e2, h1, h2⟩ := h
    subst e2
    exact ⟨p, vs', q1, q2, e, rfl, OwnO.keepD hs ht h1 fun a ha => hk a (by simp [ha]), FsOk.keepD hs ht h2 fun a ha => hk a (by simp [ha])⟩
  | .no g r, vs, f, h, hk => by
    simp only [FsOk] at h ⊢
    obtain ⟨v, vs', e, h2⟩ := h
    exact ⟨v, vs', e, FsOk.keepD hs ht h2 hk⟩
end
theorem OwnO.keep {K : Fg} {S S' H H' : Hp} (hs : Same S S') (ht : Tx H H') {o : OD} {p : Addr} {f : List Addr} (h : OwnO K S H o p f) (hk : ∀ a ∈ f, H' a = H a) : OwnO K S' H' o p f := OwnO.keepD (fun _ _ z => z.same hs) ht h hk
theorem FsOk.keep {K : Fg} {S S' H H' : Hp} (hs : Same S S') (ht : Tx H H') {fs : Fs} {vs : List (Str × V)} {f : List Addr} (h : FsOk K S H fs vs f) (hk : ∀ a ∈ f, H' a = H a) : FsOk K S' H' fs vs f := FsOk.keepD (fun _ _ z => z.same hs) ht h hk
mutual
theorem OwnO.mo {K : Fg} {S H : Hp} : ∀ {o : OD} {p : Addr} {f : List Addr}, OwnO K S H o p f → ∀ a ∈ f, Mo (H a)
  | .lst ds, p, f, h => by
    simp only [OwnO] at h
    obtain ⟨rfl, vs, h1, h2⟩ := h
    intro a ha
    rw [List.mem_singleton] at ha
    rw [ha, h1]
    trivial
  | .dK ds, p, f, h => by
    simp only [OwnO] at h
    obtain ⟨rfl, vs, h1, h2⟩ := h
    intro a ha
    rw [List.mem_singleton] at ha
    rw [ha, h1]
    trivial
  | .dT ds, p, f, h => by
    simp only [OwnO] at h
    obtain ⟨rfl, vs, h1, h2⟩ := h
    intro a ha
    rw [List.mem_singleton] at ha
    rw [ha, h1]
    trivial
  | .ab I, p, f, h => by
    simp only [OwnO] at h
    exact fun a ha => (h.2.2.2 a ha).1
  | .ins C fs, p, f, h => by
    simp only [OwnO] at h
    obtain ⟨dx, vs, qs, rfl, nd, h1, h2, h3, _⟩ := h
    intro a ha
    rcases List.mem_cons.mp ha with rfl | ha
    · rw [h1]; trivial
    · rcases List.mem_cons.mp ha with rfl | ha
      · rw [h2]; trivial
      · exact FsOk.mo h3 a ha
theorem FsOk.mo {K : Fg} {S H : Hp} : ∀ {fs : Fs} {vs : List (Str × V)} {f : List Addr}, FsOk K S H fs vs f → ∀ a ∈ f, Mo (H a)
  | .nil, vs, f, h => by
    simp only [FsOk] at h
    rw [h.2]
    exact fun a ha => nomatch ha
  | .sh g d r, vs, f, h => by
    simp only [FsOk] at h
    obtain ⟨v, vs', _, _, h2⟩ := h
    exact FsOk.mo h2
  | .ow g o r, vs, f, h => by
    simp only [FsOk] at h
    obtain ⟨p, vs', q1, q2, _, rfl, h1, h2⟩ := h
    intro a ha
    rcases List.mem_append.mp ha with ha | ha
    · exact OwnO.mo h1 a ha
    · exact FsOk.mo h2 a ha
  | .no g r, vs, f, h => by
    simp only [FsOk] at h
    obtain ⟨v, vs', _, h2⟩ := h
    exact FsOk.mo h2
end
theorem OwnO.notIns {K : Fg} {S H : Hp} {o : OD} {p : Addr} {f : List Addr} (h : OwnO K S H o p f) (n : o.isIns = false) : ∀ a ∈ f, notIns (H a) := by
  cases o with
  | lst ds =>
    simp only [OwnO] at h
    obtain ⟨rfl, vs, h1, h2⟩ := h
    intro a ha
    rw [List.mem_singleton] at ha
    rw [ha, h1]
    trivial
  | dK ds =>
    simp only [OwnO] at h
    obtain ⟨rfl, vs, h1, h2⟩ := h
    intro a ha
    rw [List.mem_singleton] at ha
    rw [ha, h1]
    trivial
  | dT ds =>
    simp only [OwnO] at h
    obtain ⟨rfl, vs, h1, h2⟩ := h
    intro a ha
    rw [List.mem_singleton] at ha
    rw [ha, h1]
    trivial
  | ab I =>
    simp only [OwnO] at h
    exact fun a ha => (h.2.2.2 a ha).2
  | ins C fs => cases n
theorem FsOk.getO {K : Fg} {S H : Hp} {f : Str} {o : OD} {u : V} : ∀ {fs : Fs} {vs : List (Str × V)} {qs : List Addr}, FsOk K S H fs vs qs → fs.getO f = some o → vs.lookup f = some u → ∃ p q1, u = .ref p ∧ (∀ a ∈ q1, a ∈ qs) ∧ OwnO K S H o p q1
  | .nil, _, _, _, e, _ => by simp [Fs.getO] at e
  | .sh g d r, _, _, h, e, l => by
    simp only [FsOk] at h
    obtain ⟨v, vs', rfl, h1, h2⟩ := h
    by_cases z : f = g
    · simp [Fs.getO, z] at e
    · simp only [Fs.getO, if_neg z] at e
      rw [List.lookup_cons, beq_false_of_ne z] at l
      exact FsOk.getO h2 e l
  | .ow g o' r, _, _, h, e, l => by
    simp only [FsOk] at h
    obtain ⟨p, vs', q1, q2, rfl, rfl, h1, h2⟩ := h
    by_cases z : f = g
    · subst z
      simp only [Fs.getO, if_true] at e
      rw [List.lookup_cons, beq_self_eq_true] at l
      cases e
      cases l
      exact ⟨p, q1, rfl, fun a ha => by simp [ha], h1⟩
    · simp only [Fs.getO, if_neg z] at e
      rw [List.lookup_cons, beq_false_of_ne z] at l
      obtain ⟨p', q', a1, a2, a3⟩ := FsOk.getO h2 e l
      exact ⟨p', q', a1, fun a ha => by simp [a2 a ha], a3⟩
  | .no g r, _, _, h, e, l => by
    simp only [FsOk] at h
    obtain ⟨v, vs', rfl, h2⟩ := h
    by_cases z : f = g
    · simp [Fs.getO, z] at e
    · simp only [Fs.getO, if_neg z] at e
      rw [List.lookup_cons, beq_false_of_ne z] at l
      exact FsOk.getO h2 e l
theorem FsOk.lookO {K : Fg} {S H : Hp} {f : Str} {o : OD} : ∀ {fs : Fs} {vs : List (Str × V)} {qs : List Addr}, FsOk K S H fs vs qs → fs.getO f = some o → ∃ p, vs.lookup f = some (.ref p)
  | .nil, _, _, _, e => by simp [Fs.getO] at e
  | .sh g d r, _, _, h, e => by
    simp only [FsOk] at h
    obtain ⟨v, vs', rfl, h1, h2⟩ := h
    by_cases z : f = g
    · simp [Fs.getO, z] at e
    · simp only [Fs.getO, if_neg z] at e
      rw [List.lookup_cons, beq_false_of_ne z]
      exact FsOk.lookO h2 e
  | .ow g o' r, _, _, h, e => by
    simp only [FsOk] at h
    obtain ⟨p, vs', q1, q2, rfl, rfl, h1, h2⟩ := h
    by_cases z : f = g
    · subst z
      rw [List.lookup_cons, beq_self_eq_true]
      exact ⟨p, rfl⟩
    · simp only [Fs.getO, if_neg z] at e
      rw [List.lookup_cons, beq_false_of_ne z]
      exact FsOk.lookO h2 e
  | .no g r, _, _, h, e => by
    simp only [FsOk] at h
    obtain ⟨v, vs', rfl, h2⟩ := h
    by_cases z : f = g
    · simp [Fs.getO, z] at e
    · simp only [Fs.getO, if_neg z] at e
      rw [List.lookup_cons, beq_false_of_ne z]
      exact FsOk.lookO h2 e
theorem FsOk.getD {K : Fg} {S H : Hp} {f : Str} {d : PyData} : ∀ {fs : Fs} {vs : List (Str × V)} {qs : List Addr}, FsOk K S H fs vs qs → fs.getD f = some d → ∃ u, vs.lookup f = some u ∧ Dq K S u d
  | .nil, _, _, _, e => by simp [Fs.getD] at e
  | .sh g d' r, _, _, h, e => by
    simp only [FsOk] at h
    obtain ⟨v, vs', rfl, h1, h2⟩ := h
    by_cases z : f = g
    · subst z
      simp only [Fs.getD, if_true] at e
      cases e
      rw [List.lookup_cons, beq_self_eq_true]
      exact ⟨v, rfl, h1⟩
    · simp only [Fs.getD, if_neg z] at e
      rw [List.lookup_cons, beq_false_of_ne z]
      exact FsOk.getD h2 e
  | .ow g o' r, _, _, h, e => by
    simp only [FsOk] at h
    obtain ⟨p, vs', q1, q2, rfl, rfl, h1, h2⟩ := h
    by_cases z : f = g
    · simp [Fs.getD, z] at e
    · simp only [Fs.getD, if_neg z] at e
      rw [List.lookup_cons, beq_false_of_ne z]
      exact FsOk.getD h2 e
  | .no g r, _, _, h, e => by
    simp only [FsOk] at h
    obtain ⟨v, vs', rfl, h2⟩ := h
    by_cases z : f = g
    · simp [Fs.getD, z] at e
    · simp only [Fs.getD, if_neg z] at e
      rw [List.lookup_cons, beq_false_of_ne z]
      exact FsOk.getD h2 e
/-- along a path -/
theorem OwnO.path {K : Fg} {S H : Hp} {o' : OD} {v : V} : ∀ {path : List Str} {o : OD} {p : Addr} {F : List Addr}, OwnO K S H o p F → o.at_ path = some o' → PathV H p path v → ∃ q F', v = .ref q ∧ (∀ a ∈ F', a ∈ F) ∧ OwnO K S H o' q F'
  | [], o, p, F, h, e, z => by
    simp only [OD.at_] at e
    cases e
    exact ⟨p, F, z, fun a ha => ha, h⟩
  | f :: r, .ins C fs, p, F, h, e, z => by
    simp only [OD.at_] at e
    obtain ⟨o1, e1, e2⟩ := Option.bind_eq_some_iff.mp e
    simp only [OwnO] at h
    obtain ⟨dx, vs, qs, eF, nd, h1, h2, h3, _⟩ := h
    obtain ⟨C', dx', vs', u, g1, g2, g3⟩ := z
    rw [h1] at g1
    cases g1
    obtain ⟨q, F1, rfl, hF, hO⟩ := FsOk.getO h3 e1 g2
    have sub : ∀ a ∈ F1, a ∈ F := fun a ha => by rw [eF]; simp [hF a ha]
    rcases g3 with ⟨rfl, rfl⟩ | ⟨_, q', g4, g5⟩
    · simp only [OD.at_] at e2
      cases e2
      exact ⟨q, F1, rfl, sub, hO⟩
    · cases g4
      obtain ⟨q2, F2, a1, a2, a3⟩ := OwnO.path hO e2 g5
      exact ⟨q2, F2, a1, fun a ha => sub a (a2 a ha), a3⟩
  | _ :: _, .lst _, _, _, _, e, _ => by simp [OD.at_] at e
  | _ :: _, .dK _, _, _, _, e, _ => by simp [OD.at_] at e
  | _ :: _, .dT _, _, _, _, e, _ => by simp [OD.at_] at e
  | _ :: _, .ab _, _, _, _, e, _ => by simp [OD.at_] at e
/-- the surroundings of a def's run: the heap at its start, what it may change (by-reference arguments), where these stand -/
structure Fx (K : Fg) where
  H0 : Hp
  rf : Addr → Prop
  rp : Nat → Option (Addr × List Addr)
  ex : Addr → Prop := fun a => Mo (H0 a)
  xm : ∀ a, ex a → Mo (H0 a) := by exact fun _ z => z
  rm : ∀ a, rf a → Mo (H0 a) := by exact fun _ z => z.elim
theorem Fx.exn {K : Fg} (F : Fx K) {a : Addr} (h : F.ex a) (z : F.H0 a = none) : False := by
  have m := F.xm a h
  rw [z] at m
  exact m
/-- ours, or another's -/
def Ex {K : Fg} (F : Fx K) (O : Addr → Prop) : Addr → Prop := fun a => F.ex a ∨ O a
/-- what stands shared at the start -/
noncomputable abbrev Fx.S0 {K : Fg} (F : Fx K) : Hp := less F.H0 fun a => F.ex a ∨ F.rf a
/-- the world of a moment: the objects that are ours, each name's objects, the heap -/
structure Wd where
  O : Addr → Prop
  ft : Nat → List Addr
  H : Hp
noncomputable abbrev Wd.S {K : Fg} (W : Wd) (F : Fx K) : Hp := less W.H (Ex F W.O)
def SlotOk {K : Fg} (F : Fx K) (W : Wd) (i : Nat) (x : Option (Option V)) : Sl → Prop
  | .no => True
  | .sh d => ∃ v, x = some (some v) ∧ Dq K (W.S F) v d
  | .ar d => ∃ v, x = some (some v) ∧ Dq K (less F.H0 F.rf) v d
  | .ow o => ∃ p, x = some (some (.ref p)) ∧ (∀ a ∈ W.ft i, W.O a ∧ ¬ F.rf a) ∧ OwnOk K (W.S F) W.H p (W.ft i) o
  | .rf o => ∃ p, (∃ f, F.rp i = some (p, f) ∧ (o.isIns = false → f = W.ft i)) ∧ x = some (some (.ref p)) ∧ (∀ a ∈ W.ft i, W.O a) ∧ OwnOk K (W.S F) W.H p (W.ft i) o
  | .ro o => ∃ p f, x = some (some (.ref p)) ∧ (∀ a ∈ f, ¬ F.rf a ∧ F.ex a) ∧ o.isIns = true ∧ OwnOk K F.S0 F.H0 p f o
structure Rel {K : Fg} (F : Fx K) (W : Wd) (σ : L2.St) (Γ : G) : Prop where
  base : ∀ a o, F.H0 a = some o → ¬ F.rf a → W.H a = some o
  new : ∀ a, W.O a → F.H0 a = none ∨ F.rf a
  mu : ∀ a, W.O a → Mo (W.H a)
  rfo : ∀ a, F.rf a → W.O a
  len : σ.length = Γ.length
  slot : ∀ (i : Nat) (s : Sl), Γ[i]? = some s → SlotOk F W i σ[i]? s
  dis : ∀ (i j : Nat) (s t : Sl) (oi oj : OD) (a : Addr), i ≠ j → Γ[i]? = some s → Γ[j]? = some t → s.own? = some oi → t.own? = some oj → a ∈ W.ft i → a ∉ W.ft j
def VOk {K : Fg} (F : Fx K) (W : Wd) (σ : L2.St) (Γ : G) (v : V) : RV → Prop
  | .sh d => Dq K (W.S F) v d
  | .ar d => Dq K (less F.H0 F.rf) v d
  | .own i => ∃ s, Γ[i]? = some s ∧ s.there = true ∧ σ[i]? = some (some v)
  | .fld i path => ∃ s p o, Γ[i]? = some s ∧ s.ins? = some o ∧ σ[i]? = some (some (.ref p)) ∧ PathV W.H p path v
/-- ours, but no name's -/
def Tm (W : Wd) (Γ : G) (p : Addr) : Prop := W.O p ∧ ∀ (j : Nat) (s : Sl) (o : OD), Γ[j]? = some s → s.own? = some o → p ∉ W.ft j
/-- what a run leaves as it was -/
structure Kq {K : Fg} (F : Fx K) (W : Wd) (Γ : G) (W' : Wd) (Γ' : G) : Prop where
  sh : Same (W.S F) (W'.S F)
  tmp : ∀ p, Tm W Γ p → Tm W' Γ' p ∧ W'.H p = W.H p
def InsK (H H' : Hp) : Prop := ∀ a C dx vs, H a = some (.ins C dx vs) → H' a = some (.ins C dx vs)
theorem InsK.refl (H : Hp) : InsK H H := fun _ _ _ _ e => e
theorem InsK.trans {H H1 H2 : Hp} (a : InsK H H1) (b : InsK H1 H2) : InsK H H2 := fun x C d v e => b x C d v (a x C d v e)
theorem InsK.same {H H1 : Hp} (a : Same H H1) : InsK H H1 := fun x C d v e => a _ _ e
theorem InsK.upd {H : Hp} {p : Addr} {ho : HO} (n : notIns (H p)) : InsK H (upd H p ho) := fun x C d v e => by
  rw [upd_ne]
  · exact e
  · intro z
    subst z
    rw [e] at n
    exact n.elim
/-- .. and the instances, too -/
structure Kp {K : Fg} (F : Fx K) (W : Wd) (Γ : G) (W' : Wd) (Γ' : G) : Prop extends Kq F W Γ W' Γ' where
  obj : InsK W.H W'.H
def Kx (s s' : Sl) : Prop := (s.there = true → s'.there = true) ∧ (s.own? = none → s' = s) ∧ (∀ o, s = .rf o → ∃ o', s' = .rf o')
def Kn (s s' : Sl) : Prop := (s.there = true → s'.there = true) ∧ (s.own? = none → s' = s) ∧ (∀ o, s = .rf o → ∃ o', s' = .rf o') ∧ (∀ o, s.ins? = some o → s' = s)
theorem Kn.refl (s : Sl) : Kn s s := ⟨fun z => z, fun _ => rfl, fun o z => ⟨o, z⟩, fun _ _ => rfl⟩
theorem Kn.trans {s s1 s2 : Sl} (a : Kn s s1) (b : Kn s1 s2) : Kn s s2 := ⟨fun z => b.1 (a.1 z), fun q => by
  have z := a.2.1 q
  subst z
  exact b.2.1 q, fun o q => by
  obtain ⟨o1, q1⟩ := a.2.2.1 o q
  exact b.2.2.1 o1 q1, fun o q => by
  have z := a.2.2.2 o q
  subst z
  exact b.2.2.2 o q⟩
structure Stp {K : Fg} (F : Fx K) (W : Wd) (Γ : G) (W' : Wd) (Γ' : G) : Prop extends Kp F W Γ W' Γ' where
  kin : ∀ (i : Nat) (s : Sl), Γ[i]? = some s → ∃ s' : Sl, Γ'[i]? = some s' ∧ Kn s s'
  len : Γ'.length = Γ.length
theorem Kp.refl {K : Fg} (F : Fx K) (W : Wd) (Γ : G) : Kp F W Γ W Γ := ⟨⟨Same.refl _, fun p h => ⟨h, rfl⟩⟩, InsK.refl _⟩
theorem Kq.trans {K : Fg} {F : Fx K} {W W1 W2 : Wd} {Γ Γ1 Γ2 : G} (a : Kq F W Γ W1 Γ1) (b : Kq F W1 Γ1 W2 Γ2) : Kq F W Γ W2 Γ2 :=
  ⟨a.sh.trans b.sh, fun p h => ⟨(b.tmp p (a.tmp p h).1).1, (b.tmp p (a.tmp p h).1).2.trans (a.tmp p h).2⟩⟩
theorem Kp.trans {K : Fg} {F : Fx K} {W W1 W2 : Wd} {Γ Γ1 Γ2 : G} (a : Kp F W Γ W1 Γ1) (b : Kp F W1 Γ1 W2 Γ2) : Kp F W Γ W2 Γ2 := ⟨a.toKq.trans b.toKq, a.obj.trans b.obj⟩
theorem Stp.refl {K : Fg} (F : Fx K) (W : Wd) (Γ : G) : Stp F W Γ W Γ := ⟨Kp.refl F W Γ, fun i s h => ⟨s, h, Kn.refl s⟩, rfl⟩
theorem Stp.trans {K : Fg} {F : Fx K} {W W1 W2 : Wd} {Γ Γ1 Γ2 : G} (a : Stp F W Γ W1 Γ1) (b : Stp F W1 Γ1 W2 Γ2) : Stp F W Γ W2 Γ2 :=
  ⟨a.toKp.trans b.toKp, fun i s h => by
    obtain ⟨s1, h1, k1⟩ := a.kin i s h
    obtain ⟨s2, h2, k2⟩ := b.kin i s1 h1
    exact ⟨s2, h2, k1.trans k2⟩, b.len.trans a.len⟩
theorem VOk.stp {K : Fg} {F : Fx K} {W W' : Wd} {σ : L2.St} {Γ Γ' : G} {v : V} {rv : RV} (a : Stp F W Γ W' Γ') (h : VOk F W σ Γ v rv) : VOk F W' σ Γ' v rv := by
  cases rv with
  | sh d => exact Dq.same a.sh h
  | ar d => exact h
  | own i =>
    obtain ⟨s, h1, h2, h3⟩ := h
    obtain ⟨s', g1, g2, _⟩ := a.kin i s h1
    exact ⟨s', g1, g2 h2, h3⟩
  | fld i path =>
    obtain ⟨s, p, o, h1, h2, h3, h4⟩ := h
    obtain ⟨s', g1, _, _, _, g2⟩ := a.kin i s h1
    cases g2 o h2
    exact ⟨s, p, o, g1, h2, h3, h4.mono a.obj⟩
/-- a list or dict of one's own, read as data -/
def odD : OD → Option PyData
  | .lst ds => some (.list ds)
  | .dK kvs => some (.dict (kvs.map fun p => (kD p.1, p.2)))
  | _ => none
def dat (Γ : G) : RV → Option PyData
  | .sh d => some d
  | .ar d => some d
  | .own i => match Γ[i]? with
    | some (.ow (.lst ds)) => some (.list ds)
    | some (.rf (.lst ds)) => some (.list ds)
    | some (.ow (.dK kvs)) => some (.dict (kvs.map fun p => (kD p.1, p.2)))
    | some (.rf (.dK kvs)) => some (.dict (kvs.map fun p => (kD p.1, p.2)))
    | some (.sh d) => some d
    | some (.ar d) => some d
    | _ => none
  | .fld i path => match Γ[i]? with
    | some s => s.ins?.bind fun o => (o.at_ path).bind odD
    | _ => none
theorem Rel.S_same {K : Fg} {F : Fx K} {W : Wd} : Same (W.S F) W.H := less_same
theorem Rel.ar_same {K : Fg} {F : Fx K} {W : Wd} {σ : L2.St} {Γ : G} (R : Rel F W σ Γ) : Same (less F.H0 F.rf) W.H := fun a o e => R.base a o (less_some.mp e).2 (less_some.mp e).1
theorem Rel.S0_same {K : Fg} {F : Fx K} {W : Wd} {σ : L2.St} {Γ : G} (R : Rel F W σ Γ) : Same F.S0 (W.S F) := fun a o e => by
  obtain ⟨n, q⟩ := less_some.mp e
  have nr : ¬ F.rf a := fun z => n (.inr z)
  refine less_some.mpr ⟨fun z => ?_, R.base a o q nr⟩
  rcases z with z | z
  · exact n (.inl z)
  · rcases R.new a z with y | y
    · rw [q] at y; cases y
    · exact nr y
theorem Rel.tx0 {K : Fg} {F : Fx K} {W : Wd} {σ : L2.St} {Γ : G} (R : Rel F W σ Γ) : Tx F.H0 W.H := fun a o nm e => R.base a o e fun z => by
  have m := F.rm a z
  rw [e] at m
  exact nm m
theorem insO_eq {o o' : OD} (h : insO o = some o') : o' = o ∧ o.isIns = true := by
  unfold insO at h
  split at h
  · rename_i z
    cases h
    exact ⟨rfl, z⟩
  · cases h
/-- an instance's own, as it stands now -/
theorem Rel.insOkX {K : Fg} {F : Fx K} {W : Wd} {σ : L2.St} {Γ : G} (R : Rel F W σ Γ) {i : Nat} {s : Sl} {o : OD} (h : Γ[i]? = some s) (g : s.ins? = some o) : ∃ p f, σ[i]? = some (some (.ref p)) ∧ OwnO K (W.S F) W.H o p f ∧ (∀ a ∈ f, W.O a → a ∈ W.ft i ∧ s.own? = some o) ∧ ∀ a ∈ f, Ex F W.O a := by
  have q := R.slot i s h
  cases s with
  | no => cases g
  | sh _ => cases g
  | ar _ => cases g
  | ow o' =>
    cases (insO_eq g).1
    obtain ⟨p, e1, e2, e3⟩ := q
    exact ⟨p, _, e1, ownO_ok.mpr e3, fun a ha _ => ⟨ha, rfl⟩, fun a ha => .inr (e2 a ha).1⟩
  | rf o' =>
    cases (insO_eq g).1
    obtain ⟨p, _, e1, e2, e3⟩ := q
    exact ⟨p, _, e1, ownO_ok.mpr e3, fun a ha _ => ⟨ha, rfl⟩, fun a ha => .inr (e2 a ha)⟩
  | ro o' =>
    cases (insO_eq g).1
    obtain ⟨p, f, e1, e2, _, e3⟩ := q
    refine ⟨p, f, e1, OwnO.keep R.S0_same R.tx0 (ownO_ok.mpr e3) fun a ha => ?_, fun a ha ho => ?_, fun a ha => .inl (e2 a ha).2⟩
    · cases z : F.H0 a with
      | none => exact (F.exn (e2 a ha).2 z).elim
      | some u => exact R.base a u z (e2 a ha).1
    · rcases R.new a ho with z | z
      · exact (F.exn (e2 a ha).2 z).elim
      · exact ((e2 a ha).1 z).elim
theorem Rel.insOk {K : Fg} {F : Fx K} {W : Wd} {σ : L2.St} {Γ : G} (R : Rel F W σ Γ) {i : Nat} {s : Sl} {o : OD} (h : Γ[i]? = some s) (g : s.ins? = some o) : ∃ p f, σ[i]? = some (some (.ref p)) ∧ OwnO K (W.S F) W.H o p f ∧ ∀ a ∈ f, W.O a → a ∈ W.ft i ∧ s.own? = some o := by
  obtain ⟨p, f, a, b, c, _⟩ := R.insOkX h g
  exact ⟨p, f, a, b, c⟩
theorem odD_ok {K : Fg} {S H : Hp} {o : OD} {d : PyData} {p : Addr} {f : List Addr} (h : OwnO K S H o p f) (hs : Same S H) (e : odD o = some d) : Dq K H (.ref p) d := by
  cases o with
  | lst ds =>
    cases e
    simp only [OwnO] at h
    obtain ⟨_, vs, h1, h2⟩ := h
    exact .lst h1 (h2.same hs)
  | dK kvs =>
    cases e
    simp only [OwnO] at h
    obtain ⟨_, vs, h1, h2⟩ := h
    exact .dct (.inl h1) ((kvOk_dq h2).same hs)
  | _ => cases e
theorem VOk.full {K : Fg} {F : Fx K} {W : Wd} {σ : L2.St} {Γ : G} {v : V} {rv : RV} {d : PyData} (R : Rel F W σ Γ) (h : VOk F W σ Γ v rv) (e : dat Γ rv = some d) : Dq K W.H v d := by
  cases rv with
  | sh d' => cases e; exact Dq.same Rel.S_same h
  | ar d' => cases e; exact Dq.same R.ar_same h
  | own i =>
    obtain ⟨s, h1, h2, h3⟩ := h
    have q := R.slot i s h1
    simp only [dat, h1] at e
    cases s with
    | no => cases h2
    | sh d' =>
      cases e
      obtain ⟨v', e1, e2⟩ := q
      rw [h3] at e1
      cases e1
      exact Dq.same Rel.S_same e2
    | ar d' =>
      cases e
      obtain ⟨v', e1, e2⟩ := q
      rw [h3] at e1
      cases e1
      exact Dq.same R.ar_same e2
    | ow o' =>
      cases o' with
      | lst ds =>
        cases e
        obtain ⟨p, e1, _, _, vs, e2, e3⟩ := q
        rw [h3] at e1
        cases e1
        exact .lst e2 (DqAll.same Rel.S_same e3)
      | dK kvs =>
        cases e
        obtain ⟨p, e1, _, _, vs, e2, e3⟩ := q
        rw [h3] at e1
        cases e1
        exact .dct (.inl e2) (DqKv.same Rel.S_same (kvOk_dq e3))
      | dT _ => cases e
      | ab _ => cases e
      | ins _ _ => cases e
    | rf o' =>
      cases o' with
      | lst ds =>
        cases e
        obtain ⟨p, _, e1, _, _, vs, e2, e3⟩ := q
        rw [h3] at e1
        cases e1
        exact .lst e2 (DqAll.same Rel.S_same e3)
      | dK kvs =>
        cases e
        obtain ⟨p, _, e1, _, _, vs, e2, e3⟩ := q
        rw [h3] at e1
        cases e1
        exact .dct (.inl e2) (DqKv.same Rel.S_same (kvOk_dq e3))
      | dT _ => cases e
      | ab _ => cases e
      | ins _ _ => cases e
    | ro o' => cases e
  | fld i path =>
    obtain ⟨s, p, o, h1, h2, h3, h4⟩ := h
    simp only [dat, h1, h2, Option.bind_some] at e
    obtain ⟨o', e1, e2⟩ := Option.bind_eq_some_iff.mp e
    obtain ⟨p', f, g1, g2, _⟩ := R.insOk h1 h2
    rw [h3] at g1
    cases g1
    obtain ⟨q, F', rfl, _, hO⟩ := g2.path e1 h4
    exact odD_ok hO Rel.S_same e2
end Dk

namespace Dk
open PySem PySem.Spec PyProof.Rows L2
section
variable {K : Fg} {F : Fx K} {W : Wd} {σ : L2.St} {Γ : G}
theorem mo_some {x : Option HO} (h : Mo x) : ∃ o, x = some o := by
  cases x with
  | none => exact h.elim
  | some o => exact ⟨o, rfl⟩
theorem Rel.exmo (R : Rel F W σ Γ) {a : Addr} (h : Ex F W.O a) : Mo (W.H a) := by
  by_cases ho : W.O a
  · exact R.mu a ho
  · rcases h with h | h
    · have h := F.xm a h
      obtain ⟨o, e⟩ := mo_some h
      have nr : ¬ F.rf a := fun z => ho (R.rfo a z)
      rw [R.base a o e nr, ← e]
      exact h
    · exact (ho h).elim
theorem OwnOk.keep {S S' H H' : Hp} {p : Addr} {f : List Addr} {o : OD} (h : OwnOk K S H p f o) (hs : Same S S') (hk : ∀ a ∈ f, H' a = H a) (ht : Tx H H') : OwnOk K S' H' p f o := by
  cases o with
  | lst ds =>
    obtain ⟨e, vs, h1, h2⟩ := h
    subst e
    exact ⟨rfl, vs, by rw [hk p (by simp)]; exact h1, h2.same hs⟩
  | dK kvs =>
    obtain ⟨e, vs, h1, h2⟩ := h
    subst e
    exact ⟨rfl, vs, by rw [hk p (by simp)]; exact h1, Paired.mapP h2 fun _ _ z => ⟨z.1, z.2.same hs⟩⟩
  | dT kvs =>
    obtain ⟨e, vs, h1, h2⟩ := h
    subst e
    exact ⟨rfl, vs, by rw [hk p (by simp)]; exact h1, Paired.mapP h2 fun _ _ z => ⟨z.1, z.2.same hs⟩⟩
  | ab I =>
    obtain ⟨e, h1, h2, h3⟩ := h
    refine ⟨e, h2 H' hk ht, (fun H'' hk' ht' => h2 H'' (fun a ha => (hk' a ha).trans (hk a ha)) fun a o nm q => ht' a o nm (ht a o nm q)), fun a ha => by rw [hk a ha]; exact h3 a ha⟩
  | ins C fs => exact ownO_ok.mp (OwnO.keep hs ht (ownO_ok.mpr h) hk)
theorem SlotOk.keep {W' : Wd} {i : Nat} {x : Option (Option V)} {s : Sl} (h : SlotOk F W i x s) (hf : W'.ft i = W.ft i) (hs : Same (W.S F) (W'.S F)) (ho : ∀ a ∈ W.ft i, W.O a → W'.O a) (hk : ∀ a ∈ W.ft i, s.own?.isSome = true → W'.H a = W.H a) (ht : Tx W.H W'.H) : SlotOk F W' i x s := by
  cases s with
  | no => trivial
  | sh d => obtain ⟨v, e, q⟩ := h; exact ⟨v, e, q.same hs⟩
  | ar d => exact h
  | ow o =>
    obtain ⟨p, e, q, r⟩ := h
    exact ⟨p, e, by rw [hf]; exact fun a ha => ⟨ho a ha (q a ha).1, (q a ha).2⟩, by rw [hf]; exact r.keep hs (fun a ha => hk a ha rfl) ht⟩
  | rf o =>
    obtain ⟨p, e0, e, q, r⟩ := h
    exact ⟨p, by rw [hf]; exact e0, e, by rw [hf]; exact fun a ha => ho a ha (q a ha), by rw [hf]; exact r.keep hs (fun a ha => hk a ha rfl) ht⟩
  | ro o => exact h
theorem Same.ts {H H' : Hp} (h : Same H H') : Tx H H' := fun a o _ e => h a o e
/-- the same world with a greater heap -/
theorem Rel.grow (R : Rel F W σ Γ) {H' : Hp} (h : Same W.H H') : Rel F { W with H := H' } σ Γ ∧ Same (W.S F) (({ W with H := H' } : Wd).S F) := by
  have hs : Same (W.S F) (({ W with H := H' } : Wd).S F) := same_less fun a o nx e => ⟨nx, h a o e⟩
  refine ⟨⟨fun a o e nr => h a o (R.base a o e nr), R.new, fun a ha => ?_, R.rfo, R.len, fun i s e => ?_, R.dis⟩, hs⟩
  · obtain ⟨o, q⟩ := mo_some (R.mu a ha)
    show Mo (H' a)
    rw [h a o q, ← q]
    exact R.mu a ha
  · have z := R.slot i s e
    refine z.keep (W' := { W with H := H' }) rfl hs (fun _ _ q => q) (fun a ha so => ?_) (Same.ts h)
    have hO : W.O a := by
      cases s with
      | no => cases so
      | sh _ => cases so
      | ar _ => cases so
      | ow o => obtain ⟨p, _, q, _⟩ := z; exact (q a ha).1
      | rf o => obtain ⟨p, _, _, q, _⟩ := z; exact q a ha
      | ro _ => cases so
    obtain ⟨o, q⟩ := mo_some (R.mu a hO)
    show H' a = W.H a
    rw [h a o q, q]
theorem Stp.grow (R : Rel F W σ Γ) {H' : Hp} (h : Same W.H H') : Stp F W Γ { W with H := H' } Γ := ⟨⟨⟨(R.grow h).2, fun p t => ⟨t, by
  obtain ⟨o, q⟩ := mo_some (R.mu p t.1)
  show H' p = W.H p
  rw [h p o q, q]⟩⟩, InsK.same h⟩, fun i s e => ⟨s, e, Kn.refl s⟩, rfl⟩
theorem same_new {H : Hp} {p : Addr} {o : HO} (h : H p = none) : Same H (upd H p o) := fun b x e => by
  rw [upd_ne (ne_of_none e h)]
  exact e
/-- a fresh place is nobody's -/
theorem Rel.free (R : Rel F W σ Γ) {p : Addr} (h : W.H p = none) : ¬ Ex F W.O p := fun z => by
  obtain ⟨o, q⟩ := mo_some (R.exmo z)
  rw [h] at q
  cases q
theorem S_of {p : Addr} {o : HO} (n : ¬ Ex F W.O p) (h : W.H p = some o) : W.S F p = some o := less_some.mpr ⟨n, h⟩
end

/-! ### the data readings -/
abbrev TEd := G → (RV → G → Prop) → Prop
abbrev TTd := G → (Bool → G → Prop) → Prop
abbrev TAd := G → (List RV → G → Prop) → Prop
abbrev TFd := G → (OD → G → Prop) → Prop
def VOks {K : Fg} (F : Fx K) (W : Wd) (σ : L2.St) (Γ : G) (vs : List V) (xs : List RV) : Prop := Paired (fun v x => VOk F W σ Γ v x) vs xs
/-- what a new object holds -/
def OwnH (K : Fg) (S : Hp) (ho : HO) : OD → Prop
  | .lst ds => ∃ vs, ho = .lst vs ∧ DqAll K S vs ds
  | .dK kvs => ∃ us, ho = .dK us ∧ KvOk K S us kvs
  | .dT kvs => ∃ us, ho = .dT us ∧ KvOk K S us kvs
  | .ab _ => False
  | .ins _ _ => False
class SE (K : Fg) (t : TE) (d : outParam TEd) : Prop where
  run : ∀ (F : Fx K) (W : Wd) (σ : L2.St) (Γ : G) (Q : VK) (Qd : RV → G → Prop), Rel F W σ Γ → d Γ Qd →
    (∀ (rv : RV) (W' : Wd) (Γ' : G) (v : V), Stp F W Γ W' Γ' → Rel F W' σ Γ' → VOk F W' σ Γ' v rv → Qd rv Γ' → Q v W'.H) → t σ W.H Q
class ST (K : Fg) (t : TT) (d : outParam TTd) : Prop where
  run : ∀ (F : Fx K) (W : Wd) (σ : L2.St) (Γ : G) (Q : Bool → Hp → Prop) (Qd : Bool → G → Prop), Rel F W σ Γ → d Γ Qd →
    (∀ (b : Bool) (W' : Wd) (Γ' : G), Stp F W Γ W' Γ' → Rel F W' σ Γ' → Qd b Γ' → Q b W'.H) → t σ W.H Q
class SA (K : Fg) (t : TA) (d : outParam TAd) : Prop where
  run : ∀ (F : Fx K) (W : Wd) (σ : L2.St) (Γ : G) (Q : List V → Hp → Prop) (Qd : List RV → G → Prop), Rel F W σ Γ → d Γ Qd →
    (∀ (xs : List RV) (W' : Wd) (Γ' : G) (vs : List V), Stp F W Γ W' Γ' → Rel F W' σ Γ' → VOks F W' σ Γ' vs xs → Qd xs Γ' → Q vs W'.H) → t σ W.H Q
class SEF (K : Fg) (t : TE) (d : outParam TFd) : Prop where
  run : ∀ (F : Fx K) (W : Wd) (σ : L2.St) (Γ : G) (Q : VK) (Qd : OD → G → Prop), Rel F W σ Γ → d Γ Qd →
    (∀ (o : OD) (W' : Wd) (Γ' : G) (p : Addr) (ho : HO), Stp F W Γ W' Γ' → Rel F W' σ Γ' → W'.H p = none → OwnH K (W'.S F) ho o → Qd o Γ' → Q (.ref p) (upd W'.H p ho)) → t σ W.H Q
def dats (Γ : G) : List RV → Option (List PyData)
  | [] => some []
  | x :: xs => match dat Γ x, dats Γ xs with
    | some d, some ds => some (d :: ds)
    | _, _ => none
theorem VOks.full {K : Fg} {F : Fx K} {W : Wd} {σ : L2.St} {Γ : G} (R : Rel F W σ Γ) : ∀ {xs : List RV} {vs : List V} {ds : List PyData}, VOks F W σ Γ vs xs → dats Γ xs = some ds → DqAll K W.H vs ds
  | [], _, _, h, e => by cases h; cases e; exact .nil
  | x :: xs, _, _, h, e => by
    cases h with
    | cons a b =>
      simp only [dats] at e
      split at e
      · rename_i d ds h1 h2
        cases e
        exact .cons (a.full R h1) (VOks.full R b h2)
      · cases e
theorem VOks.stp {K : Fg} {F : Fx K} {W W' : Wd} {σ : L2.St} {Γ Γ' : G} {vs : List V} {xs : List RV} (a : Stp F W Γ W' Γ') (h : VOks F W σ Γ vs xs) : VOks F W' σ Γ' vs xs := Paired.mapP h fun _ _ z => z.stp a
/-- what may be kept as it is -/
def shOf : RV → Option PyData
  | .sh d => some d
  | .ar d => if tupO d = true then some d else none
  | .own _ => none
  | .fld _ _ => none
theorem VOk.sh {K : Fg} {F : Fx K} {W : Wd} {σ : L2.St} {Γ : G} {v : V} {rv : RV} {d : PyData} (R : Rel F W σ Γ) (h : VOk F W σ Γ v rv) (e : shOf rv = some d) : Dq K (W.S F) v d := by
  cases rv with
  | sh d' => cases e; exact h
  | ar d' =>
    simp only [shOf] at e
    split at e
    · rename_i t
      cases e
      exact Dq.tupO_less (H' := W.H) (fun a z => R.exmo z) _ _ t (Dq.same R.ar_same h)
    · cases e
  | own i => cases e
  | fld i f => cases e
section
variable {K : Fg} {F : Fx K} {W : Wd} {σ : L2.St} {Γ : G}
theorem VOk.int (i : Int) : VOk F W σ Γ (.int i) (.sh (.int i)) := Dq.int i
theorem VOk.bl (i : Bool) : VOk F W σ Γ (.bl i) (.sh (.bool i)) := Dq.bl i
theorem VOk.str (i : Str) : VOk F W σ Γ (.str i) (.sh (.str i)) := Dq.str i
theorem VOk.non : VOk F W σ Γ .non (.sh .none) := Dq.non
theorem VOk.ofSh {v : V} {d : PyData} (h : Dq K (W.S F) v d) : VOk F W σ Γ v (.sh d) := h
theorem VOk.ofAr {v : V} {d : PyData} (h : Dq K (less F.H0 F.rf) v d) : VOk F W σ Γ v (.ar d) := h
theorem VOk.ofOwn {v : V} {i : Nat} {s : Sl} (h1 : Γ[i]? = some s) (h2 : s.there = true) (h3 : σ[i]? = some (some v)) : VOk F W σ Γ v (.own i) := ⟨s, h1, h2, h3⟩
end
def shsOf : List RV → Option (List PyData)
  | [] => some []
  | x :: xs => match shOf x, shsOf xs with
    | some d, some ds => some (d :: ds)
    | _, _ => none
theorem VOks.shs {K : Fg} {F : Fx K} {W : Wd} {σ : L2.St} {Γ : G} (R : Rel F W σ Γ) : ∀ {xs : List RV} {vs : List V} {ds : List PyData}, VOks F W σ Γ vs xs → shsOf xs = some ds → DqAll K (W.S F) vs ds
  | [], _, _, h, e => by cases h; cases e; exact .nil
  | x :: xs, _, _, h, e => by
    cases h with
    | cons a b =>
      simp only [shsOf] at e
      split at e
      · rename_i d ds h1 h2
        cases e
        exact .cons (a.sh R h1) (VOks.shs R b h2)
      · cases e
theorem DqAll.len_eq {K : Fg} {H : Hp} {vs : List V} {ds : List PyData} (h : DqAll K H vs ds) : vs.length = ds.length := h.length

/-! ### names and constants -/
def slotV (Γ : G) (i : Nat) : Option RV := match Γ[i]? with
  | some (.sh d) => some (.sh d)
  | some (.ar d) => some (.ar d)
  | some (.ow _) => some (.own i)
  | some (.rf _) => some (.own i)
  | some (.ro _) => some (.own i)
  | _ => none
def dVar (i : Nat) : TEd := fun Γ Q => ∃ rv, slotV Γ i = some rv ∧ Q rv Γ
def dC (d : PyData) : TEd := fun Γ Q => Q (.sh d) Γ
section
variable {K : Fg}
instance se_var (i : Nat) : SE K (tVar i) (dVar i) := ⟨fun F W σ Γ Q Qd R h k => by
  obtain ⟨rv, e, q⟩ := h
  unfold slotV at e
  split at e
  · rename_i d h1
    cases e
    obtain ⟨v, e1, e2⟩ := R.slot i _ h1
    exact ⟨v, e1, k _ W Γ v (Stp.refl ..) R (.ofSh e2) q⟩
  · rename_i d h1
    cases e
    obtain ⟨v, e1, e2⟩ := R.slot i _ h1
    exact ⟨v, e1, k _ W Γ v (Stp.refl ..) R (.ofAr e2) q⟩
  · rename_i o h1
    cases e
    obtain ⟨p, e1, e2⟩ := R.slot i _ h1
    exact ⟨_, e1, k _ W Γ _ (Stp.refl ..) R (.ofOwn h1 rfl e1) q⟩
  · rename_i o h1
    cases e
    obtain ⟨p, e0, e1, e2⟩ := R.slot i _ h1
    exact ⟨_, e1, k _ W Γ _ (Stp.refl ..) R (.ofOwn h1 rfl e1) q⟩
  · rename_i o h1
    cases e
    obtain ⟨p, f, e1, e2⟩ := R.slot i _ h1
    exact ⟨_, e1, k _ W Γ _ (Stp.refl ..) R (.ofOwn h1 rfl e1) q⟩
  · cases e⟩
instance se_int (i : Int) : SE K (tC (.int i)) (dC (.int i)) := ⟨fun F W σ Γ Q Qd R h k => k _ W Γ _ (Stp.refl ..) R (.int i) h⟩
instance se_bl (i : Bool) : SE K (tC (.bl i)) (dC (.bool i)) := ⟨fun F W σ Γ Q Qd R h k => k _ W Γ _ (Stp.refl ..) R (.bl i) h⟩
instance se_str (i : Str) : SE K (tC (.str i)) (dC (.str i)) := ⟨fun F W σ Γ Q Qd R h k => k _ W Γ _ (Stp.refl ..) R (.str i) h⟩
instance se_non : SE K (tC .non) (dC .none) := ⟨fun F W σ Γ Q Qd R h k => k _ W Γ _ (Stp.refl ..) R .non h⟩

/-! ### two operands -/
theorem two {ta tb : TE} {da db : TEd} [A : SE K ta da] [B : SE K tb db] {F : Fx K} {W : Wd} {σ : L2.St} {Γ : G} {Qd : RV → RV → G → Prop} {Q : V → V → Hp → Prop} (R : Rel F W σ Γ) (h : da Γ fun x Γ1 => db Γ1 fun y Γ2 => Qd x y Γ2)
    (k : ∀ (x y : RV) (W' : Wd) (Γ' : G) (u v : V), Stp F W Γ W' Γ' → Rel F W' σ Γ' → VOk F W' σ Γ' u x → VOk F W' σ Γ' v y → Qd x y Γ' → Q u v W'.H) : ta σ W.H fun u H1 => tb σ H1 fun v H2 => Q u v H2 :=
  A.run F W σ Γ _ _ R h fun x W1 Γ1 u s1 R1 o1 q1 => B.run F W1 σ Γ1 _ _ R1 q1 fun y W2 Γ2 v s2 R2 o2 q2 => k x y W2 Γ2 u v (s1.trans s2) R2 (o1.stp s2) o2 q2
def dI0 (h : Int → Int → PyData) (da db : TEd) : TEd := fun Γ Q => da Γ fun x Γ1 => db Γ1 fun y Γ2 => ∃ i j, dat Γ2 x = some (.int i) ∧ dat Γ2 y = some (.int j) ∧ Q (.sh (h i j)) Γ2
def dIC (C : Int → Int → Prop) (h : Int → Int → PyData) (da db : TEd) : TEd := fun Γ Q => da Γ fun x Γ1 => db Γ1 fun y Γ2 => ∃ i j, dat Γ2 x = some (.int i) ∧ dat Γ2 y = some (.int j) ∧ C i j ∧ Q (.sh (h i j)) Γ2
theorem int_of {H : Hp} {v : V} {i : Int} (h : Dq K H v (.int i)) : v = .int i := by cases h; rfl
theorem str_of {H : Hp} {v : V} {i : Str} (h : Dq K H v (.str i)) : v = .str i := by cases h; rfl
theorem bl_of {H : Hp} {v : V} {i : Bool} (h : Dq K H v (.bool i)) : v = .bl i := by cases h; rfl
section
variable {ta tb : TE} {da db : TEd}
instance se_I0i (h : Int → Int → Int) [SE K ta da] [SE K tb db] : SE K (tOp (rI0 fun i j => V.int (h i j)) ta tb) (dI0 (fun i j => .int (h i j)) da db) := ⟨fun F W σ Γ Q Qd R q k => two R q fun x y W' Γ' u v s' R' o1 o2 ⟨i, j, e1, e2, q⟩ =>
  ⟨i, j, int_of (o1.full R' e1), int_of (o2.full R' e2), k _ W' Γ' _ s' R' (.int _) q⟩⟩
instance se_I0b (h : Int → Int → Bool) [SE K ta da] [SE K tb db] : SE K (tOp (rI0 fun i j => V.bl (h i j)) ta tb) (dI0 (fun i j => .bool (h i j)) da db) := ⟨fun F W σ Γ Q Qd R q k => two R q fun x y W' Γ' u v s' R' o1 o2 ⟨i, j, e1, e2, q⟩ =>
  ⟨i, j, int_of (o1.full R' e1), int_of (o2.full R' e2), k _ W' Γ' _ s' R' (.bl _) q⟩⟩
instance se_ICi (C : Int → Int → Prop) (h : Int → Int → Int) [SE K ta da] [SE K tb db] : SE K (tOp (rI C fun i j => V.int (h i j)) ta tb) (dIC C (fun i j => .int (h i j)) da db) := ⟨fun F W σ Γ Q Qd R q k => two R q fun x y W' Γ' u v s' R' o1 o2 ⟨i, j, e1, e2, c, q⟩ =>
  ⟨i, j, int_of (o1.full R' e1), int_of (o2.full R' e2), c, k _ W' Γ' _ s' R' (.int _) q⟩⟩
/-- == of numbers, texts, bools -/
def eqS : PyData → PyData → Option Bool
  | .int i, .int j => some (decide (i = j))
  | .str i, .str j => some (decide (i = j))
  | .bool i, .bool j => some (decide (i = j))
  | _, _ => none
def dEq (f : Bool → Bool) (da db : TEd) : TEd := fun Γ Q => da Γ fun x Γ1 => db Γ1 fun y Γ2 => ∃ a b c, dat Γ2 x = some a ∧ dat Γ2 y = some b ∧ eqS a b = some c ∧ Q (.sh (.bool (f c))) Γ2
theorem eqS_ok {H : Hp} {u v : V} {a b : PyData} {c : Bool} (h1 : Dq K H u a) (h2 : Dq K H v b) (e : eqS a b = some c) : scal u v = true ∧ decide (u = v) = c := by
  cases a <;> cases b <;> simp only [eqS] at e <;> try cases e
  all_goals (cases h1; cases h2; refine ⟨rfl, ?_⟩; simp)
instance se_eq [SE K ta da] [SE K tb db] : SE K (tOp rEq ta tb) (dEq id da db) := ⟨fun F W σ Γ Q Qd R q k => two R q fun x y W' Γ' u v s' R' o1 o2 ⟨a, b, c, e1, e2, e3, q⟩ => by
  obtain ⟨h1, h2⟩ := eqS_ok (o1.full R' e1) (o2.full R' e2) e3
  refine ⟨h1, ?_⟩
  rw [h2]
  exact k _ W' Γ' _ s' R' (.bl c) q⟩
instance se_ne [SE K ta da] [SE K tb db] : SE K (tOp rNe ta tb) (dEq not da db) := ⟨fun F W σ Γ Q Qd R q k => two R q fun x y W' Γ' u v s' R' o1 o2 ⟨a, b, c, e1, e2, e3, q⟩ => by
  obtain ⟨h1, h2⟩ := eqS_ok (o1.full R' e1) (o2.full R' e2) e3
  refine ⟨h1, ?_⟩
  rw [h2]
  exact k _ W' Γ' _ s' R' (.bl (!c)) q⟩
/-- == of data -/
def dEqD (f : Bool → Bool) (da db : TEd) : TEd := fun Γ Q => da Γ fun x Γ1 => db Γ1 fun y Γ2 => ∃ a b, dat Γ2 x = some a ∧ dat Γ2 y = some b ∧ SeqAt.shaped a = true ∧ SeqAt.shaped b = true ∧ Q (.sh (.bool (f (PyData.eqv a b)))) Γ2
instance se_eqD [SE K ta da] [SE K tb db] : SE K (tOp (rEqD K) ta tb) (dEqD id da db) := ⟨fun F W σ Γ Q Qd R q k => two R q fun x y W' Γ' u v s' R' o1 o2 ⟨a, b, e1, e2, s1, s2, q⟩ =>
  ⟨a, b, Dq.dp _ _ (SeqAt.canLay_of_shaped s1) (o1.full R' e1), Dq.dp _ _ (SeqAt.canLay_of_shaped s2) (o2.full R' e2), s1, s2, k _ W' Γ' _ s' R' (.bl _) q⟩⟩
instance se_neD [SE K ta da] [SE K tb db] : SE K (tOp (rNeD K) ta tb) (dEqD not da db) := ⟨fun F W σ Γ Q Qd R q k => two R q fun x y W' Γ' u v s' R' o1 o2 ⟨a, b, e1, e2, s1, s2, q⟩ =>
  ⟨a, b, Dq.dp _ _ (SeqAt.canLay_of_shaped s1) (o1.full R' e1), Dq.dp _ _ (SeqAt.canLay_of_shaped s2) (o2.full R' e2), s1, s2, k _ W' Γ' _ s' R' (.bl _) q⟩⟩
/-- -a -/
def dU (h : Int → PyData) (da : TEd) : TEd := fun Γ Q => da Γ fun x Γ1 => ∃ i, dat Γ1 x = some (.int i) ∧ Q (.sh (h i)) Γ1
instance se_U (h : Int → Int) [A : SE K ta da] : SE K (tUn (rU fun i => V.int (h i)) ta) (dU (fun i => .int (h i)) da) := ⟨fun F W σ Γ Q Qd R q k => A.run F W σ Γ _ _ R q fun x W' Γ' u s' R' o1 ⟨i, e1, q⟩ =>
  ⟨i, int_of (o1.full R' e1), k _ W' Γ' _ s' R' (.int _) q⟩⟩
/-- chains -/
def dChain (h h' : Int → Int → Bool) (da db dc : TEd) : TEd := fun Γ Q => da Γ fun x Γ1 => db Γ1 fun y Γ2 => ∃ i j, dat Γ2 x = some (.int i) ∧ dat Γ2 y = some (.int j) ∧ (h i j = true → dc Γ2 fun z Γ3 => ∃ l, dat Γ3 z = some (.int l) ∧ Q (.sh (.bool (h' j l))) Γ3) ∧ (h i j = false → Q (.sh (.bool false)) Γ2)
instance se_chain (h h' : Int → Int → Bool) {tc : TE} {dc : TEd} [SE K ta da] [SE K tb db] [C : SE K tc dc] : SE K (tChain (rI0 fun i j => V.bl (h i j)) (rI0 fun i j => V.bl (h' i j)) ta tb tc) (dChain h h' da db dc) := ⟨fun F W σ Γ Q Qd R q k => two (ta := ta) (tb := tb) (da := da) (db := db) R q fun x y W' Γ' u v s' R' o1 o2 ⟨i, j, e1, e2, q1, q2⟩ => by
  have ev := int_of (o2.full R' e2)
  refine ⟨i, j, int_of (o1.full R' e1), ev, h i j, rfl, ?_⟩
  cases hb : h i j with
  | true =>
    refine iteT (C.run F W' σ Γ' _ _ R' (q1 hb) fun z W2 Γ2 w s2 R2 o3 ⟨l, e3, q⟩ => ?_)
    exact ⟨j, l, ev, int_of (o3.full R2 e3), k _ W2 Γ2 _ (s'.trans s2) R2 (.bl _) q⟩
  | false => exact iteF (k _ W' Γ' _ s' R' (.bl _) (q2 hb))⟩
end

/-! ### tests -/
section
variable {ta : TE} {da : TEd} {t u : TT} {d e : TTd}
def dTest (da : TEd) : TTd := fun Γ Q => da Γ fun x Γ1 => ∃ b, dat Γ1 x = some (.bool b) ∧ Q b Γ1
instance st_test [A : SE K ta da] : ST K (tTest ta) (dTest da) := ⟨fun F W σ Γ Q Qd R q k => A.run F W σ Γ _ _ R q fun x W' Γ' v s' R' o1 ⟨b, e1, q⟩ =>
  ⟨b, bl_of (o1.full R' e1), k b W' Γ' s' R' q⟩⟩
instance st_tB [A : SE K ta da] : ST K (tB ta) (dTest da) := ⟨fun F W σ Γ Q Qd R q k => A.run F W σ Γ _ _ R q fun x W' Γ' v s' R' o1 ⟨b, e1, q⟩ =>
  ⟨b, bl_of (o1.full R' e1), k b W' Γ' s' R' q⟩⟩
def dAnd (d e : TTd) : TTd := fun Γ Q => d Γ fun b Γ1 => if b = true then e Γ1 Q else Q false Γ1
def dOr (d e : TTd) : TTd := fun Γ Q => d Γ fun b Γ1 => if b = true then Q true Γ1 else e Γ1 Q
def dNot (d : TTd) : TTd := fun Γ Q => d Γ fun b Γ1 => Q (!b) Γ1
instance st_and [A : ST K t d] [B : ST K u e] : ST K (tAnd t u) (dAnd d e) := ⟨fun F W σ Γ Q Qd R q k => A.run F W σ Γ _ _ R q fun b W' Γ' s' R' q => by
  cases b with
  | true => rw [if_pos rfl] at q; exact iteT (B.run F W' σ Γ' _ _ R' q fun b' W2 Γ2 s2 R2 q => k b' W2 Γ2 (s'.trans s2) R2 q)
  | false => rw [if_neg Bool.false_ne_true] at q; exact iteF (k _ W' Γ' s' R' q)⟩
instance st_or [A : ST K t d] [B : ST K u e] : ST K (tOr t u) (dOr d e) := ⟨fun F W σ Γ Q Qd R q k => A.run F W σ Γ _ _ R q fun b W' Γ' s' R' q => by
  cases b with
  | false => rw [if_neg Bool.false_ne_true] at q; exact iteF (B.run F W' σ Γ' _ _ R' q fun b' W2 Γ2 s2 R2 q => k b' W2 Γ2 (s'.trans s2) R2 q)
  | true => rw [if_pos rfl] at q; exact iteT (k _ W' Γ' s' R' q)⟩
instance st_not [A : ST K t d] : ST K (tNot t) (dNot d) := ⟨fun F W σ Γ Q Qd R q k => A.run F W σ Γ _ _ R q fun b W' Γ' s' R' q => k _ W' Γ' s' R' q⟩
/-- as values -/
def dAndV (d e : TEd) : TEd := fun Γ Q => d Γ fun x Γ1 => ∃ b, dat Γ1 x = some (.bool b) ∧ if b = true then e Γ1 Q else Q (.sh (.bool false)) Γ1
def dOrV (d e : TEd) : TEd := fun Γ Q => d Γ fun x Γ1 => ∃ b, dat Γ1 x = some (.bool b) ∧ if b = true then Q (.sh (.bool true)) Γ1 else e Γ1 Q
def dNotV (d : TEd) : TEd := fun Γ Q => d Γ fun x Γ1 => ∃ b, dat Γ1 x = some (.bool b) ∧ Q (.sh (.bool (!b))) Γ1
instance se_andV {tb : TE} {db : TEd} [A : SE K ta da] [B : SE K tb db] : SE K (tAndV ta tb) (dAndV da db) := ⟨fun F W σ Γ Q Qd R q k => A.run F W σ Γ _ _ R q fun x W' Γ' v s' R' o1 ⟨b, e1, q⟩ => by
  refine ⟨b, bl_of (o1.full R' e1), ?_⟩
  cases b with
  | true => rw [if_pos rfl] at q; exact iteT (B.run F W' σ Γ' _ _ R' q fun b' W2 Γ2 v2 s2 R2 o2 q => k b' W2 Γ2 v2 (s'.trans s2) R2 o2 q)
  | false => rw [if_neg Bool.false_ne_true] at q; exact iteF (k _ W' Γ' _ s' R' (.bl false) q)⟩
instance se_orV {tb : TE} {db : TEd} [A : SE K ta da] [B : SE K tb db] : SE K (tOrV ta tb) (dOrV da db) := ⟨fun F W σ Γ Q Qd R q k => A.run F W σ Γ _ _ R q fun x W' Γ' v s' R' o1 ⟨b, e1, q⟩ => by
  refine ⟨b, bl_of (o1.full R' e1), ?_⟩
  cases b with
  | false => rw [if_neg Bool.false_ne_true] at q; exact iteF (B.run F W' σ Γ' _ _ R' q fun b' W2 Γ2 v2 s2 R2 o2 q => k b' W2 Γ2 v2 (s'.trans s2) R2 o2 q)
  | true => rw [if_pos rfl] at q; exact iteT (k _ W' Γ' _ s' R' (.bl true) q)⟩
instance se_notV [A : SE K ta da] : SE K (tNotV ta) (dNotV da) := ⟨fun F W σ Γ Q Qd R q k => A.run F W σ Γ _ _ R q fun x W' Γ' v s' R' o1 ⟨b, e1, q⟩ =>
  ⟨b, bl_of (o1.full R' e1), k _ W' Γ' _ s' R' (.bl _) q⟩⟩
def dIfE (d : TTd) (da db : TEd) : TEd := fun Γ Q => d Γ fun b Γ1 => if b = true then da Γ1 Q else db Γ1 Q
instance se_ifE {tb : TE} {db : TEd} [T : ST K t d] [A : SE K ta da] [B : SE K tb db] : SE K (tIf t ta tb) (dIfE d da db) := ⟨fun F W σ Γ Q Qd R q k => T.run F W σ Γ _ _ R q fun b W' Γ' s' R' q => by
  cases b with
  | true => rw [if_pos rfl] at q; exact iteT (A.run F W' σ Γ' _ _ R' q fun x W2 Γ2 v s2 R2 o2 q => k x W2 Γ2 v (s'.trans s2) R2 o2 q)
  | false => rw [if_neg Bool.false_ne_true] at q; exact iteF (B.run F W' σ Γ' _ _ R' q fun x W2 Γ2 v s2 R2 o2 q => k x W2 Γ2 v (s'.trans s2) R2 o2 q)⟩
end

/-! ### arguments, tuples, lists, calls -/
section
variable {ta : TE} {da : TEd} {t : TA} {d : TAd}
def dNil : TAd := fun Γ Q => Q [] Γ
def dCons (da : TEd) (d : TAd) : TAd := fun Γ Q => da Γ fun x Γ1 => d Γ1 fun xs Γ2 => Q (x :: xs) Γ2
instance sa_nil : SA K tNil dNil := ⟨fun F W σ Γ Q Qd R q k => k [] W Γ [] (Stp.refl ..) R .nil q⟩
instance sa_cons [A : SE K ta da] [B : SA K t d] : SA K (tCons ta t) (dCons da d) := ⟨fun F W σ Γ Q Qd R q k => A.run F W σ Γ _ _ R q fun x W' Γ' v s' R' o1 q =>
  B.run F W' σ Γ' _ _ R' q fun xs W2 Γ2 vs s2 R2 o2 q => k (x :: xs) W2 Γ2 (v :: vs) (s'.trans s2) R2 (.cons (o1.stp s2) o2) q⟩
def dTup (d : TAd) : TEd := fun Γ Q => d Γ fun xs Γ1 => ∃ ds, shsOf xs = some ds ∧ ds.length ≤ sizeLine ∧ Q (.sh (.tuple ds)) Γ1
instance se_tup [A : SA K t d] : SE K (tTup t) (dTup d) := ⟨fun F W σ Γ Q Qd R q k => A.run F W σ Γ _ _ R q fun xs W' Γ' vs s' R' o1 ⟨ds, e1, hl, q⟩ => by
  have hd := o1.shs R' e1
  refine ⟨by rw [hd.length]; exact hl, fun p hp => ?_⟩
  have hS := same_new (o := .tup vs) hp
  refine k (.sh (.tuple ds)) { W' with H := upd W'.H p (.tup vs) } Γ' (.ref p) (s'.trans (Stp.grow R' hS)) (R'.grow hS).1 ?_ q
  exact .tup (.inl (S_of (W := { W' with H := upd W'.H p (.tup vs) }) (R'.free hp) upd_same)) (hd.same (R'.grow hS).2)⟩
def dLst (d : TAd) : TFd := fun Γ Q => d Γ fun xs Γ1 => ∃ ds, shsOf xs = some ds ∧ ds.length ≤ sizeLine ∧ Q (.lst ds) Γ1
instance sf_lst [A : SA K t d] : SEF K (tLst t) (dLst d) := ⟨fun F W σ Γ Q Qd R q k => A.run F W σ Γ _ _ R q fun xs W' Γ' vs s' R' o1 ⟨ds, e1, hl, q⟩ => by
  have hd := o1.shs R' e1
  exact ⟨by rw [hd.length]; exact hl, fun p hp => k (.lst ds) W' Γ' p _ s' R' hp ⟨vs, rfl, hd⟩ q⟩⟩
/-- a new list or dict that nobody will change -/
def dFrz (d : TFd) : TEd := fun Γ Q => d Γ fun o Γ1 => ∃ d, odD o = some d ∧ Q (.sh d) Γ1
instance (priority := low) se_frz {te : TE} {df : TFd} [A : SEF K te df] : SE K te (dFrz df) := ⟨fun F W σ Γ Q Qd R q k => A.run F W σ Γ _ _ R q fun o W' Γ' p ho s' R' hp oh ⟨d, e1, q⟩ => by
  have hS := same_new (o := ho) hp
  refine k (.sh d) { W' with H := upd W'.H p ho } Γ' (.ref p) (s'.trans (Stp.grow R' hS)) (R'.grow hS).1 ?_ q
  have here : (({ W' with H := upd W'.H p ho } : Wd).S F) p = some ho := S_of (W := { W' with H := upd W'.H p ho }) (R'.free hp) upd_same
  cases o with
  | lst ds =>
    cases e1
    obtain ⟨vs, e2, hd⟩ := oh
    subst e2
    exact .lst here (hd.same (R'.grow hS).2)
  | dK kvs =>
    cases e1
    obtain ⟨us, e2, hd⟩ := oh
    subst e2
    exact .dct (.inl here) ((kvOk_dq hd).same (R'.grow hS).2)
  | dT kvs => cases e1
  | ab I => cases e1
  | ins C fs => cases e1⟩
/-- a promise in data: nothing that stood is changed, the answer is new but for its tuples -/
def PureSp (K : Fg) (C : List PyData → (PyData → Prop) → Prop) : Sp := fun vs H Q _ => ∃ (ds : List PyData) (Qd : PyData → Prop), DqAll K H vs ds ∧ C ds Qd ∧ ∀ (v : V) (H' : Hp) (d : PyData), Same H H' → Dq K (less H' fun a => Mo (H a)) v d → Qd d → Q v H'
def dCall (C : List PyData → (PyData → Prop) → Prop) (d : TAd) : TEd := fun Γ Q => d Γ fun xs Γ1 => ∃ ds, dats Γ1 xs = some ds ∧ C ds fun r => Q (.sh r) Γ1
instance se_call {C : List PyData → (PyData → Prop) → Prop} {E : XK} [A : SA K t d] : SE K (tCall (PureSp K C) [] E t) (dCall C d) := ⟨fun F W σ Γ Q Qd R q k => A.run F W σ Γ _ _ R q fun xs W' Γ' vs s' R' o1 ⟨ds, e1, q⟩ => by
  rw [List.append_nil]
  refine ⟨ds, _, o1.full R' e1, q, fun v H' r hS hv hq => ?_⟩
  refine k (.sh r) { W' with H := H' } Γ' v (s'.trans (Stp.grow R' hS)) (R'.grow hS).1 ?_ hq
  exact hv.same (same_less fun a o nx e => ⟨fun z => nx (R'.exmo z), e⟩)⟩
/-- .. the answer is a new list -/
def FreshSp (K : Fg) (C : List PyData → (OD → Prop) → Prop) : Sp := fun vs H Q _ => ∃ (ds : List PyData) (Qd : OD → Prop), DqAll K H vs ds ∧ C ds Qd ∧ ∀ (p : Addr) (ho : HO) (H' : Hp) (o : OD), Same H H' → H' p = none → OwnH K (less H' fun a => Mo (H a)) ho o → Qd o → Q (.ref p) (upd H' p ho)
def dCallF (C : List PyData → (OD → Prop) → Prop) (d : TAd) : TFd := fun Γ Q => d Γ fun xs Γ1 => ∃ ds, dats Γ1 xs = some ds ∧ C ds fun r => Q r Γ1
theorem OwnH.same {S S' : Hp} {ho : HO} {o : OD} (h : OwnH K S ho o) (e : Same S S') : OwnH K S' ho o := by
  cases o with
  | lst ds => obtain ⟨vs, h1, h2⟩ := h; exact ⟨vs, h1, h2.same e⟩
  | dK ds => obtain ⟨vs, h1, h2⟩ := h; exact ⟨vs, h1, Paired.mapP h2 fun _ _ z => ⟨z.1, z.2.same e⟩⟩
  | dT ds => obtain ⟨vs, h1, h2⟩ := h; exact ⟨vs, h1, Paired.mapP h2 fun _ _ z => ⟨z.1, z.2.same e⟩⟩
  | ab I => exact h
  | ins _ _ => exact h
instance sf_call {C : List PyData → (OD → Prop) → Prop} {E : XK} [A : SA K t d] : SEF K (tCall (FreshSp K C) [] E t) (dCallF C d) := ⟨fun F W σ Γ Q Qd R q k => A.run F W σ Γ _ _ R q fun xs W' Γ' vs s' R' o1 ⟨ds, e1, q⟩ => by
  rw [List.append_nil]
  refine ⟨ds, _, o1.full R' e1, q, fun p ho H' r hS hp hv hq => ?_⟩
  refine k r { W' with H := H' } Γ' p ho (s'.trans (Stp.grow R' hS)) (R'.grow hS).1 hp ?_ hq
  exact hv.same (same_less fun a o nx e => ⟨fun z => nx (R'.exmo z), e⟩)⟩
end
end
end Dk

namespace Dk
open PySem PySem.Spec PyProof.Rows L2
/-! ### names stored -/
section
variable {K : Fg} {F : Fx K} {W : Wd} {σ : L2.St} {Γ : G}
def notRf (Γ : G) (i : Nat) : Bool := match Γ[i]? with
  | some (.rf _) => false
  | _ => true
theorem get_set {α : Type} (l : List α) (i j : Nat) (x y : α) (h : (l.set i x)[j]? = some y) : (j = i ∧ y = x ∧ i < l.length) ∨ (j ≠ i ∧ l[j]? = some y) := by
  by_cases e : j = i
  · subst e
    rw [List.getElem?_set_self'] at h
    cases q : l[j]? with
    | none => rw [q] at h; cases h
    | some z =>
      rw [q] at h
      refine .inl ⟨rfl, ?_, (List.getElem?_eq_some_iff.mp q).1⟩
      simpa using h.symm
  · rw [List.getElem?_set_ne (Ne.symm e)] at h
    exact .inr ⟨e, h⟩
theorem get_set_same {l : List (Option V)} {i : Nat} {x : Option V} (h : i < l.length) : (l.set i x)[i]? = some x := List.getElem?_set_self h
/-- a shared thing is given a name -/
theorem Rel.setSh (R : Rel F W σ Γ) {i : Nat} {v : V} {d : PyData} (hv : Dq K (W.S F) v d) : Rel F W (σ.set i (some v)) (Γ.set i (.sh d)) := by
  refine ⟨R.base, R.new, R.mu, R.rfo, by simp [R.len], fun j s e => ?_, fun j k s t oi oj a ne e1 e2 h1 h2 => ?_⟩
  · rcases get_set _ _ _ _ _ e with ⟨rfl, rfl, hl⟩ | ⟨ne, e⟩
    · exact ⟨v, get_set_same (by rw [R.len]; exact hl), hv⟩
    · rw [List.getElem?_set_ne (Ne.symm ne)]
      exact R.slot j s e
  · rcases get_set _ _ _ _ _ e1 with ⟨rfl, rfl, _⟩ | ⟨ne1, e1⟩
    · cases h1
    · rcases get_set _ _ _ _ _ e2 with ⟨rfl, rfl, _⟩ | ⟨ne2, e2⟩
      · cases h2
      · exact R.dis j k s t oi oj a ne e1 e2 h1 h2
theorem Rel.setAr (R : Rel F W σ Γ) {i : Nat} {v : V} {d : PyData} (hv : Dq K (less F.H0 F.rf) v d) : Rel F W (σ.set i (some v)) (Γ.set i (.ar d)) := by
  refine ⟨R.base, R.new, R.mu, R.rfo, by simp [R.len], fun j s e => ?_, fun j k s t oi oj a ne e1 e2 h1 h2 => ?_⟩
  · rcases get_set _ _ _ _ _ e with ⟨rfl, rfl, hl⟩ | ⟨ne, e⟩
    · exact ⟨v, get_set_same (by rw [R.len]; exact hl), hv⟩
    · rw [List.getElem?_set_ne (Ne.symm ne)]
      exact R.slot j s e
  · rcases get_set _ _ _ _ _ e1 with ⟨rfl, rfl, _⟩ | ⟨ne1, e1⟩
    · cases h1
    · rcases get_set _ _ _ _ _ e2 with ⟨rfl, rfl, _⟩ | ⟨ne2, e2⟩
      · cases h2
      · exact R.dis j k s t oi oj a ne e1 e2 h1 h2
/-- any value, the name forgotten -/
theorem Rel.setNo (R : Rel F W σ Γ) {i : Nat} {x : Option V} : Rel F W (σ.set i x) (Γ.set i .no) := by
  refine ⟨R.base, R.new, R.mu, R.rfo, by simp [R.len], fun j s e => ?_, fun j k s t oi oj a ne e1 e2 h1 h2 => ?_⟩
  · rcases get_set _ _ _ _ _ e with ⟨rfl, rfl, hl⟩ | ⟨ne, e⟩
    · trivial
    · rw [List.getElem?_set_ne (Ne.symm ne)]
      exact R.slot j s e
  · rcases get_set _ _ _ _ _ e1 with ⟨rfl, rfl, _⟩ | ⟨ne1, e1⟩
    · cases h1
    · rcases get_set _ _ _ _ _ e2 with ⟨rfl, rfl, _⟩ | ⟨ne2, e2⟩
      · cases h2
      · exact R.dis j k s t oi oj a ne e1 e2 h1 h2
theorem mo_ownH {S : Hp} {ho : HO} {o : OD} (h : OwnH K S ho o) : Mo (some ho) := by
  cases o with
  | lst ds => obtain ⟨vs, rfl, _⟩ := h; trivial
  | dK ds => obtain ⟨vs, rfl, _⟩ := h; trivial
  | dT ds => obtain ⟨vs, rfl, _⟩ := h; trivial
  | ab I => exact h.elim
  | ins _ _ => exact h.elim
theorem ownH_ok {S H : Hp} {p : Addr} {ho : HO} {o : OD} (h : OwnH K S ho o) (e : H p = some ho) : OwnOk K S H p [p] o := by
  cases o with
  | lst ds => obtain ⟨vs, rfl, q⟩ := h; exact ⟨rfl, vs, e, q⟩
  | dK ds => obtain ⟨vs, rfl, q⟩ := h; exact ⟨rfl, vs, e, q⟩
  | dT ds => obtain ⟨vs, rfl, q⟩ := h; exact ⟨rfl, vs, e, q⟩
  | ab I => exact h.elim
  | ins _ _ => exact h.elim
theorem slot_O {W : Wd} {i : Nat} {x : Option (Option V)} {s : Sl} {o : OD} (z : SlotOk F W i x s) (so : s.own? = some o) : ∀ a ∈ W.ft i, W.O a := by
  cases s with
  | no => cases so
  | sh _ => cases so
  | ar _ => cases so
  | ow o => obtain ⟨p, _, q, _⟩ := z; exact fun a ha => (q a ha).1
  | rf o => obtain ⟨p, _, _, q, _⟩ := z; exact q
  | ro _ => cases so
/-- a new object is given a name, to be changed by it -/
theorem Rel.setNew (R : Rel F W σ Γ) {i : Nat} {p : Addr} {ho : HO} {o : OD} (hp : W.H p = none) (hh : OwnH K (W.S F) ho o) :
    ∃ W' : Wd, W'.H = upd W.H p ho ∧ Same (W.S F) (W'.S F) ∧ Rel F W' (σ.set i (some (.ref p))) (Γ.set i (.ow o)) := by
  have nO : ¬ W.O p := fun z => R.free hp (.inr z)
  have nH0 : F.H0 p = none := by
    cases q : F.H0 p with
    | none => rfl
    | some u =>
      by_cases r : F.rf p
      · exact (nO (R.rfo p r)).elim
      · have := R.base p u q r
        rw [hp] at this
        cases this
  let W' : Wd := ⟨fun a => a = p ∨ W.O a, fun j => if j = i then [p] else W.ft j, upd W.H p ho⟩
  have hs : Same (W.S F) (W'.S F) := same_less fun a u nx e => by
    have ne : a ≠ p := ne_of_none e hp
    refine ⟨fun z => ?_, by show upd W.H p ho a = some u; rw [upd_ne ne]; exact e⟩
    rcases z with z | z | z
    · exact nx (.inl z)
    · exact ne z
    · exact nx (.inr z)
  have keep : ∀ a, W.O a → W'.H a = W.H a := fun a ha => by
    show upd W.H p ho a = W.H a
    rw [upd_ne]
    intro z
    subst z
    exact nO ha
  refine ⟨W', rfl, hs, ⟨fun a u e nr => ?_, fun a ha => ?_, fun a ha => ?_, fun a ha => .inr (R.rfo a ha), by simp [R.len], fun j s e => ?_, fun j k s t oi oj a ne e1 e2 h1 h2 => ?_⟩⟩
  · have q := R.base a u e nr
    show upd W.H p ho a = some u
    rw [upd_ne (ne_of_none q hp)]
    exact q
  · rcases ha with rfl | ha
    · exact .inl nH0
    · exact R.new a ha
  · rcases ha with rfl | ha
    · show Mo (upd W.H a ho a)
      rw [upd_same]
      exact mo_ownH hh
    · rw [keep a ha]
      exact R.mu a ha
  · rcases get_set _ _ _ _ _ e with ⟨rfl, rfl, hl⟩ | ⟨ne, e⟩
    · have f : W'.ft j = [p] := if_pos rfl
      refine ⟨p, get_set_same (by rw [R.len]; exact hl), by rw [f]; intro a ha; rw [List.mem_singleton] at ha; exact ⟨.inl ha, by rw [ha]; exact fun z => nO (R.rfo p z)⟩, by rw [f]; exact ownH_ok (hh.same hs) upd_same⟩
    · rw [List.getElem?_set_ne (Ne.symm ne)]
      have z := R.slot j s e
      refine z.keep (W' := W') (if_neg ne) hs (fun a _ q => .inr q) (fun a ha so => ?_) (Same.ts (same_new hp))
      obtain ⟨o', so⟩ := Option.isSome_iff_exists.mp so
      exact keep a (slot_O z so a ha)
  · intro ha hb
    have fi : ∀ j, j ≠ i → W'.ft j = W.ft j := fun j q => if_neg q
    have fs : W'.ft i = [p] := if_pos rfl
    rcases get_set _ _ _ _ _ e1 with ⟨q1, _, _⟩ | ⟨ne1, g1⟩
    · rcases get_set _ _ _ _ _ e2 with ⟨q2, _, _⟩ | ⟨ne2, g2⟩
      · exact ne (q1.trans q2.symm)
      · rw [q1, fs, List.mem_singleton] at ha
        subst ha
        rw [fi k ne2] at hb
        exact nO (slot_O (R.slot k t g2) h2 _ hb)
    · rcases get_set _ _ _ _ _ e2 with ⟨q2, _, _⟩ | ⟨ne2, g2⟩
      · rw [q2, fs, List.mem_singleton] at hb
        subst hb
        rw [fi j ne1] at ha
        exact nO (slot_O (R.slot j s g1) h1 _ ha)
      · rw [fi j ne1] at ha
        rw [fi k ne2] at hb
        exact R.dis j k s t oi oj a ne g1 g2 h1 h2 ha hb
/-- the object of a name is changed in its place -/
def setOwn (s : Sl) (o : OD) : Sl := match s with
  | .ow _ => .ow o
  | .rf _ => .rf o
  | s => s
def plainOD : OD → Bool
  | .ab _ => false
  | .ins _ _ => false
  | _ => true
theorem Rel.put (R : Rel F W σ Γ) {i : Nat} {p : Addr} {s : Sl} {ho : HO} {o o' : OD} (h1 : Γ[i]? = some s) (h2 : s.own? = some o) (hp : plainOD o = true) (h3 : σ[i]? = some (some (.ref p))) (hh : OwnH K (W.S F) ho o') :
    Rel F { W with H := upd W.H p ho } σ (Γ.set i (setOwn s o')) ∧ (({ W with H := upd W.H p ho } : Wd).S F) = W.S F := by
  have z := R.slot i s h1
  obtain ⟨hO, hf, hM⟩ : W.O p ∧ W.ft i = [p] ∧ (∀ q, s = .rf q → F.rp i = some (p, W.ft i)) := by
    have hni : o.isIns = false := by cases o <;> first | rfl | cases hp
    have hfp : ∀ q, OwnOk K (W.S F) W.H q (W.ft i) o → W.ft i = [q] := fun q r => by
      cases o with
      | lst ds => exact r.1
      | dK ds => exact r.1
      | dT ds => exact r.1
      | ab I => cases hp
      | ins _ _ => cases hp
    cases s with
    | no => cases h2
    | sh _ => cases h2
    | ar _ => cases h2
    | ow q =>
      cases h2
      obtain ⟨p', e, a, b⟩ := z
      rw [h3] at e
      cases e
      have f := hfp p b
      exact ⟨(a p (by rw [f]; simp)).1, f, fun q r => by cases r⟩
    | rf q =>
      cases h2
      obtain ⟨p', ⟨f0, e0, ef⟩, e, a, b⟩ := z
      rw [h3] at e
      cases e
      have f := hfp p b
      exact ⟨a p (by rw [f]; simp), f, fun q r => by rw [e0, ef hni]⟩
    | ro q => cases h2
  have hS : (({ W with H := upd W.H p ho } : Wd).S F) = W.S F := by
    funext a
    show less (upd W.H p ho) (Ex F W.O) a = less W.H (Ex F W.O) a
    unfold less
    by_cases q : Ex F W.O a
    · rw [if_pos q, if_pos q]
    · rw [if_neg q, if_neg q, upd_ne]
      intro e
      subst e
      exact q (.inr hO)
  refine ⟨⟨fun a u e nr => ?_, R.new, fun a ha => ?_, R.rfo, by simp [R.len], fun j t e => ?_, fun j k t1 t2 oi oj a ne e1 e2 g1 g2 => ?_⟩, hS⟩
  · show upd W.H p ho a = some u
    rw [upd_ne]
    · exact R.base a u e nr
    · intro q
      subst q
      rcases R.new a hO with q | q
      · rw [q] at e; cases e
      · exact nr q
  · by_cases q : a = p
    · subst q
      show Mo (upd W.H a ho a)
      rw [upd_same]
      exact mo_ownH hh
    · show Mo (upd W.H p ho a)
      rw [upd_ne q]
      exact R.mu a ha
  · rcases get_set _ _ _ _ _ e with ⟨rfl, rfl, hl⟩ | ⟨ne, e⟩
    · have ok : OwnOk K (({ W with H := upd W.H p ho } : Wd).S F) (upd W.H p ho) p (W.ft j) o' := by
        rw [hS, hf]
        exact ownH_ok hh upd_same
      have hin : ∀ a ∈ W.ft j, W.O a := fun a ha => by
        rw [hf, List.mem_singleton] at ha
        rw [ha]
        exact hO
      cases s with
      | no => cases h2
      | sh _ => cases h2
      | ar _ => cases h2
      | ow q =>
        obtain ⟨p', e', a', _⟩ := z
        exact ⟨p, h3, fun a ha => ⟨hin a ha, (a' a ha).2⟩, ok⟩
      | rf q => exact ⟨p, ⟨_, hM q rfl, fun _ => rfl⟩, h3, hin, ok⟩
      | ro q => cases h2
    · have zj := R.slot j t e
      have hts : Tx W.H (upd W.H p ho) := fun a u nm q => by
        rw [upd_ne]
        · exact q
        · intro w
          subst w
          have m := R.mu a hO
          rw [q] at m
          exact nm m
      refine zj.keep (W' := { W with H := upd W.H p ho }) rfl (by rw [hS]; exact Same.refl _) (fun _ _ q => q) (fun a ha so => ?_) hts
      obtain ⟨oj, so⟩ := Option.isSome_iff_exists.mp so
      show upd W.H p ho a = W.H a
      rw [upd_ne]
      intro w
      subst w
      exact R.dis j i t s oj o a ne e h1 so h2 ha (by rw [hf]; simp)
  · have q : ∀ (j : Nat) (t : Sl) (oj : OD), (Γ.set i (setOwn s o'))[j]? = some t → t.own? = some oj → ∃ t' oj', Γ[j]? = some t' ∧ t'.own? = some oj' := fun j t oj e g => by
      rcases get_set _ _ _ _ _ e with ⟨rfl, _, _⟩ | ⟨_, e⟩
      · exact ⟨s, o, h1, h2⟩
      · exact ⟨t, oj, e, g⟩
    obtain ⟨t1', o1', a1, b1⟩ := q j t1 oi e1 g1
    obtain ⟨t2', o2', a2, b2⟩ := q k t2 oj e2 g2
    exact R.dis j k t1' t2' o1' o2' a ne a1 a2 b1 b2
theorem plain_at {S H : Hp} {p : Addr} {f : List Addr} {o : OD} (h : OwnOk K S H p f o) (hp : plainOD o = true) : notIns (H p) := by
  cases o with
  | lst ds => obtain ⟨_, vs, e, _⟩ := h; rw [e]; trivial
  | dK ds => obtain ⟨_, vs, e, _⟩ := h; rw [e]; trivial
  | dT ds => obtain ⟨_, vs, e, _⟩ := h; rw [e]; trivial
  | ab _ => cases hp
  | ins _ _ => cases hp
theorem own_at (R : Rel F W σ Γ) {i : Nat} {p : Addr} {s : Sl} {o : OD} (h1 : Γ[i]? = some s) (h2 : s.own? = some o) (h3 : σ[i]? = some (some (.ref p))) : OwnOk K (W.S F) W.H p (W.ft i) o := by
  have z := R.slot i s h1
  cases s with
  | no => cases h2
  | sh _ => cases h2
  | ar _ => cases h2
  | ro _ => cases h2
  | ow q =>
    cases h2
    obtain ⟨p', e, a, b⟩ := z
    rw [h3] at e
    cases e
    exact b
  | rf q =>
    cases h2
    obtain ⟨p', e0, e, a, b⟩ := z
    rw [h3] at e
    cases e
    exact b
theorem ins_own {s : Sl} {o : OD} (h : s.ins? = some o) (hs : s.own? ≠ none) : s.own? = some o := by
  cases s with
  | ow q => cases (insO_eq h).1; rfl
  | rf q => cases (insO_eq h).1; rfl
  | ro q => exact (hs rfl).elim
  | _ => cases h
theorem plain_ins {s : Sl} {o o' : OD} (h2 : s.own? = some o) (hp : plainOD o = true) (h : s.ins? = some o') : False := by
  have := ins_own h (by rw [h2]; exact fun z => nomatch z)
  rw [h2] at this
  cases this
  cases s with
  | ow q => cases h2; have := (insO_eq h).2; cases o <;> first | (cases hp; done) | (cases this; done)
  | rf q => cases h2; have := (insO_eq h).2; cases o <;> first | (cases hp; done) | (cases this; done)
  | _ => cases h2
theorem Stp.put (R : Rel F W σ Γ) {i : Nat} {p : Addr} {s : Sl} {ho : HO} {o o' : OD} (h1 : Γ[i]? = some s) (h2 : s.own? = some o) (hp : plainOD o = true) (h3 : σ[i]? = some (some (.ref p))) (hh : OwnH K (W.S F) ho o') :
    Stp F W Γ { W with H := upd W.H p ho } (Γ.set i (setOwn s o')) := by
  have fp : p ∈ W.ft i := by
    have z := R.slot i s h1
    have hfp : ∀ q, OwnOk K (W.S F) W.H q (W.ft i) o → W.ft i = [q] := fun q r => by
      cases o with
      | lst ds => exact r.1
      | dK ds => exact r.1
      | dT ds => exact r.1
      | ab I => cases hp
      | ins _ _ => cases hp
    cases s with
    | no => cases h2
    | sh _ => cases h2
    | ar _ => cases h2
    | ow q =>
      cases h2
      obtain ⟨p', e, a, b⟩ := z
      rw [h3] at e
      cases e
      rw [hfp p b]
      simp
    | rf q =>
      cases h2
      obtain ⟨p', e0, e, a, b⟩ := z
      rw [h3] at e
      cases e
      rw [hfp p b]
      simp
    | ro q => cases h2
  refine ⟨⟨⟨by rw [(R.put h1 h2 hp h3 hh).2]; exact Same.refl _, fun q t => ⟨⟨t.1, fun j t' o2 e g => ?_⟩, ?_⟩⟩, InsK.upd (plain_at (own_at R h1 h2 h3) hp)⟩, fun j t e => ?_, by simp⟩
  · rcases get_set _ _ _ _ _ e with ⟨rfl, _, _⟩ | ⟨_, e⟩
    · exact t.2 j s o h1 h2
    · exact t.2 j t' o2 e g
  · show upd W.H p ho q = W.H q
    rw [upd_ne]
    intro z
    subst z
    exact t.2 i s o h1 h2 fp
  · by_cases q : j = i
    · subst q
      rw [h1] at e
      cases e
      refine ⟨_, List.getElem?_set_self (List.getElem?_eq_some_iff.mp h1).1, ?_, (fun z => by rw [h2] at z; cases z), fun o3 z => ?_, fun o3 z => (plain_ins h2 hp z).elim⟩
      · cases s <;> first | rfl | exact fun z => z
      · subst z
        exact ⟨o', rfl⟩
    · exact ⟨t, by rw [List.getElem?_set_ne (Ne.symm q)]; exact e, Kn.refl t⟩
theorem Kp.setNon {i : Nat} {s : Sl} (h : s.own? = none) : Kp F W Γ W (Γ.set i s) := ⟨⟨Same.refl _, fun p t => ⟨⟨t.1, fun j t' o e g => by
  rcases get_set _ _ _ _ _ e with ⟨_, r, _⟩ | ⟨_, e⟩
  · subst r
    rw [h] at g
    cases g
  · exact t.2 j t' o e g⟩, rfl⟩⟩, InsK.refl _⟩
/-- a name's list or dict is changed no more: it becomes plain data -/
theorem Rel.freezeO (R : Rel F W σ Γ) {i : Nat} {o0 : OD} {d0 : PyData} (h : Γ[i]? = some (.ow o0)) (ed : odD o0 = some d0) : ∃ W' : Wd, W'.H = W.H ∧ Stp F W Γ W' (Γ.set i (.sh d0)) ∧ Rel F W' σ (Γ.set i (.sh d0)) := by
  obtain ⟨p, e1, hO, hw⟩ := R.slot i _ h
  have hpl : plainOD o0 = true := by cases o0 <;> first | rfl | cases ed
  have hf : W.ft i = [p] := by
    cases o0 with
    | lst ds => exact hw.1
    | dK ds => exact hw.1
    | dT ds => exact hw.1
    | ab _ => cases hpl
    | ins _ _ => cases hpl
  have hOp : W.O p := (hO p (by rw [hf]; simp)).1
  have hrf : ¬ F.rf p := (hO p (by rw [hf]; simp)).2
  have h0 : F.H0 p = none := (R.new p hOp).resolve_right hrf
  let W' : Wd := ⟨fun a => W.O a ∧ a ≠ p, W.ft, W.H⟩
  have hs : Same (W.S F) (W'.S F) := same_less fun a u nx e => ⟨fun z => nx (z.imp_right And.left), e⟩
  have il : i < Γ.length := (List.getElem?_eq_some_iff.mp h).1
  have nx : ¬ Ex F W'.O p := fun z => by
    rcases z with z | z
    · have m := F.xm p z
      rw [h0] at m
      exact m
    · exact z.2 rfl
  have hst : Stp F W Γ W' (Γ.set i (.sh d0)) := by
    refine ⟨⟨⟨hs, fun q t => ⟨⟨⟨t.1, fun z => ?_⟩, fun j t' o2 e g => ?_⟩, rfl⟩⟩, InsK.refl _⟩, fun j t e => ?_, by simp⟩
    · subst z
      exact t.2 i _ _ h rfl (by rw [hf]; simp)
    · rcases get_set _ _ _ _ _ e with ⟨_, r, _⟩ | ⟨_, e⟩
      · subst r; cases g
      · exact t.2 j t' o2 e g
    · by_cases q : j = i
      · subst q
        rw [h] at e
        cases e
        exact ⟨_, List.getElem?_set_self il, fun _ => rfl, (fun z => by cases z), (fun o z => by cases z), fun o z => (plain_ins rfl hpl z).elim⟩
      · exact ⟨t, by rw [List.getElem?_set_ne (Ne.symm q)]; exact e, Kn.refl t⟩
  refine ⟨W', rfl, hst, ⟨R.base, fun a ha => R.new a ha.1, fun a ha => R.mu a ha.1, fun a ha => ⟨R.rfo a ha, fun z => hrf (z ▸ ha)⟩, by simp [R.len], fun j t e => ?_, fun j k s t oi oj a ne e1 e2 g1 g2 => ?_⟩⟩
  · rcases get_set _ _ _ _ _ e with ⟨rfl, rfl, hl⟩ | ⟨ne, e⟩
    · refine ⟨.ref p, e1, ?_⟩
      cases o0 with
      | lst ds =>
        cases ed
        obtain ⟨_, vs, q1, q2⟩ := hw
        exact .lst (less_some.mpr ⟨nx, q1⟩) (q2.same hs)
      | dK kvs =>
        cases ed
        obtain ⟨_, vs, q1, q2⟩ := hw
        exact .dct (.inl (less_some.mpr ⟨nx, q1⟩)) ((kvOk_dq q2).same hs)
      | _ => cases ed
    · have zj := R.slot j t e
      have hne : ∀ a ∈ W.ft j, ∀ oj, t.own? = some oj → a ≠ p := fun a ha oj so w => by
        subst w
        exact R.dis j i t _ oj _ a ne e h so rfl ha (by rw [hf]; simp)
      cases t with
      | no => trivial
      | sh d => obtain ⟨v, q1, q2⟩ := zj; exact ⟨v, q1, q2.same hs⟩
      | ar d => exact zj
      | ow o =>
        obtain ⟨q, a1, a2, a3⟩ := zj
        exact ⟨q, a1, fun a ha => ⟨⟨(a2 a ha).1, hne a ha o rfl⟩, (a2 a ha).2⟩, a3.keep hs (fun _ _ => rfl) fun _ _ _ z => z⟩
      | rf o =>
        obtain ⟨q, a0, a1, a2, a3⟩ := zj
        exact ⟨q, a0, a1, fun a ha => ⟨a2 a ha, hne a ha o rfl⟩, a3.keep hs (fun _ _ => rfl) fun _ _ _ z => z⟩
      | ro o => exact zj
  · rcases get_set _ _ _ _ _ e1 with ⟨_, r, _⟩ | ⟨_, f1⟩
    · subst r; cases g1
    · rcases get_set _ _ _ _ _ e2 with ⟨_, r, _⟩ | ⟨_, f2⟩
      · subst r; cases g2
      · exact R.dis j k s t oi oj a ne f1 f2 g1 g2
theorem Rel.freeze (R : Rel F W σ Γ) {i : Nat} {ds : List PyData} (h : Γ[i]? = some (.ow (.lst ds))) : ∃ W' : Wd, W'.H = W.H ∧ Stp F W Γ W' (Γ.set i (.sh (.list ds))) ∧ Rel F W' σ (Γ.set i (.sh (.list ds))) := R.freezeO h rfl
end
end Dk

namespace Dk
open PySem PySem.Spec PyProof.Rows L2
/-! ### statements -/
structure DE where
  nx : G → Prop
  rt : RV → G → Prop
  rn : OD → G → Prop := fun _ _ => False
  bk : G → Prop := fun _ => False
  ct : G → Prop := fun _ => False
  xs : Value → G → Prop := fun _ _ => False
def DE.nxt (E : DE) (M : G → Prop) : DE := { E with nx := M }
def DE.lp (E : DE) (M : G → Prop) : DE := { E with nx := M, ct := M, bk := E.nx }
abbrev TSd := DE → G → Prop
abbrev X0 : WX := fun _ _ _ _ => False
structure Lk {K : Fg} (F : Fx K) (W0 : Wd) (Xw : WX) (D : Ends) (E : DE) : Prop where
  nx : ∀ (W : Wd) (σ : L2.St) (Γ : G), Same (W0.S F) (W.S F) → Rel F W σ Γ → E.nx Γ → D.nx σ W.H
  rt : ∀ (W : Wd) (σ : L2.St) (Γ : G) (x : RV) (v : V), Same (W0.S F) (W.S F) → Rel F W σ Γ → VOk F W σ Γ v x → E.rt x Γ → D.rt v W.H
  rn : ∀ (W : Wd) (σ : L2.St) (Γ : G) (o : OD) (p : Addr) (ho : HO), Same (W0.S F) (W.S F) → Rel F W σ Γ → W.H p = none → OwnH K (W.S F) ho o → E.rn o Γ → D.rt (.ref p) (upd W.H p ho)
  bk : ∀ (W : Wd) (σ : L2.St) (Γ : G), Same (W0.S F) (W.S F) → Rel F W σ Γ → E.bk Γ → D.bk σ W.H
  ct : ∀ (W : Wd) (σ : L2.St) (Γ : G), Same (W0.S F) (W.S F) → Rel F W σ Γ → E.ct Γ → D.ct σ W.H
  xs : ∀ (W : Wd) (σ : L2.St) (Γ : G) (c : Value), Same (W0.S F) (W.S F) → Rel F W σ Γ → E.xs c Γ → Xw c none σ W.H
theorem Lk.mono {K : Fg} {F : Fx K} {W0 W1 : Wd} {Xw : WX} {D : Ends} {E : DE} (L : Lk F W0 Xw D E) (h : Same (W0.S F) (W1.S F)) : Lk F W1 Xw D E :=
  ⟨fun W σ Γ s => L.nx W σ Γ (h.trans s), fun W σ Γ x v s => L.rt W σ Γ x v (h.trans s), fun W σ Γ o p ho s => L.rn W σ Γ o p ho (h.trans s), fun W σ Γ s => L.bk W σ Γ (h.trans s), fun W σ Γ s => L.ct W σ Γ (h.trans s), fun W σ Γ c s => L.xs W σ Γ c (h.trans s)⟩
class SS (K : Fg) (Xw : WX) (t : TS) (d : outParam TSd) : Prop where
  run : ∀ (F : Fx K) (W : Wd) (σ : L2.St) (Γ : G) (D : Ends) (E : DE), Rel F W σ Γ → d E Γ → Lk F W Xw D E → t D σ W.H
section
variable {K : Fg} {Xw : WX} {t u : TS} {d e : TSd} {te : TE} {de : TEd}
def dNext : TSd := fun E Γ => E.nx Γ
instance ss_next : SS K Xw tNext dNext := ⟨fun F W σ Γ D E R q L => L.nx W σ Γ (Same.refl _) R q⟩
def dSeq (d e : TSd) : TSd := fun E Γ => d (E.nxt (e E)) Γ
instance ss_seq [A : SS K Xw t d] [B : SS K Xw u e] : SS K Xw (tSeq t u) (dSeq d e) := ⟨fun F W σ Γ D E R q L => A.run F W σ Γ _ _ R q
  ⟨fun W' σ' Γ' s R' q => B.run F W' σ' Γ' D E R' q (L.mono s), L.rt, L.rn, L.bk, L.ct, L.xs⟩⟩
def dBreak : TSd := fun E Γ => E.bk Γ
instance ss_break : SS K Xw tBreak dBreak := ⟨fun F W σ Γ D E R q L => L.bk W σ Γ (Same.refl _) R q⟩
def dCont : TSd := fun E Γ => E.ct Γ
instance ss_cont : SS K Xw tCont dCont := ⟨fun F W σ Γ D E R q L => L.ct W σ Γ (Same.refl _) R q⟩
def dDrop (de : TEd) : TSd := fun E Γ => de Γ fun _ Γ1 => E.nx Γ1
instance ss_drop [A : SE K te de] : SS K Xw (tDrop te) (dDrop de) := ⟨fun F W σ Γ D E R q L => A.run F W σ Γ _ _ R q fun x W' Γ' v s R' o q => L.nx W' σ Γ' s.sh R' q⟩
def dRet (de : TEd) : TSd := fun E Γ => de Γ E.rt
instance (priority := low) ss_ret [A : SE K te de] : SS K Xw (tRet te) (dRet de) := ⟨fun F W σ Γ D E R q L => A.run F W σ Γ _ _ R q fun x W' Γ' v s R' o q => L.rt W' σ Γ' x v s.sh R' o q⟩
def dRetF (de : TFd) : TSd := fun E Γ => de Γ E.rn
instance ss_retF {df : TFd} [A : SEF K te df] : SS K Xw (tRet te) (dRetF df) := ⟨fun F W σ Γ D E R q L => A.run F W σ Γ _ _ R q fun o W' Γ' p ho s R' hp oh q => L.rn W' σ Γ' o p ho s.sh R' hp oh q⟩
def dRetN : TSd := fun E Γ => E.rt (.sh .none) Γ
instance ss_retN : SS K Xw tRetN dRetN := ⟨fun F W σ Γ D E R q L => L.rt W σ Γ _ .non (Same.refl _) R .non q⟩
/-- M: what holds where both ways meet -/
def dIfS (c : TTd) (d e : TSd) : TSd := fun E Γ => ∃ M : G → Prop, (∀ Γ', M Γ' → E.nx Γ') ∧ c Γ fun b Γ1 => if b = true then d (E.nxt M) Γ1 else e (E.nxt M) Γ1
instance ss_if {c : TT} {dc : TTd} [C : ST K c dc] [A : SS K Xw t d] [B : SS K Xw u e] : SS K Xw (tIfS c t u) (dIfS dc d e) := ⟨fun F W σ Γ D E R ⟨M, hM, q⟩ L => C.run F W σ Γ _ _ R q fun b W' Γ' s R' q => by
  have L' : Lk F W' Xw D (E.nxt M) := by
    have := L.mono s.sh
    exact ⟨fun W2 σ2 Γ2 s2 R2 q2 => this.nx W2 σ2 Γ2 s2 R2 (hM Γ2 q2), this.rt, this.rn, this.bk, this.ct, this.xs⟩
  cases b with
  | true => rw [if_pos rfl] at q; exact iteT (A.run F W' σ Γ' D _ R' q L')
  | false => rw [if_neg Bool.false_ne_true] at q; exact iteF (B.run F W' σ Γ' D _ R' q L')⟩
def dNever : TSd := fun _ _ => False
instance ss_never : SS K Xw tNever dNever := ⟨fun F W σ Γ D E R q L => q.elim⟩
/-! ### targets -/
/-- a value as a name's content -/
def asSl : RV → Option Sl
  | .sh d => some (.sh d)
  | .ar d => some (.ar d)
  | .own _ => none
  | .fld _ _ => none
/-- only the slots ix are changed -/
structure Fm (ix : List Nat) (σ : L2.St) (Γ : G) (σ' : L2.St) (Γ' : G) : Prop where
  st : ∀ j, j ∉ ix → σ'[j]? = σ[j]?
  ga : ∀ j, j ∉ ix → ∀ s, Γ[j]? = some s → ∃ s', Γ'[j]? = some s' ∧ Kn s s'
  sl : σ'.length = σ.length
  gl : Γ'.length = Γ.length
abbrev TGd := RV → G → (G → Prop) → Prop
class SG (K : Fg) (g : TG) (d : outParam TGd) (ix : outParam (List Nat)) : Prop where
  run : ∀ (F : Fx K) (W : Wd) (σ : L2.St) (Γ : G) (v : V) (x : RV) (Q : L2.St → Hp → Prop) (Qd : G → Prop), Rel F W σ Γ → VOk F W σ Γ v x → d x Γ Qd →
    (∀ (W' : Wd) (σ' : L2.St) (Γ' : G), Kp F W Γ W' Γ' → Fm ix σ Γ σ' Γ' → Rel F W' σ' Γ' → Qd Γ' → Q σ' W'.H) → g v σ W.H Q
abbrev TGsd := List RV → G → (G → Prop) → Prop
class SGs (K : Fg) (g : TGs) (d : outParam TGsd) (ix : outParam (List Nat)) : Prop where
  run : ∀ (F : Fx K) (W : Wd) (σ : L2.St) (Γ : G) (vs : List V) (ds : List PyData) (k : PyData → RV) (Q : L2.St → Hp → Prop) (Qd : G → Prop), (k = .sh ∨ k = .ar) → Rel F W σ Γ → Paired (fun v d => ∀ (W' : Wd) (σ' : L2.St) (Γ' : G), Same (W.S F) (W'.S F) → VOk F W' σ' Γ' v (k d)) vs ds → d (ds.map k) Γ Qd →
    (∀ (W' : Wd) (σ' : L2.St) (Γ' : G), Kp F W Γ W' Γ' → Fm ix σ Γ σ' Γ' → Rel F W' σ' Γ' → Qd Γ' → Q σ' W'.H) → g vs σ W.H Q
theorem asSl_set {F : Fx K} {W : Wd} {σ : L2.St} {Γ : G} {v : V} {x : RV} {s : Sl} {i : Nat} (R : Rel F W σ Γ) (o : VOk F W σ Γ v x) (e : asSl x = some s) : Rel F W (σ.set i (some v)) (Γ.set i s) := by
  cases x with
  | sh d => cases e; exact R.setSh o
  | ar d => cases e; exact R.setAr o
  | own j => cases e
  | fld _ _ => cases e
def dName (i : Nat) : TGd := fun x Γ Q => ∃ s, asSl x = some s ∧ Q (Γ.set i s)
theorem asSl_own {x : RV} {s : Sl} (e : asSl x = some s) : s.own? = none := by
  cases x with
  | sh d => cases e; rfl
  | ar d => cases e; rfl
  | own j => cases e
  | fld _ _ => cases e
instance sg_name (i : Nat) : SG K (gName i) (dName i) [i] := ⟨fun F W σ Γ v x Q Qd R o ⟨s, e, q⟩ k => k W _ _ (Kp.setNon (asSl_own e)) ⟨fun j hj => List.getElem?_set_ne (fun z => hj (by simp [z])), fun j hj s e => ⟨s, by rw [List.getElem?_set_ne (fun z => hj (by simp [z]))]; exact e, Kn.refl s⟩, by simp, by simp⟩ (asSl_set R o e) q⟩
def dgNil : TGsd := fun xs Γ Q => xs = [] ∧ Q Γ
def dgCons (g : TGd) (h : TGsd) : TGsd := fun xs Γ Q => ∃ x r, xs = x :: r ∧ g x Γ fun Γ1 => h r Γ1 Q
instance sgs_nil : SGs K gNil dgNil [] := ⟨fun F W σ Γ vs ds k Q Qd hk R o ⟨e, q⟩ kk => by
  cases ds with
  | nil => cases o; exact ⟨rfl, kk W σ Γ (Kp.refl ..) ⟨fun _ _ => rfl, fun _ _ s e => ⟨s, e, Kn.refl s⟩, rfl, rfl⟩ R q⟩
  | cons d ds => cases e⟩
instance sgs_cons {g : TG} {h : TGs} {dg : TGd} {dh : TGsd} {i1 i2 : List Nat} [A : SG K g dg i1] [B : SGs K h dh i2] : SGs K (gCons g h) (dgCons dg dh) (i1 ++ i2) := ⟨fun F W σ Γ vs ds k Q Qd hk R o ⟨x, r, e, q⟩ kk => by
  cases ds with
  | nil => cases e
  | cons d ds =>
    cases e
    cases o with
    | cons o1 o2 =>
      refine ⟨_, _, rfl, A.run F W σ Γ _ _ _ _ R (o1 W σ Γ (Same.refl _)) q fun W' σ' Γ' s' f' R' q => ?_⟩
      exact B.run F W' σ' Γ' _ _ k _ _ hk R' (Paired.mapP o2 fun _ _ z W2 σ2 Γ2 s2 => z W2 σ2 Γ2 (s'.sh.trans s2)) q fun W2 σ2 Γ2 s2 f2 R2 q => kk W2 σ2 Γ2 (s'.trans s2) ⟨fun j hj => (f2.st j fun z => hj (List.mem_append_right _ z)).trans (f'.st j fun z => hj (List.mem_append_left _ z)), fun j hj s e => by
        obtain ⟨s1, e1, k1⟩ := f'.ga j (fun z => hj (List.mem_append_left _ z)) s e
        obtain ⟨s2', e2, k2⟩ := f2.ga j (fun z => hj (List.mem_append_right _ z)) s1 e1
        exact ⟨s2', e2, k1.trans k2⟩, f2.sl.trans f'.sl, f2.gl.trans f'.gl⟩ R2 q⟩
/-- the parts of a tuple, of the same kind -/
def parts : RV → Option (List RV)
  | .sh (.tuple ds) => some (ds.map .sh)
  | .ar (.tuple ds) => some (ds.map .ar)
  | _ => none
def dgTup (n : Nat) (h : TGsd) : TGd := fun x Γ Q => ∃ xs, parts x = some xs ∧ xs.length = n ∧ h xs Γ Q
theorem paired_of {H : Hp} : ∀ {vs : List V} {ds : List PyData}, DqAll K H vs ds → Paired (fun v d => Dq K H v d) vs ds
  | _, [], h => by cases h; exact .nil
  | _, _ :: _, h => by
    cases h with
    | cons a b => exact .cons a (paired_of b)
instance sg_tup (n : Nat) {h : TGs} {dh : TGsd} {ix : List Nat} [B : SGs K h dh ix] : SG K (gTup K n h) (dgTup n dh) ix := ⟨fun F W σ Γ v x Q Qd R o ⟨xs, e, hn, q⟩ kk => by
  cases x with
  | own j => cases e
  | fld _ _ => cases e
  | sh d =>
    cases d with
    | tuple ds =>
      cases e
      cases (show Dq K (W.S F) v (.tuple ds) from o) with
      | tup a b =>
        refine ⟨_, _, rfl, (a.same less_same).sq, by rw [b.length]; simpa using hn, ?_⟩
        exact B.run F W σ Γ _ ds RV.sh _ _ (.inl rfl) R (Paired.mapP (paired_of b) fun _ _ z W2 σ2 Γ2 s2 => z.same s2) q kk
    | _ => cases e
  | ar d =>
    cases d with
    | tuple ds =>
      cases e
      cases (show Dq K (less F.H0 F.rf) v (.tuple ds) from o) with
      | tup a b =>
        refine ⟨_, _, rfl, (a.same R.ar_same).sq, by rw [b.length]; simpa using hn, ?_⟩
        exact B.run F W σ Γ _ ds RV.ar _ _ (.inr rfl) R (Paired.mapP (paired_of b) fun _ _ z W2 σ2 Γ2 s2 => z) q kk
    | _ => cases e⟩
def dAsg (de : TEd) (g : TGd) : TSd := fun E Γ => de Γ fun x Γ1 => g x Γ1 E.nx
instance (priority := low) ss_asg {g : TG} {dg : TGd} {ix : List Nat} [A : SE K te de] [B : SG K g dg ix] : SS K Xw (tAsg te g) (dAsg de dg) := ⟨fun F W σ Γ D E R q L => A.run F W σ Γ _ _ R q fun x W' Γ' v s R' o q =>
  B.run F W' σ Γ' v x _ _ R' o q fun W2 σ2 Γ2 s2 _ R2 q => L.nx W2 σ2 Γ2 (s.sh.trans s2.sh) R2 q⟩
/-- a name for a new object -/
def dNew (df : TFd) (i : Nat) : TSd := fun E Γ => df Γ fun o Γ1 => E.nx (Γ1.set i (.ow o))
instance ss_new {df : TFd} {i : Nat} [A : SEF K te df] : SS K Xw (tAsg te (gName i)) (dNew df i) := ⟨fun F W σ Γ D E R q L => A.run F W σ Γ _ _ R q fun o W' Γ' p ho s R' hp oh q => by
  obtain ⟨W2, e, s2, R2⟩ := R'.setNew (i := i) hp oh
  show D.nx _ _
  rw [← e]
  exact L.nx W2 _ _ (s.sh.trans s2) R2 q⟩
/-- x += e, numbers -/
def dAug (i : Nat) (h : Int → Int → Int) (de : TEd) : TSd := fun E Γ => ∃ a, (slotV Γ i).bind (dat Γ) = some (.int a) ∧ de Γ fun y Γ1 => ∃ b, dat Γ1 y = some (.int b) ∧ E.nx (Γ1.set i (.sh (.int (h a b))))
instance ss_aug {i : Nat} {h : Int → Int → Int} [A : SE K te de] : SS K Xw (tAug i te (ipI h)) (dAug i h de) := ⟨fun F W σ Γ D E R ⟨a, e, q⟩ L => by
  obtain ⟨x, e1, e2⟩ := Option.bind_eq_some_iff.mp e
  refine (se_var (K := K) i).run F W σ Γ (fun v H => te σ H fun y H1 => ipI h v y H1 fun z H2 => D.nx (σ.set i (some z)) H2) (fun rv Γ1 => rv = x ∧ Γ1 = Γ) R ⟨x, e1, rfl, rfl⟩ fun rv W1 Γ1 v s1 R1 o1 ⟨z1, z2⟩ => ?_
  subst z1
  subst z2
  have ev := int_of (o1.full R1 e2)
  refine A.run F W1 σ _ _ _ R1 q fun y W2 Γ2 u s2 R2 o2 ⟨b, e3, q⟩ => ?_
  exact ⟨a, b, ev, int_of (o2.full R2 e3), L.nx W2 _ _ (s1.sh.trans s2.sh) (R2.setSh (.int _)) q⟩⟩
end
end Dk

namespace Dk
open PySem PySem.Spec PyProof.Rows L2
section
variable {K : Fg} {F : Fx K} {W : Wd} {σ : L2.St} {Γ : G}
/-! ### things of ours without a name -/
theorem Rel.temp (R : Rel F W σ Γ) {p : Addr} {ho : HO} (hp : W.H p = none) (hm : Mo (some ho)) :
    Rel F ⟨fun a => a = p ∨ W.O a, W.ft, upd W.H p ho⟩ σ Γ ∧ Kp F W Γ ⟨fun a => a = p ∨ W.O a, W.ft, upd W.H p ho⟩ Γ ∧ Tm ⟨fun a => a = p ∨ W.O a, W.ft, upd W.H p ho⟩ Γ p ∧ F.H0 p = none ∧ ¬ F.rf p := by
  have nO : ¬ W.O p := fun z => R.free hp (.inr z)
  have nrf : ¬ F.rf p := fun z => nO (R.rfo p z)
  have nH0 : F.H0 p = none := by
    cases q : F.H0 p with
    | none => rfl
    | some u =>
      have := R.base p u q nrf
      rw [hp] at this
      cases this
  have hs : Same (W.S F) ((⟨fun a => a = p ∨ W.O a, W.ft, upd W.H p ho⟩ : Wd).S F) := same_less fun a u nx e => by
    have ne : a ≠ p := ne_of_none e hp
    refine ⟨fun z => ?_, by show upd W.H p ho a = some u; rw [upd_ne ne]; exact e⟩
    rcases z with z | z | z
    · exact nx (.inl z)
    · exact ne z
    · exact nx (.inr z)
  have keep : ∀ a, W.O a → upd W.H p ho a = W.H a := fun a ha => by
    rw [upd_ne]
    intro z
    subst z
    exact nO ha
  refine ⟨⟨fun a u e nr => ?_, fun a ha => ?_, fun a ha => ?_, fun a ha => .inr (R.rfo a ha), R.len, fun j s e => ?_, R.dis⟩, ⟨⟨hs, fun q t => ⟨⟨.inr t.1, t.2⟩, keep q t.1⟩⟩, InsK.same (same_new hp)⟩, ⟨.inl rfl, fun j s o e g ha => nO (slot_O (R.slot j s e) g p ha)⟩, nH0, nrf⟩
  · have q := R.base a u e nr
    show upd W.H p ho a = some u
    rw [upd_ne (ne_of_none q hp)]
    exact q
  · rcases ha with rfl | ha
    · exact .inl nH0
    · exact R.new a ha
  · rcases ha with rfl | ha
    · show Mo (upd W.H a ho a)
      rw [upd_same]
      exact hm
    · show Mo (upd W.H p ho a)
      rw [keep a ha]
      exact R.mu a ha
  · have z := R.slot j s e
    refine z.keep (W' := ⟨fun a => a = p ∨ W.O a, W.ft, upd W.H p ho⟩) rfl hs (fun a _ q => .inr q) (fun a ha so => ?_) (Same.ts (same_new hp))
    obtain ⟨o', so⟩ := Option.isSome_iff_exists.mp so
    exact keep a (slot_O z so a ha)
theorem Rel.putTemp (R : Rel F W σ Γ) {p : Addr} {ho : HO} (t : Tm W Γ p) (hm : Mo (some ho)) (nrf : ¬ F.rf p) :
    Rel F { W with H := upd W.H p ho } σ Γ ∧ (({ W with H := upd W.H p ho } : Wd).S F) = W.S F := by
  have hS : (({ W with H := upd W.H p ho } : Wd).S F) = W.S F := by
    funext a
    show less (upd W.H p ho) (Ex F W.O) a = less W.H (Ex F W.O) a
    unfold less
    by_cases q : Ex F W.O a
    · rw [if_pos q, if_pos q]
    · rw [if_neg q, if_neg q, upd_ne]
      intro e
      subst e
      exact q (.inr t.1)
  refine ⟨⟨fun a u e nr => ?_, R.new, fun a ha => ?_, R.rfo, R.len, fun j s e => ?_, R.dis⟩, hS⟩
  · show upd W.H p ho a = some u
    rw [upd_ne]
    · exact R.base a u e nr
    · intro q
      subst q
      rcases R.new a t.1 with q | q
      · rw [q] at e; cases e
      · exact nr q
  · by_cases q : a = p
    · subst q
      show Mo (upd W.H a ho a)
      rw [upd_same]
      exact hm
    · show Mo (upd W.H p ho a)
      rw [upd_ne q]
      exact R.mu a ha
  · have zj := R.slot j s e
    have hts : Tx W.H (upd W.H p ho) := fun a u nm q => by
      rw [upd_ne]
      · exact q
      · intro w
        subst w
        have m := R.mu a t.1
        rw [q] at m
        exact nm m
    refine zj.keep (W' := { W with H := upd W.H p ho }) rfl (by rw [hS]; exact Same.refl _) (fun _ _ q => q) (fun a ha so => ?_) hts
    obtain ⟨oj, so⟩ := Option.isSome_iff_exists.mp so
    show upd W.H p ho a = W.H a
    rw [upd_ne]
    intro w
    subst w
    exact t.2 j s oj e so ha
open Classical in
noncomputable def dropW (W : Wd) (p : Addr) : Wd := ⟨fun a => W.O a ∧ a ≠ p, W.ft, fun a => if a = p then none else W.H a⟩
theorem dropW_at {p : Addr} : (dropW W p).H p = none := if_pos rfl
theorem dropW_ne {p a : Addr} (h : a ≠ p) : (dropW W p).H a = W.H a := if_neg h
theorem dropW_upd {p : Addr} {ho : HO} (h : W.H p = some ho) : upd (dropW W p).H p ho = W.H := by
  funext a
  by_cases e : a = p
  · subst e
    rw [upd_same, h]
  · rw [upd_ne e, dropW_ne e]
theorem Rel.dropTemp (R : Rel F W σ Γ) {p : Addr} (t : Tm W Γ p) (h0 : F.H0 p = none) (nrf : ¬ F.rf p) : Rel F (dropW W p) σ Γ ∧ Same (W.S F) ((dropW W p).S F) := by
  have hs : Same (W.S F) ((dropW W p).S F) := same_less fun a u nx e => by
    have ne : a ≠ p := fun z => nx (.inr (z ▸ t.1))
    exact ⟨fun z => nx (z.imp_right And.left), by rw [dropW_ne ne]; exact e⟩
  refine ⟨⟨fun a u e nr => ?_, fun a ha => R.new a ha.1, fun a ha => ?_, fun a ha => ⟨R.rfo a ha, fun z => nrf (z ▸ ha)⟩, R.len, fun j s e => ?_, R.dis⟩, hs⟩
  · rw [dropW_ne]
    · exact R.base a u e nr
    · intro z
      rw [z, h0] at e
      cases e
  · rw [dropW_ne ha.2]
    exact R.mu a ha.1
  · have zj := R.slot j s e
    have hne : ∀ a ∈ W.ft j, ∀ oj, s.own? = some oj → a ≠ p := fun a ha oj so w => by
      subst w
      exact t.2 j s oj e so ha
    have hts : Tx W.H (dropW W p).H := fun a u nm q => by
      rw [dropW_ne]
      · exact q
      · intro w
        have m := R.mu p t.1
        rw [← w, q] at m
        exact nm m
    cases s with
    | no => trivial
    | sh d => obtain ⟨v, q1, q2⟩ := zj; exact ⟨v, q1, q2.same hs⟩
    | ar d => exact zj
    | ow o =>
      obtain ⟨q, a1, a2, a3⟩ := zj
      exact ⟨q, a1, fun a ha => ⟨⟨(a2 a ha).1, hne a ha o rfl⟩, (a2 a ha).2⟩, a3.keep hs (fun a ha => dropW_ne (hne a ha o rfl)) hts⟩
    | rf o =>
      obtain ⟨q, a0, a1, a2, a3⟩ := zj
      exact ⟨q, a0, a1, fun a ha => ⟨a2 a ha, hne a ha o rfl⟩, a3.keep hs (fun a ha => dropW_ne (hne a ha o rfl)) hts⟩
    | ro o => exact zj
end

/-! ### what is walked -/
def itK : RV → PyData → RV
  | .ar _ => .ar
  | _ => .sh
def itL (Γ : G) : RV → Option (List PyData × G)
  | .sh (.list ds) => some (ds, Γ)
  | .ar (.list ds) => some (ds, Γ)
  | .own i => match Γ[i]? with
    | some (.ow (.lst ds)) => some (ds, Γ.set i (.sh (.list ds)))
    | some (.sh (.list ds)) => some (ds, Γ)
    | _ => none
  | _ => none
def itT (Γ : G) : RV → Option (List PyData × G)
  | .sh (.tuple ds) => some (ds, Γ)
  | .ar (.tuple ds) => some (ds, Γ)
  | .own i => match Γ[i]? with
    | some (.sh (.tuple ds)) => some (ds, Γ)
    | _ => none
  | _ => none
section
variable {K : Fg} {F : Fx K} {W : Wd} {σ : L2.St} {Γ Γ2 : G} {v : V} {x : RV} {ds : List PyData}
/-- the items stand, from W on -/
def Stand (F : Fx K) (W : Wd) (x : RV) (Sq : Hp → List V → Prop) (xs : List V) (ds : List PyData) : Prop := ∀ (W' : Wd) (σ' : L2.St) (Γ' : G), Same (W.S F) (W'.S F) → Rel F W' σ' Γ' → Sq W'.H xs ∧ Paired (fun v d => VOk F W' σ' Γ' v (itK x d)) xs ds
theorem itL_ok (R : Rel F W σ Γ) (o : VOk F W σ Γ v x) (e : itL Γ x = some (ds, Γ2)) : ∃ (W2 : Wd) (a : Addr) (xs : List V), v = .ref a ∧ W2.H = W.H ∧ Stp F W Γ W2 Γ2 ∧ Rel F W2 σ Γ2 ∧ Stand F W2 x (fun H xs => H a = some (.lst xs)) xs ds := by
  have shared : ∀ {W2 : Wd} {a : Addr} {xs : List V}, itK x = RV.sh → (W2.S F) a = some (.lst xs) → DqAll K (W2.S F) xs ds → Stand F W2 x (fun H xs => H a = some (.lst xs)) xs ds := fun {W2 a xs} hk h1 h2 W' σ' Γ' s R' =>
    ⟨less_same _ _ (s _ _ h1), by rw [hk]; exact Paired.mapP (paired_of h2) fun _ _ z => z.same s⟩
  cases x with
  | fld _ _ => cases e
  | sh d =>
    cases d with
    | list ds' =>
      cases e
      cases (show Dq K (W.S F) v (.list ds) from o) with
      | lst h1 h2 => exact ⟨W, _, _, rfl, rfl, Stp.refl .., R, shared rfl h1 h2⟩
    | _ => cases e
  | ar d =>
    cases d with
    | list ds' =>
      cases e
      cases (show Dq K (less F.H0 F.rf) v (.list ds) from o) with
      | lst h1 h2 => exact ⟨W, _, _, rfl, rfl, Stp.refl .., R, fun W' σ' Γ' s R' => ⟨R'.ar_same _ _ h1, Paired.mapP (paired_of h2) fun _ _ z => z⟩⟩
    | _ => cases e
  | own i =>
    obtain ⟨s, h1, h2, h3⟩ := o
    simp only [itL, h1] at e
    cases s with
    | no => cases e
    | ar d => cases e
    | rf o => cases e
    | ro o => cases e
    | sh d =>
      cases d with
      | list ds' =>
        cases e
        obtain ⟨v', q1, q2⟩ := R.slot i _ h1
        rw [h3] at q1
        cases q1
        cases q2 with
        | lst g1 g2 => exact ⟨W, _, _, rfl, rfl, Stp.refl .., R, shared rfl g1 g2⟩
      | _ => cases e
    | ow o =>
      cases o with
      | lst ds' =>
        cases e
        obtain ⟨W2, e2, s2, R2⟩ := R.freeze h1
        obtain ⟨v', q1, q2⟩ := R2.slot i _ (List.getElem?_set_self (List.getElem?_eq_some_iff.mp h1).1)
        rw [h3] at q1
        cases q1
        cases q2 with
        | lst g1 g2 => exact ⟨W2, _, _, rfl, e2, s2, R2, shared rfl g1 g2⟩
      | _ => cases e
theorem itT_ok (R : Rel F W σ Γ) (o : VOk F W σ Γ v x) (e : itT Γ x = some (ds, Γ2)) : ∃ (W2 : Wd) (a : Addr) (xs : List V), v = .ref a ∧ W2.H = W.H ∧ Stp F W Γ W2 Γ2 ∧ Rel F W2 σ Γ2 ∧ Stand F W2 x (fun H xs => SqT K H a xs) xs ds := by
  have shared : ∀ {a : Addr} {xs : List V}, itK x = RV.sh → Tq K (W.S F) a xs → DqAll K (W.S F) xs ds → Stand F W x (fun H xs => SqT K H a xs) xs ds := fun {a xs} hk h1 h2 W' σ' Γ' s R' =>
    ⟨((h1.same s).same less_same).sq, by rw [hk]; exact Paired.mapP (paired_of h2) fun _ _ z => z.same s⟩
  cases x with
  | fld _ _ => cases e
  | sh d =>
    cases d with
    | tuple ds' =>
      cases e
      cases (show Dq K (W.S F) v (.tuple ds) from o) with
      | tup h1 h2 => exact ⟨W, _, _, rfl, rfl, Stp.refl .., R, shared rfl h1 h2⟩
    | _ => cases e
  | ar d =>
    cases d with
    | tuple ds' =>
      cases e
      cases (show Dq K (less F.H0 F.rf) v (.tuple ds) from o) with
      | tup h1 h2 => exact ⟨W, _, _, rfl, rfl, Stp.refl .., R, fun W' σ' Γ' s R' => ⟨(h1.same R'.ar_same).sq, Paired.mapP (paired_of h2) fun _ _ z => z⟩⟩
    | _ => cases e
  | own i =>
    obtain ⟨s, h1, h2, h3⟩ := o
    simp only [itT, h1] at e
    cases s with
    | no => cases e
    | ar d => cases e
    | rf o => cases e
    | ro o => cases e
    | ow o => cases e
    | sh d =>
      cases d with
      | tuple ds' =>
        cases e
        obtain ⟨v', q1, q2⟩ := R.slot i _ h1
        rw [h3] at q1
        cases q1
        cases q2 with
        | tup g1 g2 => exact ⟨W, _, _, rfl, rfl, Stp.refl .., R, shared rfl g1 g2⟩
      | _ => cases e
theorem paired_get {α β : Type} {P : α → β → Prop} : ∀ {xs : List α} {ys : List β} {i : Nat} {x : α}, Paired P xs ys → xs[i]? = some x → ∃ y, ys[i]? = some y ∧ P x y
  | _, _, _, _, .nil, e => by simp at e
  | _, _, 0, _, .cons r _, e => by simp at e; subst e; exact ⟨_, rfl, r⟩
  | _, _, i + 1, _, .cons _ t, e => by
    obtain ⟨y, h1, h2⟩ := paired_get (i := i) t (by simpa using e)
    exact ⟨y, by simpa using h1, h2⟩
end
section
variable {K : Fg} {Xw : WX} {te : TE} {de : TEd} {g : TG} {dg : TGd} {ix : List Nat} {tb : TS} {db : TSd}
def dForS (it : G → RV → Option (List PyData × G)) (de : TEd) (dg : TGd) (db : TSd) : TSd := fun E Γ => de Γ fun x Γ1 => ∃ ds Γ2, it Γ1 x = some (ds, Γ2) ∧ ∃ I : Nat → G → Prop, I 0 Γ2 ∧
  (∀ k d Γ', ds[k]? = some d → I k Γ' → dg (itK x d) Γ' fun Γ3 => db (E.lp (I (k + 1))) Γ3) ∧ ∀ Γ', I ds.length Γ' → E.nx Γ'
instance ss_forL [A : SE K te de] [B : SG K g dg ix] [C : SS K Xw tb db] : SS K Xw (tFor (iList K te) g tb) (dForS itL de dg db) := ⟨fun F W σ Γ D E R q L => A.run F W σ Γ _ _ R q fun x W1 Γ1 v s1 R1 o1 ⟨ds, Γ2, e, I, i0, step, done⟩ => by
  obtain ⟨W2, a, xs, rfl, eH, s2, R2, st⟩ := itL_ok R1 o1 e
  have s12 : Same (W.S F) (W2.S F) := s1.sh.trans s2.sh
  refine ⟨a, rfl, ⟨xs, by rw [← eH]; exact SqL.of (st W2 σ Γ2 (Same.refl _) R2).1⟩, ?_⟩
  rw [← eH]
  have hl : xs.length = ds.length := Paired.length (st W2 σ Γ2 (Same.refl _) R2).2
  refine for_list (K := K) (a := a) (xs := xs) (fun k σ' H' => ∃ W' Γ', W'.H = H' ∧ Same (W2.S F) (W'.S F) ∧ Rel F W' σ' Γ' ∧ I k Γ') ⟨W2, Γ2, rfl, Same.refl _, R2, i0⟩ ?_ ?_ ?_
  · rintro k σ' H' hk ⟨W', Γ', rfl, s', R', i'⟩
    exact SqL.of (st W' σ' Γ' s' R').1
  · rintro k y σ' H' hy ⟨W', Γ', rfl, s', R', i'⟩
    obtain ⟨d, hd, od⟩ := paired_get (st W' σ' Γ' s' R').2 hy
    refine B.run F W' σ' Γ' y _ _ _ R' od (step k d Γ' hd i') fun W3 σ3 Γ3 k3 f3 R3 q3 => ?_
    refine C.run F W3 σ3 Γ3 _ _ R3 q3 ⟨fun W4 σ4 Γ4 s4 R4 q4 => ⟨W4, Γ4, rfl, (s'.trans k3.sh).trans s4, R4, q4⟩, fun W4 σ4 Γ4 x4 v4 s4 => L.rt W4 σ4 Γ4 x4 v4 (s12.trans ((s'.trans k3.sh).trans s4)), fun W4 σ4 Γ4 o4 p4 h4 s4 => L.rn W4 σ4 Γ4 o4 p4 h4 (s12.trans ((s'.trans k3.sh).trans s4)), fun W4 σ4 Γ4 s4 => L.nx W4 σ4 Γ4 (s12.trans ((s'.trans k3.sh).trans s4)), fun W4 σ4 Γ4 s4 R4 q4 => ⟨W4, Γ4, rfl, (s'.trans k3.sh).trans s4, R4, q4⟩, fun W4 σ4 Γ4 c4 s4 => L.xs W4 σ4 Γ4 c4 (s12.trans ((s'.trans k3.sh).trans s4))⟩
  · rintro σ' H' ⟨W', Γ', rfl, s', R', i'⟩
    rw [hl] at i'
    exact L.nx W' σ' Γ' (s12.trans s') R' (done Γ' i')⟩
instance ss_forT [A : SE K te de] [B : SG K g dg ix] [C : SS K Xw tb db] : SS K Xw (tFor (iTup K te) g tb) (dForS itT de dg db) := ⟨fun F W σ Γ D E R q L => A.run F W σ Γ _ _ R q fun x W1 Γ1 v s1 R1 o1 ⟨ds, Γ2, e, I, i0, step, done⟩ => by
  obtain ⟨W2, a, xs, rfl, eH, s2, R2, st⟩ := itT_ok R1 o1 e
  have s12 : Same (W.S F) (W2.S F) := s1.sh.trans s2.sh
  refine ⟨a, rfl, ⟨xs, by rw [← eH]; exact (st W2 σ Γ2 (Same.refl _) R2).1⟩, ?_⟩
  rw [← eH]
  have hl : xs.length = ds.length := Paired.length (st W2 σ Γ2 (Same.refl _) R2).2
  refine for_tup (K := K) (a := a) (xs := xs) (fun k σ' H' => ∃ W' Γ', W'.H = H' ∧ Same (W2.S F) (W'.S F) ∧ Rel F W' σ' Γ' ∧ I k Γ') ⟨W2, Γ2, rfl, Same.refl _, R2, i0⟩ ?_ ?_ ?_
  · rintro k σ' H' hk ⟨W', Γ', rfl, s', R', i'⟩
    exact (st W' σ' Γ' s' R').1
  · rintro k y σ' H' hy ⟨W', Γ', rfl, s', R', i'⟩
    obtain ⟨d, hd, od⟩ := paired_get (st W' σ' Γ' s' R').2 hy
    refine B.run F W' σ' Γ' y _ _ _ R' od (step k d Γ' hd i') fun W3 σ3 Γ3 k3 f3 R3 q3 => ?_
    refine C.run F W3 σ3 Γ3 _ _ R3 q3 ⟨fun W4 σ4 Γ4 s4 R4 q4 => ⟨W4, Γ4, rfl, (s'.trans k3.sh).trans s4, R4, q4⟩, fun W4 σ4 Γ4 x4 v4 s4 => L.rt W4 σ4 Γ4 x4 v4 (s12.trans ((s'.trans k3.sh).trans s4)), fun W4 σ4 Γ4 o4 p4 h4 s4 => L.rn W4 σ4 Γ4 o4 p4 h4 (s12.trans ((s'.trans k3.sh).trans s4)), fun W4 σ4 Γ4 s4 => L.nx W4 σ4 Γ4 (s12.trans ((s'.trans k3.sh).trans s4)), fun W4 σ4 Γ4 s4 R4 q4 => ⟨W4, Γ4, rfl, (s'.trans k3.sh).trans s4, R4, q4⟩, fun W4 σ4 Γ4 c4 s4 => L.xs W4 σ4 Γ4 c4 (s12.trans ((s'.trans k3.sh).trans s4))⟩
  · rintro σ' H' ⟨W', Γ', rfl, s', R', i'⟩
    rw [hl] at i'
    exact L.nx W' σ' Γ' (s12.trans s') R' (done Γ' i')⟩
/-- over a range by ones -/
def Rg1 (xs : List PyData) (lo : Int) (n : Nat) : Prop := ∃ j, xs = [.int j] ∧ -(2 ^ 62) ≤ j ∧ j < 2 ^ 62 ∧ lo = 0 ∧ n = j.toNat
def Rg2 (xs : List PyData) (lo : Int) (n : Nat) : Prop := ∃ i j, xs = [.int i, .int j] ∧ (-(2 ^ 62) ≤ i ∧ i < 2 ^ 62 ∧ -(2 ^ 62) ≤ j ∧ j < 2 ^ 62) ∧ lo = i ∧ n = (j - i).toNat
def dForR (rg : List PyData → Int → Nat → Prop) (da : TAd) (dg : TGd) (db : TSd) : TSd := fun E Γ => da Γ fun xs Γ1 => ∃ ds lo n, dats Γ1 xs = some ds ∧ rg ds lo n ∧ ∃ I : Nat → G → Prop, I 0 Γ1 ∧
  (∀ k Γ', k < n → I k Γ' → dg (.sh (.int (lo + k))) Γ' fun Γ3 => db (E.lp (I (k + 1))) Γ3) ∧ ∀ Γ', I n Γ' → E.nx Γ'
theorem forR_run {F : Fx K} {W W1 : Wd} {σ : L2.St} {Γ1 : G} {D : Ends} {E : DE} {lo : Int} {n : Nat} [B : SG K g dg ix] [C : SS K Xw tb db] (s12 : Same (W.S F) (W1.S F)) (R1 : Rel F W1 σ Γ1) (L : Lk F W Xw D E) (I : Nat → G → Prop) (i0 : I 0 Γ1)
    (step : ∀ k Γ', k < n → I k Γ' → dg (.sh (.int (lo + k))) Γ' fun Γ3 => db (E.lp (I (k + 1))) Γ3) (done : ∀ Γ', I n Γ' → E.nx Γ') :
    ∃ W : Nat → Nat → L2.St → Hp → Prop, (∃ m, W 0 m σ W1.H) ∧ ∀ i m σ H, W i m σ H →
      ((Itr lo n).stop i H ∧ D.nx σ H) ∨ ((Itr lo n).go i H ∧ ∃ N : L2.St → Hp → Prop, (∀ σ' H', N σ' H' → ∃ m', m' < m ∧ W (i + 1) m' σ' H') ∧ ∀ x H', (Itr lo n).yld i H x H' → g x σ H' fun σ2 H2 => tb { D with nx := N, ct := N, bk := D.nx } σ2 H2) := by
  refine for_range (lo := lo) (n := n) (fun k σ' H' => ∃ W' Γ', W'.H = H' ∧ Same (W1.S F) (W'.S F) ∧ Rel F W' σ' Γ' ∧ I k Γ') ⟨W1, Γ1, rfl, Same.refl _, R1, i0⟩ ?_ ?_
  · rintro k σ' H' hk ⟨W', Γ', rfl, s', R', i'⟩
    refine B.run F W' σ' Γ' _ _ _ _ R' (.int _) (step k Γ' hk i') fun W3 σ3 Γ3 k3 f3 R3 q3 => ?_
    refine C.run F W3 σ3 Γ3 _ _ R3 q3 ⟨fun W4 σ4 Γ4 s4 R4 q4 => ⟨W4, Γ4, rfl, (s'.trans k3.sh).trans s4, R4, q4⟩, fun W4 σ4 Γ4 x4 v4 s4 => L.rt W4 σ4 Γ4 x4 v4 (s12.trans ((s'.trans k3.sh).trans s4)), fun W4 σ4 Γ4 o4 p4 h4 s4 => L.rn W4 σ4 Γ4 o4 p4 h4 (s12.trans ((s'.trans k3.sh).trans s4)), fun W4 σ4 Γ4 s4 => L.nx W4 σ4 Γ4 (s12.trans ((s'.trans k3.sh).trans s4)), fun W4 σ4 Γ4 s4 R4 q4 => ⟨W4, Γ4, rfl, (s'.trans k3.sh).trans s4, R4, q4⟩, fun W4 σ4 Γ4 c4 s4 => L.xs W4 σ4 Γ4 c4 (s12.trans ((s'.trans k3.sh).trans s4))⟩
  · rintro σ' H' ⟨W', Γ', rfl, s', R', i'⟩
    exact L.nx W' σ' Γ' (s12.trans s') R' (done Γ' i')
theorem ints1 {H : Hp} {vs : List V} {j : Int} (h : DqAll K H vs [.int j]) : vs = [.int j] := DqAll.ints (ns := [j]) h
theorem ints2 {H : Hp} {vs : List V} {i j : Int} (h : DqAll K H vs [.int i, .int j]) : vs = [.int i, .int j] := DqAll.ints (ns := [i, j]) h
instance ss_forR1 {ta : TA} {da : TAd} [A : SA K ta da] [B : SG K g dg ix] [C : SS K Xw tb db] : SS K Xw (tFor (iRng1 ta) g tb) (dForR Rg1 da dg db) := ⟨fun F W σ Γ D E R q L => A.run F W σ Γ _ _ R q fun xs W1 Γ1 vs s1 R1 o1 ⟨ds, lo, n, e, ⟨j, e2, b1, b2, hlo, hn⟩, I, i0, step, done⟩ => by
  subst e2 hlo hn
  exact ⟨j, ints1 (o1.full R1 e), b1, b2, forR_run s1.sh R1 L I i0 step done⟩⟩
instance ss_forR2 {ta : TA} {da : TAd} [A : SA K ta da] [B : SG K g dg ix] [C : SS K Xw tb db] : SS K Xw (tFor (iRng2 ta) g tb) (dForR Rg2 da dg db) := ⟨fun F W σ Γ D E R q L => A.run F W σ Γ _ _ R q fun xs W1 Γ1 vs s1 R1 o1 ⟨ds, lo, n, e, ⟨i, j, e2, b, hlo, hn⟩, I, i0, step, done⟩ => by
  subst e2 hlo hn
  exact ⟨_, j, ints2 (o1.full R1 e), b, forR_run s1.sh R1 L I i0 step done⟩⟩
/-- while -/
def dWhile (c : TTd) (db : TSd) : TSd := fun E Γ => ∃ (I : G → Prop) (μ : G → Nat), I Γ ∧ ∀ Γ1, I Γ1 → c Γ1 fun b Γ2 => if b = true then db (E.lp fun Γ' => I Γ' ∧ μ Γ' < μ Γ1) Γ2 else E.nx Γ2
instance ss_while {c : TT} {dc : TTd} [A : ST K c dc] [C : SS K Xw tb db] : SS K Xw (tWhile c tb) (dWhile dc db) := ⟨fun F W σ Γ D E R ⟨I, μ, i0, step⟩ L => by
  refine ⟨fun m σ' H' => ∃ W' Γ', W'.H = H' ∧ Same (W.S F) (W'.S F) ∧ Rel F W' σ' Γ' ∧ I Γ' ∧ m = μ Γ', ⟨_, W, Γ, rfl, Same.refl _, R, i0, rfl⟩, ?_⟩
  rintro m σ' H' ⟨W', Γ', rfl, s', R', i', rfl⟩
  refine A.run F W' σ' Γ' _ _ R' (step Γ' i') fun b W2 Γ2 s2 R2 q2 => ?_
  have s02 := s'.trans s2.sh
  cases b with
  | false => rw [if_neg Bool.false_ne_true] at q2; exact iteF (L.nx W2 σ' Γ2 s02 R2 q2)
  | true =>
    rw [if_pos rfl] at q2
    refine iteT ⟨fun σ3 H3 => ∃ W3 Γ3, W3.H = H3 ∧ Same (W.S F) (W3.S F) ∧ Rel F W3 σ3 Γ3 ∧ I Γ3 ∧ μ Γ3 < μ Γ', fun σ3 H3 ⟨W3, Γ3, e, s3, R3, i3, l3⟩ => ⟨μ Γ3, l3, W3, Γ3, e, s3, R3, i3, rfl⟩, ?_⟩
    exact C.run F W2 σ' Γ2 _ _ R2 q2 ⟨fun W4 σ4 Γ4 s4 R4 q4 => ⟨W4, Γ4, rfl, s02.trans s4, R4, q4⟩, fun W4 σ4 Γ4 x4 v4 s4 => L.rt W4 σ4 Γ4 x4 v4 (s02.trans s4), fun W4 σ4 Γ4 o4 p4 h4 s4 => L.rn W4 σ4 Γ4 o4 p4 h4 (s02.trans s4), fun W4 σ4 Γ4 s4 => L.nx W4 σ4 Γ4 (s02.trans s4), fun W4 σ4 Γ4 s4 R4 q4 => ⟨W4, Γ4, rfl, s02.trans s4, R4, q4⟩, fun W4 σ4 Γ4 c4 s4 => L.xs W4 σ4 Γ4 c4 (s02.trans s4)⟩⟩
end
end Dk

namespace Dk
open PySem PySem.Spec PyProof.Rows L2
/-! ### a comprehension's own names -/
def wipeG (Γ : G) : List Nat → G
  | [] => Γ
  | v :: vs => (wipeG Γ vs).set v .no
def backG (Γ1 Γ : G) : List Nat → G
  | [] => Γ
  | v :: vs => (backG Γ1 Γ vs).set v (Γ1.getD v .no)
def ownFree (Γ : G) (vs : List Nat) : Bool := vs.all fun i => match Γ[i]? with
  | some s => s.own?.isNone
  | none => true
theorem wipe_len (σ : L2.St) : ∀ vs : List Nat, (wipe σ vs).length = σ.length
  | [] => rfl
  | v :: vs => by simp [wipe, wipe_len σ vs]
theorem wipe_get (σ : L2.St) (j : Nat) : ∀ vs : List Nat, j ∉ vs → (wipe σ vs)[j]? = σ[j]?
  | [], _ => rfl
  | v :: vs, h => by
    have h1 : v ≠ j := fun z => h (by simp [z])
    have h2 : j ∉ vs := fun z => h (by simp [z])
    show ((wipe σ vs).set v none)[j]? = _
    rw [List.getElem?_set_ne h1]
    exact wipe_get σ j vs h2
theorem wipe_in (σ : L2.St) (j : Nat) : ∀ vs : List Nat, j ∈ vs → j < σ.length → (wipe σ vs)[j]? = some none
  | v :: vs, h, hl => by
    show ((wipe σ vs).set v none)[j]? = _
    by_cases e : j = v
    · subst e
      exact List.getElem?_set_self (by rw [wipe_len]; exact hl)
    · rw [List.getElem?_set_ne (Ne.symm e)]
      exact wipe_in σ j vs ((List.mem_cons.mp h).resolve_left e) hl
theorem wipe_eq {σ σ' : L2.St} {vs : List Nat} (h : ∀ j, j ∉ vs → σ'[j]? = σ[j]?) (hl : σ'.length = σ.length) : wipe σ' vs = wipe σ vs := by
  apply List.ext_getElem?
  intro j
  by_cases e : j ∈ vs
  · by_cases l : j < σ.length
    · rw [wipe_in σ' j vs e (by rw [hl]; exact l), wipe_in σ j vs e l]
    · rw [List.getElem?_eq_none (by rw [wipe_len, hl]; omega), List.getElem?_eq_none (by rw [wipe_len]; omega)]
  · rw [wipe_get σ' j vs e, wipe_get σ j vs e]
    exact h j e
theorem wipeG_len (Γ : G) : ∀ vs : List Nat, (wipeG Γ vs).length = Γ.length
  | [] => rfl
  | v :: vs => by simp [wipeG, wipeG_len Γ vs]
theorem wipeG_get (Γ : G) (j : Nat) : ∀ vs : List Nat, j ∉ vs → (wipeG Γ vs)[j]? = Γ[j]?
  | [], _ => rfl
  | v :: vs, h => by
    have h1 : v ≠ j := fun z => h (by simp [z])
    have h2 : j ∉ vs := fun z => h (by simp [z])
    show ((wipeG Γ vs).set v .no)[j]? = _
    rw [List.getElem?_set_ne h1]
    exact wipeG_get Γ j vs h2
theorem wipeG_in (Γ : G) (j : Nat) : ∀ vs : List Nat, j ∈ vs → j < Γ.length → (wipeG Γ vs)[j]? = some .no
  | v :: vs, h, hl => by
    show ((wipeG Γ vs).set v .no)[j]? = _
    by_cases e : j = v
    · subst e
      exact List.getElem?_set_self (by rw [wipeG_len]; exact hl)
    · rw [List.getElem?_set_ne (Ne.symm e)]
      exact wipeG_in Γ j vs ((List.mem_cons.mp h).resolve_left e) hl
theorem backG_len (Γ1 Γ : G) : ∀ vs : List Nat, (backG Γ1 Γ vs).length = Γ.length
  | [] => rfl
  | v :: vs => by simp [backG, backG_len Γ1 Γ vs]
theorem backG_get (Γ1 Γ : G) (j : Nat) : ∀ vs : List Nat, j ∉ vs → (backG Γ1 Γ vs)[j]? = Γ[j]?
  | [], _ => rfl
  | v :: vs, h => by
    have h1 : v ≠ j := fun z => h (by simp [z])
    have h2 : j ∉ vs := fun z => h (by simp [z])
    show ((backG Γ1 Γ vs).set v _)[j]? = _
    rw [List.getElem?_set_ne h1]
    exact backG_get Γ1 Γ j vs h2
theorem backG_in (Γ1 Γ : G) (j : Nat) : ∀ vs : List Nat, j ∈ vs → j < Γ.length → (backG Γ1 Γ vs)[j]? = some (Γ1.getD j .no)
  | v :: vs, h, hl => by
    show ((backG Γ1 Γ vs).set v _)[j]? = _
    by_cases e : j = v
    · subst e
      exact List.getElem?_set_self (by rw [backG_len]; exact hl)
    · rw [List.getElem?_set_ne (Ne.symm e)]
      exact backG_in Γ1 Γ j vs ((List.mem_cons.mp h).resolve_left e) hl
theorem lt_of_get {α : Type} {l : List α} {i : Nat} {x : α} (h : l[i]? = some x) : i < l.length := (List.getElem?_eq_some_iff.mp h).1
theorem getD_of {l : G} {i : Nat} {x : Sl} (h : l[i]? = some x) : l.getD i .no = x := by simp [List.getD, h]
theorem ownFree_at {Γ : G} {vs : List Nat} {i : Nat} {s : Sl} (h : ownFree Γ vs = true) (hi : i ∈ vs) (e : Γ[i]? = some s) : s.own? = none := by
  have q := List.all_eq_true.mp h i hi
  simp only [e] at q
  exact Option.isNone_iff_eq_none.mp q
section
variable {K : Fg} {F : Fx K} {W : Wd} {σ : L2.St} {Γ : G}
theorem Rel.wiped (R : Rel F W σ Γ) : ∀ vs : List Nat, Rel F W (L2.wipe σ vs) (wipeG Γ vs)
  | [] => R
  | v :: vs => (R.wiped vs).setNo
theorem Tm.wipe {p : Addr} (t : Tm W Γ p) (vs : List Nat) : Tm W (wipeG Γ vs) p := ⟨t.1, fun j s o e g => by
  by_cases h : j ∈ vs
  · rw [wipeG_in Γ j vs h (by rw [← wipeG_len Γ vs]; exact lt_of_get e)] at e
    cases e
    cases g
  · rw [wipeG_get Γ j vs h] at e
    exact t.2 j s o e g⟩
theorem Tm.back {Γ1 : G} {p : Addr} {vs : List Nat} (t : Tm W Γ p) (hf : ownFree Γ1 vs = true) (hl : Γ.length = Γ1.length) : Tm W (backG Γ1 Γ vs) p := ⟨t.1, fun j s o e g => by
  by_cases h : j ∈ vs
  · have l : j < Γ.length := by rw [← backG_len Γ1 Γ vs]; exact lt_of_get e
    rw [backG_in Γ1 Γ j vs h l] at e
    have l1 : j < Γ1.length := by rw [← hl]; exact l
    have e1 : Γ1[j]? = some Γ1[j] := List.getElem?_eq_getElem l1
    rw [getD_of e1] at e
    cases e
    rw [ownFree_at hf h e1] at g
    cases g
  · rw [backG_get Γ1 Γ j vs h] at e
    exact t.2 j s o e g⟩
theorem Rel.back {W1 : Wd} {Γ1 : G} {vs : List Nat} (R : Rel F W (wipe σ vs) Γ) (R1 : Rel F W1 σ Γ1) (hs : Same (W1.S F) (W.S F)) (hf : ownFree Γ1 vs = true) (hl : Γ.length = Γ1.length) : Rel F W σ (backG Γ1 Γ vs) := by
  have own : ∀ (j : Nat) (s : Sl) (o : OD), (backG Γ1 Γ vs)[j]? = some s → s.own? = some o → j ∉ vs ∧ Γ[j]? = some s := fun j s o e g => by
    by_cases h : j ∈ vs
    · have l : j < Γ.length := by rw [← backG_len Γ1 Γ vs]; exact lt_of_get e
      rw [backG_in Γ1 Γ j vs h l] at e
      have l1 : j < Γ1.length := by rw [← hl]; exact l
      have e1 : Γ1[j]? = some Γ1[j] := List.getElem?_eq_getElem l1
      rw [getD_of e1] at e
      cases e
      rw [ownFree_at hf h e1] at g
      cases g
    · rw [backG_get Γ1 Γ j vs h] at e
      exact ⟨h, e⟩
  refine ⟨R.base, R.new, R.mu, R.rfo, ?_, fun j s e => ?_, fun j k s t oi oj a ne e1 e2 g1 g2 => ?_⟩
  · rw [backG_len, ← R.len, wipe_len]
  · by_cases h : j ∈ vs
    · have l : j < Γ.length := by rw [← backG_len Γ1 Γ vs]; exact lt_of_get e
      rw [backG_in Γ1 Γ j vs h l] at e
      have l1 : j < Γ1.length := by rw [← hl]; exact l
      have e1 : Γ1[j]? = some Γ1[j] := List.getElem?_eq_getElem l1
      rw [getD_of e1] at e
      have z := R1.slot j _ e1
      have no := ownFree_at hf h e1
      cases e
      cases q : Γ1[j] with
      | no => trivial
      | sh d => rw [q] at z; obtain ⟨v, q1, q2⟩ := z; exact ⟨v, q1, q2.same hs⟩
      | ar d => rw [q] at z; exact z
      | ow o => rw [q] at no; cases no
      | rf o => rw [q] at no; cases no
      | ro o => rw [q] at z; exact z
    · rw [backG_get Γ1 Γ j vs h] at e
      have z := R.slot j s e
      rw [wipe_get σ j vs h] at z
      exact z
  · exact R.dis j k s t oi oj a ne (own j s oi e1 g1).2 (own k t oj e2 g2).2 g1 g2
end
def KnO (vs : List Nat) (Γ Γ' : G) : Prop := Γ'.length = Γ.length ∧ ∀ (i : Nat) (s : Sl), i ∉ vs → Γ[i]? = some s → ∃ s', Γ'[i]? = some s' ∧ Kn s s'
theorem KnO.refl (vs : List Nat) (Γ : G) : KnO vs Γ Γ := ⟨rfl, fun i s _ e => ⟨s, e, Kn.refl s⟩⟩
theorem KnO.trans {vs : List Nat} {Γ Γ1 Γ2 : G} (a : KnO vs Γ Γ1) (b : KnO vs Γ1 Γ2) : KnO vs Γ Γ2 := ⟨b.1.trans a.1, fun i s h e => by
  obtain ⟨s1, e1, k1⟩ := a.2 i s h e
  obtain ⟨s2, e2, k2⟩ := b.2 i s1 h e1
  exact ⟨s2, e2, k1.trans k2⟩⟩
theorem KnO.wipe {vs : List Nat} (Γ : G) : KnO vs Γ (wipeG Γ vs) := ⟨wipeG_len Γ vs, fun i s h e => ⟨s, by rw [wipeG_get Γ i vs h]; exact e, Kn.refl s⟩⟩
theorem KnO.ofStp {K : Fg} {F : Fx K} {W W' : Wd} {vs : List Nat} {Γ Γ' : G} (s : Stp F W Γ W' Γ') : KnO vs Γ Γ' := ⟨s.len, fun i t _ e => s.kin i t e⟩
theorem KnO.ofFm {vs ix : List Nat} {σ σ' : L2.St} {Γ Γ' : G} (h : ∀ i ∈ ix, i ∈ vs) (f : Fm ix σ Γ σ' Γ') : KnO vs Γ Γ' := ⟨f.gl, fun i t n e => f.ga i (fun z => n (h i z)) t e⟩
/-! ### list comprehensions -/
def dYes : TTd := fun Γ Q => Q true Γ
instance st_yes {K : Fg} : ST K tYes dYes := ⟨fun F W σ Γ Q Qd R q k => k true W Γ (Stp.refl ..) R q⟩
def subL (ix vs : List Nat) : Bool := ix.all fun i => vs.contains i
def LcTurn (dg : TGd) (dt : TTd) (de : TEd) (vs : List Nat) (x : RV) (Γ' : G) (I : Option PyData → G → Prop) : Prop :=
  dg x Γ' fun Γ3 => dt Γ3 fun b Γ4 => if b = true then de Γ4 fun y Γ5 => ∃ dy, shOf y = some dy ∧ I (some dy) (wipeG Γ5 vs) else I none (wipeG Γ4 vs)
def dLc (it : G → RV → Option (List PyData × G)) (d0 : TEd) (dg : TGd) (dt : TTd) (de : TEd) (ix vs : List Nat) : TFd := fun Γ Q => d0 Γ fun x Γ1 => ∃ ds Γ2, it Γ1 x = some (ds, Γ2) ∧ ownFree Γ2 vs = true ∧ subL ix vs = true ∧ ds.length ≤ sizeLine ∧
  ∃ I : Nat → List PyData → G → Prop, I 0 [] (wipeG Γ2 vs) ∧ (∀ k d acc Γ', ds[k]? = some d → I k acc Γ' → LcTurn dg dt de vs (itK x d) Γ' fun o Γ5 => I (k + 1) (acc ++ o.toList) Γ5) ∧ ∀ acc Γ', I ds.length acc Γ' → Q (.lst acc) (backG Γ2 Γ' vs)
def dLcR (rg : List PyData → Int → Nat → Prop) (da : TAd) (dg : TGd) (dt : TTd) (de : TEd) (ix vs : List Nat) : TFd := fun Γ Q => da Γ fun xs Γ2 => ∃ ds lo n, dats Γ2 xs = some ds ∧ rg ds lo n ∧ ownFree Γ2 vs = true ∧ subL ix vs = true ∧ n ≤ sizeLine ∧
  ∃ I : Nat → List PyData → G → Prop, I 0 [] (wipeG Γ2 vs) ∧ (∀ k acc Γ', k < n → I k acc Γ' → LcTurn dg dt de vs (.sh (.int (lo + k))) Γ' fun o Γ5 => I (k + 1) (acc ++ o.toList) Γ5) ∧ ∀ acc Γ', I n acc Γ' → Q (.lst acc) (backG Γ2 Γ' vs)
section
variable {K : Fg} {F : Fx K} {W2 : Wd} {σ : L2.St} {Γ2 : G} {vs ix : List Nat} {D : Addr} {n : Nat} {I : Nat → List PyData → G → Prop} {g : TG} {dg : TGd} {tt : TT} {dt : TTd} {te : TE} {de : TEd}
/-- the state between two turns -/
def LcSt (F : Fx K) (W2 : Wd) (σ : L2.St) (Γ2 : G) (vs : List Nat) (D : Addr) (I : Nat → List PyData → G → Prop) (k : Nat) (H' : Hp) : Prop :=
  ∃ (W' : Wd) (Γ' : G) (acc : List PyData) (us : List V), W'.H = H' ∧ Rel F W' (wipe σ vs) Γ' ∧ Tm W' Γ' D ∧ W'.H D = some (.lst us) ∧ us.length ≤ k ∧ DqAll K (W'.S F) us acc ∧ Same (W2.S F) (W'.S F) ∧
    (∀ q, q ≠ D → Tm W2 Γ2 q → Tm W' Γ' q ∧ W'.H q = W2.H q) ∧ KnO vs Γ2 Γ' ∧ InsK W2.H W'.H ∧ I k acc Γ'
theorem lc_begin (R2 : Rel F W2 σ Γ2) (hD : W2.H D = none) (i0 : I 0 [] (wipeG Γ2 vs)) : LcSt F W2 σ Γ2 vs D I 0 (upd W2.H D (.lst [])) := by
  obtain ⟨R3, k3, t3, h0, nrf⟩ := R2.temp (ho := .lst []) hD trivial
  exact ⟨_, wipeG Γ2 vs, [], [], rfl, R3.wiped vs, t3.wipe vs, upd_same, Nat.le_refl _, .nil, k3.sh, fun q ne t => ⟨(k3.tmp q t).1.wipe vs, (k3.tmp q t).2⟩, KnO.wipe Γ2, k3.obj, i0⟩
theorem lc_turn {k : Nat} {y : V} {x : RV} {W' : Wd} {Γ' : G} {acc : List PyData} {us : List V} [B : SG K g dg ix] [T : ST K tt dt] [C : SE K te de] (hix : subL ix vs = true) (nrf : ¬ F.rf D)
    (R' : Rel F W' (wipe σ vs) Γ') (t' : Tm W' Γ' D) (hd' : W'.H D = some (.lst us)) (hu : us.length ≤ k) (hk : k < sizeLine) (ha : DqAll K (W'.S F) us acc) (s' : Same (W2.S F) (W'.S F)) (tm' : ∀ q, q ≠ D → Tm W2 Γ2 q → Tm W' Γ' q ∧ W'.H q = W2.H q) (kn' : KnO vs Γ2 Γ') (ik' : InsK W2.H W'.H)
    (oy : VOk F W' (wipe σ vs) Γ' y x) (h : LcTurn dg dt de vs x Γ' fun o Γ5 => I (k + 1) (acc ++ o.toList) Γ5) :
    g y (wipe σ vs) W'.H fun σ2 H2 => wipe σ2 vs = wipe σ vs ∧ tt σ2 H2 fun b H3 => if b = true then te σ2 H3 fun y H4 => ∃ acc, H4 D = some (.lst acc) ∧ acc.length < sizeLine ∧ LcSt F W2 σ Γ2 vs D I (k + 1) (upd H4 D (.lst (acc ++ [y]))) else LcSt F W2 σ Γ2 vs D I (k + 1) H3 := by
  have hsub : ∀ i ∈ ix, i ∈ vs := fun i hi => by simpa using List.all_eq_true.mp hix i hi
  refine B.run F W' _ Γ' y x _ _ R' oy h fun W4 σ4 Γ4 k4 f4 R4 q4 => ?_
  have ew : wipe σ4 vs = wipe σ vs := wipe_eq (fun j hj => by rw [f4.st j fun z => hj (hsub j z), wipe_get σ j vs hj]) (by rw [f4.sl, wipe_len])
  refine ⟨ew, T.run F W4 σ4 Γ4 _ _ R4 q4 fun b W5 Γ5 s5 R5 q5 => ?_⟩
  have k5 : Kp F W' Γ' W5 Γ5 := k4.trans s5.toKp
  have kn5 : KnO vs Γ2 Γ5 := (kn'.trans (KnO.ofFm hsub f4)).trans (KnO.ofStp s5)
  cases b with
  | false =>
    rw [if_neg Bool.false_ne_true] at q5
    refine iteF ⟨W5, wipeG Γ5 vs, acc, us, rfl, ew ▸ R5.wiped vs, (k5.tmp D t').1.wipe vs, (k5.tmp D t').2.trans hd', Nat.le_succ_of_le hu, ha.same k5.sh, s'.trans k5.sh, fun q ne t => ?_, kn5.trans (KnO.wipe Γ5), ik'.trans k5.obj, by simpa using q5⟩
    obtain ⟨a1, a2⟩ := tm' q ne t
    exact ⟨(k5.tmp q a1).1.wipe vs, (k5.tmp q a1).2.trans a2⟩
  | true =>
    rw [if_pos rfl] at q5
    refine iteT (C.run F W5 σ4 Γ5 _ _ R5 q5 fun z W6 Γ6 vz s6 R6 o6 ⟨dy, ey, q6⟩ => ?_)
    have k6 : Kp F W' Γ' W6 Γ6 := k5.trans s6.toKp
    have hd6 : W6.H D = some (.lst us) := (k6.tmp D t').2.trans hd'
    refine ⟨us, hd6, by omega, ?_⟩
    have R6w : Rel F W6 (wipe σ vs) (wipeG Γ6 vs) := ew ▸ R6.wiped vs
    have t6 : Tm W6 (wipeG Γ6 vs) D := (k6.tmp D t').1.wipe vs
    obtain ⟨R7, eS⟩ := R6w.putTemp (ho := .lst (us ++ [vz])) t6 trivial nrf
    refine ⟨_, wipeG Γ6 vs, acc ++ [dy], us ++ [vz], rfl, R7, t6, upd_same, by simp; omega, ?_, ?_, fun q ne t => ?_, (kn5.trans (KnO.ofStp s6)).trans (KnO.wipe Γ6), (ik'.trans k6.obj).trans (InsK.upd (by rw [hd6]; trivial)), q6⟩
    · rw [eS]
      exact (ha.same k6.sh).app (.cons (o6.sh R6 ey) .nil)
    · rw [eS]
      exact s'.trans k6.sh
    · obtain ⟨a1, a2⟩ := tm' q ne t
      exact ⟨(k6.tmp q a1).1.wipe vs, by show upd W6.H D _ q = _; rw [upd_ne ne]; exact (k6.tmp q a1).2.trans a2⟩
theorem lc_end {k : Nat} {H' : Hp} {Q : VK} {Qd : OD → G → Prop} (R2 : Rel F W2 σ Γ2) (hD : W2.H D = none) (h0 : F.H0 D = none) (nrf : ¬ F.rf D) (hf : ownFree Γ2 vs = true) (h : LcSt F W2 σ Γ2 vs D I k H') (done : ∀ acc Γ', I k acc Γ' → Qd (.lst acc) (backG Γ2 Γ' vs))
    (kk : ∀ (o : OD) (W' : Wd) (Γ' : G) (p : Addr) (ho : HO), Stp F W2 Γ2 W' Γ' → Rel F W' σ Γ' → W'.H p = none → OwnH K (W'.S F) ho o → Qd o Γ' → Q (.ref p) (upd W'.H p ho)) : Q (.ref D) H' := by
  obtain ⟨W', Γ', acc, us, rfl, R', t', hd', hu, ha, s', tm', kn', ik', i'⟩ := h
  have Rb : Rel F W' σ (backG Γ2 Γ' vs) := R'.back R2 s' hf kn'.1
  have tb : Tm W' (backG Γ2 Γ' vs) D := t'.back hf kn'.1
  obtain ⟨Rd, sd⟩ := Rb.dropTemp tb h0 nrf
  rw [← dropW_upd hd']
  refine kk (.lst acc) (dropW W' D) (backG Γ2 Γ' vs) D (.lst us) ⟨⟨⟨s'.trans sd, fun q t => ?_⟩, ik'.trans fun a C dx vs e => by rw [dropW_ne (fun z => by rw [z, hd'] at e; cases e)]; exact e⟩, fun i s e => ?_, ?_⟩ Rd dropW_at ⟨us, rfl, ha.same sd⟩ (done acc Γ' i')
  · have ne : q ≠ D := fun z => by
      have m := R2.mu q t.1
      rw [z, hD] at m
      exact m
    obtain ⟨a1, a2⟩ := tm' q ne t
    have tq := a1.back hf kn'.1 (vs := vs)
    exact ⟨⟨⟨tq.1, ne⟩, tq.2⟩, by rw [dropW_ne ne]; exact a2⟩
  · by_cases hi : i ∈ vs
    · have l : i < Γ'.length := by rw [kn'.1]; exact lt_of_get e
      exact ⟨s, by rw [backG_in Γ2 Γ' i vs hi l, getD_of e], Kn.refl s⟩
    · obtain ⟨s1, e1, k1⟩ := kn'.2 i s hi e
      exact ⟨s1, by rw [backG_get Γ2 Γ' i vs hi]; exact e1, k1⟩
  · rw [backG_len]
    exact kn'.1
end
section
variable {K : Fg} {vs ix : List Nat} {g : TG} {dg : TGd} {tt : TT} {dt : TTd} {te t0 : TE} {de d0 : TEd}
instance sf_lcL [A : SE K t0 d0] [B : SG K g dg ix] [T : ST K tt dt] [C : SE K te de] : SEF K (tLc (iList K t0) g tt te vs) (dLc itL d0 dg dt de ix vs) := ⟨fun F W σ Γ Q Qd R q kk => A.run F W σ Γ _ _ R q fun x W1 Γ1 v s1 R1 o1 ⟨ds, Γ2, e, hf, hix, hl, I, i0, step, done⟩ => by
  obtain ⟨W2, a, xs, rfl, eH, s2, R2, st⟩ := itL_ok R1 o1 e
  refine ⟨a, rfl, ⟨xs, by rw [← eH]; exact SqL.of (st W2 σ Γ2 (Same.refl _) R2).1⟩, fun D hD => ?_⟩
  rw [← eH] at hD ⊢
  have hlen : xs.length = ds.length := Paired.length (st W2 σ Γ2 (Same.refl _) R2).2
  obtain ⟨_, _, _, h0, nrf⟩ := R2.temp (ho := .lst []) hD trivial
  refine lc_list (K := K) (a := a) (xs := xs) (LcSt F W2 σ Γ2 vs D I) (lc_begin R2 hD i0) ?_ ?_ ?_
  · rintro k H' hk ⟨W', Γ', acc, us, rfl, R', t', hd', hu, ha, s', tm', kn', ik', i'⟩
    exact SqL.of (st W' _ Γ' s' R').1
  · rintro k y H' hy ⟨W', Γ', acc, us, rfl, R', t', hd', hu, ha, s', tm', kn', ik', i'⟩
    obtain ⟨d, hd, od⟩ := paired_get (st W' _ Γ' s' R').2 hy
    have hk := lt_of_get hy
    exact lc_turn (x := itK x d) hix nrf R' t' hd' hu (by omega) ha s' tm' kn' ik' od (step k d acc Γ' hd i')
  · intro H' h
    rw [hlen] at h
    exact lc_end R2 hD h0 nrf hf h done fun o W' Γ' p ho s' R' hp oh q => kk o W' Γ' p ho (s1.trans (s2.trans s')) R' hp oh q⟩
instance sf_lcT [A : SE K t0 d0] [B : SG K g dg ix] [T : ST K tt dt] [C : SE K te de] : SEF K (tLc (iTup K t0) g tt te vs) (dLc itT d0 dg dt de ix vs) := ⟨fun F W σ Γ Q Qd R q kk => A.run F W σ Γ _ _ R q fun x W1 Γ1 v s1 R1 o1 ⟨ds, Γ2, e, hf, hix, hl, I, i0, step, done⟩ => by
  obtain ⟨W2, a, xs, rfl, eH, s2, R2, st⟩ := itT_ok R1 o1 e
  refine ⟨a, rfl, ⟨xs, by rw [← eH]; exact (st W2 σ Γ2 (Same.refl _) R2).1⟩, fun D hD => ?_⟩
  rw [← eH] at hD ⊢
  have hlen : xs.length = ds.length := Paired.length (st W2 σ Γ2 (Same.refl _) R2).2
  obtain ⟨_, _, _, h0, nrf⟩ := R2.temp (ho := .lst []) hD trivial
  refine lc_tup (K := K) (a := a) (xs := xs) (LcSt F W2 σ Γ2 vs D I) (lc_begin R2 hD i0) ?_ ?_ ?_
  · rintro k H' hk ⟨W', Γ', acc, us, rfl, R', t', hd', hu, ha, s', tm', kn', ik', i'⟩
    exact (st W' _ Γ' s' R').1
  · rintro k y H' hy ⟨W', Γ', acc, us, rfl, R', t', hd', hu, ha, s', tm', kn', ik', i'⟩
    obtain ⟨d, hd, od⟩ := paired_get (st W' _ Γ' s' R').2 hy
    have hk := lt_of_get hy
    exact lc_turn (x := itK x d) hix nrf R' t' hd' hu (by omega) ha s' tm' kn' ik' od (step k d acc Γ' hd i')
  · intro H' h
    rw [hlen] at h
    exact lc_end R2 hD h0 nrf hf h done fun o W' Γ' p ho s' R' hp oh q => kk o W' Γ' p ho (s1.trans (s2.trans s')) R' hp oh q⟩
instance sf_lcR1 {ta : TA} {da : TAd} [A : SA K ta da] [B : SG K g dg ix] [T : ST K tt dt] [C : SE K te de] : SEF K (tLc (iRng1 ta) g tt te vs) (dLcR Rg1 da dg dt de ix vs) := ⟨fun F W σ Γ Q Qd R q kk => A.run F W σ Γ _ _ R q fun xs W2 Γ2 v s1 R2 o1 ⟨ds, lo, n, e, ⟨j, e2, b1, b2, hlo, hn⟩, hf, hix, hl, I, i0, step, done⟩ => by
  subst e2 hlo hn
  refine ⟨j, ints1 (o1.full R2 e), b1, b2, fun D hD => ?_⟩
  obtain ⟨_, _, _, h0, nrf⟩ := R2.temp (ho := .lst []) hD trivial
  refine lc_range (LcSt F W2 σ Γ2 vs D I) (lc_begin R2 hD i0) ?_ ?_
  · rintro k H' hk ⟨W', Γ', acc, us, rfl, R', t', hd', hu, ha, s', tm', kn', ik', i'⟩
    exact lc_turn (x := .sh (.int _)) hix nrf R' t' hd' hu (by omega) ha s' tm' kn' ik' (.int _) (step k acc Γ' hk i')
  · intro H' h
    exact lc_end R2 hD h0 nrf hf h done fun o W' Γ' p ho s' R' hp oh q => kk o W' Γ' p ho (s1.trans s') R' hp oh q⟩
instance sf_lcR2 {ta : TA} {da : TAd} [A : SA K ta da] [B : SG K g dg ix] [T : ST K tt dt] [C : SE K te de] : SEF K (tLc (iRng2 ta) g tt te vs) (dLcR Rg2 da dg dt de ix vs) := ⟨fun F W σ Γ Q Qd R q kk => A.run F W σ Γ _ _ R q fun xs W2 Γ2 v s1 R2 o1 ⟨ds, lo, n, e, ⟨i, j, e2, b, hlo, hn⟩, hf, hix, hl, I, i0, step, done⟩ => by
  subst e2 hlo hn
  refine ⟨_, j, ints2 (o1.full R2 e), b, fun D hD => ?_⟩
  obtain ⟨_, _, _, h0, nrf⟩ := R2.temp (ho := .lst []) hD trivial
  refine lc_range (LcSt F W2 σ Γ2 vs D I) (lc_begin R2 hD i0) ?_ ?_
  · rintro k H' hk ⟨W', Γ', acc, us, rfl, R', t', hd', hu, ha, s', tm', kn', ik', i'⟩
    exact lc_turn (x := .sh (.int _)) hix nrf R' t' hd' hu (by omega) ha s' tm' kn' ik' (.int _) (step k acc Γ' hk i')
  · intro H' h
    exact lc_end R2 hD h0 nrf hf h done fun o W' Γ' p ho s' R' hp oh q => kk o W' Γ' p ho (s1.trans s') R' hp oh q⟩
end
end Dk

namespace Dk
open PySem PySem.Spec PyProof.Rows L2
/-! ### items -/
def odL : OD → Option (List PyData)
  | .lst ds => some ds
  | _ => none
def lstOf (Γ : G) : RV → Option (List PyData)
  | .sh (.list ds) => some ds
  | .ar (.list ds) => some ds
  | .own i => match Γ[i]? with
    | some (.ow (.lst ds)) => some ds
    | some (.rf (.lst ds)) => some ds
    | some (.sh (.list ds)) => some ds
    | _ => none
  | .fld i path => match Γ[i]? with
    | some s => s.ins?.bind fun o => (o.at_ path).bind odL
    | _ => none
  | _ => none
def tupOf (Γ : G) : RV → Option (List PyData)
  | .sh (.tuple ds) => some ds
  | .ar (.tuple ds) => some ds
  | .own i => match Γ[i]? with
    | some (.sh (.tuple ds)) => some ds
    | _ => none
  | _ => none
section
variable {K : Fg} {F : Fx K} {W : Wd} {σ : L2.St} {Γ : G} {v : V} {x : RV} {ds : List PyData}
theorem lstOf_ok (R : Rel F W σ Γ) (o : VOk F W σ Γ v x) (e : lstOf Γ x = some ds) : ∃ (a : Addr) (xs : List V), v = .ref a ∧ W.H a = some (.lst xs) ∧ Paired (fun v d => VOk F W σ Γ v (itK x d)) xs ds ∧ DqAll K W.H xs ds := by
  cases x with
  | sh d =>
    cases d with
    | list ds' =>
      cases e
      cases (show Dq K (W.S F) v (.list ds) from o) with
      | lst h1 h2 => exact ⟨_, _, rfl, less_same _ _ h1, Paired.mapP (paired_of h2) fun _ _ z => z, h2.same less_same⟩
    | _ => cases e
  | ar d =>
    cases d with
    | list ds' =>
      cases e
      cases (show Dq K (less F.H0 F.rf) v (.list ds) from o) with
      | lst h1 h2 => exact ⟨_, _, rfl, R.ar_same _ _ h1, Paired.mapP (paired_of h2) fun _ _ z => z, h2.same R.ar_same⟩
    | _ => cases e
  | own i =>
    obtain ⟨s, h1, h2, h3⟩ := o
    simp only [lstOf, h1] at e
    cases s with
    | no => cases e
    | ar d => cases e
    | sh d =>
      cases d with
      | list ds' =>
        cases e
        obtain ⟨v', q1, q2⟩ := R.slot i _ h1
        rw [h3] at q1
        cases q1
        cases q2 with
        | lst g1 g2 => exact ⟨_, _, rfl, less_same _ _ g1, Paired.mapP (paired_of g2) fun _ _ z => z, g2.same less_same⟩
      | _ => cases e
    | ow o =>
      cases o with
      | lst ds' =>
        cases e
        obtain ⟨p, q1, _, _, vs, q2, q3⟩ := R.slot i _ h1
        rw [h3] at q1
        cases q1
        exact ⟨_, _, rfl, q2, Paired.mapP (paired_of q3) fun _ _ z => z, q3.same less_same⟩
      | _ => cases e
    | rf o =>
      cases o with
      | lst ds' =>
        cases e
        obtain ⟨p, _, q1, _, _, vs, q2, q3⟩ := R.slot i _ h1
        rw [h3] at q1
        cases q1
        exact ⟨_, _, rfl, q2, Paired.mapP (paired_of q3) fun _ _ z => z, q3.same less_same⟩
      | _ => cases e
    | ro o => cases e
  | fld i path =>
    obtain ⟨s, p, o, h1, h2, h3, h4⟩ := o
    simp only [lstOf, h1, h2, Option.bind_some] at e
    obtain ⟨o', e1, e2⟩ := Option.bind_eq_some_iff.mp e
    obtain ⟨p', f, g1, g2, _⟩ := R.insOk h1 h2
    rw [h3] at g1
    cases g1
    obtain ⟨q, F', rfl, _, hO⟩ := g2.path e1 h4
    cases o' with
    | lst ds' =>
      cases e2
      simp only [OwnO] at hO
      obtain ⟨_, vs, q2, q3⟩ := hO
      exact ⟨_, _, rfl, q2, Paired.mapP (paired_of q3) fun _ _ z => z, q3.same less_same⟩
    | _ => cases e2
theorem tupOf_ok (R : Rel F W σ Γ) (o : VOk F W σ Γ v x) (e : tupOf Γ x = some ds) : ∃ (a : Addr) (xs : List V), v = .ref a ∧ Tq K W.H a xs ∧ Paired (fun v d => VOk F W σ Γ v (itK x d)) xs ds ∧ DqAll K W.H xs ds := by
  cases x with
  | fld _ _ => cases e
  | sh d =>
    cases d with
    | tuple ds' =>
      cases e
      cases (show Dq K (W.S F) v (.tuple ds) from o) with
      | tup h1 h2 => exact ⟨_, _, rfl, h1.same less_same, Paired.mapP (paired_of h2) fun _ _ z => z, h2.same less_same⟩
    | _ => cases e
  | ar d =>
    cases d with
    | tuple ds' =>
      cases e
      cases (show Dq K (less F.H0 F.rf) v (.tuple ds) from o) with
      | tup h1 h2 => exact ⟨_, _, rfl, h1.same R.ar_same, Paired.mapP (paired_of h2) fun _ _ z => z, h2.same R.ar_same⟩
    | _ => cases e
  | own i =>
    obtain ⟨s, h1, h2, h3⟩ := o
    simp only [tupOf, h1] at e
    cases s with
    | no => cases e
    | ar d => cases e
    | ow o => cases e
    | rf o => cases e
    | ro o => cases e
    | sh d =>
      cases d with
      | tuple ds' =>
        cases e
        obtain ⟨v', q1, q2⟩ := R.slot i _ h1
        rw [h3] at q1
        cases q1
        cases q2 with
        | tup g1 g2 => exact ⟨_, _, rfl, g1.same less_same, Paired.mapP (paired_of g2) fun _ _ z => z, g2.same less_same⟩
      | _ => cases e
theorem paired_get' {α β : Type} {P : α → β → Prop} : ∀ {xs : List α} {ys : List β} {i : Nat} {y : β}, Paired P xs ys → ys[i]? = some y → ∃ x, xs[i]? = some x ∧ P x y
  | _, _, _, _, .nil, e => by simp at e
  | _, _, 0, _, .cons r _, e => by simp at e; subst e; exact ⟨_, rfl, r⟩
  | _, _, i + 1, _, .cons _ t, e => by
    obtain ⟨y, h1, h2⟩ := paired_get' (i := i) t (by simpa using e)
    exact ⟨y, by simpa using h1, h2⟩
theorem paired_atI {P : V → PyData → Prop} {xs : List V} {ys : List PyData} {i : Int} {y : PyData} (h : Paired P xs ys) (e : atI ys i = some y) : ∃ x, atI xs i = some x ∧ P x y := by
  unfold atI at e ⊢
  rw [Paired.length h]
  obtain ⟨j, e1, e2⟩ := Option.bind_eq_some_iff.mp e
  obtain ⟨x, h1, h2⟩ := paired_get' h e2
  exact ⟨x, by rw [e1]; exact h1, h2⟩
end
section
variable {K : Fg} {ta tb : TE} {da db : TEd}
def dIx (sq : G → RV → Option (List PyData)) (da db : TEd) : TEd := fun Γ Q => da Γ fun x Γ1 => db Γ1 fun y Γ2 => ∃ i ds d, dat Γ2 y = some (.int i) ∧ sq Γ2 x = some ds ∧ atI ds i = some d ∧ Q (itK x d) Γ2
instance se_ixL [SE K ta da] [SE K tb db] : SE K (tOp (rIxL K) ta tb) (dIx lstOf da db) := ⟨fun F W σ Γ Q Qd R q k => two R q fun x y W' Γ' u v s' R' o1 o2 ⟨i, ds, d, e1, e2, e3, q⟩ => by
  obtain ⟨a, xs, rfl, h1, h2, _⟩ := lstOf_ok R' o1 e2
  obtain ⟨z, g1, g2⟩ := paired_atI h2 e3
  exact ⟨a, xs, i, z, rfl, int_of (o2.full R' e1), SqL.of h1, g1, k _ W' Γ' _ s' R' g2 q⟩⟩
instance se_ixT [SE K ta da] [SE K tb db] : SE K (tOp (rIxT K) ta tb) (dIx tupOf da db) := ⟨fun F W σ Γ Q Qd R q k => two R q fun x y W' Γ' u v s' R' o1 o2 ⟨i, ds, d, e1, e2, e3, q⟩ => by
  obtain ⟨a, xs, rfl, h1, h2, _⟩ := tupOf_ok R' o1 e2
  obtain ⟨z, g1, g2⟩ := paired_atI h2 e3
  exact ⟨a, xs, i, z, rfl, int_of (o2.full R' e1), h1.sq, g1, k _ W' Γ' _ s' R' g2 q⟩⟩
/-! ### slices -/
class SO (K : Fg) (t : TO) (d : outParam (G → (Option Int → G → Prop) → Prop)) : Prop where
  run : ∀ (F : Fx K) (W : Wd) (σ : L2.St) (Γ : G) (Q : Option Int → Hp → Prop) (Qd : Option Int → G → Prop), Rel F W σ Γ → d Γ Qd →
    (∀ (b : Option Int) (W' : Wd) (Γ' : G), Stp F W Γ W' Γ' → Rel F W' σ Γ' → Qd b Γ' → Q b W'.H) → t σ W.H Q
def dNoPart : G → (Option Int → G → Prop) → Prop := fun Γ Q => Q none Γ
def dPart (da : TEd) : G → (Option Int → G → Prop) → Prop := fun Γ Q => da Γ fun x Γ1 => ∃ i, dat Γ1 x = some (.int i) ∧ Q (some i) Γ1
instance so_none : SO K tNoPart dNoPart := ⟨fun F W σ Γ Q Qd R q k => k none W Γ (Stp.refl ..) R q⟩
instance so_some [A : SE K ta da] : SO K (tPart ta) (dPart da) := ⟨fun F W σ Γ Q Qd R q k => A.run F W σ Γ _ _ R q fun x W' Γ' v s' R' o1 ⟨i, e1, q⟩ => ⟨i, int_of (o1.full R' e1), k _ W' Γ' s' R' q⟩⟩
def cutD (xs : List PyData) (lo hi : Option Int) : List PyData := (xs.drop (HT.sIx xs.length 0 lo)).take (HT.sIx xs.length xs.length hi - HT.sIx xs.length 0 lo)
/-- the items may be kept -/
def keepable (x : RV) (ds : List PyData) : Prop := match x with
  | .ar _ => tupOs ds = true
  | _ => True
theorem DqAll.ofPaired {H : Hp} : ∀ {vs : List V} {ds : List PyData}, Paired (fun v d => Dq K H v d) vs ds → DqAll K H vs ds
  | _, _, .nil => .nil
  | _, _, .cons a b => .cons a (DqAll.ofPaired b)
theorem keep_ok {F : Fx K} {W : Wd} {σ : L2.St} {Γ : G} {x : RV} {xs : List V} {ds : List PyData} (R : Rel F W σ Γ) (h : Paired (fun v d => VOk F W σ Γ v (itK x d)) xs ds) (hk : keepable x ds) : DqAll K (W.S F) xs ds := by
  cases x with
  | sh d => exact DqAll.ofPaired h
  | own i => exact DqAll.ofPaired h
  | fld i p => exact DqAll.ofPaired h
  | ar d =>
    have q : DqAll K (less F.H0 F.rf) xs ds := DqAll.ofPaired h
    exact DqAll.tupO_less (H' := W.H) (fun a z => R.exmo z) _ _ hk (q.same R.ar_same)
def dSl (da : TEd) (dl dh : G → (Option Int → G → Prop) → Prop) : TFd := fun Γ Q => da Γ fun x Γ1 => dl Γ1 fun lo Γ2 => dh Γ2 fun hi Γ3 => ∃ ds, lstOf Γ3 x = some ds ∧ keepable x ds ∧ Q (.lst (cutD ds lo hi)) Γ3
instance sf_slice {tl th : TO} {dl dh : G → (Option Int → G → Prop) → Prop} [A : SE K ta da] [L : SO K tl dl] [U : SO K th dh] : SEF K (L2.tSl (rSlL K) ta tl th) (dSl da dl dh) := ⟨fun F W σ Γ Q Qd R q k => A.run F W σ Γ _ _ R q fun x W1 Γ1 v s1 R1 o1 q => L.run F W1 σ Γ1 _ _ R1 q fun lo W2 Γ2 s2 R2 q => U.run F W2 σ Γ2 _ _ R2 q fun hi W3 Γ3 s3 R3 ⟨ds, e, hk, q⟩ => by
  obtain ⟨a, xs, rfl, h1, h2, _⟩ := lstOf_ok R3 (o1.stp (s2.trans s3)) e
  have hd := keep_ok R3 h2 hk
  refine ⟨a, xs, rfl, SqL.of h1, fun p hp => k (.lst (cutD ds lo hi)) W3 Γ3 p _ (s1.trans (s2.trans s3)) R3 hp ⟨_, rfl, ?_⟩ q⟩
  unfold cutV cutD
  rw [hd.length]
  exact (hd.drop _).take _⟩
/-! ### lists put together -/
def dCat (da db : TEd) : TFd := fun Γ Q => da Γ fun x Γ1 => db Γ1 fun y Γ2 => ∃ ds es, lstOf Γ2 x = some ds ∧ lstOf Γ2 y = some es ∧ keepable x ds ∧ keepable y es ∧ ds.length + es.length ≤ sizeLine ∧ Q (.lst (ds ++ es)) Γ2
instance sf_cat [SE K ta da] [SE K tb db] : SEF K (tOp rCat ta tb) (dCat da db) := ⟨fun F W σ Γ Q Qd R q k => two R q fun x y W' Γ' u v s' R' o1 o2 ⟨ds, es, e1, e2, k1, k2, hl, q⟩ => by
  obtain ⟨a, xs, rfl, h1, h2, _⟩ := lstOf_ok R' o1 e1
  obtain ⟨b, ys, rfl, g1, g2, _⟩ := lstOf_ok R' o2 e2
  have hd := keep_ok R' h2 k1
  have he := keep_ok R' g2 k2
  exact ⟨a, b, xs, ys, rfl, rfl, h1, g1, by rw [hd.length, he.length]; exact hl, fun p hp => k (.lst (ds ++ es)) W' Γ' p _ s' R' hp ⟨_, rfl, hd.app he⟩ q⟩⟩
def repD (ds : List PyData) (n : Nat) : List PyData := (List.replicate n ds).flatten
/-! ### calls of what is built in -/
def rLen (K : Fg) : List V → Hp → VK → Prop := fun xs H Q => ∃ p ys, xs = [.ref p] ∧ (SqL K H p ys ∨ SqT K H p ys) ∧ Q (.int ys.length) H
theorem b_len {X : Cx} : CallR X (.builtin "len") (rLen X.K) := call_len_seq
def rListOf (K : Fg) : List V → Hp → VK → Prop := fun xs H Q => ∃ p ys, xs = [.ref p] ∧ (SqL K H p ys ∨ SqT K H p ys) ∧ ∀ l, H l = none → Q (.ref l) (upd H l (.lst ys))
theorem b_list {X : Cx} : CallR X (.type "list") (rListOf X.K) := call_list_of
def rTupOf (K : Fg) : List V → Hp → VK → Prop := fun xs H Q => ∃ p ys, xs = [.ref p] ∧ ((SqL K H p ys ∧ ∀ l, H l = none → Q (.ref l) (upd H l (.tup ys))) ∨ (SqT K H p ys ∧ Q (.ref p) H))
theorem b_tuple {X : Cx} : CallR X (.type "tuple") (rTupOf X.K) := call_tuple_of
def rAbs : List V → Hp → VK → Prop := fun xs H Q => ∃ i, xs = [.int i] ∧ Q (.int (if i < 0 then -i else i)) H
theorem b_abs {X : Cx} : CallR X (.builtin "abs") rAbs := call_abs
def rMx2 : List V → Hp → VK → Prop := fun xs H Q => ∃ i j, xs = [.int i, .int j] ∧ Q (.int (if j > i then j else i)) H
theorem b_max2 {X : Cx} (hc : X.calm = true) : CallR X (.builtin "max") rMx2 := call_max2 hc
def rMn2 : List V → Hp → VK → Prop := fun xs H Q => ∃ i j, xs = [.int i, .int j] ∧ Q (.int (if j < i then j else i)) H
theorem b_min2 {X : Cx} (hc : X.calm = true) : CallR X (.builtin "min") rMn2 := call_min2 hc
def seqOf (Γ : G) (x : RV) : Option (List PyData) := match lstOf Γ x with
  | some ds => some ds
  | none => tupOf Γ x
theorem seqOf_ok {F : Fx K} {W : Wd} {σ : L2.St} {Γ : G} {v : V} {x : RV} {ds : List PyData} (R : Rel F W σ Γ) (o : VOk F W σ Γ v x) (e : seqOf Γ x = some ds) : ∃ (a : Addr) (xs : List V), v = .ref a ∧ (W.H a = some (.lst xs) ∨ Tq K W.H a xs) ∧ Paired (fun v d => VOk F W σ Γ v (itK x d)) xs ds ∧ DqAll K W.H xs ds := by
  unfold seqOf at e
  split at e
  · rename_i ds' h
    cases e
    obtain ⟨a, xs, h1, h2, h3⟩ := lstOf_ok R o h
    exact ⟨a, xs, h1, .inl h2, h3⟩
  · obtain ⟨a, xs, h1, h2, h3⟩ := tupOf_ok R o e
    exact ⟨a, xs, h1, .inr h2, h3⟩
theorem sq_or {H : Hp} {a : Addr} {xs : List V} (h : H a = some (.lst xs) ∨ Tq K H a xs) : SqL K H a xs ∨ SqT K H a xs := h.imp (fun z => SqL.of z) fun z => z.sq
/-- one argument -/
theorem one {F : Fx K} {W : Wd} {σ : L2.St} {Γ : G} {Qd : RV → G → Prop} {Q : List V → Hp → Prop} [A : SE K ta da] (R : Rel F W σ Γ) (h : da Γ Qd) (k : ∀ (x : RV) (W' : Wd) (Γ' : G) (v : V), Stp F W Γ W' Γ' → Rel F W' σ Γ' → VOk F W' σ Γ' v x → Qd x Γ' → Q [v] W'.H) : tCons ta tNil σ W.H Q :=
  A.run F W σ Γ _ _ R h fun x W' Γ' v s' R' o q => k x W' Γ' v s' R' o q
def dLen (da : TEd) : TEd := fun Γ Q => da Γ fun x Γ1 => ∃ ds, seqOf Γ1 x = some ds ∧ Q (.sh (.int ds.length)) Γ1
instance se_len [SE K ta da] : SE K (tCB (rLen K) (tCons ta tNil)) (dLen da) := ⟨fun F W σ Γ Q Qd R q k => one (ta := ta) (da := da) R q fun x W' Γ' v s' R' o ⟨ds, e, q⟩ => by
  obtain ⟨a, xs, rfl, h1, h2, h3⟩ := seqOf_ok R' o e
  refine ⟨a, xs, rfl, sq_or h1, ?_⟩
  rw [h3.length]
  exact k _ W' Γ' _ s' R' (.int _) q⟩
def dListOf (da : TEd) : TFd := fun Γ Q => da Γ fun x Γ1 => ∃ ds, seqOf Γ1 x = some ds ∧ keepable x ds ∧ Q (.lst ds) Γ1
instance sf_listOf [SE K ta da] : SEF K (tCB (rListOf K) (tCons ta tNil)) (dListOf da) := ⟨fun F W σ Γ Q Qd R q k => one (ta := ta) (da := da) R q fun x W' Γ' v s' R' o ⟨ds, e, hk, q⟩ => by
  obtain ⟨a, xs, rfl, h1, h2, h3⟩ := seqOf_ok R' o e
  exact ⟨a, xs, rfl, sq_or h1, fun l hl => k (.lst ds) W' Γ' l _ s' R' hl ⟨xs, rfl, keep_ok R' h2 hk⟩ q⟩⟩
def dTupOf (da : TEd) : TEd := fun Γ Q => da Γ fun x Γ1 => ∃ ds, lstOf Γ1 x = some ds ∧ keepable x ds ∧ Q (.sh (.tuple ds)) Γ1
instance se_tupOf [SE K ta da] : SE K (tCB (rTupOf K) (tCons ta tNil)) (dTupOf da) := ⟨fun F W σ Γ Q Qd R q k => one (ta := ta) (da := da) R q fun x W' Γ' v s' R' o ⟨ds, e, hk, q⟩ => by
  obtain ⟨a, xs, rfl, h1, h2, h3⟩ := lstOf_ok R' o e
  have hd := keep_ok R' h2 hk
  refine ⟨a, xs, rfl, .inl ⟨SqL.of h1, fun p hp => ?_⟩⟩
  have hS := same_new (o := .tup xs) hp
  refine k (.sh (.tuple ds)) { W' with H := upd W'.H p (.tup xs) } Γ' (.ref p) (s'.trans (Stp.grow R' hS)) (R'.grow hS).1 ?_ q
  exact .tup (.inl (S_of (W := { W' with H := upd W'.H p (.tup xs) }) (R'.free hp) upd_same)) (hd.same (R'.grow hS).2)⟩
def absI (i : Int) : Int := if i < 0 then -i else i
def dAbs (da : TEd) : TEd := fun Γ Q => da Γ fun x Γ1 => ∃ i, dat Γ1 x = some (.int i) ∧ Q (.sh (.int (absI i))) Γ1
instance se_abs [SE K ta da] : SE K (tCB rAbs (tCons ta tNil)) (dAbs da) := ⟨fun F W σ Γ Q Qd R q k => one (ta := ta) (da := da) R q fun x W' Γ' v s' R' o ⟨i, e, q⟩ => ⟨i, by rw [int_of (o.full R' e)], k _ W' Γ' _ s' R' (.int _) q⟩⟩
def d2I (h : Int → Int → Int) (da : TAd) : TEd := fun Γ Q => da Γ fun xs Γ1 => ∃ i j, dats Γ1 xs = some [.int i, .int j] ∧ Q (.sh (.int (h i j))) Γ1
def maxI (i j : Int) : Int := if j > i then j else i
def minI (i j : Int) : Int := if j < i then j else i
instance se_max2 {t : TA} {d : TAd} [A : SA K t d] : SE K (tCB rMx2 t) (d2I maxI d) := ⟨fun F W σ Γ Q Qd R q k => A.run F W σ Γ _ _ R q fun xs W' Γ' vs s' R' o ⟨i, j, e, q⟩ => ⟨i, j, ints2 (o.full R' e), k _ W' Γ' _ s' R' (.int _) q⟩⟩
instance se_min2 {t : TA} {d : TAd} [A : SA K t d] : SE K (tCB rMn2 t) (d2I minI d) := ⟨fun F W σ Γ Q Qd R q k => A.run F W σ Γ _ _ R q fun xs W' Γ' vs s' R' o ⟨i, j, e, q⟩ => ⟨i, j, ints2 (o.full R' e), k _ W' Γ' _ s' R' (.int _) q⟩⟩
/-- a list of numbers -/
def dSum (da : TEd) : TEd := fun Γ Q => da Γ fun x Γ1 => ∃ ns : List Int, lstOf Γ1 x = some (ns.map .int) ∧ Q (.sh (.int ns.sum)) Γ1
instance se_sum [SE K ta da] : SE K (tCB (rSum K) (tCons ta tNil)) (dSum da) := ⟨fun F W σ Γ Q Qd R q k => one (ta := ta) (da := da) R q fun x W' Γ' v s' R' o ⟨ns, e, q⟩ => by
  obtain ⟨a, xs, rfl, h1, h2, h3⟩ := lstOf_ok R' o e
  exact ⟨a, ns, rfl, SqL.of (h3.ints ▸ h1), k _ W' Γ' _ s' R' (.int _) q⟩⟩
def dMaxL (da : TEd) : TEd := fun Γ Q => da Γ fun x Γ1 => ∃ ns : List Int, lstOf Γ1 x = some (ns.map .int) ∧ 0 < ns.length ∧ ∀ m, m ∈ ns → (∀ y, y ∈ ns → y ≤ m) → Q (.sh (.int m)) Γ1
instance se_maxL [SE K ta da] : SE K (tCB (rMax K) (tCons ta tNil)) (dMaxL da) := ⟨fun F W σ Γ Q Qd R q k => one (ta := ta) (da := da) R q fun x W' Γ' v s' R' o ⟨ns, e, hl, q⟩ => by
  obtain ⟨a, xs, rfl, h1, h2, h3⟩ := lstOf_ok R' o e
  exact ⟨a, ns, rfl, SqL.of (h3.ints ▸ h1), hl, fun m hm hy => k _ W' Γ' _ s' R' (.int _) (q m hm hy)⟩⟩
def dMinL (da : TEd) : TEd := fun Γ Q => da Γ fun x Γ1 => ∃ ns : List Int, lstOf Γ1 x = some (ns.map .int) ∧ 0 < ns.length ∧ ∀ m, m ∈ ns → (∀ y, y ∈ ns → m ≤ y) → Q (.sh (.int m)) Γ1
instance se_minL [SE K ta da] : SE K (tCB (rMin K) (tCons ta tNil)) (dMinL da) := ⟨fun F W σ Γ Q Qd R q k => one (ta := ta) (da := da) R q fun x W' Γ' v s' R' o ⟨ns, e, hl, q⟩ => by
  obtain ⟨a, xs, rfl, h1, h2, h3⟩ := lstOf_ok R' o e
  exact ⟨a, ns, rfl, SqL.of (h3.ints ▸ h1), hl, fun m hm hy => k _ W' Γ' _ s' R' (.int _) (q m hm hy)⟩⟩
def dAnyAll (f : List Bool → Bool) (da : TEd) : TEd := fun Γ Q => da Γ fun x Γ1 => ∃ bs : List Bool, lstOf Γ1 x = some (bs.map .bool) ∧ Q (.sh (.bool (f bs))) Γ1
instance se_any [SE K ta da] : SE K (tCB (rAny K) (tCons ta tNil)) (dAnyAll (fun bs => bs.any id) da) := ⟨fun F W σ Γ Q Qd R q k => one (ta := ta) (da := da) R q fun x W' Γ' v s' R' o ⟨ns, e, q⟩ => by
  obtain ⟨a, xs, rfl, h1, h2, h3⟩ := lstOf_ok R' o e
  exact ⟨a, ns, rfl, SqL.of (h3.bools ▸ h1), k _ W' Γ' _ s' R' (.bl _) q⟩⟩
instance se_all [SE K ta da] : SE K (tCB (rAll K) (tCons ta tNil)) (dAnyAll (fun bs => bs.all id) da) := ⟨fun F W σ Γ Q Qd R q k => one (ta := ta) (da := da) R q fun x W' Γ' v s' R' o ⟨ns, e, q⟩ => by
  obtain ⟨a, xs, rfl, h1, h2, h3⟩ := lstOf_ok R' o e
  exact ⟨a, ns, rfl, SqL.of (h3.bools ▸ h1), k _ W' Γ' _ s' R' (.bl _) q⟩⟩
/-- sorted: numbers -/
def dSortI (da : TEd) : TFd := fun Γ Q => da Γ fun x Γ1 => ∃ ns : List Int, lstOf Γ1 x = some (ns.map .int) ∧ ∀ ms : List Int, ms.Perm ns → ms.Pairwise (· ≤ ·) → Q (.lst (ms.map .int)) Γ1
instance sf_sortI [SE K ta da] : SEF K (tCB (rSortedI K) (tCons ta tNil)) (dSortI da) := ⟨fun F W σ Γ Q Qd R q k => one (ta := ta) (da := da) R q fun x W' Γ' v s' R' o ⟨ns, e, q⟩ => by
  obtain ⟨a, xs, rfl, h1, h2, h3⟩ := lstOf_ok R' o e
  exact ⟨a, ns, rfl, SqL.of (h3.ints ▸ h1), fun ms p hp hs hn => k (.lst (ms.map .int)) W' Γ' p _ s' R' hn ⟨_, rfl, DqAll.ofInts ms⟩ (q ms hp hs)⟩⟩
/-- isinstance(x, T) -/
def tyD : PyData → String
  | .none => "NoneType"
  | .bool _ => "bool"
  | .int _ => "int"
  | .str _ => "str"
  | .list _ => "list"
  | .tuple _ => "tuple"
  | .dict _ => "dict"
def kitD (d : PyData) (n : String) : Option Bool := match d with
  | .dict _ => none
  | d => kitB (tyD d) n
theorem ty_of {H : Hp} {v : V} {d : PyData} {n : String} {b : Bool} (h : Dq K H v d) (e : kitD d n = some b) : TyX K H v (.type (tyD d)) ∧ kitB (tyD d) n = some b := by
  cases d with
  | none => cases h; exact ⟨.base .non, e⟩
  | bool b => cases h; exact ⟨.base (.bl _), e⟩
  | int b => cases h; exact ⟨.base (.int _), e⟩
  | str b => cases h; exact ⟨.base (.str _), e⟩
  | list b =>
    cases h with
    | lst a b => exact ⟨.base (.lst a), e⟩
  | tuple b =>
    cases h with
    | tup a b =>
      rcases a with a | ⟨_, o, _, _, e', c, _⟩
      · exact ⟨.base (.tup a), e⟩
      · exact ⟨.kTuple e' c, e⟩
  | dict b => cases e
def dIsi (n : String) (da : TEd) : TEd := fun Γ Q => da Γ fun x Γ1 => ∃ d b, dat Γ1 x = some d ∧ kitD d n = some b ∧ Q (.sh (.bool b)) Γ1
instance se_isi {n : String} [A : SE K ta da] : SE K (tCB (rIsi K) (tCons ta (tCons (tC (.ty n)) tNil))) (dIsi n da) := ⟨fun F W σ Γ Q Qd R q k => A.run F W σ Γ _ _ R q fun x W' Γ' v s' R' o ⟨d, b, e, h, q⟩ =>
  ⟨v, .ty n, _, _, b, rfl, .ty n, (ty_of (o.full R' e) h).1, kit_ty (ty_of (o.full R' e) h).2, k _ W' Γ' _ s' R' (.bl _) q⟩⟩
/-- x in xs, flat things -/
def scV : PyData → Option V
  | .int i => some (.int i)
  | .str i => some (.str i)
  | .bool i => some (.bl i)
  | .none => some .non
  | _ => none
def scVs : List PyData → Option (List V)
  | [] => some []
  | x :: xs => match scV x, scVs xs with
    | some v, some vs => some (v :: vs)
    | _, _ => none
theorem scV_ok {H : Hp} {v u : V} {d : PyData} (h : Dq K H v d) (e : scV d = some u) : v = u ∧ flatV v = true := by
  cases d with
  | none => cases h; cases e; exact ⟨rfl, rfl⟩
  | bool b => cases h; cases e; exact ⟨rfl, rfl⟩
  | int b => cases h; cases e; exact ⟨rfl, rfl⟩
  | str b => cases h; cases e; exact ⟨rfl, rfl⟩
  | list b => cases e
  | tuple b => cases e
  | dict b => cases e
theorem scVs_ok {H : Hp} : ∀ {vs us : List V} {ds : List PyData}, DqAll K H vs ds → scVs ds = some us → vs = us ∧ vs.all flatV = true
  | _, _, [], h, e => by cases h; cases e; exact ⟨rfl, rfl⟩
  | _, _, d :: ds, h, e => by
    cases h with
    | cons a b =>
      simp only [scVs] at e
      split at e
      · rename_i v vs e1 e2
        cases e
        obtain ⟨r1, r2⟩ := scV_ok a e1
        obtain ⟨q1, q2⟩ := scVs_ok b e2
        subst r1 q1
        exact ⟨rfl, by simp [r2, q2]⟩
      · cases e
def dIn (neg : Bool) (da db : TEd) : TEd := fun Γ Q => da Γ fun x Γ1 => db Γ1 fun y Γ2 => ∃ d ds u us, dat Γ2 x = some d ∧ seqOf Γ2 y = some ds ∧ scV d = some u ∧ scVs ds = some us ∧ Q (.sh (.bool (if neg then !inV u us else inV u us))) Γ2
instance se_in {neg : Bool} [SE K ta da] [SE K tb db] : SE K (tOp (rIn K neg) ta tb) (dIn neg da db) := ⟨fun F W σ Γ Q Qd R q k => two R q fun x y W' Γ' u v s' R' o1 o2 ⟨d, ds, w, ws, e1, e2, e3, e4, q⟩ => by
  obtain ⟨b, ys, rfl, g1, g2, g3⟩ := seqOf_ok R' o2 e2
  obtain ⟨r1, r2⟩ := scV_ok (o1.full R' e1) e3
  obtain ⟨q1, q2⟩ := scVs_ok g3 e4
  subst r1 q1
  exact ⟨b, ys, rfl, sq_or g1, r2, q2, k _ W' Γ' _ s' R' (.bl _) q⟩⟩
theorem inV_ints (i : Int) (ns : List Int) : inV (.int i) (ns.map V.int) = decide (i ∈ ns) := by
  induction ns with
  | nil => rfl
  | cons n ns ih =>
    have e : inV (.int i) ((n :: ns).map V.int) = (eqV (.int n) (.int i) || inV (.int i) (ns.map V.int)) := rfl
    rw [e, ih]
    by_cases h : i = n
    · subst h
      simp [eqV]
    · have h' : n ≠ i := fun z => h z.symm
      simp [eqV, h, h']
theorem scVs_ints (ns : List Int) : scVs (ns.map .int) = some (ns.map V.int) := by
  induction ns with
  | nil => rfl
  | cons n ns ih => simp [scVs, scV, ih]
end
/-! ### the rules by the written part itself -/
section
variable {X : Cx}
theorem kixL (K : Fg) (h : X.K = K := by rfl) : IxR X (rIxL K) := h ▸ ix_list
theorem kixT (K : Fg) (h : X.K = K := by rfl) : IxR X (rIxT K) := h ▸ ix_tup
theorem kslL (K : Fg) (h : X.K = K := by rfl) : SlR X (rSlL K) := h ▸ sl_list
theorem klen (K : Fg) (h : X.K = K := by rfl) : CallR X (.builtin "len") (rLen K) := h ▸ b_len
theorem klist (K : Fg) (h : X.K = K := by rfl) : CallR X (.type "list") (rListOf K) := h ▸ b_list
theorem ktuple (K : Fg) (h : X.K = K := by rfl) : CallR X (.type "tuple") (rTupOf K) := h ▸ b_tuple
theorem ksum (K : Fg) (hc : X.calm = true) (h : X.K = K := by rfl) : CallR X (.builtin "sum") (rSum K) := h ▸ cr_sum hc
theorem kmax (K : Fg) (hc : X.calm = true) (h : X.K = K := by rfl) : CallR X (.builtin "max") (rMax K) := h ▸ cr_max hc
theorem kmin (K : Fg) (hc : X.calm = true) (h : X.K = K := by rfl) : CallR X (.builtin "min") (rMin K) := h ▸ cr_min hc
theorem kany (K : Fg) (hc : X.calm = true) (h : X.K = K := by rfl) : CallR X (.builtin "any") (rAny K) := h ▸ cr_any hc
theorem kall (K : Fg) (hc : X.calm = true) (h : X.K = K := by rfl) : CallR X (.builtin "all") (rAll K) := h ▸ cr_all hc
theorem kisi (K : Fg) (h : X.K = K := by rfl) : CallR X (.builtin "isinstance") (rIsi K) := h ▸ call_isi
theorem ksortI (K : Fg) (h : X.K = K := by rfl) : CallR X (.builtin "sorted") (rSortedI K) := h ▸ cr_sortedI
theorem kin (K : Fg) (h : X.K = K := by rfl) : OpR X (compareOp .In) (rIn K false) := h ▸ op_in_seq
theorem knotin (K : Fg) (h : X.K = K := by rfl) : OpR X (compareOp .NotIn) (rIn K true) := h ▸ op_notIn_seq
theorem keqD (K : Fg) (hu : X.A.units + 64 < cLine) (h : X.K = K := by rfl) : OpR X (compareOp .Eq) (rEqD K) := h ▸ op_eqD hu
theorem kneD (K : Fg) (hu : X.A.units + 64 < cLine) (h : X.K = K := by rfl) : OpR X (compareOp .NotEq) (rNeD K) := h ▸ op_neD hu
theorem kcatT (K : Fg) (h : X.K = K := by rfl) : OpR X (binaryOp .Add) (rCatT K) := h ▸ op_catT
theorem kpil (K : Fg) {tg l : Expr} {tl : TE} (hl : PE X l tl) (h : X.K = K := by rfl) : PI X tg l (iList K tl) := h ▸ pi_list hl
theorem kpit (K : Fg) {tg l : Expr} {tl : TE} (hl : PE X l tl) (h : X.K = K := by rfl) : PI X tg l (iTup K tl) := h ▸ pi_tup hl
theorem kpg (K : Fg) (n : Nat) {es : List Expr} {k : Nat} {pos : Pos} {t : TGs} (hc : X.calm = true) (hg : PGs X es t) (h : X.K = K := by rfl) (hn : (assignEach es X.env).length = n := by rfl) (hst : (assignEach es X.env).findIdx? (·.1) = none := by rfl) : PG X (.Tuple es k pos) (gTup K n t) := h ▸ pg_tup hc hg hn hst
theorem kbm (K : Fg) {T : String} {name : Str} {id : String} {o e : Expr} {es : List Expr} {to : TE} {t : TA} {r : V → List V → Hp → VK → Prop} {apos cpos : Pos} (pa : PlainAttrs T) (slot : Slot T name id) (hty : typeOf (.builtin id) = pure (.type "method_descriptor")) (hm : MtR X id r) (ho : PE X o to) (ha : PA X (e :: es) t) (h : X.K = K := by rfl)
    (hbase : attributeBase o name X.env (eval o X.env) = eval o X.env := by rfl)
    (hfew : ((backTo cpos (starEach (e :: es) X.env)).all (fun x => !x.1) && (backToKw cpos (keywordEach [] X.env)).all (fun x => x.1.isSome)
      && decide ((e :: es).length + ([] : List Keyword).length + (if ([] : List Keyword).isEmpty then 0 else 1) < 30)) = true := by rfl)
    (hline : (apos.endLine == cpos.line) = true := by rfl) (hs : starEach (e :: es) X.env = (false, eval e X.env) :: starEach es X.env := by rfl) (hplain : (backTo cpos (starEach es X.env)).any (·.1) = false := by rfl) :
    PE X (.Call (.Attribute o name apos) (e :: es) [] cpos) (tBM K T r to t) := h ▸ pe_bm pa slot hty hm ho ha hbase hfew hline hs hplain
theorem kbm0 (K : Fg) {T : String} {name : Str} {id : String} {o : Expr} {to : TE} {r : V → List V → Hp → VK → Prop} {apos cpos : Pos} (pa : PlainAttrs T) (slot : Slot T name id) (hty : typeOf (.builtin id) = pure (.type "method_descriptor")) (hm : MtR X id r) (ho : PE X o to) (h : X.K = K := by rfl)
    (hbase : attributeBase o name X.env (eval o X.env) = eval o X.env := by rfl) (hline : (apos.endLine == cpos.line) = true := by rfl) : PE X (.Call (.Attribute o name apos) [] [] cpos) (tBM0 K T r to) := h ▸ pe_bm0 pa slot hty hm ho hbase hline
end
end Dk

namespace Dk
open PySem PySem.Spec PyProof.Rows L2
/-! ### lists that are changed -/
section
variable {K : Fg} {te ti : TE} {de di : TEd}
theorem own_lst {F : Fx K} {W : Wd} {σ : L2.St} {Γ : G} {i : Nat} {s : Sl} {ds : List PyData} {p : Addr} (R : Rel F W σ Γ) (h1 : Γ[i]? = some s) (h2 : s.own? = some (.lst ds)) (h3 : σ[i]? = some (some (.ref p))) : ∃ vs, W.H p = some (.lst vs) ∧ DqAll K (W.S F) vs ds := by
  have q := R.slot i s h1
  cases s with
  | no => cases h2
  | sh _ => cases h2
  | ar _ => cases h2
  | ro _ => cases h2
  | ow o =>
    cases h2
    obtain ⟨p', e1, _, _, vs, e2, e3⟩ := q
    rw [h3] at e1
    cases e1
    exact ⟨vs, e2, e3⟩
  | rf o =>
    cases h2
    obtain ⟨p', _, e1, _, _, vs, e2, e3⟩ := q
    rw [h3] at e1
    cases e1
    exact ⟨vs, e2, e3⟩
theorem own_ref {F : Fx K} {W : Wd} {σ : L2.St} {Γ : G} {i : Nat} {s : Sl} {o : OD} (R : Rel F W σ Γ) (h1 : Γ[i]? = some s) (h2 : s.own? = some o) : ∃ p, σ[i]? = some (some (.ref p)) := by
  have q := R.slot i s h1
  cases s with
  | no => cases h2
  | sh _ => cases h2
  | ar _ => cases h2
  | ro _ => cases h2
  | ow o => obtain ⟨p', e1, _⟩ := q; exact ⟨p', e1⟩
  | rf o => obtain ⟨p', _, e1, _⟩ := q; exact ⟨p', e1⟩
def ownL (Γ : G) (i : Nat) : Option (List PyData) := match Γ[i]? with
  | some (.ow (.lst ds)) => some ds
  | some (.rf (.lst ds)) => some ds
  | _ => none
def putL (Γ : G) (i : Nat) (ds : List PyData) : G := match Γ[i]? with
  | some s => Γ.set i (setOwn s (.lst ds))
  | none => Γ
theorem ownL_of {Γ : G} {i : Nat} {ds : List PyData} (h : ownL Γ i = some ds) : ∃ s, Γ[i]? = some s ∧ s.own? = some (.lst ds) ∧ ∀ es, putL Γ i es = Γ.set i (setOwn s (.lst es)) := by
  unfold ownL at h
  split at h
  · rename_i ds' e
    cases h
    exact ⟨_, e, rfl, fun es => by simp [putL, e]⟩
  · rename_i ds' e
    cases h
    exact ⟨_, e, rfl, fun es => by simp [putL, e]⟩
  · cases h
def dAppend (i : Nat) (de : TEd) : TEd := fun Γ Q => (ownL Γ i).isSome = true ∧ de Γ fun x Γ1 => ∃ ds d, ownL Γ1 i = some ds ∧ shOf x = some d ∧ ds.length < sizeLine ∧ Q (.sh .none) (putL Γ1 i (ds ++ [d]))
instance se_append {i : Nat} [A : SE K te de] : SE K (tBM K "list" rAppend (tVar i) (tCons te tNil)) (dAppend i de) := ⟨fun F W σ Γ Q Qd R ⟨h0, q⟩ k => by
  obtain ⟨ds0, h0⟩ := Option.isSome_iff_exists.mp h0
  obtain ⟨s0, a1, a2, _⟩ := ownL_of h0
  obtain ⟨p, e0⟩ := own_ref R a1 a2
  obtain ⟨vs0, b1, b2⟩ := own_lst R a1 a2 e0
  refine ⟨.ref p, e0, .inl ⟨rfl, _, SqL.of b1⟩, ?_⟩
  refine A.run F W σ Γ _ _ R q fun x W' Γ' v s' R' o ⟨ds, d, h1, e2, hl, q⟩ => ?_
  obtain ⟨s, c1, c2, c3⟩ := ownL_of h1
  obtain ⟨vs, b1, b2⟩ := own_lst R' c1 c2 e0
  have hh : OwnH K (W'.S F) (.lst (vs ++ [v])) (.lst (ds ++ [d])) := ⟨_, rfl, b2.app (.cons (o.sh R' e2) .nil)⟩
  refine ⟨p, vs, v, rfl, rfl, b1, by rw [b2.length]; exact hl, ?_⟩
  rw [c3] at q
  exact k _ { W' with H := upd W'.H p (.lst (vs ++ [v])) } _ _ (s'.trans (Stp.put R' c1 c2 rfl e0 hh)) (R'.put c1 c2 rfl e0 hh).1 .non q⟩
def dExtend (i : Nat) (de : TEd) : TEd := fun Γ Q => (ownL Γ i).isSome = true ∧ de Γ fun x Γ1 => ∃ ds es, ownL Γ1 i = some ds ∧ lstOf Γ1 x = some es ∧ keepable x es ∧ ds.length + es.length ≤ sizeLine ∧ Q (.sh .none) (putL Γ1 i (ds ++ es))
instance se_extend {i : Nat} [A : SE K te de] : SE K (tBM K "list" rExtend (tVar i) (tCons te tNil)) (dExtend i de) := ⟨fun F W σ Γ Q Qd R ⟨h0, q⟩ k => by
  obtain ⟨ds0, h0⟩ := Option.isSome_iff_exists.mp h0
  obtain ⟨s0, a1, a2, _⟩ := ownL_of h0
  obtain ⟨p, e0⟩ := own_ref R a1 a2
  obtain ⟨vs0, b1, b2⟩ := own_lst R a1 a2 e0
  refine ⟨.ref p, e0, .inl ⟨rfl, _, SqL.of b1⟩, ?_⟩
  refine A.run F W σ Γ _ _ R q fun x W' Γ' v s' R' o ⟨ds, es, h1, e2, hk, hl, q⟩ => ?_
  obtain ⟨s, c1, c2, c3⟩ := ownL_of h1
  obtain ⟨vs, b1, b2⟩ := own_lst R' c1 c2 e0
  obtain ⟨b, ys, rfl, g1, g2, g3⟩ := lstOf_ok R' o e2
  have he := keep_ok R' g2 hk
  have hh : OwnH K (W'.S F) (.lst (vs ++ ys)) (.lst (ds ++ es)) := ⟨_, rfl, b2.app he⟩
  refine ⟨p, b, vs, ys, rfl, rfl, b1, g1, by rw [b2.length, he.length]; exact hl, ?_⟩
  rw [c3] at q
  exact k _ { W' with H := upd W'.H p (.lst (vs ++ ys)) } _ _ (s'.trans (Stp.put R' c1 c2 rfl e0 hh)) (R'.put c1 c2 rfl e0 hh).1 .non q⟩
def dPop (i : Nat) : TEd := fun Γ Q => ∃ ds d, ownL Γ i = some ds ∧ ds[ds.length - 1]? = some d ∧ Q (.sh d) (putL Γ i ds.dropLast)
instance se_pop {i : Nat} : SE K (tBM0 K "list" rPop (tVar i)) (dPop i) := ⟨fun F W σ Γ Q Qd R ⟨ds, d, h0, e, q⟩ k => by
  obtain ⟨s, c1, c2, c3⟩ := ownL_of h0
  obtain ⟨p, e0⟩ := own_ref R c1 c2
  obtain ⟨vs, b1, b2⟩ := own_lst R c1 c2 e0
  obtain ⟨v, g1, g2⟩ := b2.get e
  have hh : OwnH K (W.S F) (.lst vs.dropLast) (.lst ds.dropLast) := ⟨_, rfl, b2.dropLast⟩
  refine ⟨.ref p, e0, .inl ⟨rfl, _, SqL.of b1⟩, p, vs, v, rfl, rfl, b1, by rw [b2.length]; exact g1, ?_⟩
  rw [c3] at q
  refine k _ { W with H := upd W.H p (.lst vs.dropLast) } _ _ (Stp.put R c1 c2 rfl e0 hh) (R.put c1 c2 rfl e0 hh).1 (.ofSh ?_) q
  rw [(R.put c1 c2 rfl e0 hh).2]
  exact g2⟩
/-- xs[i] = .. -/
def dSubL (i : Nat) (di : TEd) : TGd := fun x Γ Q => (ownL Γ i).isSome = true ∧ di Γ fun y Γ1 => ∃ k j ds d, dat Γ1 y = some (.int k) ∧ ownL Γ1 i = some ds ∧ ixN ds.length k = some j ∧ shOf x = some d ∧ Q (putL Γ1 i (ds.set j d))
theorem Fm.ofStp {F : Fx K} {W W' : Wd} {Γ Γ' : G} {σ : L2.St} {ix : List Nat} (s : Stp F W Γ W' Γ') : Fm ix σ Γ σ Γ' := ⟨fun _ _ => rfl, fun j _ t e => s.kin j t e, rfl, s.len⟩
instance sg_subL {i : Nat} [A : SE K ti di] : SG K (gSub (tVar i) ti rSetL) (dSubL i di) [i] := ⟨fun F W σ Γ v x Q Qd R o ⟨h0, q⟩ kk => by
  obtain ⟨ds0, h0⟩ := Option.isSome_iff_exists.mp h0
  obtain ⟨s0, a1, a2, _⟩ := ownL_of h0
  obtain ⟨p, e0⟩ := own_ref R a1 a2
  refine ⟨.ref p, e0, A.run F W σ Γ _ _ R q fun y W' Γ' u s' R' o' ⟨k, j, ds, d, e1, h1, e2, e3, q⟩ => ?_⟩
  obtain ⟨s, c1, c2, c3⟩ := ownL_of h1
  obtain ⟨vs, b1, b2⟩ := own_lst R' c1 c2 e0
  have hh : OwnH K (W'.S F) (.lst (vs.set j v)) (.lst (ds.set j d)) := ⟨_, rfl, b2.setAt ((o.stp s').sh R' e3)⟩
  refine ⟨p, vs, k, j, rfl, int_of (o'.full R' e1), b1, by rw [b2.length]; exact e2, ?_⟩
  rw [c3] at q
  have st := s'.trans (Stp.put R' c1 c2 rfl e0 hh)
  exact kk { W' with H := upd W'.H p (.lst (vs.set j v)) } σ _ st.toKp (Fm.ofStp st) (R'.put c1 c2 rfl e0 hh).1 q⟩
end
/-! ### dicts -/
section
variable {κ : Type} [DecidableEq κ]
def valD (kvs : List (κ × PyData)) (k : κ) : Option PyData := (kvs.find? fun kv => decide (kv.1 = k)).map (·.2)
def putD (kvs : List (κ × PyData)) (k : κ) (v : PyData) : List (κ × PyData) :=
  if (kvs.any fun kv => decide (kv.1 = k)) = true then kvs.map (fun kv => if kv.1 = k then (kv.1, v) else kv) else kvs ++ [(k, v)]
variable {K : Fg} {S : Hp}
theorem KvOk.val {us : List (κ × V)} {kvs : List (κ × PyData)} (h : KvOk K S us kvs) (k : κ) : (valD kvs k = none → valV us k = none) ∧ ∀ d, valD kvs k = some d → ∃ v, valV us k = some v ∧ Dq K S v d := by
  unfold KvOk at h
  induction h with
  | nil => exact ⟨fun _ => rfl, fun d e => by cases e⟩
  | @cons p q ps qs h t ih =>
    obtain ⟨h1, h2⟩ := h
    by_cases e : q.1 = k
    · have e' : p.1 = k := h1.trans e
      refine ⟨fun z => by simp [valD, List.find?_cons, e] at z, fun d z => ⟨p.2, valV_pos e', ?_⟩⟩
      simp [valD, List.find?_cons, e] at z
      rw [← z]
      exact h2
    · have e' : ¬ p.1 = k := fun z => e (h1.symm.trans z)
      have r : valD (q :: qs) k = valD qs k := by simp [valD, List.find?_cons, e]
      rw [r, valV_neg e']
      exact ih
theorem KvOk.any {us : List (κ × V)} {kvs : List (κ × PyData)} (h : KvOk K S us kvs) (k : κ) : (us.any fun kv => decide (kv.1 = k)) = (kvs.any fun kv => decide (kv.1 = k)) := by
  unfold KvOk at h
  induction h with
  | nil => rfl
  | @cons p q ps qs h t ih => rw [List.any_cons, List.any_cons, ih, h.1]
theorem KvOk.put {us : List (κ × V)} {kvs : List (κ × PyData)} (h : KvOk K S us kvs) (k : κ) {v : V} {d : PyData} (hv : Dq K S v d) : KvOk K S (putK us k v) (putD kvs k d) := by
  unfold putK putD
  rw [h.any k]
  split
  · unfold KvOk at h ⊢
    rename_i hsp
    clear hsp
    induction h with
    | nil => exact .nil
    | @cons p q ps qs h t ih =>
      refine .cons ?_ ih
      by_cases e : q.1 = k
      · have e' : p.1 = k := h.1.trans e
        simp [e, e', hv]
      · have e' : ¬ p.1 = k := fun z => e (h.1.symm.trans z)
        simp [e, e', h]
  · unfold KvOk at h ⊢
    rename_i hsp
    clear hsp
    induction h with
    | nil => exact .cons ⟨rfl, hv⟩ .nil
    | @cons p q ps qs h t ih => exact .cons h ih
theorem KvOk.length {us : List (κ × V)} {kvs : List (κ × PyData)} (h : KvOk K S us kvs) : us.length = kvs.length := Paired.length h
theorem KvOk.keys {us : List (κ × V)} {kvs : List (κ × PyData)} (h : KvOk K S us kvs) : us.map (·.1) = kvs.map (·.1) := by
  unfold KvOk at h
  induction h with
  | nil => rfl
  | @cons p q ps qs h t ih => rw [List.map_cons, List.map_cons, ih, h.1]
end
def keyD : PyData → Option Key
  | .int i => some (.inl i)
  | .str i => some (.inr i)
  | _ => none
def keysD : List PyData → Option (List Key)
  | [] => some []
  | x :: xs => match keyD x, keysD xs with
    | some v, some vs => some (v :: vs)
    | _, _ => none
section
variable {K : Fg} {te td ty tv : TE} {de dy dv : TEd}
theorem keyD_ok {H : Hp} {v : V} {d : PyData} {k : Key} (h : Dq K H v d) (e : keyD d = some k) : v = kV k := by
  cases d with
  | int b => cases h; cases e; rfl
  | str b => cases h; cases e; rfl
  | _ => cases e
theorem keysD_ok {H : Hp} : ∀ {vs : List V} {ds : List PyData} {ks : List Key}, DqAll K H vs ds → keysD ds = some ks → vs = ks.map kV
  | _, [], _, h, e => by cases h; cases e; rfl
  | _, d :: ds, _, h, e => by
    cases h with
    | cons a b =>
      simp only [keysD] at e
      split at e
      · rename_i v vs e1 e2
        cases e
        rw [keyD_ok a e1, keysD_ok b e2]
        rfl
      · cases e
/-- a dict that is data -/
def valP : List (PyData × PyData) → Key → Option PyData
  | [], _ => none
  | (e, d) :: r, k => if keyD e = some k then some d else valP r k
theorem keyD_kD (k : Key) : keyD (kD k) = some k := by cases k <;> rfl
theorem DqKv.val {H : Hp} {k : Key} : ∀ {us : List (Key × V)} {kvs : List (PyData × PyData)}, DqKv K H us kvs → (valP kvs k = none → valV us k = none) ∧ ∀ d, valP kvs k = some d → ∃ v, valV us k = some v ∧ Dq K H v d
  | _, _, .nil => ⟨fun _ => rfl, fun d e => by cases e⟩
  | (k0, v0) :: us, (e, d) :: kvs, .cons he hv hr => by
    subst he
    have ih := DqKv.val (k := k) hr
    by_cases c : k0 = k
    · have e1 : valP ((kD k0, d) :: kvs) k = some d := by simp [valP, keyD_kD, c]
      rw [e1]
      exact ⟨(fun z => nomatch z), fun d' z => by cases z; exact ⟨v0, valV_pos c, hv⟩⟩
    · have e1 : valP ((kD k0, d) :: kvs) k = valP kvs k := by simp [valP, keyD_kD, c]
      rw [e1, valV_neg c]
      exact ih
theorem valP_map (kvs : List (Key × PyData)) (k : Key) : valP (kvs.map fun p => (kD p.1, p.2)) k = valD kvs k := by
  induction kvs with
  | nil => rfl
  | cons p r ih =>
    by_cases c : p.1 = k
    · simp [valP, keyD_kD, c, valD, List.find?_cons]
    · have : valD (p :: r) k = valD r k := by simp [valD, List.find?_cons, c]
      rw [this, ← ih]
      simp [valP, keyD_kD, c]
/-- .. of which no more is asked than what may be kept -/
def valA (kvs : List (PyData × PyData)) (k : Key) : Option (Option PyData) := match valP kvs k with
  | none => some none
  | some d => if tupO d = true then some (some d) else none
/-- a dict of a name, as far as one asks: what stands at a key -/
def dictAt (Γ : G) (i : Nat) (key : PyData) : Option (Option PyData) := match Γ[i]? with
  | some (.ow (.dK kvs)) => (keyD key).map fun k => valD kvs k
  | some (.rf (.dK kvs)) => (keyD key).map fun k => valD kvs k
  | some (.ow (.dT kvs)) => match key with
    | .tuple ds => if KT = true then none else (keysD ds).map fun k => valD kvs k
    | _ => none
  | some (.rf (.dT kvs)) => match key with
    | .tuple ds => if KT = true then none else (keysD ds).map fun k => valD kvs k
    | _ => none
  | some (.sh (.dict kvs)) => (keyD key).map fun k => valP kvs k
  | some (.ar (.dict kvs)) => (keyD key).bind fun k => valA kvs k
  | _ => none
def isDict (Γ : G) (i : Nat) : Bool := match Γ[i]? with
  | some (.ow (.dK _)) => true
  | some (.rf (.dK _)) => true
  | some (.ow (.dT _)) => true
  | some (.rf (.dT _)) => true
  | some (.sh (.dict _)) => true
  | some (.ar (.dict _)) => true
  | _ => false
def dictPut (Γ : G) (i : Nat) (key v : PyData) : Option (G × Nat) := match Γ[i]? with
  | some (.ow (.dK kvs)) => (keyD key).map fun k => (Γ.set i (.ow (.dK (putD kvs k v))), kvs.length)
  | some (.rf (.dK kvs)) => (keyD key).map fun k => (Γ.set i (.rf (.dK (putD kvs k v))), kvs.length)
  | some (.ow (.dT kvs)) => match key with
    | .tuple ds => if KT = true then none else (keysD ds).map fun k => (Γ.set i (.ow (.dT (putD kvs k v))), kvs.length)
    | _ => none
  | some (.rf (.dT kvs)) => match key with
    | .tuple ds => if KT = true then none else (keysD ds).map fun k => (Γ.set i (.rf (.dT (putD kvs k v))), kvs.length)
    | _ => none
  | _ => none
theorem own_dK {F : Fx K} {W : Wd} {σ : L2.St} {Γ : G} {i : Nat} {s : Sl} {kvs : List (Key × PyData)} (R : Rel F W σ Γ) (h1 : Γ[i]? = some s) (h2 : s.own? = some (.dK kvs)) : ∃ p us, σ[i]? = some (some (.ref p)) ∧ W.H p = some (.dK us) ∧ KvOk K (W.S F) us kvs := by
  have q := R.slot i s h1
  cases s with
  | no => cases h2
  | sh _ => cases h2
  | ar _ => cases h2
  | ro _ => cases h2
  | ow o =>
    cases h2
    obtain ⟨p', e1, _, _, vs, e2, e3⟩ := q
    exact ⟨p', vs, e1, e2, e3⟩
  | rf o =>
    cases h2
    obtain ⟨p', _, e1, _, _, vs, e2, e3⟩ := q
    exact ⟨p', vs, e1, e2, e3⟩
theorem own_dT {F : Fx K} {W : Wd} {σ : L2.St} {Γ : G} {i : Nat} {s : Sl} {kvs : List (List Key × PyData)} (R : Rel F W σ Γ) (h1 : Γ[i]? = some s) (h2 : s.own? = some (.dT kvs)) : ∃ p us, σ[i]? = some (some (.ref p)) ∧ W.H p = some (.dT us) ∧ KvOk K (W.S F) us kvs := by
  have q := R.slot i s h1
  cases s with
  | no => cases h2
  | sh _ => cases h2
  | ar _ => cases h2
  | ro _ => cases h2
  | ow o =>
    cases h2
    obtain ⟨p', e1, _, _, vs, e2, e3⟩ := q
    exact ⟨p', vs, e1, e2, e3⟩
  | rf o =>
    cases h2
    obtain ⟨p', _, e1, _, _, vs, e2, e3⟩ := q
    exact ⟨p', vs, e1, e2, e3⟩
theorem tup_ref {H : Hp} {v : V} {ds : List PyData} (kt : ¬ KT = true) (h : Dq K H v (.tuple ds)) : ∃ b vs, v = .ref b ∧ H b = some (.tup vs) ∧ DqAll K H vs ds := by
  cases h with
  | tup a b => exact ⟨_, _, rfl, a.resolve_right fun z => kt z.1, b⟩
theorem isDict_ref {F : Fx K} {W : Wd} {σ : L2.St} {Γ : G} {i : Nat} (R : Rel F W σ Γ) (h : isDict Γ i = true) : ∃ p, σ[i]? = some (some (.ref p)) ∧ IsD W.H p := by
  unfold isDict at h
  split at h
  · rename_i kvs e
    obtain ⟨p, us, e1, e2, e3⟩ := own_dK R e rfl
    exact ⟨p, e1, .inl ⟨us, .inl e2⟩⟩
  · rename_i kvs e
    obtain ⟨p, us, e1, e2, e3⟩ := own_dK R e rfl
    exact ⟨p, e1, .inl ⟨us, .inl e2⟩⟩
  · rename_i kvs e
    obtain ⟨p, us, e1, e2, e3⟩ := own_dT R e rfl
    exact ⟨p, e1, .inr ⟨us, .inl e2⟩⟩
  · rename_i kvs e
    obtain ⟨p, us, e1, e2, e3⟩ := own_dT R e rfl
    exact ⟨p, e1, .inr ⟨us, .inl e2⟩⟩
  · rename_i kvs e
    obtain ⟨v, q1, q2⟩ := R.slot i _ e
    cases q2 with
    | dct a b => exact ⟨_, q1, .inl ⟨_, L2.Same.rd less_same a⟩⟩
  · rename_i kvs e
    obtain ⟨v, q1, q2⟩ := R.slot i _ e
    cases q2 with
    | dct a b => exact ⟨_, q1, .inl ⟨_, L2.Same.rd R.ar_same a⟩⟩
  · cases h
theorem _root_.L2.DGet.kr {H : Hp} {a : Addr} {kvs : List (Key × V)} {k : Key} (e : L2.Rd H a (.dK kvs)) : DGet H a (kV k) (valV kvs k) := .inl ⟨kvs, k, e, rfl, rfl⟩
/-- what is looked up -/
theorem dictAt_ok {F : Fx K} {W : Wd} {σ : L2.St} {Γ : G} {i : Nat} {key : PyData} {r : Option PyData} {y : V} {p : Addr} (R : Rel F W σ Γ) (hy : Dq K W.H y key) (e0 : σ[i]? = some (some (.ref p))) (h : dictAt Γ i key = some r) :
    ∃ o, DGet W.H p y o ∧ (r = none → o = none) ∧ ∀ d, r = some d → ∃ v, o = some v ∧ Dq K (W.S F) v d := by
  have useK : ∀ {s : Sl} {kvs : List (Key × PyData)}, Γ[i]? = some s → s.own? = some (.dK kvs) → (keyD key).map (fun k => valD kvs k) = some r → ∃ o, DGet W.H p y o ∧ (r = none → o = none) ∧ ∀ d, r = some d → ∃ v, o = some v ∧ Dq K (W.S F) v d := fun {s kvs} h1 h2 h3 => by
    obtain ⟨p', us, e1, e2, e3⟩ := own_dK R h1 h2
    rw [e0] at e1
    cases e1
    obtain ⟨k, g1, g2⟩ := Option.map_eq_some_iff.mp h3
    rw [keyD_ok hy g1, ← g2]
    exact ⟨_, DGet.k e2, fun z => (e3.val k).1 z, fun d z => (e3.val k).2 d z⟩
  have useT : ∀ (kt : ¬ KT = true) {s : Sl} {kvs : List (List Key × PyData)} {ds : List PyData}, key = .tuple ds → Γ[i]? = some s → s.own? = some (.dT kvs) → (keysD ds).map (fun k => valD kvs k) = some r → ∃ o, DGet W.H p y o ∧ (r = none → o = none) ∧ ∀ d, r = some d → ∃ v, o = some v ∧ Dq K (W.S F) v d := fun kt {s kvs ds} hk h1 h2 h3 => by
    obtain ⟨p', us, e1, e2, e3⟩ := own_dT R h1 h2
    rw [e0] at e1
    cases e1
    obtain ⟨k, g1, g2⟩ := Option.map_eq_some_iff.mp h3
    subst hk
    obtain ⟨b, vs, rfl, t1, t2⟩ := tup_ref kt hy
    rw [keysD_ok t2 g1] at t1
    rw [← g2]
    exact ⟨_, DGet.t e2 t1, fun z => (e3.val k).1 z, fun d z => (e3.val k).2 d z⟩
  unfold dictAt at h
  split at h
  · rename_i kvs e
    exact useK e rfl h
  · rename_i kvs e
    exact useK e rfl h
  · rename_i kvs e
    cases key with
    | tuple ds =>
      by_cases kt : KT = true
      · dsimp only at h; rw [if_pos kt] at h; cases h
      · dsimp only at h; rw [if_neg kt] at h; exact useT kt rfl e rfl h
    | _ => cases h
  · rename_i kvs e
    cases key with
    | tuple ds =>
      by_cases kt : KT = true
      · dsimp only at h; rw [if_pos kt] at h; cases h
      · dsimp only at h; rw [if_neg kt] at h; exact useT kt rfl e rfl h
    | _ => cases h
  · rename_i kvs e
    obtain ⟨v, q1, q2⟩ := R.slot i _ e
    rw [e0] at q1
    cases q1
    obtain ⟨k, g1, g2⟩ := Option.map_eq_some_iff.mp h
    cases q2 with
    | dct a b =>
      rw [keyD_ok hy g1, ← g2]
      exact ⟨_, DGet.kr (L2.Same.rd less_same a), fun z => (b.val (k := k)).1 z, fun d z => (b.val (k := k)).2 d z⟩
  · rename_i kvs e
    obtain ⟨v, q1, q2⟩ := R.slot i _ e
    rw [e0] at q1
    cases q1
    obtain ⟨k, g1, g2⟩ := Option.bind_eq_some_iff.mp h
    cases q2 with
    | dct a b =>
      rw [keyD_ok hy g1]
      refine ⟨_, DGet.kr (L2.Same.rd R.ar_same a), fun z => ?_, fun d z => ?_⟩
      · subst z
        unfold valA at g2
        split at g2
        · rename_i e2
          exact (b.val (k := k)).1 e2
        · split at g2 <;> cases g2
      · subst z
        unfold valA at g2
        split at g2
        · cases g2
        · rename_i d' e2
          split at g2
          · rename_i t
            cases g2
            obtain ⟨w, w1, w2⟩ := (b.val (k := k)).2 d e2
            exact ⟨w, w1, VOk.sh (rv := .ar d) (σ := σ) (Γ := Γ) R w2 (by simp [shOf, t])⟩
          · cases g2
  · cases h
def dDGet2 (i : Nat) (dy dv : TEd) : TEd := fun Γ Q => isDict Γ i = true ∧ dy Γ fun y Γ1 => dv Γ1 fun z Γ2 => ∃ key r, dat Γ2 y = some key ∧ dictAt Γ2 i key = some r ∧ (r = none → Q z Γ2) ∧ ∀ d, r = some d → Q (.sh d) Γ2
instance se_dget2 {i : Nat} [SE K ty dy] [SE K tv dv] : SE K (tDGet2 (tVar i) ty tv) (dDGet2 i dy dv) := ⟨fun F W σ Γ Q Qd R ⟨h0, q⟩ k => by
  obtain ⟨p, e0, hd⟩ := isDict_ref R h0
  refine ⟨.ref p, e0, p, rfl, hd, ?_⟩
  refine two (ta := ty) (tb := tv) (da := dy) (db := dv) R q fun y z W' Γ' u v s' R' o1 o2 ⟨key, r, e1, e2, q1, q2⟩ => ?_
  obtain ⟨o, g1, g2, g3⟩ := dictAt_ok R' (o1.full R' e1) e0 e2
  refine ⟨o, g1, ?_⟩
  cases r with
  | none => rw [g2 rfl]; exact k _ W' Γ' _ s' R' o2 (q1 rfl)
  | some d =>
    obtain ⟨w, rfl, hw⟩ := g3 d rfl
    exact k _ W' Γ' _ s' R' (.ofSh hw) (q2 d rfl)⟩
def dDGet (i : Nat) (dy : TEd) : TEd := fun Γ Q => isDict Γ i = true ∧ dy Γ fun y Γ2 => ∃ key d, dat Γ2 y = some key ∧ dictAt Γ2 i key = some (some d) ∧ Q (.sh d) Γ2
instance se_dget {i : Nat} [A : SE K ty dy] : SE K (tDGet (tVar i) ty) (dDGet i dy) := ⟨fun F W σ Γ Q Qd R ⟨h0, q⟩ k => by
  obtain ⟨p, e0, hd⟩ := isDict_ref R h0
  refine ⟨.ref p, e0, A.run F W σ Γ _ _ R q fun y W' Γ' u s' R' o1 ⟨key, d, e1, e2, q⟩ => ?_⟩
  obtain ⟨o, g1, g2, g3⟩ := dictAt_ok R' (o1.full R' e1) e0 e2
  obtain ⟨w, rfl, hw⟩ := g3 d rfl
  exact ⟨p, w, rfl, g1, k _ W' Γ' _ s' R' (.ofSh hw) q⟩⟩
def dDIn (f : Bool → Bool) (i : Nat) (dy : TEd) : TEd := fun Γ Q => dy Γ fun y Γ2 => ∃ key r, dat Γ2 y = some key ∧ isDict Γ2 i = true ∧ dictAt Γ2 i key = some r ∧ Q (.sh (.bool (f r.isSome))) Γ2
instance se_din {i : Nat} [A : SE K ty dy] : SE K (tDIn ty (tVar i)) (dDIn id i dy) := ⟨fun F W σ Γ Q Qd R q k => A.run F W σ Γ _ _ R q fun y W' Γ' u s' R' o1 ⟨key, r, e1, h0, e2, q⟩ => by
  obtain ⟨p, e0, hd⟩ := isDict_ref R' h0
  obtain ⟨o, g1, g2, g3⟩ := dictAt_ok R' (o1.full R' e1) e0 e2
  refine ⟨.ref p, e0, p, o, rfl, g1, ?_⟩
  cases r with
  | none => rw [g2 rfl]; exact k _ W' Γ' _ s' R' (.bl _) q
  | some d =>
    obtain ⟨w, rfl, hw⟩ := g3 d rfl
    exact k _ W' Γ' _ s' R' (.bl _) q⟩
instance se_dnotin {i : Nat} [A : SE K ty dy] : SE K (tDNotIn ty (tVar i)) (dDIn not i dy) := ⟨fun F W σ Γ Q Qd R q k => A.run F W σ Γ _ _ R q fun y W' Γ' u s' R' o1 ⟨key, r, e1, h0, e2, q⟩ => by
  obtain ⟨p, e0, hd⟩ := isDict_ref R' h0
  obtain ⟨o, g1, g2, g3⟩ := dictAt_ok R' (o1.full R' e1) e0 e2
  refine ⟨.ref p, e0, p, o, rfl, g1, ?_⟩
  cases r with
  | none => rw [g2 rfl]; exact k _ W' Γ' _ s' R' (.bl _) q
  | some d =>
    obtain ⟨w, rfl, hw⟩ := g3 d rfl
    exact k _ W' Γ' _ s' R' (.bl _) q⟩
def dDPut (i : Nat) (dy dv : TEd) : TSd := fun E Γ => dv Γ fun z Γ1 => isDict Γ1 i = true ∧ dy Γ1 fun y Γ2 => ∃ key d Γ3 n, dat Γ2 y = some key ∧ shOf z = some d ∧ dictPut Γ2 i key d = some (Γ3, n) ∧ n < sizeLine ∧ E.nx Γ3
instance ss_dput {Xw : WX} {i : Nat} [A : SE K ty dy] [B : SE K tv dv] : SS K Xw (sDPut (tVar i) ty tv) (dDPut i dy dv) := ⟨fun F W σ Γ D E R q L => B.run F W σ Γ _ _ R q fun z W1 Γ1 w s1 R1 o1 ⟨h0, q⟩ => by
  obtain ⟨p, e0, hd⟩ := isDict_ref R1 h0
  refine ⟨.ref p, e0, A.run F W1 σ Γ1 _ _ R1 q fun y W' Γ' u s' R' o2 ⟨key, d, Γ3, n, e1, e2, e3, hn, q⟩ => ?_⟩
  have hw := (o1.stp s').sh R' e2
  have hy := o2.full R' e1
  have useK : ∀ {s : Sl} {kvs : List (Key × PyData)}, Γ'[i]? = some s → s.own? = some (.dK kvs) → (keyD key).map (fun k => (Γ'.set i (setOwn s (.dK (putD kvs k d))), kvs.length)) = some (Γ3, n) → ∃ a H4, V.ref p = .ref a ∧ DPut W'.H a u w H4 ∧ D.nx σ H4 := fun {s kvs} h1 h2 h3 => by
    obtain ⟨p', us, g1, g2, g3⟩ := own_dK R' h1 h2
    rw [e0] at g1
    cases g1
    obtain ⟨k, f1, f2⟩ := Option.map_eq_some_iff.mp h3
    cases f2
    have hh : OwnH K (W'.S F) (.dK (putK us k w)) (.dK (putD kvs k d)) := ⟨_, rfl, g3.put k hw⟩
    refine ⟨p, _, rfl, keyD_ok hy f1 ▸ DPut.k g2 (by rw [g3.length]; exact hn), ?_⟩
    exact L.nx { W' with H := upd W'.H p (.dK (putK us k w)) } σ _ (s1.sh.trans (s'.sh.trans (Stp.put R' h1 h2 rfl e0 hh).sh)) (R'.put h1 h2 rfl e0 hh).1 q
  have useT : ∀ (kt : ¬ KT = true) {s : Sl} {kvs : List (List Key × PyData)} {ds : List PyData}, key = .tuple ds → Γ'[i]? = some s → s.own? = some (.dT kvs) → (keysD ds).map (fun k => (Γ'.set i (setOwn s (.dT (putD kvs k d))), kvs.length)) = some (Γ3, n) → ∃ a H4, V.ref p = .ref a ∧ DPut W'.H a u w H4 ∧ D.nx σ H4 := fun kt {s kvs ds} hk h1 h2 h3 => by
    obtain ⟨p', us, g1, g2, g3⟩ := own_dT R' h1 h2
    rw [e0] at g1
    cases g1
    obtain ⟨k, f1, f2⟩ := Option.map_eq_some_iff.mp h3
    cases f2
    subst hk
    obtain ⟨b, vs, rfl, t1, t2⟩ := tup_ref kt hy
    rw [keysD_ok t2 f1] at t1
    have hh : OwnH K (W'.S F) (.dT (putK us k w)) (.dT (putD kvs k d)) := ⟨_, rfl, g3.put k hw⟩
    refine ⟨p, _, rfl, DPut.t g2 t1 (by rw [g3.length]; exact hn), ?_⟩
    exact L.nx { W' with H := upd W'.H p (.dT (putK us k w)) } σ _ (s1.sh.trans (s'.sh.trans (Stp.put R' h1 h2 rfl e0 hh).sh)) (R'.put h1 h2 rfl e0 hh).1 q
  unfold dictPut at e3
  split at e3
  · rename_i kvs e
    exact useK e rfl e3
  · rename_i kvs e
    exact useK e rfl e3
  · rename_i kvs e
    cases key with
    | tuple ds =>
      by_cases kt : KT = true
      · dsimp only at e3; rw [if_pos kt] at e3; cases e3
      · dsimp only at e3; rw [if_neg kt] at e3; exact useT kt rfl e rfl e3
    | _ => cases e3
  · rename_i kvs e
    cases key with
    | tuple ds =>
      by_cases kt : KT = true
      · dsimp only at e3; rw [if_pos kt] at e3; cases e3
      · dsimp only at e3; rw [if_neg kt] at e3; exact useT kt rfl e rfl e3
    | _ => cases e3
  · cases e3⟩
def dDNewK : TFd := fun Γ Q => Q (.dK []) Γ
def dDNewT : TFd := fun Γ Q => Q (.dT []) Γ
instance sf_dnewK : SEF K tDNewK dDNewK := ⟨fun F W σ Γ Q Qd R q k => fun p hp => k (.dK []) W Γ p _ (Stp.refl ..) R hp ⟨[], rfl, .nil⟩ q⟩
instance sf_dnewT : SEF K tDNewT dDNewT := ⟨fun F W σ Γ Q Qd R q k => fun p hp => k (.dT []) W Γ p _ (Stp.refl ..) R hp ⟨[], rfl, .nil⟩ q⟩
/-- sorted(d), keys whole numbers -/
def rSortDI : List V → Hp → VK → Prop := fun xs H Q => ∃ (a : Addr) (kvs : List (Key × V)) (ks : List Int), xs = [.ref a] ∧ Rd H a (.dK kvs) ∧ kvs.map (·.1) = ks.map Sum.inl ∧ ks.length ≤ sizeLine ∧ ∀ (ys : List Int) (p : Addr), ys.Perm ks → ys.Pairwise (· ≤ ·) → H p = none → Q (.ref p) (upd H p (.lst (ys.map V.int)))
/-- whole numbers, place by place -/
theorem ints_by_place : ∀ (us : List Value) (ks : List Int), us.length = ks.length → (∀ (j : Nat) (n : Int), ks[j]? = some n → ∃ t, us[j]? = some (.int n t)) → IntsAre us ks
  | [], [], _, _ => .nil
  | u :: us, n :: ks, el, q => by
    obtain ⟨t, e⟩ := q 0 n rfl
    cases e
    exact .cons n t (ints_by_place us ks (Nat.succ.inj el) fun j m e => q (j + 1) m e)
/-- what a walk over a dict's keys gathers, where all keys are whole numbers -/
theorem gathered_ints {ents : List (Key × Value)} {ks : List Int} {got : Array Value} (hk : ents.map Prod.fst = ks.map Sum.inl) (hn : got.size = ents.length) (hg : ∀ (j : Nat) (v : Value), got[j]? = some v → ∃ (key : Key) (x : Value), ents[j]? = some (key, x) ∧ keyIs key v = true) : IntsAre got.toList ks := by
  have len : ents.length = ks.length := by simpa using congrArg List.length hk
  refine ints_by_place _ _ (by rw [Array.length_toList, hn, len]) fun j n e => ?_
  have jl : j < got.size := by
    have := (List.getElem?_eq_some_iff.mp e).1
    omega
  obtain ⟨key, x, e1, e2⟩ := hg j got[j] (Array.getElem?_eq_getElem jl)
  have e3 : some key = some (Sum.inl n) := by
    have := congrArg (fun l : List Key => l[j]?) hk
    simpa [List.getElem?_map, e1, e] using this
  cases e3
  have e4 : got.toList[j]? = some got[j] := by rw [Array.getElem?_toList]; exact Array.getElem?_eq_getElem jl
  rcases keyIs_shape e2 with ⟨_, t, c, ev⟩ | ⟨_, _, c, _⟩
  · cases c
    exact ⟨t, e4.trans (congrArg some ev)⟩
  · cases c
/-- list.sort on a list of whole numbers that lies on the heap -/
theorem sort_ints_at {prog : Program} {w : World} {A : Around} {Ex : Value → Shared → Prop} {st : Shared} {L : Addr} {us : List Value} {n : Nat} {ks : List Int} {R : PySem.Fin → Shared → Prop} (o : st.heap.get? L = some (seqObj "list" us.toArray n)) (fit : us.length ≤ sizeLine) (hI : IntsAre us ks)
    (go : ∀ (out : List Value) (ms : List Int), IntsAre out ms → ms.Perm ks → ms.Pairwise (· ≤ ·) → R (.done (.ret .none)) { st with heap := sortedHeap st.heap L us out.toArray }) : wpAny (model prog w) A (Builtin.«list.sort» ⟨[.ref L], []⟩) R Ex st :=
  SrtO.list_sort_ord SrtO.swo_int o fit (fun two => SrtO.ints_sortable hI two) fun out a b => go out _ (SrtO.ints_out hI a b).1 (SrtO.ints_out hI a b).2.1 (SrtO.ints_out hI a b).2.2
theorem b_sortDI {X : Cx} (calm : X.calm = true) : CallR X (.builtin "sorted") rSortDI := fun pn st σ H as vals Q J rv ⟨a, kv, ks, ea, rd, hk, fit, go⟩ => by
  cases ea
  obtain ⟨u, rfl, ru⟩ := vals1 rv
  cases ru
  obtain ⟨_, lay, ents, same, dob⟩ := dk_rd J.hok rd
  obtain ⟨_, dAt⟩ := dob.dictAt
  have hk' : ents.map Prod.fst = ks.map Sum.inl := same.keys.symm.trans hk
  have len : ents.length = ks.length := by simpa using congrArg List.length hk'
  apply Calls.call_function_entry kind_sorted plain_sorted entry_sorted (args_sorted1 _)
  unfold Builtin.«sorted»
  apply wpAny_bind (m := checkCount "sorted" 1 1 _)
  apply wpAny_pure
  apply wpAny_bind
  refine PySem.W.kdu_collect (A := X.A.in1) (PySem.W.kdl_dict (knd := mixKind X.prog X.w) lay) (J.ok.hd calm) dAt (len ▸ fit) fun hp tk got keep gath => ?_
  have hI := gathered_ints hk' gath.1 gath.2
  have gl : got.toList.length ≤ sizeLine := by rw [Array.length_toList, gath.1, len]; exact fit
  have J' : Inv X pn σ H { st with heap := hp, toks := tk } := J.kept keep
  apply wpAny_bind
  refine wpAny_newList ?_ gl
  let st2 : Shared := { st with heap := hp.push (seqObj "list" got.toList.toArray 0), toks := tk }
  have atL : st2.heap.get? hp.objs.size = some (seqObj "list" got.toList.toArray 0) := Heap.get?_push_size _ rfl
  show wpAny _ _ _ _ _ st2
  apply wpAny_bind
  apply wpAny_holding
  refine wpAny_call_entry slot_list_sort ⟨_, atL, rfl⟩ entry_list_sort (sort_ints_at atL gl hI fun out ms i1 i2 i3 => ⟨_, rfl, ?_⟩) (args_list_sort _)
  obtain ⟨_, atE⟩ := sortedHeap_at (vs := got.toList) (out := out.toArray) atL
  have ml : (ms.map V.int).length ≤ sizeLine := by rw [List.length_map, i2.length_eq]; exact fit
  apply wpAny_pure
  refine ⟨_, rfl, .ref hp.objs.size, _, J'.laid (o := .lst (ms.map V.int)) (t' := tk) (fun b u e => ?_) (Nat.le_refl _) ⟨ml, out, _, vals_of_ints i1, atE⟩, rfl, go ms _ i2 i3 (J'.hok.fresh (Nat.le_refl _))⟩
  have lt : b < hp.objs.size := Heap.lt_size e
  exact (sortedHeap_old (Nat.ne_of_lt lt) (by show b < (hp.push _).objs.size; rw [size_push']; exact Nat.lt_succ_of_lt lt)).trans (Heap.get?_push_of_some _ e)
def dictKs (Γ : G) (i : Nat) : Option (List Key) := match Γ[i]? with
  | some (.ow (.dK kvs)) => some (kvs.map (·.1))
  | some (.rf (.dK kvs)) => some (kvs.map (·.1))
  | _ => none
def dSortDI (i : Nat) : TFd := fun Γ Q => ∃ ks : List Int, dictKs Γ i = some (ks.map Sum.inl) ∧ ks.length ≤ sizeLine ∧ ∀ ys : List Int, ys.Perm ks → ys.Pairwise (· ≤ ·) → Q (.lst (ys.map .int)) Γ
instance sf_sortDI {i : Nat} : SEF K (tCB rSortDI (tCons (tVar i) tNil)) (dSortDI i) := ⟨fun F W σ Γ Q Qd R ⟨ks, e, hl, q⟩ k => by
  have use : ∀ {s : Sl} {kvs : List (Key × PyData)}, Γ[i]? = some s → s.own? = some (.dK kvs) → kvs.map (·.1) = ks.map Sum.inl → tCB rSortDI (tCons (tVar i) tNil) σ W.H Q := fun {s kvs} h1 h2 h3 => by
    obtain ⟨p, us, g1, g2, g3⟩ := own_dK R h1 h2
    exact ⟨.ref p, g1, p, us, ks, rfl, .inl g2, by rw [g3.keys, h3], hl, fun ys p' hp hs hn => k (.lst (ys.map .int)) W Γ p' _ (Stp.refl ..) R hn ⟨_, rfl, DqAll.ofInts ys⟩ (q ys hp hs)⟩
  unfold dictKs at e
  split at e
  · rename_i kvs h
    exact use h rfl (Option.some.inj e)
  · rename_i kvs h
    exact use h rfl (Option.some.inj e)
  · cases e⟩
end
end Dk

namespace Dk
open PySem PySem.Spec PyProof.Rows L2
/-! ### objects that are told by a word of their own -/
class AbI (I : Hp → Addr → List Addr → Prop) : Prop where
  mem : ∀ {H : Hp} {p : Addr} {f : List Addr}, I H p f → p ∈ f
  mo : ∀ {H : Hp} {p : Addr} {f : List Addr}, I H p f → ∀ a ∈ f, Mo (H a) ∧ notIns (H a)
  st : ∀ {H H' : Hp} {p : Addr} {f : List Addr}, I H p f → (∀ a ∈ f, H' a = H a) → Tx H H' → I H' p f
/-- the first argument's object may be changed, its word stays -/
def RefSp (K : Fg) (I : Hp → Addr → List Addr → Prop) (C : List PyData → (PyData → Prop) → Prop) : Sp := fun vs H Q _ => ∃ (p : Addr) (f : List Addr) (us : List V) (ds : List PyData) (Qd : PyData → Prop), vs = .ref p :: us ∧ I H p f ∧ DqAll K (less H fun a => a ∈ f) us ds ∧ C ds Qd ∧
  ∀ (v : V) (H' : Hp) (d : PyData), (∀ a o, a ∉ f → H a = some o → H' a = some o) → I H' p f → Dq K (less H' fun a => Mo (H a)) v d → Qd d → Q v H'
def RefFreshSp (K : Fg) (I : Hp → Addr → List Addr → Prop) (C : List PyData → (OD → Prop) → Prop) : Sp := fun vs H Q _ => ∃ (p : Addr) (f : List Addr) (us : List V) (ds : List PyData) (Qd : OD → Prop), vs = .ref p :: us ∧ I H p f ∧ DqAll K (less H fun a => a ∈ f) us ds ∧ C ds Qd ∧
  ∀ (q : Addr) (ho : HO) (H' : Hp) (o : OD), (∀ a o, a ∉ f → H a = some o → H' a = some o) → I H' p f → H' q = none → OwnH K (less H' fun a => Mo (H a)) ho o → Qd o → Q (.ref q) (upd H' q ho)
def isAb (I : Hp → Addr → List Addr → Prop) (Γ : G) (i : Nat) : Prop := Γ[i]? = some (.ow (.ab I)) ∨ Γ[i]? = some (.rf (.ab I))
section
variable {K : Fg} {F : Fx K} {W : Wd} {σ : L2.St} {Γ : G} {I : Hp → Addr → List Addr → Prop} {i : Nat}
theorem isAb.slot (R : Rel F W σ Γ) (h : isAb I Γ i) : ∃ s p, Γ[i]? = some s ∧ s.own? = some (.ab I) ∧ σ[i]? = some (some (.ref p)) ∧ (∀ a ∈ W.ft i, W.O a) ∧ I W.H p (W.ft i) := by
  rcases h with h | h
  · obtain ⟨p, e1, e2, e3⟩ := R.slot i _ h
    exact ⟨_, p, h, rfl, e1, fun a ha => (e2 a ha).1, e3.2.1⟩
  · obtain ⟨p, _, e1, e2, e3⟩ := R.slot i _ h
    exact ⟨_, p, h, rfl, e1, e2, e3.2.1⟩
theorem Rel.ref [A : AbI I] (R : Rel F W σ Γ) (h : isAb I Γ i) {p : Addr} {H' : Hp} (e0 : σ[i]? = some (some (.ref p))) (fr : ∀ a o, a ∉ W.ft i → W.H a = some o → H' a = some o) (hI : I H' p (W.ft i)) :
    Rel F { W with H := H' } σ Γ ∧ Stp F W Γ { W with H := H' } Γ := by
  obtain ⟨s, p', h1, h2, h3, h4, h5⟩ := h.slot R
  rw [e0] at h3
  cases h3
  have hs : Same (W.S F) (({ W with H := H' } : Wd).S F) := same_less fun a o nx e => ⟨nx, fr a o (fun z => nx (.inr (h4 a z))) e⟩
  have tx : Tx W.H H' := fun a o nm e => fr a o (fun z => nm (by have m := (A.mo h5 a z).1; rw [e] at m; exact m)) e
  have keep : ∀ a, a ∉ W.ft i → W.O a → H' a = W.H a := fun a na ha => by
    obtain ⟨o, q⟩ := mo_some (R.mu a ha)
    rw [fr a o na q, q]
  refine ⟨⟨fun a o e nr => ?_, R.new, fun a ha => ?_, R.rfo, R.len, fun j t e => ?_, R.dis⟩, ⟨⟨⟨hs, fun q t => ⟨t, keep q (t.2 i s _ h1 h2) t.1⟩⟩, fun a C dx vs e => fr a _ (fun z => by have m := (A.mo h5 a z).2; rw [e] at m; exact m) e⟩, fun j t e => ⟨t, e, Kn.refl t⟩, rfl⟩⟩
  · refine fr a o (fun z => ?_) (R.base a o e nr)
    rcases R.new a (h4 a z) with q | q
    · rw [q] at e; cases e
    · exact nr q
  · by_cases z : a ∈ W.ft i
    · exact (A.mo hI a z).1
    · show Mo (H' a)
      rw [keep a z ha]
      exact R.mu a ha
  · by_cases q : j = i
    · subst q
      rw [h1] at e
      cases e
      have ok : OwnOk K (({ W with H := H' } : Wd).S F) H' p (W.ft j) (.ab I) := ⟨A.mem hI, hI, (fun H'' hk ht => A.st hI hk ht), fun a ha => A.mo hI a ha⟩
      have z := R.slot j s h1
      cases s with
      | no => cases h2
      | sh _ => cases h2
      | ar _ => cases h2
      | ro _ => cases h2
      | ow o =>
        cases h2
        obtain ⟨p', a1, a2, a3⟩ := z
        rw [e0] at a1
        cases a1
        exact ⟨p, e0, a2, ok⟩
      | rf o =>
        cases h2
        obtain ⟨p', a0, a1, a2, a3⟩ := z
        rw [e0] at a1
        cases a1
        exact ⟨p, a0, e0, a2, ok⟩
    · have z := R.slot j t e
      refine z.keep (W' := { W with H := H' }) rfl hs (fun _ _ q => q) (fun a ha so => ?_) tx
      obtain ⟨oj, so⟩ := Option.isSome_iff_exists.mp so
      exact keep a (R.dis j i t s oj _ a q e h1 so h2 ha) (slot_O z so a ha)
theorem VOk.apart (R : Rel F W σ Γ) (h : isAb I Γ i) {v : V} {x : RV} {d : PyData} (o : VOk F W σ Γ v x) (e : dat Γ x = some d) : Dq K (less W.H fun a => a ∈ W.ft i) v d := by
  obtain ⟨s, p, h1, h2, h3, h4, h5⟩ := h.slot R
  have sS : Same (W.S F) (less W.H fun a => a ∈ W.ft i) := same_less fun a o nx e => ⟨fun z => nx (.inr (h4 a z)), e⟩
  have sA : Same (less F.H0 F.rf) (less W.H fun a => a ∈ W.ft i) := same_less fun a o nx e => ⟨fun z => by
    rcases R.new a (h4 a z) with q | q
    · rw [q] at e; cases e
    · exact nx q, R.base a o e nx⟩
  cases x with
  | sh d' => cases e; exact Dq.same sS o
  | ar d' => cases e; exact Dq.same sA o
  | own j =>
    obtain ⟨t, g1, g2, g3⟩ := o
    have q := R.slot j t g1
    simp only [dat, g1] at e
    have lst : ∀ {ds : List PyData} {q : Addr} {vs : List V}, t.own? = some (.lst ds) → q ∈ W.ft j → W.H q = some (.lst vs) → DqAll K (W.S F) vs ds → Dq K (less W.H fun a => a ∈ W.ft i) (.ref q) (.list ds) := fun {ds q vs} b1 b2 b3 b4 => by
      refine .lst (less_some.mpr ⟨fun z => ?_, b3⟩) (b4.same sS)
      have ne : j ≠ i := fun w => by
        subst w
        rw [h1] at g1
        cases g1
        rw [h2] at b1
        cases b1
      exact R.dis j i t s _ _ q ne g1 h1 b1 h2 b2 z
    have dct : ∀ {kvs : List (Key × PyData)} {q : Addr} {vs : List (Key × V)}, t.own? = some (.dK kvs) → q ∈ W.ft j → W.H q = some (.dK vs) → KvOk K (W.S F) vs kvs → Dq K (less W.H fun a => a ∈ W.ft i) (.ref q) (.dict (kvs.map fun p => (kD p.1, p.2))) := fun {kvs q vs} b1 b2 b3 b4 => by
      refine .dct (.inl (less_some.mpr ⟨fun z => ?_, b3⟩)) ((kvOk_dq b4).same sS)
      have ne : j ≠ i := fun w => by
        subst w
        rw [h1] at g1
        cases g1
        rw [h2] at b1
        cases b1
      exact R.dis j i t s _ _ q ne g1 h1 b1 h2 b2 z
    cases t with
    | no => cases g2
    | sh d' =>
      cases e
      obtain ⟨v', e1, e2⟩ := q
      rw [g3] at e1
      cases e1
      exact Dq.same sS e2
    | ar d' =>
      cases e
      obtain ⟨v', e1, e2⟩ := q
      rw [g3] at e1
      cases e1
      exact Dq.same sA e2
    | ow o' =>
      cases o' with
      | lst ds =>
        cases e
        obtain ⟨p, e1, _, hf, vs, e2, e3⟩ := q
        rw [g3] at e1
        cases e1
        exact lst rfl (by rw [hf]; simp) e2 e3
      | dK kvs =>
        cases e
        obtain ⟨p, e1, _, hf, vs, e2, e3⟩ := q
        rw [g3] at e1
        cases e1
        exact dct rfl (by rw [hf]; simp) e2 e3
      | dT _ => cases e
      | ab _ => cases e
      | ins _ _ => cases e
    | rf o' =>
      cases o' with
      | lst ds =>
        cases e
        obtain ⟨p, _, e1, _, hf, vs, e2, e3⟩ := q
        rw [g3] at e1
        cases e1
        exact lst rfl (by rw [hf]; simp) e2 e3
      | dK kvs =>
        cases e
        obtain ⟨p, _, e1, _, hf, vs, e2, e3⟩ := q
        rw [g3] at e1
        cases e1
        exact dct rfl (by rw [hf]; simp) e2 e3
      | dT _ => cases e
      | ab _ => cases e
      | ins _ _ => cases e
    | ro o' => cases e
  | fld j path =>
    obtain ⟨t, p2, o2, g1, g2, g3, g4⟩ := o
    simp only [dat, g1, g2, Option.bind_some] at e
    obtain ⟨o', e1, e2⟩ := Option.bind_eq_some_iff.mp e
    obtain ⟨p', f, k1, k2, k3⟩ := R.insOk g1 g2
    rw [g3] at k1
    cases k1
    obtain ⟨q, F', rfl, hF, hO⟩ := k2.path e1 g4
    have na : ∀ a ∈ F', a ∉ W.ft i := fun a ha z => by
      obtain ⟨b1, b2⟩ := k3 a (hF a ha) (h4 a z)
      have ne : j ≠ i := fun w => by
        subst w
        rw [h1] at g1
        cases g1
        rw [h2] at b2
        cases b2
        cases s with
        | ow q => cases h2; have := (insO_eq g2).2; cases this
        | rf q => cases h2; have := (insO_eq g2).2; cases this
        | _ => cases h2
      exact R.dis j i t s _ _ a ne g1 h1 b2 h2 b1 z
    cases o' with
    | lst ds =>
      cases e2
      simp only [OwnO] at hO
      obtain ⟨rfl, vs, q1, q2⟩ := hO
      exact .lst (less_some.mpr ⟨na q (by simp), q1⟩) (q2.same sS)
    | dK kvs =>
      cases e2
      simp only [OwnO] at hO
      obtain ⟨rfl, vs, q1, q2⟩ := hO
      exact .dct (.inl (less_some.mpr ⟨na q (by simp), q1⟩)) ((kvOk_dq q2).same sS)
    | _ => cases e2
theorem VOks.apart (R : Rel F W σ Γ) (h : isAb I Γ i) : ∀ {xs : List RV} {vs : List V} {ds : List PyData}, VOks F W σ Γ vs xs → dats Γ xs = some ds → DqAll K (less W.H fun a => a ∈ W.ft i) vs ds
  | [], _, _, o, e => by cases o; cases e; exact .nil
  | x :: xs, _, _, o, e => by
    cases o with
    | cons a b =>
      simp only [dats] at e
      split at e
      · rename_i d ds h1 h2
        cases e
        exact .cons (a.apart R h h1) (VOks.apart R h b h2)
      · cases e
end
section
variable {K : Fg} {I : Hp → Addr → List Addr → Prop} {i : Nat} {t : TA} {d : TAd} {E : XK}
def dCallR (I : Hp → Addr → List Addr → Prop) (i : Nat) (C : List PyData → (PyData → Prop) → Prop) (d : TAd) : TEd := fun Γ Q => isAb I Γ i ∧ d Γ fun xs Γ1 => ∃ ds, isAb I Γ1 i ∧ dats Γ1 xs = some ds ∧ C ds fun r => Q (.sh r) Γ1
instance se_callR [AbI I] {C : List PyData → (PyData → Prop) → Prop} [A : SA K t d] : SE K (tCall (RefSp K I C) [] E (tCons (tVar i) t)) (dCallR I i C d) := ⟨fun F W σ Γ Q Qd R ⟨h0, q⟩ k => by
  obtain ⟨_, p, _, _, e0, _, _⟩ := h0.slot R
  refine ⟨.ref p, e0, A.run F W σ Γ _ _ R q fun xs W' Γ' vs s' R' o1 ⟨ds, h1, e1, q⟩ => ?_⟩
  obtain ⟨s, p', g1, g2, g3, g4, g5⟩ := h1.slot R'
  rw [e0] at g3
  cases g3
  rw [List.append_nil]
  refine ⟨p, W'.ft i, vs, ds, _, rfl, g5, o1.apart R' h1 e1, q, fun v H' r fr hI hv hq => ?_⟩
  obtain ⟨R2, s2⟩ := R'.ref h1 e0 fr hI
  refine k (.sh r) { W' with H := H' } Γ' v (s'.trans s2) R2 (.ofSh ?_) hq
  exact hv.same (same_less fun a o nx e => ⟨fun z => nx (R'.exmo z), e⟩)⟩
def dCallRF (I : Hp → Addr → List Addr → Prop) (i : Nat) (C : List PyData → (OD → Prop) → Prop) (d : TAd) : TFd := fun Γ Q => isAb I Γ i ∧ d Γ fun xs Γ1 => ∃ ds, isAb I Γ1 i ∧ dats Γ1 xs = some ds ∧ C ds fun r => Q r Γ1
instance sf_callR [AbI I] {C : List PyData → (OD → Prop) → Prop} [A : SA K t d] : SEF K (tCall (RefFreshSp K I C) [] E (tCons (tVar i) t)) (dCallRF I i C d) := ⟨fun F W σ Γ Q Qd R ⟨h0, q⟩ k => by
  obtain ⟨_, p, _, _, e0, _, _⟩ := h0.slot R
  refine ⟨.ref p, e0, A.run F W σ Γ _ _ R q fun xs W' Γ' vs s' R' o1 ⟨ds, h1, e1, q⟩ => ?_⟩
  obtain ⟨s, p', g1, g2, g3, g4, g5⟩ := h1.slot R'
  rw [e0] at g3
  cases g3
  rw [List.append_nil]
  refine ⟨p, W'.ft i, vs, ds, _, rfl, g5, o1.apart R' h1 e1, q, fun l ho H' r fr hI hl hv hq => ?_⟩
  obtain ⟨R2, s2⟩ := R'.ref h1 e0 fr hI
  refine k r { W' with H := H' } Γ' l ho (s'.trans s2) R2 hl ?_ hq
  exact hv.same (same_less fun a o nx e => ⟨fun z => nx (R'.exmo z), e⟩)⟩
end
/-! ### defs -/
def startG (N : List Str) (sl : List Sl) : G := sl ++ List.replicate (N.length - sl.length) .no
def argOk (s : Sl) (d : PyData) : Prop := s = .ar d ∨ (s = .sh d ∧ tupO d = true)
def retOf (Γ : G) : RV → Option PyData
  | .own i => match Γ[i]? with
    | some (.ow (.lst ds)) => some (.list ds)
    | some (.sh d) => some d
    | _ => none
  | x => shOf x
def retFresh (Γ : G) : RV → Option OD
  | .own i => match Γ[i]? with
    | some (.ow (.lst ds)) => some (.lst ds)
    | some (.ow (.dK ds)) => some (.dK ds)
    | some (.ow (.dT ds)) => some (.dT ds)
    | _ => none
  | _ => none
section
variable {K : Fg} {F : Fx K} {W : Wd} {σ : L2.St} {Γ : G}
theorem ret_ok {v : V} {x : RV} {d : PyData} (R : Rel F W σ Γ) (o : VOk F W σ Γ v x) (e : retOf Γ x = some d) : Dq K (less W.H F.ex) v d := by
  have sS : Same (W.S F) (less W.H F.ex) := same_less fun a o nx e => ⟨fun z => nx (.inl z), e⟩
  cases x with
  | fld _ _ => cases e
  | sh d' => cases e; exact Dq.same sS o
  | ar d' => exact (VOk.sh R o e).same sS
  | own i =>
    obtain ⟨s, h1, h2, h3⟩ := o
    simp only [retOf, h1] at e
    cases s with
    | no => cases e
    | ar d => cases e
    | rf o => cases e
    | ro o => cases e
    | sh d' =>
      cases e
      obtain ⟨v', e1, e2⟩ := R.slot i _ h1
      rw [h3] at e1
      cases e1
      exact e2.same sS
    | ow o =>
      cases o with
      | lst ds =>
        cases e
        obtain ⟨p, e1, hO, hf, vs, e2, e3⟩ := R.slot i _ h1
        rw [h3] at e1
        cases e1
        have hp : p ∈ W.ft i := by rw [hf]; simp
        have h0 : F.H0 p = none := (R.new p (hO p hp).1).resolve_right (hO p hp).2
        exact .lst (less_some.mpr ⟨fun z => by have m := F.xm p z; rw [h0] at m; exact m, e2⟩) (e3.same sS)
      | dK _ => cases e
      | dT _ => cases e
      | ab _ => cases e
      | ins _ _ => cases e
open Classical in
noncomputable def dropH (H : Hp) (p : Addr) : Hp := fun a => if a = p then none else H a
theorem dropH_at {H : Hp} {p : Addr} : dropH H p p = none := if_pos rfl
theorem dropH_ne {H : Hp} {p a : Addr} (h : a ≠ p) : dropH H p a = H a := if_neg h
theorem dropH_upd {H : Hp} {p : Addr} {ho : HO} (h : H p = some ho) : upd (dropH H p) p ho = H := by
  funext a
  by_cases e : a = p
  · subst e
    rw [upd_same, h]
  · rw [upd_ne e, dropH_ne e]
theorem retFresh_ok {v : V} {x : RV} {od : OD} (R : Rel F W σ Γ) (o : VOk F W σ Γ v x) (e : retFresh Γ x = some od) : ∃ p ho, v = .ref p ∧ W.H p = some ho ∧ F.H0 p = none ∧ ¬ F.rf p ∧ OwnH K (less (dropH W.H p) F.ex) ho od := by
  cases x with
  | fld _ _ => cases e
  | sh d' => cases e
  | ar d' => cases e
  | own i =>
    obtain ⟨s, h1, h2, h3⟩ := o
    simp only [retFresh, h1] at e
    have key : ∀ {p : Addr} {ho : HO}, (∀ a ∈ W.ft i, W.O a ∧ ¬ F.rf a) → W.ft i = [p] → W.H p = some ho → F.H0 p = none ∧ ¬ F.rf p ∧ Same (W.S F) (less (dropH W.H p) F.ex) := fun {p ho} hO hf e2 => by
      have hp : p ∈ W.ft i := by rw [hf]; simp
      refine ⟨(R.new p (hO p hp).1).resolve_right (hO p hp).2, (hO p hp).2, same_less fun a o nx e => ⟨fun z => nx (.inl z), ?_⟩⟩
      rw [dropH_ne]
      · exact e
      · intro z
        subst z
        exact nx (.inr (hO a hp).1)
    cases s with
    | no => cases e
    | ar d => cases e
    | rf o => cases e
    | ro o => cases e
    | sh d' => cases e
    | ow o =>
      cases o with
      | lst ds =>
        cases e
        obtain ⟨p, e1, hO, hf, vs, e2, e3⟩ := R.slot i _ h1
        rw [h3] at e1
        cases e1
        obtain ⟨k1, k2, k3⟩ := key hO hf e2
        exact ⟨p, _, rfl, e2, k1, k2, vs, rfl, e3.same k3⟩
      | dK _ =>
        cases e
        obtain ⟨p, e1, hO, hf, vs, e2, e3⟩ := R.slot i _ h1
        rw [h3] at e1
        cases e1
        obtain ⟨k1, k2, k3⟩ := key hO hf e2
        exact ⟨p, _, rfl, e2, k1, k2, vs, rfl, Paired.mapP e3 fun _ _ z => ⟨z.1, z.2.same k3⟩⟩
      | dT _ =>
        cases e
        obtain ⟨p, e1, hO, hf, vs, e2, e3⟩ := R.slot i _ h1
        rw [h3] at e1
        cases e1
        obtain ⟨k1, k2, k3⟩ := key hO hf e2
        exact ⟨p, _, rfl, e2, k1, k2, vs, rfl, Paired.mapP e3 fun _ _ z => ⟨z.1, z.2.same k3⟩⟩
      | ab _ => cases e
      | ins _ _ => cases e
theorem start_get {N : List Str} {vs : List V} {i : Nat} {v : V} (h : vs[i]? = some v) : (start N vs)[i]? = some (some v) := by
  have hi := lt_of_get h
  unfold L2.start
  rw [List.getElem?_append_left (by simpa using hi), List.getElem?_map, h]
  rfl
theorem startG_get {N : List Str} {sl : List Sl} {i : Nat} {s : Sl} (h : (startG N sl)[i]? = some s) : sl[i]? = some s ∨ s = .no := by
  unfold startG at h
  by_cases hi : i < sl.length
  · rw [List.getElem?_append_left hi] at h
    exact .inl h
  · rw [List.getElem?_append_right (by omega), List.getElem?_replicate] at h
    split at h
    · cases h; exact .inr rfl
    · cases h
abbrev F0 (K : Fg) (H : Hp) : Fx K := { H0 := H, rf := fun _ => False, rp := fun _ => none }
theorem rel_start {H : Hp} {N : List Str} {vs : List V} {ds : List PyData} {sl : List Sl} (h : DqAll K H vs ds) (ha : Paired argOk sl ds) : Rel (F0 K H) ⟨fun _ => False, fun _ => [], H⟩ (start N vs) (startG N sl) := by
  have hl : vs.length = sl.length := by rw [h.length, Paired.length ha]
  refine ⟨fun a o e _ => e, fun a z => z.elim, fun a z => z.elim, fun a z => z, by simp [L2.start, startG, hl], fun i s e => ?_, fun i j s t oi oj a ne e1 e2 g1 g2 => ?_⟩
  · rcases startG_get e with e | e
    · obtain ⟨d, e1, e2⟩ := paired_get ha e
      obtain ⟨v, g1, g2⟩ := h.get e1
      rcases e2 with rfl | ⟨rfl, ht⟩
      · exact ⟨v, start_get g1, g2.same fun a o q => less_some.mpr ⟨fun z => z, q⟩⟩
      · exact ⟨v, start_get g1, Dq.tupO_less (H' := H) (fun a z => by
          rcases z with z | z
          · exact z
          · exact z.elim) _ _ ht g2⟩
    · subst e
      trivial
  · rcases startG_get e1 with e1 | e1
    · obtain ⟨d, q1, q2⟩ := paired_get ha e1
      rcases q2 with rfl | ⟨rfl, _⟩ <;> cases g1
    · subst e1
      cases g1
end
section
variable {P : Program} {w : World} {K : Fg} {mg : Str → Option Value} {base : Heap}
abbrev PEnds (Qd : PyData → Prop) : DE := { nx := fun _ => Qd .none, rt := fun x Γ => ∃ r, retOf Γ x = some r ∧ Qd r, rn := fun o _ => ∃ xs, o = .lst xs ∧ Qd (.list xs) }
/-- a def that changes nothing, in data -/
theorem pure_ok {x qual : Str} {st : Stmt} {f : Addr} {fd : FuncData} {N ps : List Str} {k : Nat} {C : List PyData → (PyData → Prop) → Prop} (Fn : L2.Fun K x qual st f fd) (S : FnScope N ps (defScope st)) (hl : ∀ ds Qd, C ds Qd → ds.length = ps.length)
    (hbody : ∀ (cdv : Value) (A : Around) (outer : List Env) (s : Shared) (H : Hp) (E : XK), Room k (A.deeper (envOfC qual (defScope st) s.heap.objs.size f cdv)) →
      ∃ t, PSs (cxOf CX0 P w K mg base N qual (defScope st) f cdv A outer s H E).nox (defBody st) t ∧ ∃ d, SS K X0 t d ∧ ∀ ds Qd, C ds Qd → ∃ sl, Paired argOk sl ds ∧ d (PEnds Qd) (startG N sl)) : FnOk P w K mg base CX0 (k + 1) f fd ps (PureSp K C) := by
  refine Fn.ok S (fun vs H Q E h => ?_) (fun cdv A outer s H vs Q E hr h => ?_)
  · obtain ⟨ds, Qd, h1, h2, _⟩ := h
    rw [h1.length]
    exact hl ds Qd h2
  · obtain ⟨ds, Qd, h1, h2, q⟩ := h
    obtain ⟨t, ht, d, hs, hd⟩ := hbody cdv A outer s H E hr
    obtain ⟨sl, ha, hd⟩ := hd ds Qd h2
    refine ⟨t, ht, hs.run (F0 K H) ⟨fun _ => False, fun _ => [], H⟩ (start N vs) (startG N sl) _ _ (rel_start h1 ha) hd ⟨fun W σ Γ _ R e => ?_, fun W σ Γ y v _ R o ⟨r, e, z⟩ => ?_, fun W σ Γ o p ho _ R hp oh ⟨xs, e, z⟩ => ?_, fun W σ Γ _ R e => e, fun W σ Γ _ R e => e, fun W σ Γ c _ R e => e⟩⟩
    · exact q .non W.H .none (fun a o e => R.base a o e fun z => z) .non e
    · exact q v W.H r (fun a o e => R.base a o e fun z => z) (ret_ok R o e) z
    · subst e
      obtain ⟨us, rfl, hu⟩ := oh
      have h0 : H p = none := by
        cases e : H p with
        | none => rfl
        | some o => have := R.base p o e (fun z => z); rw [hp] at this; cases this
      refine q (.ref p) _ (.list xs) (fun a o e => ?_) (.lst (less_some.mpr ⟨by rw [h0]; exact fun z => z, upd_same⟩) (hu.same (same_less fun a o nx e => ⟨fun z => nx (.inl z), ?_⟩))) z
      · have b := R.base a o e (fun z => z)
        rw [upd_ne (ne_of_none b hp)]
        exact b
      · rw [upd_ne (ne_of_none e hp)]
        exact e
abbrev FEnds (Qd : OD → Prop) : DE := { nx := fun _ => False, rt := fun x Γ => ∃ r, retFresh Γ x = some r ∧ Qd r, rn := fun o _ => Qd o }
theorem fresh_ok {x qual : Str} {st : Stmt} {f : Addr} {fd : FuncData} {N ps : List Str} {k : Nat} {C : List PyData → (OD → Prop) → Prop} (Fn : L2.Fun K x qual st f fd) (S : FnScope N ps (defScope st)) (hl : ∀ ds Qd, C ds Qd → ds.length = ps.length)
    (hbody : ∀ (cdv : Value) (A : Around) (outer : List Env) (s : Shared) (H : Hp) (E : XK), Room k (A.deeper (envOfC qual (defScope st) s.heap.objs.size f cdv)) →
      ∃ t, PSs (cxOf CX0 P w K mg base N qual (defScope st) f cdv A outer s H E).nox (defBody st) t ∧ ∃ d, SS K X0 t d ∧ ∀ ds Qd, C ds Qd → ∃ sl, Paired argOk sl ds ∧ d (FEnds Qd) (startG N sl)) : FnOk P w K mg base CX0 (k + 1) f fd ps (FreshSp K C) := by
  refine Fn.ok S (fun vs H Q E h => ?_) (fun cdv A outer s H vs Q E hr h => ?_)
  · obtain ⟨ds, Qd, h1, h2, _⟩ := h
    rw [h1.length]
    exact hl ds Qd h2
  · obtain ⟨ds, Qd, h1, h2, q⟩ := h
    obtain ⟨t, ht, d, hs, hd⟩ := hbody cdv A outer s H E hr
    obtain ⟨sl, ha, hd⟩ := hd ds Qd h2
    refine ⟨t, ht, hs.run (F0 K H) ⟨fun _ => False, fun _ => [], H⟩ (start N vs) (startG N sl) _ _ (rel_start h1 ha) hd ⟨fun W σ Γ _ R e => e.elim, fun W σ Γ y v _ R o ⟨r, e, z⟩ => ?_, fun W σ Γ o p ho _ R hp oh z => ?_, fun W σ Γ _ R e => e, fun W σ Γ _ R e => e, fun W σ Γ c _ R e => e⟩⟩
    · obtain ⟨p, ho, rfl, g1, g2, g3, g4⟩ := retFresh_ok R o e
      have := q p ho (dropH W.H p) r (fun a o e => ?_) dropH_at g4 z
      · rw [dropH_upd g1] at this
        exact this
      · rw [dropH_ne]
        · exact R.base a o e fun z => z
        · intro z
          have e' : H p = some o := z ▸ e
          rw [show H p = none from g2] at e'
          cases e'
    · exact q p ho W.H o (fun a o e => R.base a o e fun z => z) hp (oh.same (same_less fun a o nx e => ⟨fun z => nx (.inl z), e⟩)) z
end
end Dk

namespace Dk
open PySem PySem.Spec PyProof.Rows L2
/-! ### defs whose first argument is changed -/
section
variable {P : Program} {w : World} {K : Fg} {mg : Str → Option Value} {base : Heap} {I : Hp → Addr → List Addr → Prop}
noncomputable abbrev Fr (K : Fg) (H : Hp) (p : Addr) (f : List Addr) (hm : ∀ a ∈ f, Mo (H a)) : Fx K := { H0 := H, rf := fun a => a ∈ f, rp := fun i => if i = 0 then some (p, f) else none, rm := hm }
noncomputable abbrev Wr (H : Hp) (f : List Addr) : Wd := ⟨fun a => a ∈ f, fun i => if i = 0 then f else [], H⟩
theorem rel_startR [A : AbI I] {H : Hp} {N : List Str} {p : Addr} {f : List Addr} {vs : List V} {ds : List PyData} {sl : List Sl} (hI : I H p f) (h : DqAll K (less H fun a => a ∈ f) vs ds) (ha : Paired argOk sl ds) :
    Rel (Fr K H p f fun a z => (A.mo hI a z).1) (Wr H f) (L2.start N (.ref p :: vs)) (startG N (.rf (.ab I) :: sl)) := by
  have hl : vs.length = sl.length := by rw [h.length, Paired.length ha]
  have own : ∀ (i : Nat) (s : Sl) (o : OD), (startG N (.rf (.ab I) :: sl))[i]? = some s → s.own? = some o → i = 0 := fun i s o e g => by
    rcases startG_get e with e | e
    · cases i with
      | zero => rfl
      | succ i =>
        obtain ⟨d, q1, q2⟩ := paired_get ha (by simpa using e)
        rcases q2 with rfl | ⟨rfl, _⟩ <;> cases g
    · subst e
      cases g
  refine ⟨fun a o e _ => e, fun a z => .inr z, fun a z => (A.mo hI a z).1, fun a z => z, by simp [L2.start, startG, hl], fun i s e => ?_, fun i j s t oi oj a ne e1 e2 g1 g2 => ?_⟩
  · rcases startG_get e with e | e
    · cases i with
      | zero =>
        cases e
        exact ⟨p, ⟨f, rfl, fun _ => rfl⟩, start_get rfl, fun a ha => ha, A.mem hI, hI, (fun H' hk ht => A.st hI hk ht), fun a ha => A.mo hI a ha⟩
      | succ i =>
        obtain ⟨d, e1, e2⟩ := paired_get ha (by simpa using e)
        obtain ⟨v, g1, g2⟩ := h.get e1
        have g1' : (V.ref p :: vs)[i + 1]? = some v := by simpa using g1
        rcases e2 with rfl | ⟨rfl, ht⟩
        · exact ⟨v, start_get g1', g2⟩
        · refine ⟨v, start_get g1', Dq.tupO_less (H' := H) (fun a z => ?_) _ _ ht (g2.same less_same)⟩
          rcases z with z | z
          · exact z
          · exact (A.mo hI a z).1
    · subst e
      trivial
  · exact absurd ((own i s oi e1 g1).trans (own j t oj e2 g2).symm) ne
theorem rf_end [A : AbI I] {H : Hp} {p : Addr} {f : List Addr} {W : Wd} {σ : L2.St} {Γ : G} {hm : ∀ a ∈ f, Mo (H a)} (R : Rel (Fr K H p f hm) W σ Γ) (h : Γ[0]? = some (.rf (.ab I))) : I W.H p f := by
  obtain ⟨p', ⟨f0, e0, ef⟩, e1, e2, e3⟩ := R.slot 0 _ h
  have e0' : some (p, f) = some (p', f0) := e0
  cases e0'
  cases ef rfl
  exact e3.2.1
abbrev REnds (I : Hp → Addr → List Addr → Prop) (Qd : PyData → Prop) : DE := { nx := fun Γ => Γ[0]? = some (.rf (.ab I)) ∧ Qd .none, rt := fun x Γ => Γ[0]? = some (.rf (.ab I)) ∧ ∃ r, retOf Γ x = some r ∧ Qd r, rn := fun o Γ => Γ[0]? = some (.rf (.ab I)) ∧ ∃ xs, o = .lst xs ∧ Qd (.list xs) }
theorem ref_ok [A1 : AbI I] {x qual : Str} {st : Stmt} {f : Addr} {fd : FuncData} {N ps : List Str} {k : Nat} {C : List PyData → (PyData → Prop) → Prop} (Fn : L2.Fun K x qual st f fd) (S : FnScope N ps (defScope st)) (hl : ∀ ds Qd, C ds Qd → ds.length + 1 = ps.length)
    (hbody : ∀ (cdv : Value) (A : Around) (outer : List Env) (s : Shared) (H : Hp) (E : XK), Room k (A.deeper (envOfC qual (defScope st) s.heap.objs.size f cdv)) →
      ∃ t, PSs (cxOf CX0 P w K mg base N qual (defScope st) f cdv A outer s H E).nox (defBody st) t ∧ ∃ d, SS K X0 t d ∧ ∀ ds Qd, C ds Qd → ∃ sl, Paired argOk sl ds ∧ d (REnds I Qd) (startG N (.rf (.ab I) :: sl))) : FnOk P w K mg base CX0 (k + 1) f fd ps (RefSp K I C) := by
  refine Fn.ok S (fun vs H Q E h => ?_) (fun cdv A outer s H vs Q E hr h => ?_)
  · obtain ⟨p, g, us, ds, Qd, rfl, h0, h1, h2, _⟩ := h
    rw [List.length_cons, h1.length]
    exact hl ds Qd h2
  · obtain ⟨p, g, us, ds, Qd, rfl, h0, h1, h2, q⟩ := h
    obtain ⟨t, ht, d, hs, hd⟩ := hbody cdv A outer s H E hr
    obtain ⟨sl, ha, hd⟩ := hd ds Qd h2
    refine ⟨t, ht, hs.run (Fr K H p g fun a z => (A1.mo h0 a z).1) (Wr H g) _ _ _ _ (rel_startR h0 h1 ha) hd ⟨fun W σ Γ _ R ⟨e0, e⟩ => ?_, fun W σ Γ y v _ R o ⟨e0, r, e, z⟩ => ?_, fun W σ Γ o l ho _ R hp oh ⟨e0, xs, e, z⟩ => ?_, fun W σ Γ _ R e => e, fun W σ Γ _ R e => e, fun W σ Γ c _ R e => e⟩⟩
    · exact q .non W.H .none (fun a o n e => R.base a o e n) (rf_end R e0) .non e
    · exact q v W.H r (fun a o n e => R.base a o e n) (rf_end R e0) (ret_ok R o e) z
    · subst e
      obtain ⟨us', rfl, hu⟩ := oh
      have nl := R.free hp
      have ng : l ∉ g := fun z => nl (.inr (R.rfo l z))
      have h0' : H l = none := by
        cases e : H l with
        | none => rfl
        | some o => have := R.base l o e ng; rw [hp] at this; cases this
      have hS : ∀ a o, W.H a = some o → (upd W.H l (.lst us')) a = some o := fun a o e => by
        rw [upd_ne (ne_of_none e hp)]
        exact e
      refine q (.ref l) _ (.list xs) (fun a o n e => hS a o (R.base a o e n)) ?_ (.lst (less_some.mpr ⟨by rw [h0']; exact fun z => z, upd_same⟩) (hu.same (same_less fun a o nx e => ⟨fun z => nx (.inl z), hS a o e⟩))) z
      refine AbI.st (rf_end R e0) (fun a ha => ?_) fun a o nm e => hS a o e
      rw [upd_ne]
      intro z
      exact ng (z ▸ ha)
abbrev RFEnds (I : Hp → Addr → List Addr → Prop) (Qd : OD → Prop) : DE := { nx := fun _ => False, rt := fun x Γ => Γ[0]? = some (.rf (.ab I)) ∧ ∃ r, retFresh Γ x = some r ∧ Qd r, rn := fun o Γ => Γ[0]? = some (.rf (.ab I)) ∧ Qd o }
theorem refFresh_ok [A1 : AbI I] {x qual : Str} {st : Stmt} {f : Addr} {fd : FuncData} {N ps : List Str} {k : Nat} {C : List PyData → (OD → Prop) → Prop} (Fn : L2.Fun K x qual st f fd) (S : FnScope N ps (defScope st)) (hl : ∀ ds Qd, C ds Qd → ds.length + 1 = ps.length)
    (hbody : ∀ (cdv : Value) (A : Around) (outer : List Env) (s : Shared) (H : Hp) (E : XK), Room k (A.deeper (envOfC qual (defScope st) s.heap.objs.size f cdv)) →
      ∃ t, PSs (cxOf CX0 P w K mg base N qual (defScope st) f cdv A outer s H E).nox (defBody st) t ∧ ∃ d, SS K X0 t d ∧ ∀ ds Qd, C ds Qd → ∃ sl, Paired argOk sl ds ∧ d (RFEnds I Qd) (startG N (.rf (.ab I) :: sl))) : FnOk P w K mg base CX0 (k + 1) f fd ps (RefFreshSp K I C) := by
  refine Fn.ok S (fun vs H Q E h => ?_) (fun cdv A outer s H vs Q E hr h => ?_)
  · obtain ⟨p, g, us, ds, Qd, rfl, h0, h1, h2, _⟩ := h
    rw [List.length_cons, h1.length]
    exact hl ds Qd h2
  · obtain ⟨p, g, us, ds, Qd, rfl, h0, h1, h2, q⟩ := h
    obtain ⟨t, ht, d, hs, hd⟩ := hbody cdv A outer s H E hr
    obtain ⟨sl, ha, hd⟩ := hd ds Qd h2
    refine ⟨t, ht, hs.run (Fr K H p g fun a z => (A1.mo h0 a z).1) (Wr H g) _ _ _ _ (rel_startR h0 h1 ha) hd ⟨fun W σ Γ _ R e => e.elim, fun W σ Γ y v _ R o ⟨e0, r, e, z⟩ => ?_, fun W σ Γ o l ho _ R hp oh ⟨e0, z⟩ => ?_, fun W σ Γ _ R e => e, fun W σ Γ _ R e => e, fun W σ Γ c _ R e => e⟩⟩
    · obtain ⟨l, ho, rfl, g1, g2, g3, g4⟩ := retFresh_ok R o e
      have ne : ∀ a o, H a = some o → a ≠ l := fun a o e z => by
        rw [z] at e
        rw [show H l = none from g2] at e
        cases e
      have := q l ho (dropH W.H l) r (fun a o n e => ?_) ?_ dropH_at g4 z
      · rw [dropH_upd g1] at this
        exact this
      · rw [dropH_ne (ne a o e)]
        exact R.base a o e n
      · have i1 := rf_end R e0
        have nl : l ∉ g := g3
        refine AbI.st i1 (fun a ha => dropH_ne fun z => nl (z ▸ ha)) fun a u nm eu => ?_
        have i0 : a ≠ l := fun z => by
          rw [z, g1] at eu
          cases eu
          exact nm (mo_ownH g4)
        rw [dropH_ne i0]
        exact eu
    · exact q l ho W.H o (fun a o n e => R.base a o e n) (rf_end R e0) hp (oh.same (same_less fun a o nx e => ⟨fun z => nx (.inl z), e⟩)) z
end
/-! isinstance: the kinds of data -/
theorem kb_NoneType_int : kitB "NoneType" "int" = some false := by decide +kernel
theorem kb_NoneType_bool : kitB "NoneType" "bool" = some false := by decide +kernel
theorem kb_NoneType_str : kitB "NoneType" "str" = some false := by decide +kernel
theorem kb_NoneType_list : kitB "NoneType" "list" = some false := by decide +kernel
theorem kb_NoneType_tuple : kitB "NoneType" "tuple" = some false := by decide +kernel
theorem kb_bool_int : kitB "bool" "int" = some true := by decide +kernel
theorem kb_bool_bool : kitB "bool" "bool" = some true := by decide +kernel
theorem kb_bool_str : kitB "bool" "str" = some false := by decide +kernel
theorem kb_bool_list : kitB "bool" "list" = some false := by decide +kernel
theorem kb_bool_tuple : kitB "bool" "tuple" = some false := by decide +kernel
theorem kb_int_int : kitB "int" "int" = some true := by decide +kernel
theorem kb_int_bool : kitB "int" "bool" = some false := by decide +kernel
theorem kb_int_str : kitB "int" "str" = some false := by decide +kernel
theorem kb_int_list : kitB "int" "list" = some false := by decide +kernel
theorem kb_int_tuple : kitB "int" "tuple" = some false := by decide +kernel
theorem kb_str_int : kitB "str" "int" = some false := by decide +kernel
theorem kb_str_bool : kitB "str" "bool" = some false := by decide +kernel
theorem kb_str_str : kitB "str" "str" = some true := by decide +kernel
theorem kb_str_list : kitB "str" "list" = some false := by decide +kernel
theorem kb_str_tuple : kitB "str" "tuple" = some false := by decide +kernel
theorem kb_list_int : kitB "list" "int" = some false := by decide +kernel
theorem kb_list_bool : kitB "list" "bool" = some false := by decide +kernel
theorem kb_list_str : kitB "list" "str" = some false := by decide +kernel
theorem kb_list_list : kitB "list" "list" = some true := by decide +kernel
theorem kb_list_tuple : kitB "list" "tuple" = some false := by decide +kernel
theorem kb_tuple_int : kitB "tuple" "int" = some false := by decide +kernel
theorem kb_tuple_bool : kitB "tuple" "bool" = some false := by decide +kernel
theorem kb_tuple_str : kitB "tuple" "str" = some false := by decide +kernel
theorem kb_tuple_list : kitB "tuple" "list" = some false := by decide +kernel
theorem kb_tuple_tuple : kitB "tuple" "tuple" = some true := by decide +kernel
theorem iteFb {b : Bool} {A B : Prop} (h : b = false) (q : B) : if b = true then A else B := by subst h; exact iteF q
theorem iteTb {b : Bool} {A B : Prop} (h : b = true) (q : A) : if b = true then A else B := by subst h; exact iteT q
theorem ite2b {b : Bool} {A B : Prop} (h1 : b = true → A) (h2 : b = false → B) : if b = true then A else B := by cases b with
  | true => exact iteT (h1 rfl)
  | false => exact iteF (h2 rfl)
/-! ### loops by the part that is gone through -/
theorem take_snoc {α : Type} {xs : List α} {k : Nat} {x : α} (h : xs[k]? = some x) : xs.take (k + 1) = xs.take k ++ [x] := by
  rw [List.take_add_one, h]
  rfl
theorem map_get {α : Type} {f : α → PyData} {xs : List α} {k : Nat} {d : PyData} (h : (xs.map f)[k]? = some d) : ∃ x, xs[k]? = some x ∧ d = f x := by
  rw [List.getElem?_map] at h
  obtain ⟨x, h1, h2⟩ := Option.map_eq_some_iff.mp h
  exact ⟨x, h1, h2.symm⟩
theorem cut_at {α : Type} {xs : List α} {k : Nat} {x : α} (h : xs[k]? = some x) : xs = xs.take k ++ x :: xs.drop (k + 1) := by
  have hk := lt_of_get h
  have e : xs[k] = x := by
    rw [List.getElem?_eq_getElem hk] at h
    exact Option.some.inj h
  rw [← e, List.getElem_cons_drop, List.take_append_drop]
section
variable {α : Type} {xs : List α} {f : α → PyData} {dg : TGd} {db : TSd} {E : DE} {Γ2 : G} {kd : PyData → RV}
/-- for x in xs: what holds between two turns, by the part that is gone through -/
theorem for_pre (I : List α → G → Prop) (h0 : I [] Γ2) (step : ∀ (pre : List α) (x : α) (post : List α) (Γ' : G), xs = pre ++ x :: post → I pre Γ' → dg (kd (f x)) Γ' fun Γ3 => db (E.lp (I (pre ++ [x]))) Γ3) (done : ∀ Γ', I xs Γ' → E.nx Γ') :
    ∃ J : Nat → G → Prop, J 0 Γ2 ∧ (∀ k d Γ', (xs.map f)[k]? = some d → J k Γ' → dg (kd d) Γ' fun Γ3 => db (E.lp (J (k + 1))) Γ3) ∧ ∀ Γ', J (xs.map f).length Γ' → E.nx Γ' := by
  refine ⟨fun k Γ => I (xs.take k) Γ, by simpa using h0, fun k d Γ' hd hi => ?_, fun Γ' hi => ?_⟩
  · obtain ⟨x, hx, rfl⟩ := map_get hd
    have e := take_snoc hx
    have s := step (xs.take k) x (xs.drop (k + 1)) Γ' (cut_at hx) hi
    rw [← e] at s
    exact s
  · rw [List.length_map, List.take_length] at hi
    exact done Γ' hi
end
section
variable {α : Type} {xs : List α} {f : α → PyData} {dg : TGd} {dt : TTd} {de : TEd} {vs : List Nat} {Γ2 : G} {kd : PyData → RV} {Q : OD → G → Prop}
/-- a comprehension by the part that is gone through -/
theorem lc_pre {R : List PyData → G → Prop} (I : List α → List PyData → G → Prop) (h0 : I [] [] (wipeG Γ2 vs)) (step : ∀ (pre : List α) (x : α) (post : List α) (acc : List PyData) (Γ' : G), xs = pre ++ x :: post → I pre acc Γ' → LcTurn dg dt de vs (kd (f x)) Γ' fun o Γ5 => I (pre ++ [x]) (acc ++ o.toList) Γ5) (done : ∀ acc Γ', I xs acc Γ' → R acc Γ') :
    ∃ J : Nat → List PyData → G → Prop, J 0 [] (wipeG Γ2 vs) ∧ (∀ k d acc Γ', (xs.map f)[k]? = some d → J k acc Γ' → LcTurn dg dt de vs (kd d) Γ' fun o Γ5 => J (k + 1) (acc ++ o.toList) Γ5) ∧ ∀ acc Γ', J (xs.map f).length acc Γ' → R acc Γ' := by
  refine ⟨fun k acc Γ => I (xs.take k) acc Γ, by simpa using h0, fun k d acc Γ' hd hi => ?_, fun acc Γ' hi => ?_⟩
  · obtain ⟨x, hx, rfl⟩ := map_get hd
    have e := take_snoc hx
    have s := step (xs.take k) x (xs.drop (k + 1)) acc Γ' (cut_at hx) hi
    rw [← e] at s
    exact s
  · rw [List.length_map, List.take_length] at hi
    exact done acc Γ' hi
/-- .. whose items are told one by one, and nothing else is changed -/
theorem lc_map {R : List PyData → G → Prop} (h : α → Option PyData) (step : ∀ (x : α), x ∈ xs → ∀ P : Option PyData → G → Prop, P (h x) (wipeG Γ2 vs) → LcTurn dg dt de vs (kd (f x)) (wipeG Γ2 vs) P) (done : R (xs.filterMap h) (wipeG Γ2 vs)) :
    ∃ J : Nat → List PyData → G → Prop, J 0 [] (wipeG Γ2 vs) ∧ (∀ k d acc Γ', (xs.map f)[k]? = some d → J k acc Γ' → LcTurn dg dt de vs (kd d) Γ' fun o Γ5 => J (k + 1) (acc ++ o.toList) Γ5) ∧ ∀ acc Γ', J (xs.map f).length acc Γ' → R acc Γ' := by
  refine lc_pre (fun pre acc Γ => acc = pre.filterMap h ∧ Γ = wipeG Γ2 vs) ⟨rfl, rfl⟩ (fun pre x post acc Γ' e hi => ?_) fun acc Γ' hi => ?_
  · obtain ⟨rfl, rfl⟩ := hi
    refine step x (by rw [e]; simp) _ ⟨?_, rfl⟩
    rw [List.filterMap_append]
    cases e' : h x <;> simp [e']
  · obtain ⟨rfl, rfl⟩ := hi
    exact done
/-- .. over a range -/
theorem lcR_map {R : List PyData → G → Prop} {n : Nat} {lo : Int} (h : Nat → Option PyData) (step : ∀ (k : Nat), k < n → ∀ P : Option PyData → G → Prop, P (h k) (wipeG Γ2 vs) → LcTurn dg dt de vs (.sh (.int (lo + k))) (wipeG Γ2 vs) P) (done : R ((List.range n).filterMap h) (wipeG Γ2 vs)) :
    ∃ J : Nat → List PyData → G → Prop, J 0 [] (wipeG Γ2 vs) ∧ (∀ k acc Γ', k < n → J k acc Γ' → LcTurn dg dt de vs (.sh (.int (lo + k))) Γ' fun o Γ5 => J (k + 1) (acc ++ o.toList) Γ5) ∧ ∀ acc Γ', J n acc Γ' → R acc Γ' := by
  refine ⟨fun k acc Γ => acc = (List.range k).filterMap h ∧ Γ = wipeG Γ2 vs, ⟨rfl, rfl⟩, fun k acc Γ' hk hi => ?_, fun acc Γ' hi => ?_⟩
  · obtain ⟨rfl, rfl⟩ := hi
    refine step k hk _ ⟨?_, rfl⟩
    rw [List.range_succ, List.filterMap_append]
    cases e' : h k <;> simp [e']
  · obtain ⟨rfl, rfl⟩ := hi
    exact done
end
end Dk

namespace Dk
open PySem PySem.Spec PyProof.Rows L2
section
variable {K : Fg} {ta tb : TE} {da db : TEd}
/-- a list times a number -/
def dRep (da db : TEd) : TFd := fun Γ Q => da Γ fun x Γ1 => db Γ1 fun y Γ2 => ∃ ds k, lstOf Γ2 x = some ds ∧ dat Γ2 y = some (.int k) ∧ keepable x ds ∧ -(2 ^ 63) ≤ k ∧ k < 2 ^ 63 ∧ ds.length * k.toNat ≤ sizeLine ∧ Q (.lst (repD ds k.toNat)) Γ2
theorem DqAll.rep {H : Hp} {vs : List V} {ds : List PyData} (h : DqAll K H vs ds) : ∀ n : Nat, DqAll K H (List.replicate n vs).flatten (repD ds n)
  | 0 => .nil
  | n + 1 => by
    unfold repD
    rw [List.replicate_succ, List.replicate_succ, List.flatten_cons, List.flatten_cons]
    exact h.app (DqAll.rep h n)
instance sf_rep [SE K ta da] [SE K tb db] : SEF K (tOp rRep ta tb) (dRep da db) := ⟨fun F W σ Γ Q Qd R q k => two R q fun x y W' Γ' u v s' R' o1 o2 ⟨ds, n, e1, e2, k1, h1, h2, hl, q⟩ => by
  obtain ⟨a, xs, rfl, g1, g2, _⟩ := lstOf_ok R' o1 e1
  have hd := keep_ok R' g2 k1
  have hv := int_of (o2.full R' e2)
  subst hv
  exact ⟨a, n, xs, rfl, rfl, g1, h1, h2, by rw [hd.length]; exact hl, fun p hp => k (.lst (repD ds n.toNat)) W' Γ' p _ s' R' hp ⟨_, rfl, DqAll.rep hd _⟩ q⟩⟩
/-- a statement that is never come to -/
def tDead : TS := fun _ _ _ => False
def dDead : TSd := fun _ _ => False
theorem ps_dead {X : Cx} {st : Stmt} : PS X st tDead := ⟨fun _ _ _ _ _ _ h => h.elim⟩
instance ss_dead {Xw : WX} : SS K Xw tDead dDead := ⟨fun _ _ _ _ _ _ _ h _ => h.elim⟩
/-- list.extend by a tuple, whatever else the tuple's object has -/
theorem extT_meets (l b : Addr) (xs ys : Array Value) (n m : Nat) (dd : Option Addr) (sl : Array (Option Value)) (h0 : ¬(!xs.isEmpty && Builtin.List.listTooLong (xs.size + ys.size)) = true) (h1 : xs.size ≤ sizeLine) (h2 : xs.size + ys.size ≤ sizeLine + 1) :
    Meets (Builtin.«list.extend» ⟨[.ref l, .ref b], []⟩) (fun _ R st => st.heap.get? l = some { cls := .type "list", dict := none, data := .seq xs n, slots := #[] } ∧ st.heap.get? b = some { cls := .type "tuple", dict := dd, data := .seq ys m, slots := sl } ∧ R (.ok (.ret Value.none)) { st with heap := st.heap.update l (Obj.mapSeq fun x => x ++ ys), toks := st.toks }) :=
  .of_wp fun prog w A R st h => by
    obtain ⟨hp, gn, dr, tk, os⟩ := st
    obtain ⟨at1, at2, h⟩ := h
    have t1 := PySem.AutoSeq1.sub_tuple_tuple
    have t2 := PySem.AutoSeq1.sub_list_list
    have t3 := PySem.AutoSeq1.sub_tuple_list
    have t4 := PySem.AutoSeq1.sub_list_tuple
    have hz : (xs ++ ys).size ≤ sizeLine + 1 := by rw [Array.size_append]; exact h2
    wp_walk using (wpAny_updateSeq at1 rfl (hz := h1) (_hz' := hz)), PySem.AutoSeq1.wpAny_loadPart' at1, PySem.AutoSeq1.wpAny_loadPart' at2
    exact ⟨_, rfl, h⟩
def rExtT (K : Fg) : V → List V → Hp → VK → Prop := fun x vs H Q => ∃ l b xs zs, x = .ref l ∧ vs = [.ref b] ∧ H l = some (.lst xs) ∧ SqT K H b zs ∧ xs.length + zs.length ≤ sizeLine ∧ Q .non (upd H l (.lst (xs ++ zs)))
theorem mt_extT {X : Cx} : MtR X "list.extend" (rExtT X.K) := by
  intro pn st σ H x vs v us Q J rx rv ⟨l, b, xs, zs, e1, e2, hl, hb, fit, q⟩
  subst e1 e2
  cases rx
  obtain ⟨u, rfl, ru⟩ := rv.one
  cases ru
  obtain ⟨_, its, n, r1, len1, at1⟩ := J.lstM hl
  obtain ⟨its2, r2, ⟨⟨cls, dd, data, sl⟩, at2, hc, m, hd⟩, _⟩ := J.tuple hb
  simp only at hc hd
  subst hc hd
  have s1 : its.toArray.size = xs.length := by rw [List.size_toArray, len1]
  have s2 : its2.toArray.size = zs.length := by rw [List.size_toArray, ← r2.length]
  have nl : ¬(!its.toArray.isEmpty && Builtin.List.listTooLong (its.toArray.size + its2.toArray.size)) = true := by
    rw [notLongL (by omega), Bool.and_false]
    exact Bool.false_ne_true
  refine call_meets F.slot_list_extend ⟨_, at1, rfl⟩ F.entry_list_extend (F.args_list_extend_2 _ _) (extT_meets l b its.toArray its2.toArray n m dd sl nl (by omega) (by omega)) ⟨at1, at2, ?_⟩
  exact ⟨.non, _, J.lset (its' := its ++ its2) hl at1 (by simp) (r1.append r2) (by rw [List.length_append]; omega), rfl, q⟩
theorem kextT {X : Cx} (K : Fg) (h : X.K = K := by rfl) : MtR X "list.extend" (rExtT K) := h ▸ mt_extT
variable {te : TE} {de : TEd}
def dExtT (i : Nat) (de : TEd) : TEd := fun Γ Q => (ownL Γ i).isSome = true ∧ de Γ fun x Γ1 => ∃ ds es, ownL Γ1 i = some ds ∧ tupOf Γ1 x = some es ∧ keepable x es ∧ ds.length + es.length ≤ sizeLine ∧ Q (.sh .none) (putL Γ1 i (ds ++ es))
instance se_extT {i : Nat} [A : SE K te de] : SE K (tBM K "list" (rExtT K) (tVar i) (tCons te tNil)) (dExtT i de) := ⟨fun F W σ Γ Q Qd R ⟨h0, q⟩ k => by
  obtain ⟨ds0, h0⟩ := Option.isSome_iff_exists.mp h0
  obtain ⟨s0, a1, a2, _⟩ := ownL_of h0
  obtain ⟨p, e0⟩ := own_ref R a1 a2
  obtain ⟨vs0, b1, b2⟩ := own_lst R a1 a2 e0
  refine ⟨.ref p, e0, .inl ⟨rfl, _, SqL.of b1⟩, ?_⟩
  refine A.run F W σ Γ _ _ R q fun x W' Γ' v s' R' o ⟨ds, es, h1, e2, hk, hl, q⟩ => ?_
  obtain ⟨s, c1, c2, c3⟩ := ownL_of h1
  obtain ⟨vs, b1, b2⟩ := own_lst R' c1 c2 e0
  obtain ⟨b, ys, rfl, g1, g2, g3⟩ := tupOf_ok R' o e2
  have he := keep_ok R' g2 hk
  have hh : OwnH K (W'.S F) (.lst (vs ++ ys)) (.lst (ds ++ es)) := ⟨_, rfl, b2.app he⟩
  refine ⟨p, b, vs, ys, rfl, rfl, b1, g1.sq, by rw [b2.length, he.length]; exact hl, ?_⟩
  rw [c3] at q
  exact k _ { W' with H := upd W'.H p (.lst (vs ++ ys)) } _ _ (s'.trans (Stp.put R' c1 c2 rfl e0 hh)) (R'.put c1 c2 rfl e0 hh).1 .non q⟩
/-- int(x) of a number or of a truth -/
def rInt1 : List V → Hp → VK → Prop := fun xs H Q => (∃ i, xs = [.int i] ∧ Q (.int i) H) ∨ ∃ k, xs = [.bl k] ∧ Q (.int (if k then 1 else 0)) H
theorem b_int {X : Cx} : CallR X (.type "int") rInt1 := call_int1
def numD : PyData → Option Int
  | .int i => some i
  | .bool b => some (if b then 1 else 0)
  | _ => none
def dInt1 (da : TEd) : TEd := fun Γ Q => da Γ fun x Γ1 => ∃ d i, dat Γ1 x = some d ∧ numD d = some i ∧ Q (.sh (.int i)) Γ1
instance se_int1 [SE K ta da] : SE K (tCB rInt1 (tCons ta tNil)) (dInt1 da) := ⟨fun F W σ Γ Q Qd R q k => one (ta := ta) (da := da) R q fun x W' Γ' v s' R' o ⟨d, i, e, e2, q⟩ => by
  cases d with
  | int j =>
    cases e2
    exact .inl ⟨_, by rw [int_of (o.full R' e)], k _ W' Γ' _ s' R' (.int _) q⟩
  | bool b =>
    cases e2
    exact .inr ⟨_, by rw [bl_of (o.full R' e)], k _ W' Γ' _ s' R' (.int _) q⟩
  | _ => cases e2⟩
end
end Dk

namespace Dk
open PySem PySem.Spec PyProof.Rows L2
/-! ### xs[i] += e -/
theorem get_listP {X : Cx} : PGet X (rIxL X.K) := by
  intro pins s σ H o i ov iv Q I rx ry h
  obtain ⟨p, xs, k, z, rfl, rfl, hq, he, q⟩ := h
  cases rx
  obtain ⟨t, rfl⟩ := ry
  obtain ⟨its, r, pl, hz⟩ := I.list hq
  obtain ⟨j, h1, h2, h3, h4, h5⟩ := atI_get he
  obtain ⟨w, ew, rw'⟩ := r.get h2
  have hl := r.length
  have hn := line63
  have fin : EP X pins σ Q w s := ⟨z, H, I, rw', q⟩
  by_cases h0 : 0 ≤ k
  · have hj : k.toNat = j := by
      rw [seqIndex_of h0 h5] at h1
      exact Option.some.inj h1
    exact wpAny_getItem_list pl.isList h0 (by omega) (by rw [hj]; simpa using ew) fin
  · have hj : (k + (its.toArray.size : Int)).toNat = j := by
      rw [seqIndex_neg (by omega) h4] at h1
      rw [List.size_toArray, ← hl]
      exact Option.some.inj h1
    exact wpAny_getItem_list_neg pl.isList (by omega) (by rw [List.size_toArray] <;> omega) (by omega) (by rw [hj]; simpa using ew) fin
theorem kgetL {X : Cx} (K : Fg) (h : X.K = K := by rfl) : PGet X (rIxL K) := h ▸ get_listP
section
variable {K : Fg} {ti te : TE} {di de : TEd}
def dAugL (i : Nat) (h : Int → Int → Int) (di de : TEd) : TSd := fun E Γ => (ownL Γ i).isSome = true ∧ di Γ fun y Γ1 => ∃ k j ds a, dat Γ1 y = some (.int k) ∧ ownL Γ1 i = some ds ∧ atI ds k = some (.int a) ∧
  de Γ1 fun z Γ2 => ∃ b ds2, dat Γ2 z = some (.int b) ∧ ownL Γ2 i = some ds2 ∧ ixN ds2.length k = some j ∧ E.nx (putL Γ2 i (ds2.set j (.int (h a b))))
instance ss_augL {Xw : WX} {i : Nat} {h : Int → Int → Int} [A : SE K ti di] [B : SE K te de] : SS K Xw (tAugS (tVar i) ti te (rIxL K) (ipI h) rSetL) (dAugL i h di de) := ⟨fun F W σ Γ D E R ⟨h0, q⟩ L => by
  obtain ⟨ds0, h0⟩ := Option.isSome_iff_exists.mp h0
  obtain ⟨s0, a1, a2, _⟩ := ownL_of h0
  obtain ⟨p, e0⟩ := own_ref R a1 a2
  refine ⟨.ref p, e0, A.run F W σ Γ _ _ R q fun y W1 Γ1 u s1 R1 o1 ⟨k, j, ds, a, e1, h1, e2, q⟩ => ?_⟩
  obtain ⟨s, c1, c2, c3⟩ := ownL_of h1
  obtain ⟨vs, b1, b2⟩ := own_lst R1 c1 c2 e0
  obtain ⟨z, g1, g2⟩ := paired_atI (paired_of b2) e2
  refine ⟨p, vs, k, z, rfl, int_of (o1.full R1 e1), SqL.of b1, g1, ?_⟩
  refine B.run F W1 σ Γ1 _ _ R1 q fun y2 W2 Γ2 u2 s2 R2 o2 ⟨b, ds2, e3, h2, e4, q⟩ => ?_
  refine ⟨a, b, int_of g2, int_of (o2.full R2 e3), ?_⟩
  obtain ⟨s', d1, d2, d3⟩ := ownL_of h2
  obtain ⟨vs2, b1', b2'⟩ := own_lst R2 d1 d2 e0
  have hh : OwnH K (W2.S F) (.lst (vs2.set j (.int (h a b)))) (.lst (ds2.set j (.int (h a b)))) := ⟨_, rfl, b2'.setAt (.int _)⟩
  refine ⟨p, vs2, k, j, rfl, int_of (o1.full R1 e1), b1', by rw [b2'.length]; exact e4, ?_⟩
  rw [d3] at q
  exact L.nx { W2 with H := upd W2.H p (.lst (vs2.set j (.int (h a b)))) } σ _ (s1.sh.trans (s2.sh.trans (Stp.put R2 d1 d2 rfl e0 hh).sh)) (R2.put d1 d2 rfl e0 hh).1 q⟩
end
end Dk

namespace Dk
open PySem PySem.Spec PyProof.Rows L2
section
variable {K : Fg} {ta tb : TE} {da db : TEd}
/-! ### list(range(a, b)), xs[::-1] -/
def runD (a b : Int) : List PyData := (List.range (b - a).toNat).map fun (i : Nat) => PyData.int (a + (i : Int))
theorem DqAll.ofRun {H : Hp} (a b : Int) : DqAll K H (rgV a b) (runD a b) := by
  unfold rgV runD
  generalize (b - a).toNat = n
  have h := DqAll.ofInts (K := K) (H := H) ((List.range n).map fun (i : Nat) => a + (i : Int))
  rw [List.map_map, List.map_map] at h
  exact h
def dLstRg2 (da db : TEd) : TFd := fun Γ Q => da Γ fun x Γ1 => db Γ1 fun y Γ2 => ∃ i j, dat Γ2 x = some (.int i) ∧ dat Γ2 y = some (.int j) ∧ RgOk i j ∧ Q (.lst (runD i j)) Γ2
instance sf_lstRg2 [SE K ta da] [SE K tb db] : SEF K (tLstRg (tRg2 ta tb)) (dLstRg2 da db) := ⟨fun F W σ Γ Q Qd R q k => two R q fun x y W' Γ' u v s' R' o1 o2 ⟨i, j, e1, e2, h, q⟩ =>
  ⟨i, j, int_of (o1.full R' e1), int_of (o2.full R' e2), h, fun p hp => k (.lst (runD i j)) W' Γ' p _ s' R' hp ⟨_, rfl, DqAll.ofRun i j⟩ q⟩⟩
def dLstRg1 (da : TEd) : TFd := fun Γ Q => da Γ fun x Γ1 => ∃ j, dat Γ1 x = some (.int j) ∧ RgOk 0 j ∧ Q (.lst (runD 0 j)) Γ1
instance sf_lstRg1 [A : SE K ta da] : SEF K (tLstRg (tRg1 ta)) (dLstRg1 da) := ⟨fun F W σ Γ Q Qd R q k => A.run F W σ Γ _ _ R q fun x W' Γ' u s' R' o1 ⟨j, e1, h, q⟩ =>
  ⟨j, int_of (o1.full R' e1), h, fun p hp => k (.lst (runD 0 j)) W' Γ' p _ s' R' hp ⟨_, rfl, DqAll.ofRun 0 j⟩ q⟩⟩
def dRevL (da : TEd) : TFd := fun Γ Q => da Γ fun x Γ1 => ∃ ds, lstOf Γ1 x = some ds ∧ keepable x ds ∧ Q (.lst ds.reverse) Γ1
instance sf_revL [A : SE K ta da] : SEF K (tRevL K ta) (dRevL da) := ⟨fun F W σ Γ Q Qd R q k => A.run F W σ Γ _ _ R q fun x W' Γ' u s' R' o1 ⟨ds, e1, hk, q⟩ => by
  obtain ⟨a, xs, rfl, h1, h2, _⟩ := lstOf_ok R' o1 e1
  exact ⟨a, xs, rfl, SqL.of h1, fun p hp => k (.lst ds.reverse) W' Γ' p _ s' R' hp ⟨_, rfl, (keep_ok R' h2 hk).reverse⟩ q⟩⟩
theorem krevL {X : Cx} (K : Fg) {e : Expr} {te : TE} {k : Nat} {p1 p2 p3 pos : Pos} (he : PE X e te) (h : X.K = K := by rfl) : PE X (.Subscript e (.Slice none none (some (.UnaryOp .USub (.Constant (.int 1) k p1) p2)) p3) pos) (tRevL K te) := h ▸ pe_revL he
end
/-! ### ranges by steps -/
section
variable {K : Fg} {Xw : WX} {ta : TA} {da : TAd} {g : TG} {dg : TGd} {ix vs : List Nat} {tb : TS} {db : TSd} {tt : TT} {dt : TTd} {te : TE} {de : TEd}
theorem ints3 {H : Hp} {vs : List V} {i j k : Int} (h : DqAll K H vs [.int i, .int j, .int k]) : vs = [.int i, .int j, .int k] := DqAll.ints (ns := [i, j, k]) h
def dForC (da : TAd) (dg : TGd) (db : TSd) : TSd := fun E Γ => da Γ fun xs Γ1 => ∃ lo hi c n, dats Γ1 xs = some [.int lo, .int hi, .int c] ∧ RgC lo hi c n ∧ ∃ I : Nat → G → Prop, I 0 Γ1 ∧
  (∀ k Γ', k < n → I k Γ' → dg (.sh (.int (lo + (k : Int) * c))) Γ' fun Γ3 => db (E.lp (I (k + 1))) Γ3) ∧ ∀ Γ', I n Γ' → E.nx Γ'
instance ss_forR3 [A : SA K ta da] [B : SG K g dg ix] [C : SS K Xw tb db] : SS K Xw (tFor (iRng3 ta) g tb) (dForC da dg db) := ⟨fun F W σ Γ D E R q L => A.run F W σ Γ _ _ R q fun xs W1 Γ1 vs s1 R1 o1 ⟨lo, hi, c, n, e, hr, I, i0, step, done⟩ => by
  refine ⟨lo, hi, c, n, ints3 (o1.full R1 e), hr, ?_⟩
  have s12 := s1.sh
  refine for_rangeC (fun k σ' H' => ∃ W' Γ', W'.H = H' ∧ Same (W1.S F) (W'.S F) ∧ Rel F W' σ' Γ' ∧ I k Γ') ⟨W1, Γ1, rfl, Same.refl _, R1, i0⟩ ?_ ?_
  · rintro k σ' H' hk ⟨W', Γ', rfl, s', R', i'⟩
    refine B.run F W' σ' Γ' _ _ _ _ R' (.int _) (step k Γ' hk i') fun W3 σ3 Γ3 k3 f3 R3 q3 => ?_
    refine C.run F W3 σ3 Γ3 _ _ R3 q3 ⟨fun W4 σ4 Γ4 s4 R4 q4 => ⟨W4, Γ4, rfl, (s'.trans k3.sh).trans s4, R4, q4⟩, fun W4 σ4 Γ4 x4 v4 s4 => L.rt W4 σ4 Γ4 x4 v4 (s12.trans ((s'.trans k3.sh).trans s4)), fun W4 σ4 Γ4 o4 p4 h4 s4 => L.rn W4 σ4 Γ4 o4 p4 h4 (s12.trans ((s'.trans k3.sh).trans s4)), fun W4 σ4 Γ4 s4 => L.nx W4 σ4 Γ4 (s12.trans ((s'.trans k3.sh).trans s4)), fun W4 σ4 Γ4 s4 R4 q4 => ⟨W4, Γ4, rfl, (s'.trans k3.sh).trans s4, R4, q4⟩, fun W4 σ4 Γ4 c4 s4 => L.xs W4 σ4 Γ4 c4 (s12.trans ((s'.trans k3.sh).trans s4))⟩
  · rintro σ' H' ⟨W', Γ', rfl, s', R', i'⟩
    exact L.nx W' σ' Γ' (s12.trans s') R' (done Γ' i')⟩
def dLcC (da : TAd) (dg : TGd) (dt : TTd) (de : TEd) (ix vs : List Nat) : TFd := fun Γ Q => da Γ fun xs Γ2 => ∃ lo hi c n, dats Γ2 xs = some [.int lo, .int hi, .int c] ∧ RgC lo hi c n ∧ ownFree Γ2 vs = true ∧ subL ix vs = true ∧ n ≤ sizeLine ∧
  ∃ I : Nat → List PyData → G → Prop, I 0 [] (wipeG Γ2 vs) ∧ (∀ k acc Γ', k < n → I k acc Γ' → LcTurn dg dt de vs (.sh (.int (lo + (k : Int) * c))) Γ' fun o Γ5 => I (k + 1) (acc ++ o.toList) Γ5) ∧ ∀ acc Γ', I n acc Γ' → Q (.lst acc) (backG Γ2 Γ' vs)
instance sf_lcR3 [A : SA K ta da] [B : SG K g dg ix] [T : ST K tt dt] [C : SE K te de] : SEF K (tLc (iRng3 ta) g tt te vs) (dLcC da dg dt de ix vs) := ⟨fun F W σ Γ Q Qd R q kk => A.run F W σ Γ _ _ R q fun xs W2 Γ2 v s1 R2 o1 ⟨lo, hi, c, n, e, hr, hf, hix, hl, I, i0, step, done⟩ => by
  refine ⟨lo, hi, c, n, ints3 (o1.full R2 e), hr, fun D hD => ?_⟩
  obtain ⟨_, _, _, h0, nrf⟩ := R2.temp (ho := .lst []) hD trivial
  refine lc_it walk_rangeC (LcSt F W2 σ Γ2 vs D I) (lc_begin R2 hD i0) (fun _ _ _ _ => trivial) ?_ ?_
  · rintro k x H' H'' hk ⟨W', Γ', acc, us, rfl, R', t', hd', hu, ha, s', tm', kn', ik', i'⟩ y
    obtain ⟨rfl, rfl⟩ := y
    exact lc_turn (x := .sh (.int _)) hix nrf R' t' hd' hu (by omega) ha s' tm' kn' ik' (.int _) (step k acc Γ' hk i')
  · intro H' h
    exact lc_end R2 hD h0 nrf hf h done fun o W' Γ' p ho s' R' hp oh q => kk o W' Γ' p ho (s1.trans s') R' hp oh q⟩
end
end Dk

namespace Dk
open PySem PySem.Spec PyProof.Rows L2
/-! ### is None -/
def nonD : PyData → Bool
  | .none => true
  | _ => false
def dIsN (f : Bool → Bool) (da db : TEd) : TEd := fun Γ Q => da Γ fun x Γ1 => db Γ1 fun y Γ2 => ∃ a, dat Γ2 x = some a ∧ dat Γ2 y = some .none ∧ Q (.sh (.bool (f (nonD a)))) Γ2
theorem nonD_ok {K : Fg} {H : Hp} {v : V} {d : PyData} (h : Dq K H v d) : decide (v = .non) = nonD d := by
  cases d with
  | none => cases h; rfl
  | bool b => cases h; rfl
  | int b => cases h; rfl
  | str b => cases h; rfl
  | list b => cases h; rfl
  | tuple b => cases h; rfl
  | dict b => cases h; rfl
def rNone (f : Bool → Bool) : R2 := fun x y H Q => y = .non ∧ Q (.bl (f (decide (x = .non)))) H
theorem k_isN {X : Cx} : OpR X (compareOp .Is) (rNone id) := op_isN
theorem k_notN {X : Cx} : OpR X (compareOp .IsNot) (rNone not) := op_notN
section
variable {K : Fg} {ta tb : TE} {da db : TEd}
instance se_isN {f : Bool → Bool} [SE K ta da] [SE K tb db] : SE K (tOp (rNone f) ta tb) (dIsN f da db) := ⟨fun F W σ Γ Q Qd R q k => two R q fun x y W' Γ' u v s' R' o1 o2 ⟨a, e1, e2, q⟩ => by
  have h2 := o2.full R' e2
  cases h2
  refine ⟨rfl, ?_⟩
  rw [nonD_ok (o1.full R' e1)]
  exact k _ W' Γ' _ s' R' (.bl _) q⟩
end
theorem ite_and {c b : Bool} {A : Prop} {Q : RV → G → Prop} {Γ : G} (hA : Q (.sh (.bool b)) Γ → A) (h : ∀ x : Bool, x = (c && b) → Q (.sh (.bool x)) Γ) : if c = true then A else Q (.sh (.bool false)) Γ := by
  cases c with
  | true => exact iteT (hA (h b rfl))
  | false => exact iteF (h false rfl)
theorem ixN_at {n j : Nat} (h : j < n) : ixN n (j : Int) = some j := by
  unfold ixN
  rw [if_pos (by omega), if_pos (by omega)]
  congr 1
/-! ### exceptions -/
/-- an own class over ValueError, without own words -/
structure ExcIn (K : Fg) (mg : Str → Option Value) (x : Str) where
  C : Addr
  g : mg x = some (.ref C)
  x : PySem.W.excIn K C [.type "ValueError", .type "Exception", .type "BaseException", .type "object"] "ValueError.__new__" = true
  k : PySem.W.keepIn K (.ref C) = true
  b : PySem.W.subIn K (.ref C) (.type "BaseException") = some true
  t : PySem.W.typeIn K (.ref C) = some (.type "type")
/-- what a caught one is asked -/
structure ToldIn (K : Fg) (D S B : Addr) : Prop where
  c : ExcC K D
  m : PySem.W.exmOne K (.ref D) (.ref D) = some true
  k1 : PySem.W.kitOne K (.ref D) (.ref S) = some true
  k2 : PySem.W.kitOne K (.ref D) (.type "ValueError") = some true
  k3 : PySem.W.kitOne K (.ref D) (.ref B) = some false
def tRaise (Xw : WX) (c : Value) : TS := fun _ σ H => Xw c none σ H
def dRaise (c : Value) : TSd := fun E Γ => E.xs c Γ
theorem ps_raiseD {X : Cx} {W : WX} {mg : Str → Option Value} {x m : Str} {j : Nat} {p p2 pos pos' : Pos} (e : ExcIn X.K mg x) (hc : X.calm = true) (tk : Takes X W) (hg : Gl X x) (hm : X.mg = mg) (hdb : (x == ("__debug__" : Str)) = false := by decide) :
    PS X (.Raise (some (.Call (.Name x p) [.Constant (.str m) j p2] [] pos)) none pos') (tRaise W (.ref e.C)) := by
  subst hm
  exact ps_raise hc tk (pmk_own PySem.F.excBase_ValueError e.x e.g e.k (raises_own e.b e.t) hg hdb)
/-- a promise in data of a def that may raise -/
def PureXSp (K : Fg) (C : List PyData → (PyData → Prop) → (Value → Prop) → Prop) : Sp := fun vs H Q E => ∃ (ds : List PyData) (Qd : PyData → Prop) (Qx : Value → Prop), DqAll K H vs ds ∧ C ds Qd Qx ∧ (∀ (v : V) (H' : Hp) (d : PyData), Same H H' → Dq K (less H' fun a => Mo (H a)) v d → Qd d → Q v H') ∧ ∀ (c : Value) (H' : Hp), Same H H' → Qx c → E c none H'
section
variable {K : Fg} {Xw : WX} {t : TA} {d : TAd} {g : TG} {dg : TGd} {ix : List Nat} {C : List PyData → (PyData → Prop) → (Value → Prop) → Prop}
instance ss_raise {c : Value} : SS K Xw (tRaise Xw c) (dRaise c) := ⟨fun F W σ Γ D E R q L => L.xs W σ Γ c (Same.refl _) R q⟩
theorem callX {F : Fx K} {W : Wd} {σ : L2.St} {Γ : G} {Q : VK} {E : XK} {Qd : PyData → G → Prop} {Qx : Value → G → Prop} [A : SA K t d] (R : Rel F W σ Γ) (q : d Γ fun xs Γ1 => ∃ ds, dats Γ1 xs = some ds ∧ C ds (fun r => Qd r Γ1) fun c => Qx c Γ1)
    (k : ∀ (r : PyData) (W' : Wd) (Γ' : G) (v : V), Stp F W Γ W' Γ' → Rel F W' σ Γ' → VOk F W' σ Γ' v (.sh r) → Qd r Γ' → Q v W'.H) (kx : ∀ (c : Value) (W' : Wd) (Γ' : G), Stp F W Γ W' Γ' → Rel F W' σ Γ' → Qx c Γ' → E c none W'.H) : t σ W.H fun vs H1 => PureXSp K C vs H1 Q E := by
  refine A.run F W σ Γ _ _ R q fun xs W' Γ' vs s' R' o1 ⟨ds, e1, q⟩ => ?_
  refine ⟨ds, _, _, o1.full R' e1, q, fun v H' r hS hv hq => ?_, fun c H' hS hq => ?_⟩
  · refine k r { W' with H := H' } Γ' v (s'.trans (Stp.grow R' hS)) (R'.grow hS).1 (.ofSh ?_) hq
    exact hv.same (same_less fun a o nx e => ⟨fun z => nx (R'.exmo z), e⟩)
  · exact kx c { W' with H := H' } Γ' (s'.trans (Stp.grow R' hS)) (R'.grow hS).1 hq
def dAsgX (C : List PyData → (PyData → Prop) → (Value → Prop) → Prop) (d : TAd) (g : TGd) : TSd := fun E Γ => d Γ fun xs Γ1 => ∃ ds, dats Γ1 xs = some ds ∧ C ds (fun r => g (.sh r) Γ1 E.nx) fun c => E.xs c Γ1
instance ss_asgX [A : SA K t d] [B : SG K g dg ix] : SS K Xw (tAsg (tCallS (PureXSp K C) (WE Xw) t) g) (dAsgX C d dg) := ⟨fun F W σ Γ D E R q L => callX (t := t) (d := d) (C := C) (Qd := fun r Γ1 => dg (.sh r) Γ1 E.nx) (Qx := E.xs) R q (fun r W' Γ' v s R' o q => B.run F W' σ Γ' v _ _ _ R' o q fun W2 σ2 Γ2 s2 _ R2 q => L.nx W2 σ2 Γ2 (s.sh.trans s2.sh) R2 q) fun c W' Γ' s R' q => L.xs W' σ Γ' c s.sh R' q⟩
def dRetX (C : List PyData → (PyData → Prop) → (Value → Prop) → Prop) (d : TAd) : TSd := fun E Γ => d Γ fun xs Γ1 => ∃ ds, dats Γ1 xs = some ds ∧ C ds (fun r => E.rt (.sh r) Γ1) fun c => E.xs c Γ1
instance ss_retX [A : SA K t d] : SS K Xw (tRet (tCallS (PureXSp K C) (WE Xw) t)) (dRetX C d) := ⟨fun F W σ Γ D E R q L => callX (t := t) (d := d) (C := C) (Qd := fun r Γ1 => E.rt (.sh r) Γ1) (Qx := E.xs) R q (fun r W' Γ' v s R' o q => L.rt W' σ Γ' _ v s.sh R' o q) fun c W' Γ' s R' q => L.xs W' σ Γ' c s.sh R' q⟩
def dDropX (C : List PyData → (PyData → Prop) → (Value → Prop) → Prop) (d : TAd) : TSd := fun E Γ => d Γ fun xs Γ1 => ∃ ds, dats Γ1 xs = some ds ∧ C ds (fun _ => E.nx Γ1) fun c => E.xs c Γ1
instance ss_dropX [A : SA K t d] : SS K Xw (tDrop (tCallS (PureXSp K C) (WE Xw) t)) (dDropX C d) := ⟨fun F W σ Γ D E R q L => callX (t := t) (d := d) (C := C) (Qd := fun _ Γ1 => E.nx Γ1) (Qx := E.xs) R q (fun r W' Γ' v s R' o q => L.nx W' σ Γ' s.sh R' q) fun c W' Γ' s R' q => L.xs W' σ Γ' c s.sh R' q⟩
end
/-! a call that raises nothing where it stands: as one that never may -/
def dCallN (C : List PyData → (PyData → Prop) → (Value → Prop) → Prop) (d : TAd) : TEd := fun Γ Q => d Γ fun xs Γ1 => ∃ ds, dats Γ1 xs = some ds ∧ C ds (fun r => Q (.sh r) Γ1) fun _ => False
instance se_callN {K : Fg} {t : TA} {d : TAd} {C : List PyData → (PyData → Prop) → (Value → Prop) → Prop} {E : XK} [A : SA K t d] : SE K (tCall (PureXSp K C) [] E t) (dCallN C d) := ⟨fun F W σ Γ Q Qd R q k => by
  have := callX (t := t) (d := d) (C := C) (Q := Q) (E := E) (Qd := fun r Γ1 => Qd (.sh r) Γ1) (Qx := fun _ _ => False) R q (fun r W' Γ' v s R' o q => k _ W' Γ' v s R' o q) fun c W' Γ' s R' q => q.elim
  simp only [tCall, List.append_nil]
  exact this⟩
/-! ### try: x = f(..) except X as e: y = (isinstance(e, ..), isinstance(e, ..), isinstance(e, ..)) -/
def vOf : V → Option Value
  | .ref a => some (.ref a)
  | .ty n => some (.type n)
  | _ => none
theorem vOf_ok {c : V} {cv u : Value} (h : vOf c = some cv) (r : RelV c u) : u = cv := by
  cases c with
  | ref a => cases h; cases r; rfl
  | ty n => cases h; cases r; rfl
  | _ => cases h
def tIs (D : Addr) (cls : Value) (d : Option Addr) (t : TS) : TS := fun Dn σ H => cls = .ref D ∧ d = none ∧ t Dn σ H
abbrev tAsk (K : Fg) (D a : Addr) (i : Nat) (c : V) : TE := tCB (rIsE K D a) (tCons (tVar i) (tCons (tC c) tNil))
abbrev tTold (K : Fg) (D a : Addr) (i l : Nat) (c1 c2 c3 : V) : TS := tAsg (tTup (tCons (tAsk K D a i c1) (tCons (tAsk K D a i c2) (tCons (tAsk K D a i c3) tNil)))) (gName l)
def tTry (K : Fg) (c : Value) (i : Nat) (tb : WX → TS) (ts : Addr → Value → Option Addr → TS) (Wout : WX) : TS := fun D σ H => tb (wAs K c i ts Wout D) D σ H
theorem ps_tryD {X : Cx} {x n : Str} {c : Value} {i : Nat} {body suite : List Stmt} {b₀ : Stmt} {np pos pos' : Pos} {tb : WX → TS} {D : Addr} {ts : Addr → TS} {Wout : WX} (hs : X.stack = X.env :: X.outer) (hf : X.env.frame = some X.env.locals) (hN : X.N.Nodup) (hi : X.N[i]? = some n) (hln : X.env.kindOf n = some .local) (hc : Names X x c) (tk : Takes X Wout)
    (hb : ∀ (W : WX) (pn : List (Addr × Obj)) (xe : Value → Shared → Prop), Takes (X.tr pn xe) W → PassesOwn (model X.prog X.w) X.A X.env xe → PSs (X.tr pn xe) body (tb W))
    (hsu : ∀ (a : Addr) (oe : Obj) (pn : List (Addr × Obj)), Zc (.ref D) none oe → (∃ vs, oe.data = .fields vs) → PSs (X.suite a ((a, oe) :: pn)) (b₀ :: suite) (ts a)) :
    PS X (.Try body [.ExceptHandler (some (.Name x np)) (some n) (b₀ :: suite) pos'] [] [] pos) (tTry X.K c i tb (fun a cls d => tIs D cls d (ts a)) Wout) :=
  ps_try_as hs hf hN hi hln hc tk hb fun a oe cls d pn hz hv => ⟨fun pins s σ H Dn I h => by
    obtain ⟨rfl, rfl, h⟩ := h
    exact (hsu a oe pn hz hv).run pins s σ H Dn I h⟩
section
variable {K : Fg} {Xw : WX} {t : TA} {d : TAd} {C : List PyData → (PyData → Prop) → (Value → Prop) → Prop}
def dTry (K : Fg) (c : Value) (i j l : Nat) (D : Addr) (c1 c2 c3 : V) (C : List PyData → (PyData → Prop) → (Value → Prop) → Prop) (d : TAd) : TSd := fun E Γ => d Γ fun xs Γ1 => ∃ ds, dats Γ1 xs = some ds ∧ C ds (fun r => E.nx (Γ1.set j (.sh r)))
  fun cx => cx = .ref D ∧ PySem.W.exmOne K (.ref D) c = some true ∧ ∃ v1 v2 v3 b1 b2 b3, vOf c1 = some v1 ∧ vOf c2 = some v2 ∧ vOf c3 = some v3 ∧ PySem.W.kitOne K (.ref D) v1 = some b1 ∧ PySem.W.kitOne K (.ref D) v2 = some b2 ∧ PySem.W.kitOne K (.ref D) v3 = some b3 ∧ i < Γ1.length ∧ i ≠ l ∧ E.nx (((Γ1.set i .no).set l (.sh (.tuple [.bool b1, .bool b2, .bool b3]))).set i .no)
instance ss_try {c : Value} {i j l : Nat} {D : Addr} {c1 c2 c3 : V} [A : SA K t d] : SS K Xw (tTry K c i (fun W => tAsg (tCallS (PureXSp K C) (WE W) t) (gName j)) (fun a cls dd => tIs D cls dd (tTold K D a i l c1 c2 c3)) Xw) (dTry K c i j l D c1 c2 c3 C d) := ⟨fun F W σ Γ Dn E R q L => by
  refine callX (t := t) (d := d) (C := C) (Qd := fun r Γ1 => E.nx (Γ1.set j (.sh r))) R q (fun r W' Γ' v s R' o q => ?_) fun cx W' Γ' s R' q => ?_
  · exact L.nx W' _ _ s.sh (R'.setSh o) q
  · obtain ⟨rfl, hm, v1, v2, v3, b1, b2, b3, w1, w2, w3, k1, k2, k3, hi, ne, q⟩ := q
    refine ⟨true, hm, fun _ a ha => ⟨rfl, rfl, ?_⟩, fun z => nomatch z⟩
    have hl : i < σ.length := by rw [R'.len]; exact hi
    have ei : (σ.set i (some (.ref a)))[i]? = some (some (V.ref a)) := List.getElem?_set_self hl
    refine ⟨_, ei, c1, v1, b1, rfl, fun u r => vOf_ok w1 r, k1, ?_⟩
    refine ⟨_, ei, c2, v2, b2, rfl, fun u r => vOf_ok w2 r, k2, ?_⟩
    refine ⟨_, ei, c3, v3, b3, rfl, fun u r => vOf_ok w3 r, k3, ?_⟩
    refine ⟨by show 3 ≤ sizeLine; decide, fun p hp => ?_⟩
    have hS := same_new (o := .tup [V.bl b1, .bl b2, .bl b3]) hp
    have R2 := (R'.grow hS).1
    have ok : Dq K (({ W' with H := upd W'.H p (.tup [V.bl b1, .bl b2, .bl b3]) } : Wd).S F) (.ref p) (.tuple [.bool b1, .bool b2, .bool b3]) :=
      .tup (.inl (S_of (W := { W' with H := upd W'.H p (.tup [V.bl b1, .bl b2, .bl b3]) }) (R'.free hp) upd_same)) (.cons (.bl _) (.cons (.bl _) (.cons (.bl _) .nil)))
    exact L.nx { W' with H := upd W'.H p (.tup [V.bl b1, .bl b2, .bl b3]) } _ _ (s.sh.trans (R'.grow hS).2) (((R2.setNo).setSh ok).setNo) q⟩
end
/-! ### defs that may raise -/
section
variable {P : Program} {w : World} {K : Fg} {mg : Str → Option Value} {base : Heap}
abbrev PXEnds (Qd : PyData → Prop) (Qx : Value → Prop) : DE := { nx := fun _ => Qd .none, rt := fun x Γ => ∃ r, retOf Γ x = some r ∧ Qd r, rn := fun o _ => ∃ xs, o = .lst xs ∧ Qd (.list xs), xs := fun c _ => Qx c }
theorem pureX_ok {x qual : Str} {st : Stmt} {f : Addr} {fd : FuncData} {N ps : List Str} {k : Nat} {C : List PyData → (PyData → Prop) → (Value → Prop) → Prop} (Fn : L2.Fun K x qual st f fd) (S : FnScope N ps (defScope st)) (hl : ∀ ds Qd Qx, C ds Qd Qx → ds.length = ps.length)
    (hbody : ∀ (cdv : Value) (A : Around) (outer : List Env) (s : Shared) (H : Hp) (E : XK), Room k (A.deeper (envOfC qual (defScope st) s.heap.objs.size f cdv)) →
      ∃ t, PSs (cxOf (L2.CX P w) P w K mg base N qual (defScope st) f cdv A outer s H E) (defBody st) t ∧ ∃ d, SS K (fun cls d _ H => E cls d H) t d ∧ ∀ ds Qd Qx, C ds Qd Qx → ∃ sl, Paired argOk sl ds ∧ d (PXEnds Qd Qx) (startG N sl)) : FnOk P w K mg base (L2.CX P w) (k + 1) f fd ps (PureXSp K C) := by
  refine Fn.okX S (fun vs H Q E h => ?_) (fun cdv A outer s H vs Q E hr h => ?_)
  · obtain ⟨ds, Qd, Qx, h1, h2, _⟩ := h
    rw [h1.length]
    exact hl ds Qd Qx h2
  · obtain ⟨ds, Qd, Qx, h1, h2, q, qx⟩ := h
    obtain ⟨t, ht, d, hs, hd⟩ := hbody cdv A outer s H E hr
    obtain ⟨sl, ha, hd⟩ := hd ds Qd Qx h2
    refine ⟨t, ht, hs.run (F0 K H) ⟨fun _ => False, fun _ => [], H⟩ (start N vs) (startG N sl) _ _ (rel_start h1 ha) hd ⟨fun W σ Γ _ R e => ?_, fun W σ Γ y v _ R o ⟨r, e, z⟩ => ?_, fun W σ Γ o p ho _ R hp oh ⟨xs, e, z⟩ => ?_, fun W σ Γ _ R e => e, fun W σ Γ _ R e => e, fun W σ Γ c _ R e => ?_⟩⟩
    · exact q .non W.H .none (fun a o e => R.base a o e fun z => z) .non e
    · exact q v W.H r (fun a o e => R.base a o e fun z => z) (ret_ok R o e) z
    · subst e
      obtain ⟨us, rfl, hu⟩ := oh
      have h0 : H p = none := by
        cases e : H p with
        | none => rfl
        | some o => have := R.base p o e (fun z => z); rw [hp] at this; cases this
      refine q (.ref p) _ (.list xs) (fun a o e => ?_) (.lst (less_some.mpr ⟨by rw [h0]; exact fun z => z, upd_same⟩) (hu.same (same_less fun a o nx e => ⟨fun z => nx (.inl z), ?_⟩))) z
      · have b := R.base a o e (fun z => z)
        rw [upd_ne (ne_of_none b hp)]
        exact b
      · rw [upd_ne (ne_of_none e hp)]
        exact e
    · exact qx c W.H (fun a o e => R.base a o e fun z => z) e
end
end Dk

namespace Dk
open PySem PySem.Spec PyProof.Rows L2
/-! ### how numbers, pairs, patterns, rounds stand as data -/
/-- plain data of a depth -/
def Shp (n : Nat) (d : PyData) : Prop := d.canLay0 = true ∧ d.depth ≤ n
theorem Shp.int (i : Int) : Shp 0 (.int i) := ⟨by simp [PyData.canLay0], by simp [PyData.depth]⟩
theorem Shp.bool (i : Bool) : Shp 0 (.bool i) := ⟨by simp [PyData.canLay0], by simp [PyData.depth]⟩
theorem Shp.none : Shp 0 .none := ⟨by simp [PyData.canLay0], by simp [PyData.depth]⟩
theorem Shp.mono {n m : Nat} {d : PyData} (h : Shp n d) (l : n ≤ m) : Shp m d := ⟨h.1, Nat.le_trans h.2 l⟩
theorem shp_all {n : Nat} : ∀ {ds : List PyData}, (∀ d ∈ ds, Shp n d) → PyData.canLayAll0 ds = true ∧ PyData.depthAll ds ≤ n
  | [], _ => ⟨by simp [PyData.canLayAll0], by simp [PyData.depthAll]⟩
  | d :: ds, h => by
    obtain ⟨h1, h2⟩ := h d (by simp)
    obtain ⟨h3, h4⟩ := shp_all fun x hx => h x (List.mem_cons_of_mem _ hx)
    refine ⟨by simp [PyData.canLayAll0, h1, h3], ?_⟩
    simp only [PyData.depthAll]
    omega
theorem Shp.tup {n : Nat} {ds : List PyData} (h : ∀ d ∈ ds, Shp n d) : Shp (n + 1) (.tuple ds) := by
  obtain ⟨h1, h2⟩ := shp_all h
  refine ⟨by simpa [PyData.canLay0] using h1, ?_⟩
  simp only [PyData.depth]
  omega
theorem Shp.list {n : Nat} {ds : List PyData} (h : ∀ d ∈ ds, Shp n d) : Shp (n + 1) (.list ds) := by
  obtain ⟨h1, h2⟩ := shp_all h
  refine ⟨by simpa [PyData.canLay0] using h1, ?_⟩
  simp only [PyData.depth]
  omega
theorem Shp.ok {n : Nat} {d : PyData} (h : Shp n d) (l : n ≤ 64 := by decide) : SeqAt.shaped d = true := by
  show (d.canLay0 && decide (d.depth ≤ 64)) = true
  rw [Bool.and_eq_true]
  exact ⟨h.1, decide_eq_true (Nat.le_trans h.2 l)⟩
theorem Shp.refl {n : Nat} {d : PyData} (h : Shp n d) : PyData.eqv d d = true := SeqAt.eqv_refl d h.1
/-- things that are equal just where their data are -/
class EqE {α : Type} [DecidableEq α] (e : α → PyData) : Prop where
  eq : ∀ x y, PyData.eqv (e x) (e y) = decide (x = y)
theorem eqvAll_map {α : Type} [DecidableEq α] {e : α → PyData} [h : EqE e] : ∀ xs ys : List α, PyData.eqvAll (xs.map e) (ys.map e) = decide (xs = ys)
  | [], [] => by simp [PyData.eqvAll]
  | [], _ :: _ => by simp [PyData.eqvAll]
  | _ :: _, [] => by simp [PyData.eqvAll]
  | x :: xs, y :: ys => by
    simp only [List.map_cons, PyData.eqvAll, h.eq, eqvAll_map xs ys]
    by_cases e1 : x = y
    · by_cases e2 : xs = ys <;> simp [e1, e2]
    · simp [e1]
def ePair (x : Int × Int) : PyData := .tuple [.int x.1, .int x.2]
def ePat (xs : Pt.Pat) : PyData := .tuple (xs.map ePair)
def ePairs (xs : Pt.Pat) : PyData := .list (xs.map ePair)
def eRound (r : Int × Pt.Pat) : PyData := .tuple [.int r.1, ePat r.2]
theorem ePair_tupO (x : Int × Int) : tupO (ePair x) = true := rfl
theorem map_tupO {α : Type} {e : α → PyData} (h : ∀ x, tupO (e x) = true) : ∀ xs : List α, tupOs (xs.map e) = true
  | [] => rfl
  | x :: xs => by
    simp only [List.map_cons, tupOs, h x, map_tupO h xs]
    rfl
theorem ePairs_tupO (xs : Pt.Pat) : tupOs (xs.map ePair) = true := map_tupO ePair_tupO xs
theorem ePat_tupO (xs : Pt.Pat) : tupO (ePat xs) = true := ePairs_tupO xs
theorem eRound_tupO (r : Int × Pt.Pat) : tupO (eRound r) = true := by
  show (tupO (.int r.1) && (tupO (ePat r.2) && true)) = true
  rw [ePat_tupO]
  rfl
theorem ePair_shp (x : Int × Int) : Shp 1 (ePair x) := Shp.tup fun d hd => by
  simp only [List.mem_cons, List.not_mem_nil, or_false] at hd
  rcases hd with rfl | rfl <;> exact Shp.int _
theorem ePat_shp (xs : Pt.Pat) : Shp 2 (ePat xs) := Shp.tup fun d hd => by
  obtain ⟨x, _, rfl⟩ := List.mem_map.mp hd
  exact ePair_shp x
theorem ePairs_shp (xs : Pt.Pat) : Shp 2 (ePairs xs) := Shp.list fun d hd => by
  obtain ⟨x, _, rfl⟩ := List.mem_map.mp hd
  exact ePair_shp x
theorem eRound_shp (r : Int × Pt.Pat) : Shp 3 (eRound r) := Shp.tup fun d hd => by
  simp only [List.mem_cons, List.not_mem_nil, or_false] at hd
  rcases hd with rfl | rfl
  · exact (Shp.int _).mono (by decide)
  · exact ePat_shp _
instance eqe_pair : EqE ePair := ⟨fun x y => by
  simp only [ePair, PyData.eqv, PyData.eqvAll, Bool.and_true]
  obtain ⟨a, b⟩ := x
  obtain ⟨c, d⟩ := y
  simp only [Prod.mk.injEq]
  by_cases h1 : a = c <;> by_cases h2 : b = d <;> simp [h1, h2]⟩
instance eqe_pat : EqE ePat := ⟨fun x y => by
  simp only [ePat, PyData.eqv]
  exact eqvAll_map x y⟩
instance eqe_pairs : EqE ePairs := ⟨fun x y => by
  simp only [ePairs, PyData.eqv]
  exact eqvAll_map x y⟩
instance eqe_round : EqE eRound := ⟨fun x y => by
  simp only [eRound, PyData.eqv, PyData.eqvAll, Bool.and_true, eqe_pat.eq]
  obtain ⟨a, b⟩ := x
  obtain ⟨c, d⟩ := y
  simp only [Prod.mk.injEq]
  by_cases h1 : a = c <;> by_cases h2 : b = d <;> simp [h1, h2]⟩
end Dk

namespace Dk
open PySem PySem.Spec PyProof.Rows L2
/-! ### contracts and what they lean on -/
def sumsD (p : Int) (xs : Pt.Pat) : List (Key × PyData) := (Pt.keys xs).map fun k => (Sum.inl k, .int (Pt.sumAt xs k % p))
theorem valD_map (ks : List Int) (f : Int → PyData) (k : Int) : valD (ks.map fun j => ((Sum.inl j : Key), f j)) (Sum.inl k) = if k ∈ ks then some (f k) else none := by
  induction ks with
  | nil => rfl
  | cons j r ih =>
    by_cases e : j = k
    · subst e
      simp [valD, List.find?_cons]
    · have h1 : ¬ (Sum.inl j : Key) = Sum.inl k := fun z => e (Sum.inl.inj z)
      have h2 : valD ((j :: r).map fun j => ((Sum.inl j : Key), f j)) (Sum.inl k) = valD (r.map fun j => ((Sum.inl j : Key), f j)) (Sum.inl k) := by
        simp [valD, List.find?_cons, h1]
      rw [h2, ih]
      simp [Ne.symm e]
theorem putD_map (ks : List Int) (f : Int → PyData) (k : Int) (v : PyData) : putD (ks.map fun j => ((Sum.inl j : Key), f j)) (Sum.inl k) v = (Pt.addK ks k).map fun j => ((Sum.inl j : Key), if j = k then v else f j) := by
  have ha : ((ks.map fun j => ((Sum.inl j : Key), f j)).any fun kv => decide (kv.1 = Sum.inl k)) = decide (k ∈ ks) := by
    rw [Bool.eq_iff_iff]
    simp
  unfold putD Pt.addK
  rw [ha]
  by_cases h : k ∈ ks
  · simp only [h, decide_true, if_true]
    rw [List.map_map]
    refine List.map_congr_left fun j hj => ?_
    simp only [Function.comp]
    by_cases e : j = k
    · subst e
      simp
    · have h1 : ¬ (Sum.inl j : Key) = Sum.inl k := fun z => e (Sum.inl.inj z)
      rw [if_neg h1, if_neg e]
  · simp only [h, decide_false, if_false, Bool.false_eq_true]
    rw [List.map_append]
    congr 1
    · refine List.map_congr_left fun j hj => ?_
      rw [if_neg (fun z : j = k => h (z ▸ hj))]
    · simp
theorem sums_turn {p : Int} (xs : Pt.Pat) (x : Int × Int) : putD (sumsD p xs) (Sum.inl x.1) (.int ((((if x.1 ∈ Pt.keys xs then Pt.sumAt xs x.1 % p else 0) + x.2) % p))) = sumsD p (xs ++ [x]) := by
  unfold sumsD
  rw [putD_map, Pt.keys_snoc]
  refine List.map_congr_left fun j hj => ?_
  rw [Pt.sumAt_app]
  simp only [Pt.sumAt]
  by_cases e : j = x.1
  · subst e
    rw [if_pos rfl, if_pos rfl]
    split
    · rw [Int.emod_add_emod]
      congr 2
      congr 1
      omega
    · rename_i h
      rw [Pt.sumAt_none (fun y hy z => h ((Pt.mem_keys xs x.1).mpr ⟨y, hy, z⟩))]
      congr 2
      congr 1
      omega
  · rw [if_neg e, if_neg (Ne.symm e)]
    congr 2
    congr 1
    omega
theorem ePair_pick (p : Int) (xs : Pt.Pat) (ys : List Int) : ys.filterMap (fun k => (Pt.pick p xs k).map ePair) = (ys.filterMap (Pt.pick p xs)).map ePair := by
  rw [List.map_filterMap]
def cTidy : List PyData → (PyData → Prop) → Prop := fun ds Qd => ∃ (p : Int) (xs : Pt.Pat), ds = [.int p, ePairs xs] ∧ 0 < p ∧ (Pt.keys xs).length ≤ 100000 ∧ Qd (ePat (Pt.tidy p xs))
/-! the draws: a list of the script's numbers, a place, a number, a seed -/
def IsDraw : Hp → Addr → List Addr → Prop := fun H p f => ∃ (l : Addr) (ns : List Int) (pos left seed : Int), f = [p, l] ∧ p ≠ l ∧ H p = some (.lst [.ref l, .int pos, .int left, .int seed]) ∧ H l = some (.lst (ns.map V.int)) ∧ 0 ≤ pos ∧ 0 ≤ left
instance abDraw : AbI IsDraw where
  mem := fun h => by
    obtain ⟨l, ns, pos, left, seed, rfl, _⟩ := h
    simp
  mo := fun h => by
    obtain ⟨l, ns, pos, left, seed, rfl, ne, h1, h2, _⟩ := h
    intro a ha
    simp only [List.mem_cons, List.not_mem_nil, or_false] at ha
    rcases ha with rfl | rfl
    · rw [h1]; exact ⟨trivial, trivial⟩
    · rw [h2]; exact ⟨trivial, trivial⟩
  st := fun h hk _ => by
    obtain ⟨l, ns, pos, left, seed, rfl, ne, h1, h2, h3⟩ := h
    exact ⟨l, ns, pos, left, seed, rfl, ne, (hk _ (by simp)).trans h1, (hk _ (by simp)).trans h2, h3⟩
def spBegin (K : Fg) : Sp := fun vs H Q _ => ∃ (a : Addr) (ns : List Int), vs = [.ref a] ∧ SqL K H a (ns.map V.int) ∧ ∀ (p : Addr) (f : List Addr) (H' : Hp), Same H H' → (∀ x ∈ f, H x = none) → IsDraw H' p f → Q (.ref p) H'
section
variable {P : Program} {w : World} {K : Fg} {mg : Str → Option Value} {base : Heap}
/-! the law's own def: the first line makes the draws -/
def spLaw (K : Fg) : Sp := fun vs H Q _ => ∃ (a : Addr) (ns : List Int), vs = [.ref a] ∧ SqL K H a (ns.map V.int) ∧ ∀ H', Q (.bl true) H'
abbrev LEnds : DE := { nx := fun _ => False, rt := fun x Γ => dat Γ x = some (.bool true) }
def lawG (N : List Str) : G := .no :: .ow (.ab IsDraw) :: List.replicate (N.length - 2) .no
theorem law_ok {st : Stmt} {f : Addr} {fd : FuncData} {N : List Str} {k : Nat} (Fn : L2.Fun K "law" "law" st f fd) (S : FnScope N ["_law_script"] (defScope st)) (hN : 2 ≤ N.length)
    (hbody : ∀ (cdv : Value) (A : Around) (outer : List Env) (s : Shared) (H : Hp) (E : XK), Room k (A.deeper (envOfC "law" (defScope st) s.heap.objs.size f cdv)) →
      ∃ (E' : XK) (t : TS), PSs (cxOf CX0 P w K mg base N "law" (defScope st) f cdv A outer s H E).nox (defBody st) (tSeq (tAsg (tCall (spBegin K) [] E' (tCons (tVar 0) tNil)) (gName 1)) t) ∧ ∃ d, SS K X0 t d ∧ d LEnds (lawG N)) : FnOk P w K mg base CX0 (k + 1) f fd ["_law_script"] (spLaw K) := by
  refine Fn.ok S (fun vs H Q E h => ?_) (fun cdv A outer s H vs Q E hr h => ?_)
  · obtain ⟨a, ns, rfl, _⟩ := h
    rfl
  · obtain ⟨a, ns, rfl, hS, q⟩ := h
    obtain ⟨E', t, ht, d, hs, hd⟩ := hbody cdv A outer s H E hr
    refine ⟨_, ht, .ref a, start_get rfl, a, ns, rfl, hS, fun p g H' sm nf hI => ?_⟩
    have hl : ((L2.start N [V.ref a]).set 1 (some (.ref p))).length = (lawG N).length := by
      simp [L2.start, lawG]
      omega
    have own : ∀ (i : Nat) (u : Sl) (o : OD), (lawG N)[i]? = some u → u.own? = some o → i = 1 ∧ u = .ow (.ab IsDraw) := fun i u o e1 e2 => by
      match i, e1 with
      | 0, e1 => cases e1; cases e2
      | 1, e1 => cases e1; exact ⟨rfl, rfl⟩
      | i + 2, e1 =>
        simp only [lawG, List.getElem?_cons_succ, List.getElem?_replicate] at e1
        split at e1
        · cases e1; cases e2
        · cases e1
    refine hs.run (F0 K fun _ => none) ⟨fun x => x ∈ g, fun i => if i = 1 then g else [], H'⟩ _ (lawG N) _ LEnds ⟨(fun _ _ e => by cases e), (fun _ _ => .inl rfl), fun x hx => (AbI.mo hI x hx).1, fun _ z => z.elim, hl, fun i u e => ?_, fun i j u v oi oj x ne e1 e2 g1 g2 => ?_⟩ hd ⟨fun W σ Γ _ R e => e.elim, fun W σ Γ x v _ R o e => ?_, fun W σ Γ o p ho _ R hp oh e => e.elim, fun W σ Γ _ R e => e, fun W σ Γ _ R e => e, fun W σ Γ c _ R e => e⟩
    · cases u with
      | no => trivial
      | sh d => 
        exfalso
        match i, e with
        | 0, e => cases e
        | 1, e => cases e
        | i + 2, e =>
          simp only [lawG, List.getElem?_cons_succ, List.getElem?_replicate] at e
          split at e <;> cases e
      | ar d =>
        exfalso
        match i, e with
        | 0, e => cases e
        | 1, e => cases e
        | i + 2, e =>
          simp only [lawG, List.getElem?_cons_succ, List.getElem?_replicate] at e
          split at e <;> cases e
      | ow o =>
        obtain ⟨rfl, e2⟩ := own i _ o e rfl
        cases e2
        refine ⟨p, ?_, fun x hx => ⟨hx, fun z => z⟩, AbI.mem hI, hI, (fun H'' hk ht => AbI.st hI hk ht), fun a ha => AbI.mo hI a ha⟩
        refine List.getElem?_set_self ?_
        simp [L2.start]
        omega
      | rf o =>
        obtain ⟨_, e2⟩ := own i _ o e rfl
        cases e2
      | ro d =>
        exfalso
        match i, e with
        | 0, e => cases e
        | 1, e => cases e
        | i + 2, e =>
          simp only [lawG, List.getElem?_cons_succ, List.getElem?_replicate] at e
          split at e <;> cases e
    · exact absurd ((own i u oi e1 g1).1.trans (own j v oj e2 g2).1.symm) ne
    · rw [bl_of (o.full R e)]
      exact q _
end
def cTake : List PyData → (PyData → Prop) → Prop := fun ds Qd => ∃ m : Int, ds = [.int m] ∧ 0 < m ∧ m < 1073741824 ∧ ∀ r : Int, 0 ≤ r → r < m → Qd (.int r)
def GoodP (p : Int) : Prop := p = 2 ∨ p = 3 ∨ p = 5 ∨ p = 7
theorem GoodP.pos {p : Int} (h : GoodP p) : 0 < p := by unfold GoodP at h; omega
theorem GoodP.le {p : Int} (h : GoodP p) : p ≤ 7 := by unfold GoodP at h; omega
theorem GoodP.two {p : Int} (h : GoodP p) : 2 ≤ p := by unfold GoodP at h; omega
def cP : List PyData → (PyData → Prop) → Prop := fun ds Qd => ds = [] ∧ ∀ p : Int, GoodP p → Qd (.int p)
def cWide : List PyData → (PyData → Prop) → Prop := fun ds Qd => ds = [] ∧ ∀ n : Int, -(10 ^ 22) < n → n < 10 ^ 22 → Qd (.int n)
def cAt : List PyData → (PyData → Prop) → Prop := fun ds Qd => ∃ (xs : Pt.Pat) (k : Int), ds = [ePat xs, .int k] ∧ Qd (.int (Pt.at_ xs k))
theorem at_pre {pre post : Pt.Pat} {x : Int × Int} {k : Int} (h : ∀ y ∈ pre, y.1 ≠ k) : Pt.at_ (pre ++ x :: post) k = if x.1 = k then x.2 else Pt.at_ post k := by
  induction pre with
  | nil => rfl
  | cons y r ih =>
    have h1 := h y (by simp)
    simp only [List.cons_append, Pt.at_, if_neg h1]
    exact ih fun z hz => h z (by simp [hz])
def isIntD : PyData → Bool
  | .int _ => true
  | _ => false
def cInt : List PyData → (PyData → Prop) → Prop := fun ds Qd => ∃ d : PyData, ds = [d] ∧ (∀ kvs, d ≠ .dict kvs) ∧ Qd (.bool (isIntD d))
def cIsPattern : List PyData → (PyData → Prop) → Prop := fun ds Qd => ∃ (p : Int) (xs : Pt.Pat), ds = [.int p, ePat xs] ∧ Pt.IsPat p xs ∧ xs.length < 2 ^ 62 ∧ Qd (.bool true)
theorem fm_ints (xs : Pt.Pat) (h : Int × Int → Option Int) : xs.filterMap (fun x => (h x).map PyData.int) = (xs.filterMap h).map PyData.int := by rw [List.map_filterMap]
theorem fm_fst (xs : Pt.Pat) : xs.filterMap (fun y => some (PyData.int y.1)) = (xs.map (·.1)).map PyData.int := by
  rw [List.map_map, ← List.filterMap_eq_map]
  rfl
theorem fm_sum (xs : Pt.Pat) (k : Int) : (xs.filterMap fun x => if x.1 = k then some x.2 else none).sum = Pt.sumAt xs k := by
  induction xs with
  | nil => rfl
  | cons x r ih =>
    rw [List.filterMap_cons]
    by_cases e : x.1 = k
    · rw [if_pos e]
      simp only [List.sum_cons, Pt.sumAt, if_pos e, ih]
    · rw [if_neg e]
      simp only [Pt.sumAt, if_neg e, ih, Int.zero_add]
def cMoved : List PyData → (PyData → Prop) → Prop := fun ds Qd => ∃ (xs : Pt.Pat) (b : Int), ds = [ePat xs, .int b] ∧ xs.length ≤ 100000 ∧ Qd (ePat (Pt.moved xs b))
theorem small100000 {n : Nat} (h : n ≤ 100000) : n < sizeLine := Nat.lt_of_le_of_lt h (by decide)
theorem fm_map {α : Type} (xs : List α) (f : α → PyData) : xs.filterMap (fun x => some (f x)) = xs.map f := by
  rw [← List.filterMap_eq_map]
  rfl
/-- a pattern that is drawn -/
def cPattern : List PyData → (PyData → Prop) → Prop := fun ds Qd => ∃ (p most far : Int), ds = [.int p, .int most, .int far] ∧ GoodP p ∧ 0 ≤ most ∧ most ≤ 63 ∧ 0 ≤ far ∧ far ≤ 100000 ∧ ∀ xs : Pt.Pat, Pt.IsPat p xs → (xs.length : Int) ≤ most → (∀ x ∈ xs, -far ≤ x.1 ∧ x.1 ≤ far) → Qd (ePat xs)
def cAdded : List PyData → (PyData → Prop) → Prop := fun ds Qd => ∃ (p : Int) (xs ys : Pt.Pat), ds = [.int p, ePat xs, ePat ys] ∧ 0 < p ∧ xs.length ≤ 50000 ∧ ys.length ≤ 50000 ∧ Qd (ePat (Pt.added p xs ys))
def cTimed : List PyData → (PyData → Prop) → Prop := fun ds Qd => ∃ (p : Int) (xs : Pt.Pat) (n : Int), ds = [.int p, ePat xs, .int n] ∧ 0 < p ∧ xs.length ≤ 100000 ∧ (∀ x ∈ xs, CMul x.2 n) ∧ Qd (ePat (Pt.timed p xs n))
def cSum : List PyData → (PyData → Prop) → Prop := fun ds Qd => ∃ (p : Int) (xs ys : Pt.Pat) (b n : Int), ds = [.int p, ePat xs, ePat ys, .int b, .int n] ∧ 0 < p ∧ xs.length ≤ 50000 ∧ ys.length ≤ 50000 ∧ (∀ y ∈ ys, CMul y.2 n) ∧ Qd (ePat (Pt.tidy p (xs ++ ys.map fun y => (y.1 + b, y.2 * n))))
theorem mulPat {p n : Int} {xs : Pt.Pat} (hp : GoodP p) (h : Pt.IsPat p xs) : ∀ x ∈ xs, CMul x.2 n := fun x hx => .inl ⟨by have := h.rng x hx; omega, by have := h.rng x hx; have := hp.le; omega⟩
/-! rounds -/
def cJoin : List PyData → (PyData → Prop) → Prop := fun ds Qd => ∃ (p : Int) (a b : Rd.R), ds = [.int p, eRound a, eRound b] ∧ 0 < p ∧ a.2.length ≤ 50000 ∧ b.2.length ≤ 50000 ∧ Qd (eRound (Rd.join p a b))
def cInv : List PyData → (PyData → Prop) → Prop := fun ds Qd => ∃ (p : Int) (a : Rd.R), ds = [.int p, eRound a] ∧ 0 < p ∧ a.2.length ≤ 50000 ∧ Qd (eRound (Rd.inv p a))
def cStill : List PyData → (PyData → Prop) → Prop := fun ds Qd => ds = [] ∧ Qd (eRound Rd.still)
def cIsRound : List PyData → (PyData → Prop) → Prop := fun ds Qd => ∃ (p : Int) (a : Rd.R), ds = [.int p, eRound a] ∧ Rd.IsRound p a ∧ a.2.length < 2 ^ 62 ∧ Qd (.bool true)
/-- a round that is drawn -/
def cRound : List PyData → (PyData → Prop) → Prop := fun ds Qd => ∃ (p fin most far : Int), ds = [.int p, .int fin, .int most, .int far] ∧ GoodP p ∧ 0 ≤ fin ∧ fin ≤ 100000 ∧ 0 ≤ most ∧ most ≤ 63 ∧ 0 ≤ far ∧ far ≤ 100000 ∧
  ∀ a : Rd.R, Rd.IsRound p a → (a.2.length : Int) ≤ most → -fin ≤ a.1 → a.1 ≤ fin → (∀ x ∈ a.2, -far ≤ x.1 ∧ x.1 ≤ far) → Qd (eRound a)
/-! rows of numbers -/
def eNums (xs : List Int) : PyData := .tuple (xs.map .int)
theorem nums_len (xs : List Int) : (xs.map PyData.int).length = xs.length := by simp
theorem at4 {a b c d r : Int} (r0 : 0 ≤ r) (r1 : r < 4) : ∃ e : Int, atI [PyData.int a, .int b, .int c, .int d] r = some (.int e) ∧ (e = a ∨ e = b ∨ e = c ∨ e = d) := by
  have h : r = 0 ∨ r = 1 ∨ r = 2 ∨ r = 3 := by omega
  rcases h with rfl | rfl | rfl | rfl
  · exact ⟨a, rfl, .inl rfl⟩
  · exact ⟨b, rfl, .inr (.inl rfl)⟩
  · exact ⟨c, rfl, .inr (.inr (.inl rfl))⟩
  · exact ⟨d, rfl, .inr (.inr (.inr rfl))⟩
theorem eNums_shp (xs : List Int) : Shp 1 (eNums xs) := Shp.tup fun d hd => by
  obtain ⟨x, _, rfl⟩ := List.mem_map.mp hd
  exact Shp.int _
theorem eNums_tupO (xs : List Int) : tupO (eNums xs) = true := map_tupO (fun _ => rfl) xs
instance eqe_int : EqE PyData.int := ⟨fun x y => by simp only [PyData.eqv]; by_cases h : x = y <;> simp [h]⟩
instance eqe_nums : EqE eNums := ⟨fun x y => by
  simp only [eNums, PyData.eqv]
  exact eqvAll_map x y⟩
def eList (xs : List Int) : PyData := .list (xs.map .int)
theorem eList_shp (xs : List Int) : Shp 1 (eList xs) := Shp.list fun d hd => by
  obtain ⟨x, _, rfl⟩ := List.mem_map.mp hd
  exact Shp.int _
instance eqe_list : EqE eList := ⟨fun x y => by
  simp only [eList, PyData.eqv]
  exact eqvAll_map x y⟩
end Dk

/-! rows of deeds -/
namespace Rd
open Pt
/-- true: go, false: turn -/
abbrev Deed := Bool × Int
def stepW (s : Int × Pat) (d : Deed) : Int × Pat := if d.1 then (s.1 + d.2, s.2) else (s.1, s.2 ++ [(s.1, d.2)])
def walkFrom (s : Int × Pat) (ds : List Deed) : Int × Pat := ds.foldl stepW s
def gone (p : Int) (ds : List Deed) : R := ((walkFrom (0, []) ds).1, tidy p (walkFrom (0, []) ds).2)
def rowStep (s : Int × List Deed) (y : Int × Int) : Int × List Deed := (y.1, s.2 ++ [(true, y.1 - s.1), (false, y.2)])
def rowPre (ys : Pat) : Int × List Deed := ys.foldl rowStep (0, [])
def rowOf (a : R) : List Deed := (rowPre a.2).2 ++ [(true, a.1 - (rowPre a.2).1)]
theorem walk_app (s : Int × Pat) (xs ys : List Deed) : walkFrom s (xs ++ ys) = walkFrom (walkFrom s xs) ys := by simp [walkFrom, List.foldl_append]
theorem walk_len : ∀ (ds : List Deed) (s : Int × Pat), (walkFrom s ds).2.length ≤ s.2.length + ds.length
  | [], s => by simp [walkFrom]
  | d :: r, s => by
    have := walk_len r (stepW s d)
    simp only [walkFrom, List.foldl_cons, List.length_cons] at this ⊢
    have h2 : (stepW s d).2.length ≤ s.2.length + 1 := by
      unfold stepW
      split <;> simp
    omega
theorem row_go (B : Int) (P : Pat) : ∀ (ys : Pat) (h : Int) (ds : List Deed) (Q : Pat), walkFrom (B, P) ds = (B + h, Q) → walkFrom (B, P) (ys.foldl rowStep (h, ds)).2 = (B + (ys.foldl rowStep (h, ds)).1, Q ++ moved ys B)
  | [], h, ds, Q, e => by simpa [moved] using e
  | y :: r, h, ds, Q, e => by
    rw [List.foldl_cons]
    have e2 : walkFrom (B, P) (rowStep (h, ds) y).2 = (B + y.1, Q ++ [(y.1 + B, y.2)]) := by
      simp only [rowStep]
      rw [walk_app, e]
      simp only [walkFrom, List.foldl_cons, List.foldl_nil, stepW, if_true, Bool.false_eq_true, if_false]
      rw [show B + h + (y.1 - h) = B + y.1 by omega, Int.add_comm B y.1]
    have := row_go B P r y.1 (rowStep (h, ds) y).2 _ e2
    rw [List.append_assoc] at this
    exact this
theorem row_walk (B : Int) (P : Pat) (a : R) : walkFrom (B, P) (rowOf a) = (B + a.1, P ++ moved a.2 B) := by
  unfold rowOf
  have := row_go B P a.2 0 [] P (by simp [walkFrom])
  rw [walk_app]
  unfold rowPre
  rw [this]
  simp only [walkFrom, List.foldl_cons, List.foldl_nil, stepW, if_true]
  rw [show B + (a.2.foldl rowStep (0, [])).1 + (a.1 - (a.2.foldl rowStep (0, [])).1) = B + a.1 by omega]
theorem gone_rows (p : Int) (a b : R) : gone p (rowOf a ++ rowOf b) = join p a b := by
  unfold gone
  rw [walk_app, row_walk, row_walk]
  simp only [join, added, Int.zero_add, List.nil_append, moved_zero]
theorem row_len : ∀ (ys : Pat) (s : Int × List Deed), (ys.foldl rowStep s).2.length = s.2.length + 2 * ys.length
  | [], s => by simp
  | y :: r, s => by
    rw [List.foldl_cons, row_len r]
    simp only [rowStep, List.length_append, List.length_cons, List.length_nil]
    omega
theorem rowOf_len (a : R) : (rowOf a).length = 2 * a.2.length + 1 := by
  have h := row_len a.2 (0, [])
  simp only [rowOf, rowPre, List.length_append, List.length_cons, List.length_nil, h]
  omega
end Rd

namespace Dk
open PySem PySem.Spec PyProof.Rows L2
def eDeed (d : Rd.Deed) : PyData := .tuple [.str (if d.1 then "go" else "turn"), .int d.2]
def eDeeds (ds : List Rd.Deed) : PyData := .list (ds.map eDeed)
theorem eDeed_tupO (d : Rd.Deed) : tupO (eDeed d) = true := rfl
def cGone : List PyData → (PyData → Prop) → Prop := fun ds Qd => ∃ (p : Int) (xs : List Rd.Deed), ds = [.int p, eDeeds xs] ∧ 0 < p ∧ xs.length ≤ 50000 ∧ Qd (eRound (Rd.gone p xs))
def cRow : List PyData → (OD → Prop) → Prop := fun ds Qd => ∃ (a : Rd.R), ds = [eRound a] ∧ a.2.length ≤ 10000 ∧ Qd (.lst ((Rd.rowOf a).map eDeed))
theorem walk_snoc (xs : List Rd.Deed) (x : Rd.Deed) : Rd.walkFrom (0, []) (xs ++ [x]) = Rd.stepW (Rd.walkFrom (0, []) xs) x := by rw [Rd.walk_app]; rfl
theorem rowPre_snoc (xs : Pt.Pat) (x : Int × Int) : Rd.rowPre (xs ++ [x]) = Rd.rowStep (Rd.rowPre xs) x := by simp [Rd.rowPre, List.foldl_append]
/-! deeds with any word -/
abbrev Wd2 := Str × Int
def eWd (x : Wd2) : PyData := .tuple [.str x.1, .int x.2]
def wdOf (d : Rd.Deed) : Wd2 := (if d.1 then "go" else "turn", d.2)
theorem eDeed_wd (xs : List Rd.Deed) : xs.map eDeed = (xs.map wdOf).map eWd := by rw [List.map_map]; rfl
def BadWd (x : Wd2) : Prop := ¬ x.1 = "go" ∧ ¬ x.1 = "turn"
theorem Shp.str {i : Str} (h : PyData.strOk i = true) : Shp 0 (.str i) := ⟨by simpa [PyData.canLay0] using h, by simp [PyData.depth]⟩
theorem eWds_shp {xs : List Wd2} (h : ∀ x ∈ xs, PyData.strOk x.1 = true) : Shp 2 (.list (xs.map eWd)) := Shp.list fun d hd => by
  obtain ⟨x, hx, rfl⟩ := List.mem_map.mp hd
  refine Shp.tup fun d hd => ?_
  simp only [List.mem_cons, List.not_mem_nil, or_false] at hd
  rcases hd with rfl | rfl
  · exact Shp.str (h x hx)
  · exact Shp.int _
def cGoneX (c : Value) : List PyData → (PyData → Prop) → (Value → Prop) → Prop := fun ds Qd Qx => ∃ (p : Int) (xs : List Wd2), ds = [.int p, .list (xs.map eWd)] ∧ 0 < p ∧ xs.length ≤ 50000 ∧ (∀ zs : List Rd.Deed, xs = zs.map wdOf → Qd (eRound (Rd.gone p zs))) ∧ ((∃ x ∈ xs, BadWd x) → Qx c)
def cDeeds : List PyData → (OD → Prop) → Prop := fun ds Qd => ds = [] ∧ ∀ zs : List Rd.Deed, zs.length ≤ 60 → Qd (.lst (zs.map eDeed))
theorem strs_at {ws : List Str} {r : Int} (h0 : 0 ≤ r) (h1 : r < ws.length) : ∃ w ∈ ws, atI (ws.map PyData.str) r = some (.str w) := by
  have hl : r.toNat < ws.length := by omega
  refine ⟨ws[r.toNat], List.getElem_mem hl, ?_⟩
  obtain ⟨n, rfl⟩ : ∃ n : Nat, r = (n : Int) := ⟨r.toNat, by omega⟩
  refine atI_nat ?_
  rw [List.getElem?_map, List.getElem?_eq_getElem (by omega)]
  rfl
theorem walk_wd {xs : List Wd2} (h : ∀ x ∈ xs, ¬ BadWd x) : ∃ zs : List Rd.Deed, xs = zs.map wdOf := by
  induction xs with
  | nil => exact ⟨[], rfl⟩
  | cons x r ih =>
    obtain ⟨zs, e⟩ := ih fun y hy => h y (by simp [hy])
    have hx := h x (by simp)
    unfold BadWd at hx
    obtain ⟨w, n⟩ := x
    simp only at hx
    by_cases c : w = "go"
    · exact ⟨(true, n) :: zs, by rw [e, c]; rfl⟩
    · by_cases d : w = "turn"
      · exact ⟨(false, n) :: zs, by rw [e, d]; rfl⟩
      · exact absurd ⟨c, d⟩ hx
end Dk

/-! a round many times -/
namespace Rd
open Pt
/-- the pairs of the first n goings -/
def goings (a : R) : Nat → Pat
  | 0 => []
  | n + 1 => goings a n ++ moved a.2 (n * a.1)
/-- base and number -/
def baseOf (p : Int) (a : R) (n : Int) : R := if n < 0 then inv p a else a
def times (p : Int) (a : R) (n : Int) : R :=
  if a.1 = 0 then (0, timed p a.2 n) else ((baseOf p a n).1 * (n.natAbs : Int), tidy p (goings (baseOf p a n) n.natAbs))
def npow (p : Int) (a : R) : Nat → R
  | 0 => still
  | n + 1 => join p (npow p a n) a
section
variable {p : Int} (hp : 0 < p)
include hp
theorem npow_ok (a : R) : ∀ n, IsRound p (npow p a n)
  | 0 => still_ok p
  | n + 1 => join_ok hp _ _
theorem npow_fst (a : R) : ∀ n : Nat, (npow p a n).1 = n * a.1
  | 0 => by simp [npow, still]
  | n + 1 => by
    show (npow p a n).1 + a.1 = _
    rw [npow_fst a n, show ((n + 1 : Nat) : Int) = (n : Int) + 1 from rfl, Int.add_mul, Int.one_mul]
theorem goings_at {a : R} (ha : IsRound p a) : ∀ (n : Nat) (k : Int), sumAt (goings a n) k % p = at_ (npow p a n).2 k
  | 0, k => by simp [goings, npow, still, sumAt, at_]
  | n + 1, k => by
    rw [goings, sumAt_app, (moved_pat ha _).at_sum, moved_at]
    show _ = at_ (join p (npow p a n) a).2 k
    rw [join_at hp (npow_ok hp a n) ha, ← goings_at ha n k, npow_fst hp a n, Int.emod_add_emod]
theorem goings_npow {a : R} (ha : IsRound p a) (n : Nat) : ((n : Int) * a.1, tidy p (goings a n)) = npow p a n := by
  refine ext (p := p) (tidy_pat hp _) (npow_ok hp a n) (npow_fst hp a n).symm fun k => ?_
  show at_ (tidy p (goings a n)) k = _
  rw [tidy_at hp, goings_at hp ha]
theorem timed_npow {a : R} (ha : IsRound p a) (h0 : a.1 = 0) (n : Nat) : (0, timed p a.2 n) = npow p a n := by
  refine ext (p := p) (timed_pat hp _ _) (npow_ok hp a n) (by rw [npow_fst hp, h0, Int.mul_zero]) fun k => ?_
  show at_ (timed p a.2 n) k = _
  rw [timed_at hp ha]
  induction n with
  | zero => simp [npow, still, at_]
  | succ m ih =>
    show _ = at_ (join p (npow p a m) a).2 k
    rw [join_at hp (npow_ok hp a m) ha, ← ih, npow_fst hp, h0, Int.mul_zero, Int.sub_zero, Int.emod_add_emod, show ((m + 1 : Nat) : Int) = (m : Int) + 1 from rfl, Int.mul_add, Int.mul_one]
/-- n goings, n below nought too -/
def zpow (p : Int) (a : R) (n : Int) : R := if n < 0 then npow p (inv p a) n.natAbs else npow p a n.natAbs
omit hp in
theorem inv_fst (a : R) : (inv p a).1 = -a.1 := rfl
theorem times_zpow {a : R} (ha : IsRound p a) (n : Int) : times p a n = zpow p a n := by
  unfold times zpow baseOf
  split
  · rename_i h0
    split
    · rw [← timed_npow hp (inv_ok hp a) (by rw [inv_fst, h0]; rfl) n.natAbs]
      refine Prod.ext rfl (pat_ext (timed_pat hp _ _) (timed_pat hp _ _) fun k => ?_)
      show at_ (timed p a.2 n) k = at_ (timed p (inv p a).2 _) k
      rw [timed_at hp ha, timed_at hp (inv_ok hp a), inv_at hp ha, h0, Int.add_zero]
      have e : ∀ m : Int, -(at_ a.2 k) % p * m % p = -(at_ a.2 k) * m % p := fun m => by rw [Int.mul_emod, Int.emod_emod, ← Int.mul_emod]
      rw [e, show ((n.natAbs : Nat) : Int) = -n by omega, Int.neg_mul_neg]
    · rw [← timed_npow hp ha h0 n.natAbs, show ((n.natAbs : Nat) : Int) = n by omega]
  · split
    · rw [Int.mul_comm, goings_npow hp (inv_ok hp a)]
    · rw [Int.mul_comm, goings_npow hp ha]
theorem npow_comm {a : R} (ha : IsRound p a) : ∀ n : Nat, join p a (npow p a n) = npow p a (n + 1)
  | 0 => by
    show join p a still = join p still a
    rw [join_still hp ha, still_join hp ha]
  | n + 1 => by
    show join p a (join p (npow p a n) a) = join p (npow p a (n + 1)) a
    rw [← assoc hp ha (npow_ok hp a n) ha, npow_comm ha n]
theorem npow_inv {a : R} (ha : IsRound p a) : ∀ n : Nat, join p (npow p a n) (npow p (inv p a) n) = still
  | 0 => join_still hp (still_ok p)
  | n + 1 => by
    rw [← npow_comm hp (inv_ok hp a) n]
    show join p (join p (npow p a n) a) _ = _
    rw [assoc hp (npow_ok hp a n) ha (join_ok hp _ _), ← assoc hp ha (inv_ok hp a) (npow_ok hp _ n), join_inv hp ha, still_join hp (npow_ok hp _ n), npow_inv ha n]
theorem zpow_ok (a : R) (n : Int) : IsRound p (zpow p a n) := by
  unfold zpow
  split
  · exact npow_ok hp _ _
  · exact npow_ok hp _ _
theorem zpow_succ {a : R} (ha : IsRound p a) (n : Int) : zpow p a (n + 1) = join p (zpow p a n) a := by
  by_cases h : n < 0
  · obtain ⟨m, rfl⟩ : ∃ m : Nat, n = -((m : Int) + 1) := ⟨(-n - 1).toNat, by omega⟩
    have e1 : zpow p a (-((m : Int) + 1)) = npow p (inv p a) (m + 1) := by
      unfold zpow
      rw [if_pos h, show (-((m : Int) + 1)).natAbs = m + 1 by omega]
    have e2 : zpow p a (-((m : Int) + 1) + 1) = npow p (inv p a) m := by
      unfold zpow
      by_cases hm : m = 0
      · subst hm
        rfl
      · rw [if_pos (by omega), show (-((m : Int) + 1) + 1).natAbs = m by omega]
    rw [e1, e2]
    show _ = join p (join p (npow p (inv p a) m) (inv p a)) a
    rw [assoc hp (npow_ok hp _ m) (inv_ok hp a) ha, inv_join hp ha, join_still hp (npow_ok hp _ m)]
  · unfold zpow
    rw [if_neg h, if_neg (by omega), show (n + 1).natAbs = n.natAbs + 1 by omega]
    rfl
theorem zpow_neg {a : R} (ha : IsRound p a) (n : Int) : join p (zpow p a n) (zpow p a (-n)) = still := by
  unfold zpow
  rw [show (-n).natAbs = n.natAbs by omega]
  by_cases h : n < 0
  · rw [if_pos h, if_neg (by omega)]
    have := npow_inv hp (inv_ok hp a) n.natAbs
    rw [inv_inv hp ha] at this
    exact this
  · rw [if_neg h]
    by_cases h2 : -n < 0
    · rw [if_pos h2]
      exact npow_inv hp ha _
    · rw [if_neg h2, show n.natAbs = 0 by omega]
      exact join_still hp (still_ok p)
end
theorem goings_len (a : R) : ∀ n : Nat, (goings a n).length = n * a.2.length
  | 0 => by simp [goings]
  | n + 1 => by rw [goings, List.length_append, goings_len a n, moved_len, Nat.succ_mul]
theorem times_len {p : Int} {a : R} {n : Int} (hl : a.2.length ≤ 4) (hn : a.1 = 0 ∨ n.natAbs ≤ 900) : (times p a n).2.length ≤ 3600 := by
  unfold times
  by_cases h : a.1 = 0
  · rw [if_pos h]
    have := timed_len p a.2 n
    simp only
    omega
  · rw [if_neg h]
    have hb : (baseOf p a n).2.length ≤ 4 := by
      unfold baseOf
      split
      · have := inv_len p a
        omega
      · exact hl
    have h1 := tidy_len p (goings (baseOf p a n) n.natAbs)
    rw [goings_len] at h1
    have h2 : n.natAbs * (baseOf p a n).2.length ≤ 900 * 4 := Nat.mul_le_mul (hn.resolve_left h) hb
    simp only
    omega
end Rd

namespace Dk
open PySem PySem.Spec PyProof.Rows L2
def cTimes : List PyData → (PyData → Prop) → Prop := fun ds Qd => ∃ (p : Int) (a : Rd.R) (n : Int), ds = [.int p, eRound a, .int n] ∧ 0 < p ∧ (a.1 = 0 ∨ (n.natAbs ≤ 900000 ∧ n.natAbs * a.2.length ≤ 90000)) ∧ a.2.length ≤ 50000 ∧ (∀ x ∈ a.2, CMul x.2 n) ∧ Qd (eRound (Rd.times p a n))
end Dk

/-! instances: their attributes, methods; contracts with things that are changed -/
namespace Dk
open PySem PySem.Spec PyProof.Rows L2
/-! ### a method that may raise -/
def tMethE (C : Addr) (m : Str) (sp : Sp) (E : L2.St → XK) (ta : TE) (t : TA) : TE := fun σ H Q => ta σ H fun x H1 => ∃ a dx fs, x = .ref a ∧ H1 a = some (.ins C dx fs) ∧ fs.lookup m = none ∧ t σ H1 fun vs H2 => sp (x :: vs) H2 Q (E σ)
section
variable {X : Cx} {cx : CXT} {n : Nat} {g cl : Addr} {fd : FuncData} {names : List Str} {sp : Sp} {E : L2.St → XK} {m : Str} {here there : Pos} {e0 ob : Expr} {more : List Expr} {tr : TE} {tas : TA}
theorem pe_methE {pl : Sem Bool} (hob : PE X ob tr) (kc : Cls X.K cl) (km : Meth X.K cl m g) (fn : FnOk X.prog X.w X.K X.mg X.base cx n g fd names sp) (room : Room n X.A) (bnd : Binds X.K fd names []) (px : ∀ st, PassesAt cx X st (E st)) (args : PA X (e0 :: more) tas)
    (st1 : starEach (e0 :: more) X.env = (false, eval e0 X.env) :: starEach more X.env := by rfl) (st2 : (backTo here (starEach more X.env)).any (·.1) = false := by rfl)
    (tree : eval (.Call (.Attribute ob m there) (e0 :: more) [] here) X.env = (do
      let rec ← eval ob X.env
      standAt there.atName
      let (fn, fst) ← holding [rec] (getMethod rec m pl)
      callWith here fn fst (backTo here (starEach (e0 :: more) X.env)) (backToKw here (keywordEach [] X.env))) := by rfl) :
    PE X (.Call (.Attribute ob m there) (e0 :: more) [] here) (tMethE cl m sp E tr tas) := ⟨fun pn sh st hp Qv iv ask => by
  refine PySem.W.methodCall_KW (pl := pl) ?_ tree
  refine thn (hob.run pn sh st hp _ iv ask) fun val sh1 ⟨xv, hp1, iv1, rel1, a, dx, fs, ex, ea, no, ask1⟩ => ?_
  cases ex
  cases (show val = Value.ref a from rel1)
  refine getmeth_ok iv1 ea kc km no (PySem.W.callWith_K (first := [.ref a]) (h₀ := X.base) iv.ok.mod.kin km.kp ?_ st1 st2)
  refine thn (args.run here pn sh1 st hp1 _ iv1 ask1) fun vals sh2 ⟨vs, hp2, iv2, rel2, ask2⟩ => ⟨iv2.kIn, ?_⟩
  exact run_fnS (vs := .ref a :: vs) (us := .ref a :: vals) fn room bnd (px st) iv2 (.cons rfl rel2) ask2⟩
theorem pe_methE0 {pl : Sem Bool} (hob : PE X ob tr) (kc : Cls X.K cl) (km : Meth X.K cl m g) (fn : FnOk X.prog X.w X.K X.mg X.base cx n g fd names sp) (room : Room n X.A) (bnd : Binds X.K fd names []) (px : ∀ st, PassesAt cx X st (E st))
    (tree : eval (.Call (.Attribute ob m there) [] [] here) X.env = (do
      let rec ← eval ob X.env
      standAt there.atName
      let (fn, fst) ← holding [rec] (getMethod rec m pl)
      callWith here fn fst (backTo here (starEach [] X.env)) (backToKw here (keywordEach [] X.env))) := by rfl) :
    PE X (.Call (.Attribute ob m there) [] [] here) (tMethE cl m sp E tr tNil) := ⟨fun pn sh st hp Qv iv ask => by
  refine PySem.W.methodCall_KW (pl := pl) ?_ tree
  refine thn (hob.run pn sh st hp _ iv ask) fun val sh1 ⟨xv, hp1, iv1, rel1, a, dx, fs, ex, ea, no, ask1⟩ => ?_
  cases ex
  cases (show val = Value.ref a from rel1)
  refine getmeth_ok iv1 ea kc km no (PySem.W.callWith_K0 (first := [.ref a]) iv1.kIn km.kp ?_)
  exact run_fnS (vs := [.ref a]) (us := [.ref a]) fn room bnd (px st) iv1 (.cons rfl .nil) ask1⟩
end
/-! ### objects of names that are changed -/
abbrev Chg := Nat → Option (OD × List Addr)
def chR (W : Wd) (M : Chg) (a : Addr) : Prop := ∃ i m, M i = some m ∧ a ∈ W.ft i
def chN (M : Chg) (a : Addr) : Prop := ∃ i o f, M i = some (o, f) ∧ a ∈ f
/-- T: new things without a name -/
def chW (W : Wd) (M : Chg) (H' : Hp) (T : Addr → Prop) : Wd := ⟨fun a => W.O a ∨ chN M a ∨ T a, fun i => match M i with
  | some m => m.2
  | none => W.ft i, H'⟩
def chG (Γ : G) (M : Chg) : G := Γ.mapIdx fun i s => match M i with
  | some m => setOwn s m.1
  | none => s
theorem chG_len (Γ : G) (M : Chg) : (chG Γ M).length = Γ.length := by simp [chG]
theorem chG_some {Γ : G} {M : Chg} {i : Nat} {s : Sl} {m : OD × List Addr} (h : Γ[i]? = some s) (e : M i = some m) : (chG Γ M)[i]? = some (setOwn s m.1) := by
  simp [chG, List.getElem?_mapIdx, h, e]
theorem chG_none {Γ : G} {M : Chg} {i : Nat} (e : M i = none) : (chG Γ M)[i]? = Γ[i]? := by
  rw [chG, List.getElem?_mapIdx, e]
  cases Γ[i]? <;> rfl
theorem chG_inv {Γ : G} {M : Chg} {i : Nat} {t : Sl} (h : (chG Γ M)[i]? = some t) : ∃ s, Γ[i]? = some s ∧ ((M i = none ∧ t = s) ∨ ∃ m, M i = some m ∧ t = setOwn s m.1) := by
  rw [chG, List.getElem?_mapIdx] at h
  cases q : Γ[i]? with
  | none => rw [q] at h; cases h
  | some s =>
    rw [q] at h
    refine ⟨s, rfl, ?_⟩
    cases e : M i with
    | none => simp [e] at h; exact .inl ⟨rfl, h.symm⟩
    | some m => simp [e] at h; exact .inr ⟨m, rfl, h.symm⟩
structure ChOk {K : Fg} (F : Fx K) (W : Wd) (σ : L2.St) (Γ : G) (M : Chg) (H' : Hp) (T : Addr → Prop) : Prop where
  fr : ∀ a u, ¬ chR W M a → W.H a = some u → H' a = some u
  nw : ∀ a, chN M a → chR W M a ∨ W.H a = none
  mo : ∀ a, chR W M a ∨ chN M a → Mo (H' a)
  sl : ∀ i m, M i = some m → ∃ s o p, Γ[i]? = some s ∧ s.own? = some o ∧ σ[i]? = some (some (.ref p)) ∧ OwnO K ((chW W M H' T).S F) H' m.1 p m.2 ∧ (m.1.isIns = false → m.2 = W.ft i) ∧ m.1.isIns = o.isIns
  dj : ∀ i k m n a, i ≠ k → M i = some m → M k = some n → a ∈ m.2 → a ∉ n.2
  tn : ∀ a, T a → W.H a = none ∧ ¬ chN M a ∧ Mo (H' a)
  un : (∀ i m s, M i = some m → Γ[i]? = some s → ∃ o, s = .ow o) ∨ (∀ i m s, M i = some m → Γ[i]? = some s → ∃ o, s = .rf o)
section
variable {K : Fg} {F : Fx K} {W : Wd} {σ : L2.St} {Γ : G} {M : Chg} {H' : Hp} {T : Addr → Prop}
theorem ChOk.O (h : ChOk F W σ Γ M H' T) (R : Rel F W σ Γ) {a : Addr} (c : chR W M a) : W.O a := by
  obtain ⟨i, m, e, ha⟩ := c
  obtain ⟨s, o, p, h1, h2, _⟩ := h.sl i m e
  exact slot_O (R.slot i s h1) h2 a ha
theorem ChOk.same (h : ChOk F W σ Γ M H' T) (R : Rel F W σ Γ) : Same (W.S F) ((chW W M H' T).S F) := same_less fun a o nx e => by
  refine ⟨fun z => ?_, h.fr a o (fun c => nx (.inr (h.O R c))) e⟩
  rcases z with z | z | z | z
  · exact nx (.inl z)
  · exact nx (.inr z)
  · rcases h.nw a z with c | c
    · exact nx (.inr (h.O R c))
    · rw [e] at c; cases c
  · rw [(h.tn a z).1] at e
    cases e
theorem ChOk.keep (h : ChOk F W σ Γ M H' T) (R : Rel F W σ Γ) {a : Addr} (ha : W.O a) (n : ¬ chR W M a) : H' a = W.H a := by
  obtain ⟨o, q⟩ := mo_some (R.mu a ha)
  rw [h.fr a o n q, q]
theorem Rel.objs (R : Rel F W σ Γ) (h : ChOk F W σ Γ M H' T) : Rel F (chW W M H' T) σ (chG Γ M) ∧ Kq F W Γ (chW W M H' T) (chG Γ M) := by
  have hs := h.same R
  have tx : Tx W.H H' := fun a o nm e => h.fr a o (fun c => nm (by have m := R.mu a (h.O R c); rw [e] at m; exact m)) e
  have apart : ∀ (i : Nat) (s : Sl) (o : OD) (a : Addr), M i = none → Γ[i]? = some s → s.own? = some o → a ∈ W.ft i → ¬ chR W M a := fun i s o a e h1 h2 ha ⟨k, m, e2, hk⟩ => by
    obtain ⟨s2, o2, p2, g1, g2, _⟩ := h.sl k m e2
    have ne : i ≠ k := fun z => by rw [z, e2] at e; cases e
    exact R.dis i k s s2 o o2 a ne h1 g1 h2 g2 ha hk
  have none_new : ∀ a, W.H a = none → F.H0 a = none ∨ F.rf a := fun a e => by
    by_cases r : F.rf a
    · exact .inr r
    · left
      cases q : F.H0 a with
      | none => rfl
      | some u => have := R.base a u q r; rw [e] at this; cases this
  have ftN : ∀ i m, M i = some m → (chW W M H' T).ft i = m.2 := fun i m e => by show (match M i with | some m => m.2 | none => W.ft i) = m.2; rw [e]
  have ft0 : ∀ i, M i = none → (chW W M H' T).ft i = W.ft i := fun i e => by show (match M i with | some m => m.2 | none => W.ft i) = _; rw [e]
  have own_set : ∀ (s : Sl) (o o' : OD), s.own? = some o → (setOwn s o').own? = some o' := fun s o o' e => by cases s <;> first | rfl | cases e
  refine ⟨⟨fun a o e nr => ?_, fun a ha => ?_, fun a ha => ?_, fun a ha => .inl (R.rfo a ha), by rw [chG_len]; exact R.len, fun i t e => ?_, fun i k s t oi ok a ne e1 e2 g1 g2 => ?_⟩, ⟨hs, fun q t => ?_⟩⟩
  · refine h.fr a o (fun c => ?_) (R.base a o e nr)
    rcases R.new a (h.O R c) with z | z
    · rw [z] at e; cases e
    · exact nr z
  · rcases ha with ha | ha | ha
    · exact R.new a ha
    · rcases h.nw a ha with c | c
      · exact R.new a (h.O R c)
      · exact none_new a c
    · exact none_new a (h.tn a ha).1
  · by_cases c : chR W M a
    · exact h.mo a (.inl c)
    · rcases ha with ha | ha | ha
      · show Mo (H' a)
        rw [h.keep R ha c]
        exact R.mu a ha
      · exact h.mo a (.inr ha)
      · exact (h.tn a ha).2.2
  · obtain ⟨s, h1, ⟨e2, rfl⟩ | ⟨m, e2, rfl⟩⟩ := chG_inv e
    · have z := R.slot i t h1
      refine z.keep (W' := chW W M H' T) (ft0 i e2) hs (fun a _ q => .inl q) (fun a ha so => ?_) tx
      obtain ⟨o', so⟩ := Option.isSome_iff_exists.mp so
      exact h.keep R (slot_O z so a ha) (apart i t o' a e2 h1 so ha)
    · obtain ⟨s', o, p, g1, g2, g3, g4, g5, g6⟩ := h.sl i m e2
      rw [h1] at g1
      cases g1
      have z := R.slot i s h1
      have inO : ∀ a ∈ (chW W M H' T).ft i, (chW W M H' T).O a := fun a ha => by
        rw [ftN i m e2] at ha
        exact .inr (.inl ⟨i, m.1, m.2, e2, ha⟩)
      have ok : OwnOk K ((chW W M H' T).S F) (chW W M H' T).H p ((chW W M H' T).ft i) m.1 := by
        rw [ftN i m e2]
        exact ownO_ok.mp g4
      cases s with
      | no => cases g2
      | sh _ => cases g2
      | ar _ => cases g2
      | ro _ => cases g2
      | ow q =>
        refine ⟨p, g3, fun a ha => ⟨inO a ha, fun r => ?_⟩, ok⟩
        rcases h.un with u | u
        · rw [ftN i m e2] at ha
          rcases h.nw a ⟨i, m.1, m.2, e2, ha⟩ with ⟨k, n, ek, hk⟩ | c
          · obtain ⟨s2, o2, p2, b1, b2, _⟩ := h.sl k n ek
            obtain ⟨o3, rfl⟩ := u k n s2 ek b1
            obtain ⟨_, _, b3, _⟩ := R.slot k _ b1
            exact (b3 a hk).2 r
          · have := R.mu a (R.rfo a r)
            rw [c] at this
            exact this
        · obtain ⟨o3, z3⟩ := u i m _ e2 h1
          cases z3
      | rf q =>
        cases g2
        obtain ⟨p', ⟨f0, b0, b1⟩, b2, _⟩ := z
        rw [g3] at b2
        cases b2
        refine ⟨p, ⟨f0, b0, fun n => ?_⟩, g3, inO, ok⟩
        rw [ftN i m e2, g5 n]
        exact b1 (by rw [← g6]; exact n)
  · intro ha hb
    obtain ⟨s0, h1, c1⟩ := chG_inv e1
    obtain ⟨t0, h2, c2⟩ := chG_inv e2
    rcases c1 with ⟨n1, rfl⟩ | ⟨m1, n1, rfl⟩
    · rw [ft0 i n1] at ha
      rcases c2 with ⟨n2, rfl⟩ | ⟨m2, n2, rfl⟩
      · rw [ft0 k n2] at hb
        exact R.dis i k s t oi ok a ne h1 h2 g1 g2 ha hb
      · rw [ftN k m2 n2] at hb
        rcases h.nw a ⟨k, m2.1, m2.2, n2, hb⟩ with c | c
        · exact apart i s oi a n1 h1 g1 ha c
        · have := R.mu a (slot_O (R.slot i s h1) g1 a ha)
          rw [c] at this
          exact this
    · rw [ftN i m1 n1] at ha
      rcases c2 with ⟨n2, rfl⟩ | ⟨m2, n2, rfl⟩
      · rw [ft0 k n2] at hb
        rcases h.nw a ⟨i, m1.1, m1.2, n1, ha⟩ with c | c
        · exact apart k t ok a n2 h2 g2 hb c
        · have := R.mu a (slot_O (R.slot k t h2) g2 a hb)
          rw [c] at this
          exact this
      · rw [ftN k m2 n2] at hb
        exact h.dj i k m1 m2 a ne n1 n2 ha hb
  · have nc : ¬ chR W M q := fun ⟨k, m, ek, hk⟩ => by
      obtain ⟨s2, o2, p2, b1, b2, _⟩ := h.sl k m ek
      exact t.2 k s2 o2 b1 b2 hk
    refine ⟨⟨.inl t.1, fun j s o e g hj => ?_⟩, h.keep R t.1 nc⟩
    obtain ⟨s0, h1, ⟨n1, rfl⟩ | ⟨m1, n1, rfl⟩⟩ := chG_inv e
    · rw [ft0 j n1] at hj
      exact t.2 j s o h1 g hj
    · rw [ftN j m1 n1] at hj
      rcases h.nw q ⟨j, m1.1, m1.2, n1, hj⟩ with c | c
      · exact nc c
      · have := R.mu q t.1
        rw [c] at this
        exact this
end
theorem ChOk.tm {K : Fg} {F : Fx K} {W : Wd} {σ : L2.St} {Γ : G} {M : Chg} {H' : Hp} {T : Addr → Prop} (h : ChOk F W σ Γ M H' T) (R : Rel F W σ Γ) {a : Addr} (ha : T a) : Tm (chW W M H' T) (chG Γ M) a ∧ F.H0 a = none ∧ ¬ F.rf a := by
  obtain ⟨n, nn, _⟩ := h.tn a ha
  have nO : ¬ W.O a := fun z => by
    have := R.mu a z
    rw [n] at this
    exact this
  have nr : ¬ F.rf a := fun z => nO (R.rfo a z)
  refine ⟨⟨.inr (.inr ha), fun j s o e g hj => ?_⟩, ?_, nr⟩
  · obtain ⟨s0, h1, ⟨n1, rfl⟩ | ⟨m1, n1, rfl⟩⟩ := chG_inv e
    · have e1 : (chW W M H' T).ft j = W.ft j := by show (match M j with | some m => m.2 | none => W.ft j) = _; rw [n1]
      rw [e1] at hj
      exact nO (slot_O (R.slot j s h1) g a hj)
    · have e1 : (chW W M H' T).ft j = m1.2 := by show (match M j with | some m => m.2 | none => W.ft j) = _; rw [n1]
      rw [e1] at hj
      exact nn ⟨j, m1.1, m1.2, n1, hj⟩
  · cases q : F.H0 a with
    | none => rfl
    | some u => have := R.base a u q nr; rw [n] at this; cases this
/-- what a run leaves as it was, instances aside -/
structure Stx {K : Fg} (F : Fx K) (W : Wd) (Γ : G) (W' : Wd) (Γ' : G) : Prop extends Kq F W Γ W' Γ' where
  kin : ∀ (i : Nat) (s : Sl), Γ[i]? = some s → ∃ s' : Sl, Γ'[i]? = some s' ∧ Kx s s'
  len : Γ'.length = Γ.length
theorem Kx.refl (s : Sl) : Kx s s := ⟨fun z => z, fun _ => rfl, fun o z => ⟨o, z⟩⟩
theorem Kn.kx {s s' : Sl} (h : Kn s s') : Kx s s' := ⟨h.1, h.2.1, h.2.2.1⟩
theorem Kx.trans {s s1 s2 : Sl} (a : Kx s s1) (b : Kx s1 s2) : Kx s s2 := ⟨fun z => b.1 (a.1 z), fun q => by
  have z := a.2.1 q
  subst z
  exact b.2.1 q, fun o q => by
  obtain ⟨o1, q1⟩ := a.2.2 o q
  exact b.2.2 o1 q1⟩
theorem Stp.stx {K : Fg} {F : Fx K} {W W' : Wd} {Γ Γ' : G} (s : Stp F W Γ W' Γ') : Stx F W Γ W' Γ' := ⟨s.toKq, fun i t e => by
  obtain ⟨t', h1, h2⟩ := s.kin i t e
  exact ⟨t', h1, h2.kx⟩, s.len⟩
theorem Stx.trans {K : Fg} {F : Fx K} {W W1 W2 : Wd} {Γ Γ1 Γ2 : G} (a : Stx F W Γ W1 Γ1) (b : Stx F W1 Γ1 W2 Γ2) : Stx F W Γ W2 Γ2 := ⟨a.toKq.trans b.toKq, fun i s h => by
  obtain ⟨s1, h1, k1⟩ := a.kin i s h
  obtain ⟨s2, h2, k2⟩ := b.kin i s1 h1
  exact ⟨s2, h2, k1.trans k2⟩, b.len.trans a.len⟩
/-- m: instances may be changed -/
def StM {K : Fg} (m : Bool) (F : Fx K) (W : Wd) (Γ : G) (W' : Wd) (Γ' : G) : Prop := match m with
  | true => Stx F W Γ W' Γ'
  | false => Stp F W Γ W' Γ'
theorem StM.stx {K : Fg} {m : Bool} {F : Fx K} {W W' : Wd} {Γ Γ' : G} (s : StM m F W Γ W' Γ') : Stx F W Γ W' Γ' := by
  cases m with
  | true => exact s
  | false => exact Stp.stx s
theorem StM.trans {K : Fg} {m n : Bool} {F : Fx K} {W W1 W2 : Wd} {Γ Γ1 Γ2 : G} (a : StM m F W Γ W1 Γ1) (b : StM n F W1 Γ1 W2 Γ2) : StM (m || n) F W Γ W2 Γ2 := by
  cases m with
  | true => exact Stx.trans a b.stx
  | false =>
    cases n with
    | true => exact Stx.trans (Stp.stx a) b
    | false => exact Stp.trans a b
theorem StM.refl {K : Fg} {m : Bool} (F : Fx K) (W : Wd) (Γ : G) : StM m F W Γ W Γ := by
  cases m with
  | true => exact Stp.stx (Stp.refl ..)
  | false => exact Stp.refl ..
/-- values that stay when instances are changed -/
def stayM (m : Bool) : RV → Bool
  | .fld _ _ => !m
  | _ => true
theorem VOk.stm {K : Fg} {m : Bool} {F : Fx K} {W W' : Wd} {σ : L2.St} {Γ Γ' : G} {v : V} {x : RV} (a : StM m F W Γ W' Γ') (h : VOk F W σ Γ v x) (hm : stayM m x = true) : VOk F W' σ Γ' v x := by
  cases m with
  | false => exact VOk.stp a h
  | true =>
    cases x with
    | sh d => exact Dq.same a.stx.sh h
    | ar d => exact h
    | own i =>
      obtain ⟨s, h1, h2, h3⟩ := h
      obtain ⟨s', g1, g2, _⟩ := a.stx.kin i s h1
      exact ⟨s', g1, g2 h2, h3⟩
    | fld i p => cases hm
theorem Rel.objsM {K : Fg} {m : Bool} {F : Fx K} {W : Wd} {σ : L2.St} {Γ : G} {M : Chg} {H' : Hp} {T : Addr → Prop} (R : Rel F W σ Γ) (h : ChOk F W σ Γ M H' T) (hm : m = false → ∀ i n, M i = some n → n.1.isIns = false) (hi : m = false → ∀ a, chR W M a → notIns (W.H a)) : StM m F W Γ (chW W M H' T) (chG Γ M) := by
  obtain ⟨_, kq⟩ := R.objs h
  have kx : ∀ (i : Nat) (s : Sl), Γ[i]? = some s → ∃ s' : Sl, (chG Γ M)[i]? = some s' ∧ Kx s s' ∧ (M i = none → s' = s) := fun i s e => by
    cases q : M i with
    | none => exact ⟨s, by rw [chG_none q]; exact e, Kx.refl s, fun _ => rfl⟩
    | some n =>
      obtain ⟨s', o, p, g1, g2, _⟩ := h.sl i n q
      rw [e] at g1
      cases g1
      refine ⟨_, chG_some e q, ⟨fun _ => ?_, (fun z => by rw [g2] at z; cases z), (fun o' z => by subst z; exact ⟨_, rfl⟩)⟩, (fun z => by cases z)⟩
      cases s <;> first | rfl | cases g2
  cases m with
  | true => exact ⟨kq, fun i s e => by
      obtain ⟨s', a, b, _⟩ := kx i s e
      exact ⟨s', a, b⟩, chG_len Γ M⟩
  | false =>
    refine ⟨⟨kq, fun a C dx vs e => h.fr a _ (fun c => ?_) e⟩, fun i s e => ?_, chG_len Γ M⟩
    · have := hi rfl a c
      rw [e] at this
      exact this
    · obtain ⟨s', a, b, c⟩ := kx i s e
      refine ⟨s', a, b.1, b.2.1, b.2.2, fun o z => ?_⟩
      cases q : M i with
      | none => exact c q
      | some n =>
        exfalso
        obtain ⟨s2, o2, p, g1, g2, _, _, _, g6⟩ := h.sl i n q
        rw [e] at g1
        cases g1
        have e1 := hm rfl i n q
        have := ins_own z (by rw [g2]; exact fun w => nomatch w)
        rw [g2] at this
        cases this
        rw [g6] at e1
        cases s with
        | ow q => have := (insO_eq z).2; cases (insO_eq z).1; rw [this] at e1; cases e1
        | rf q => have := (insO_eq z).2; cases (insO_eq z).1; rw [this] at e1; cases e1
        | _ => cases g2
end Dk

namespace Dk
open PySem PySem.Spec PyProof.Rows L2
/-! ### contracts: arguments by what they are (data; a thing that is changed; a thing that is looked at), answers, refusals -/
inductive AD where
  | d (d : PyData) (z : Bool)
  | rf (o : OD)
  | ro (o : OD)
inductive RT where
  | d (d : PyData)
  | nw (o : OD)
abbrev Ct := List AD → (RT → List OD → Prop) → (Value → List OD → Prop) → Prop
/-- the things that may be changed, in their order -/
def osL (os : Nat → OD) : List AD → Nat → List OD
  | [], _ => []
  | .rf _ :: as, j => os j :: osL os as (j + 1)
  | _ :: as, j => osL os as (j + 1)
def Rfs (as : List AD) (ft : Nat → List Addr) (a : Addr) : Prop := ∃ j o, as[j]? = some (.rf o) ∧ a ∈ ft j
def ArgOk (K : Fg) (H : Hp) (X R : Addr → Prop) (f : List Addr) (v : V) : AD → Prop
  | .d d true => Dq K (less H X) v d
  | .d d false => Dq K (less H R) v d
  | .rf o => ∃ p, v = .ref p ∧ OwnO K (less H X) H o p f
  | .ro o => o.isIns = true ∧ ∃ p g, v = .ref p ∧ (∀ a ∈ g, ¬ R a ∧ X a) ∧ OwnO K (less H X) H o p g
structure GIn (K : Fg) (m : Bool) (vs : List V) (H : Hp) (as : List AD) (ft : Nat → List Addr) (X : Addr → Prop) : Prop where
  len : vs.length = as.length
  arg : ∀ j a, as[j]? = some a → ∃ v, vs[j]? = some v ∧ ArgOk K H X (Rfs as ft) (ft j) v a
  xm : ∀ a, X a → Mo (H a)
  rx : ∀ a, Rfs as ft a → X a
  dj : ∀ i j o o' a, i ≠ j → as[i]? = some (.rf o) → as[j]? = some (.rf o') → a ∈ ft i → a ∉ ft j
structure GOut (K : Fg) (vs : List V) (H : Hp) (as : List AD) (ft : Nat → List Addr) (X : Addr → Prop) (H' : Hp) (os : Nat → OD) (ft' : Nat → List Addr) (T : Addr → Prop) : Prop where
  fr : ∀ a u, ¬ Rfs as ft a → H a = some u → H' a = some u
  nw : ∀ a, Rfs as ft' a → Rfs as ft a ∨ H a = none
  ob : ∀ j o, as[j]? = some (.rf o) → ∃ p, vs[j]? = some (.ref p) ∧ OwnO K (less H' fun a => X a ∨ Rfs as ft' a ∨ T a) H' (os j) p (ft' j) ∧ (os j).isIns = o.isIns ∧ (o.isIns = false → ft' j = ft j)
  dj : ∀ i j o o' a, i ≠ j → as[i]? = some (.rf o) → as[j]? = some (.rf o') → a ∈ ft' i → a ∉ ft' j
  mo : ∀ a, Rfs as ft a → Mo (H' a)
  tn : ∀ a, T a → H a = none ∧ ¬ Rfs as ft' a ∧ Mo (H' a)
/-- the answer; T: where a new thing lies -/
def ResOk (K : Fg) (H' : Hp) (X : Addr → Prop) (T : Addr → Prop) (v : V) : RT → Prop
  | .d d => Dq K (less H' X) v d ∧ ∀ a, ¬ T a
  | .nw o => ∃ p f, v = .ref p ∧ OwnO K (less H' X) H' o p f ∧ ∀ a, T a ↔ a ∈ f
def GSp (K : Fg) (m : Bool) (C : Ct) : Sp := fun vs H Q E => ∃ (as : List AD) (ft : Nat → List Addr) (X : Addr → Prop) (Qd : RT → List OD → Prop) (Qx : Value → List OD → Prop), GIn K m vs H as ft X ∧ C as Qd Qx ∧
  (∀ v H' os ft' T r, GOut K vs H as ft X H' os ft' T → ResOk K H' (fun a => X a ∨ Rfs as ft' a ∨ T a) T v r → Qd r (osL os as 0) → Q v H') ∧
  (∀ c H' os ft', GOut K vs H as ft X H' os ft' (fun _ => False) → Qx c (osL os as 0) → E c none H')
/-! ### a def by its contract -/
/-- how an argument may be held -/
def adSl (s : Sl) : AD → Prop
  | .d d z => (s = .sh d ∧ (z = true ∨ tupO d = true)) ∨ s = .ar d
  | .rf o => s = .rf o
  | .ro o => s = .ro o
def odAt (Γ : G) (j : Nat) : OD := match Γ[j]? with
  | some (.rf o) => o
  | _ => .lst []
/-- the things that may be changed are there still -/
def rfB : List AD → G → Bool
  | [], _ => true
  | .rf o :: as, .rf o' :: Γ => (o'.isIns == o.isIns) && rfB as Γ
  | .rf _ :: _, _ => false
  | _ :: as, _ :: Γ => rfB as Γ
  | _ :: _, [] => false
theorem rfB_at : ∀ {as : List AD} {Γ : G}, rfB as Γ = true → ∀ {j : Nat} {o : OD}, as[j]? = some (.rf o) → ∃ o', Γ[j]? = some (.rf o') ∧ o'.isIns = o.isIns
  | [], _, _, j, o, e => by simp at e
  | .rf o0 :: as, .rf o1 :: Γ, h, 0, o, e => by
    simp at e
    subst e
    simp only [rfB, Bool.and_eq_true, beq_iff_eq] at h
    exact ⟨o1, rfl, h.1⟩
  | .rf o0 :: as, .rf o1 :: Γ, h, j + 1, o, e => by
    simp only [rfB, Bool.and_eq_true, beq_iff_eq] at h
    simpa using rfB_at h.2 (j := j) (by simpa using e)
  | .rf o0 :: as, [], h, _, _, _ => by simp [rfB] at h
  | .rf o0 :: as, .no :: Γ, h, _, _, _ => by simp [rfB] at h
  | .rf o0 :: as, .sh _ :: Γ, h, _, _, _ => by simp [rfB] at h
  | .rf o0 :: as, .ar _ :: Γ, h, _, _, _ => by simp [rfB] at h
  | .rf o0 :: as, .ow _ :: Γ, h, _, _, _ => by simp [rfB] at h
  | .rf o0 :: as, .ro _ :: Γ, h, _, _, _ => by simp [rfB] at h
  | .d _ _ :: as, _ :: Γ, h, 0, o, e => by simp at e
  | .ro _ :: as, _ :: Γ, h, 0, o, e => by simp at e
  | .d _ _ :: as, _ :: Γ, h, j + 1, o, e => by
    simp only [rfB] at h
    simpa using rfB_at h (j := j) (by simpa using e)
  | .ro _ :: as, _ :: Γ, h, j + 1, o, e => by
    simp only [rfB] at h
    simpa using rfB_at h (j := j) (by simpa using e)
  | .d _ _ :: as, [], h, _, _, _ => by simp [rfB] at h
  | .ro _ :: as, [], h, _, _, _ => by simp [rfB] at h
def retR (Γ : G) : RV → Option RT
  | .own i => match Γ[i]? with
    | some (.ow (.ab _)) => none
    | some (.ow o) => some (.nw o)
    | some (.sh d) => some (.d d)
    | _ => none
  | .fld i path => match Γ[i]? with
    | some (.ow o) => if o.isIns = true then (o.at_ path).map .nw else none
    | _ => none
  | x => (shOf x).map .d
section
variable {K : Fg} {m : Bool} {vs : List V} {H : Hp} {as : List AD} {ft : Nat → List Addr} {X : Addr → Prop}
theorem GIn.rm (h : GIn K m vs H as ft X) : ∀ a, Rfs as ft a → Mo (H a) := fun a z => h.xm a (h.rx a z)
/-- the surroundings of such a def's run -/
def FG (h : GIn K m vs H as ft X) : Fx K := { H0 := H, rf := Rfs as ft, ex := X, xm := h.xm, rm := h.rm, rp := fun j => match as[j]?, vs[j]? with
  | some (.rf _), some (.ref p) => some (p, ft j)
  | _, _ => none }
def WG (H : Hp) (as : List AD) (ft : Nat → List Addr) : Wd := ⟨Rfs as ft, ft, H⟩
theorem rel_startA {N : List Str} {ss : List Sl} (h : GIn K m vs H as ft X) (hs : Paired adSl ss as) : Rel (FG h) (WG H as ft) (start N vs) (startG N ss) := by
  have sS : Same (less H X) ((WG H as ft).S (FG h)) := same_less fun a o nx e => ⟨fun z => z.elim nx fun z => nx (h.rx a z), e⟩
  have sl : ∀ (i : Nat) (s : Sl), (startG N ss)[i]? = some s → s = .no ∨ ∃ a, as[i]? = some a ∧ adSl s a := fun i s e => by
    rcases startG_get e with e | e
    · obtain ⟨a, e1, e2⟩ := paired_get hs e
      exact .inr ⟨a, e1, e2⟩
    · exact .inl e
  have own : ∀ (i : Nat) (s : Sl) (o : OD), (startG N ss)[i]? = some s → s.own? = some o → as[i]? = some (.rf o) := fun i s o e g => by
    rcases sl i s e with rfl | ⟨a, e1, e2⟩
    · cases g
    · cases a with
      | d d z => rcases e2 with ⟨rfl, _⟩ | rfl <;> cases g
      | rf o' => cases (show s = .rf o' from e2); cases g; exact e1
      | ro o' => cases (show s = .ro o' from e2); cases g
  refine ⟨fun a o e _ => e, fun a z => .inr z, fun a z => h.rm a z, fun a z => z, by simp [L2.start, startG, h.len, Paired.length hs], fun i s e => ?_, fun i j s t oi oj a ne e1 e2 g1 g2 => h.dj i j oi oj a ne (own i s oi e1 g1) (own j t oj e2 g2)⟩
  rcases sl i s e with rfl | ⟨a, e1, e2⟩
  · trivial
  · obtain ⟨v, q1, q2⟩ := h.arg i a e1
    cases a with
    | d d z =>
      rcases e2 with ⟨rfl, e2⟩ | rfl
      · refine ⟨v, start_get q1, ?_⟩
        cases z with
        | true => exact Dq.same sS q2
        | false =>
          have t : tupO d = true := e2.resolve_left fun z => nomatch z
          refine Dq.tupO_less (H' := H) (fun a z => ?_) _ _ t (Dq.same less_same q2)
          rcases z with z | z
          · exact h.xm a z
          · exact h.rm a z
      · refine ⟨v, start_get q1, ?_⟩
        cases z with
        | true => exact Dq.same (same_less fun a o nx e => ⟨fun z => nx (h.rx a z), e⟩) q2
        | false => exact q2
    | rf o =>
      cases (show s = .rf o from e2)
      obtain ⟨p, rfl, q3⟩ := q2
      refine ⟨p, ⟨ft i, ?_, fun _ => rfl⟩, start_get q1, fun a ha => ⟨i, o, e1, ha⟩, ownO_ok.mp (OwnO.keep sS (fun _ _ _ e => e) q3 fun _ _ => rfl)⟩
      show (match as[i]?, vs[i]? with | some (.rf _), some (.ref p) => some (p, ft i) | _, _ => none) = _
      rw [e1, q1]
    | ro o =>
      cases (show s = .ro o from e2)
      obtain ⟨q0, p, g, rfl, q3, q4⟩ := q2
      refine ⟨p, g, start_get q1, q3, q0, ownO_ok.mp (OwnO.keep (same_less fun a o nx e => ⟨fun z => z.elim nx fun z => nx (h.rx a z), e⟩) (fun _ _ _ e => e) q4 fun _ _ => rfl)⟩
theorem gOut_of {W : Wd} {σ : L2.St} {Γ : G} (h : GIn K m vs H as ft X) (R : Rel (FG h) W σ Γ) (hb : rfB as Γ = true) {T : Addr → Prop} (hT : ∀ a, T a → W.O a ∧ H a = none ∧ ¬ Rfs as W.ft a) : GOut K vs H as ft X W.H (odAt Γ) W.ft T := by
  have od : ∀ {j : Nat} {o : OD}, as[j]? = some (.rf o) → ∃ o', Γ[j]? = some (.rf o') ∧ o'.isIns = o.isIns ∧ odAt Γ j = o' := fun {j o} e => by
    obtain ⟨o', e1, e2⟩ := rfB_at hb e
    exact ⟨o', e1, e2, by rw [odAt, e1]⟩
  have inO : ∀ a, Rfs as W.ft a → W.O a := fun a ⟨j, o, e, ha⟩ => by
    obtain ⟨o', e1, _⟩ := od e
    exact slot_O (R.slot j _ e1) rfl a ha
  refine ⟨fun a u n e => R.base a u e n, fun a z => ?_, fun j o e => ?_, fun i j o o' a ne e1 e2 ha => ?_, fun a z => R.mu a (R.rfo a z), fun a z => ⟨(hT a z).2.1, (hT a z).2.2, R.mu a (hT a z).1⟩⟩
  · rcases R.new a (inO a z) with q | q
    · exact .inr q
    · exact .inl q
  · obtain ⟨o', e1, e2, e3⟩ := od e
    obtain ⟨p, ⟨f0, q0, q1⟩, _, _, q2⟩ := R.slot j _ e1
    obtain ⟨v, g1, p', rfl, g2⟩ := h.arg j _ e
    have q0' : (match as[j]?, vs[j]? with | some (.rf _), some (.ref p) => some (p, ft j) | _, _ => none) = some (p, f0) := q0
    rw [e, g1] at q0'
    cases q0'
    refine ⟨p, g1, ?_, by rw [e3]; exact e2, fun z => (q1 (by rw [e2]; exact z)).symm⟩
    rw [e3]
    exact OwnO.keep (same_less fun a o nx e => ⟨fun z => nx (z.imp id fun z => z.elim (inO a) fun z => (hT a z).1), e⟩) (fun _ _ _ e => e) (ownO_ok.mpr q2) fun _ _ => rfl
  · obtain ⟨o1, b1, _⟩ := od e1
    obtain ⟨o2, b2, _⟩ := od e2
    exact R.dis i j _ _ _ _ a ne b1 b2 rfl rfl ha
theorem rfs_O {W : Wd} {σ : L2.St} {Γ : G} (h : GIn K m vs H as ft X) (R : Rel (FG h) W σ Γ) (hb : rfB as Γ = true) {a : Addr} (z : Rfs as W.ft a) : W.O a := by
  obtain ⟨j, o, e, ha⟩ := z
  obtain ⟨o', e1, _⟩ := rfB_at hb e
  exact slot_O (R.slot j _ e1) rfl a ha
theorem retR_ok {W : Wd} {σ : L2.St} {Γ : G} {v : V} {x : RV} {r : RT} (h : GIn K m vs H as ft X) (R : Rel (FG h) W σ Γ) (hb : rfB as Γ = true) (o : VOk (FG h) W σ Γ v x) (e : retR Γ x = some r) : ∃ T : Addr → Prop, (∀ a, T a → W.O a ∧ H a = none ∧ ¬ Rfs as W.ft a) ∧ ResOk K W.H (fun a => X a ∨ Rfs as W.ft a ∨ T a) T v r := by
  have sS : Same (W.S (FG h)) (less W.H fun a => X a ∨ Rfs as W.ft a ∨ False) := same_less fun a u nx e => ⟨fun z => nx (z.imp id fun z => z.elim (rfs_O h R hb) False.elim), e⟩
  have fresh : ∀ {i : Nat} {o0 : OD} {a : Addr}, Γ[i]? = some (.ow o0) → a ∈ W.ft i → W.O a ∧ H a = none ∧ ¬ Rfs as W.ft a := fun {i o0 a} h1 ha => by
    obtain ⟨p, _, q1, _⟩ := R.slot i _ h1
    have n : H a = none := (R.new a (q1 a ha).1).resolve_right (q1 a ha).2
    refine ⟨(q1 a ha).1, n, fun z => ?_⟩
    obtain ⟨j, o, e, hj⟩ := z
    obtain ⟨o', e1, _⟩ := rfB_at hb e
    have ne : i ≠ j := fun w => by rw [w, e1] at h1; cases h1
    exact R.dis i j _ _ _ _ a ne h1 e1 rfl rfl ha hj
  have plain : ∀ {d : PyData}, Dq K (W.S (FG h)) v d → r = .d d → ∃ T : Addr → Prop, (∀ a, T a → W.O a ∧ H a = none ∧ ¬ Rfs as W.ft a) ∧ ResOk K W.H (fun a => X a ∨ Rfs as W.ft a ∨ T a) T v r := fun {d} hd er => by
    subst er
    exact ⟨fun _ => False, (fun a z => z.elim), hd.same sS, fun a z => z⟩
  have thing : ∀ {i : Nat} {o0 o1 : OD} {q : Addr} {f : List Addr}, Γ[i]? = some (.ow o0) → v = .ref q → OwnO K (W.S (FG h)) W.H o1 q f → (∀ a ∈ f, a ∈ W.ft i) → r = .nw o1 → ∃ T : Addr → Prop, (∀ a, T a → W.O a ∧ H a = none ∧ ¬ Rfs as W.ft a) ∧ ResOk K W.H (fun a => X a ∨ Rfs as W.ft a ∨ T a) T v r := fun {i o0 o1 q f} h1 hv hO hF er => by
    subst er
    refine ⟨fun a => a ∈ f, fun a ha => fresh h1 (hF a ha), q, f, hv, ?_, fun a => Iff.rfl⟩
    exact OwnO.keep (same_less fun a u nx e => ⟨fun z => nx (z.imp id fun z => z.elim (rfs_O h R hb) fun z => (fresh h1 (hF a z)).1), e⟩) (fun _ _ _ e => e) hO fun _ _ => rfl
  cases x with
  | sh d => cases e; exact plain o rfl
  | ar d =>
    simp only [retR] at e
    obtain ⟨d', e1, e2⟩ := Option.map_eq_some_iff.mp e
    exact plain (VOk.sh R o e1) e2.symm
  | own i =>
    obtain ⟨s, h1, h2, h3⟩ := o
    have key : ∀ {o0 : OD}, s = .ow o0 → r = .nw o0 → ∃ T : Addr → Prop, (∀ a, T a → W.O a ∧ H a = none ∧ ¬ Rfs as W.ft a) ∧ ResOk K W.H (fun a => X a ∨ Rfs as W.ft a ∨ T a) T v r := fun {o0} es er => by
      subst es
      obtain ⟨p, q0, q1, q2⟩ := R.slot i _ h1
      rw [h3] at q0
      cases q0
      exact thing h1 rfl (ownO_ok.mpr q2) (fun a ha => ha) er
    simp only [retR, h1] at e
    cases s with
    | no => cases e
    | ar d => cases e
    | rf o => cases e
    | ro o => cases e
    | sh d' =>
      obtain ⟨v', e1, e2⟩ := R.slot i _ h1
      rw [h3] at e1
      cases e1
      exact plain e2 (Option.some.inj e).symm
    | ow o0 =>
      cases o0 with
      | ab _ => cases e
      | lst ds => exact key rfl (Option.some.inj e).symm
      | dK ds => exact key rfl (Option.some.inj e).symm
      | dT ds => exact key rfl (Option.some.inj e).symm
      | ins C fs => exact key rfl (Option.some.inj e).symm
  | fld i path =>
    obtain ⟨s, p, o, h1, h2, h3, h4⟩ := o
    simp only [retR, h1] at e
    cases s with
    | ow o0 =>
      simp only at e
      split at e
      · obtain ⟨o', e1, e2⟩ := Option.map_eq_some_iff.mp e
        cases (insO_eq h2).1
        obtain ⟨p', q0, q1, q2⟩ := R.slot i _ h1
        rw [h3] at q0
        cases q0
        obtain ⟨q, F', hv, hF, hO⟩ := OwnO.path (ownO_ok.mpr q2) e1 h4
        exact thing h1 hv hO hF e2.symm
      · cases e
    | _ => cases e
end
section
variable {P : Program} {w : World} {K : Fg} {mg : Str → Option Value} {base : Heap}
abbrev GEnds (as : List AD) (Qd : RT → List OD → Prop) (Qx : Value → List OD → Prop) : DE := { nx := fun Γ => rfB as Γ = true ∧ Qd (.d .none) (osL (odAt Γ) as 0), rt := fun x Γ => rfB as Γ = true ∧ ∃ r, retR Γ x = some r ∧ Qd r (osL (odAt Γ) as 0), rn := fun o Γ => rfB as Γ = true ∧ Qd (.nw o) (osL (odAt Γ) as 0), xs := fun c Γ => rfB as Γ = true ∧ Qx c (osL (odAt Γ) as 0) }
theorem gen_link {m : Bool} {vs : List V} {H : Hp} {as : List AD} {ft : Nat → List Addr} {X : Addr → Prop} {Qd : RT → List OD → Prop} {Qx : Value → List OD → Prop} {Q : VK} {E : XK} (h : GIn K m vs H as ft X)
    (q : ∀ v H' os ft' T r, GOut K vs H as ft X H' os ft' T → ResOk K H' (fun a => X a ∨ Rfs as ft' a ∨ T a) T v r → Qd r (osL os as 0) → Q v H') (qx : ∀ c H' os ft', GOut K vs H as ft X H' os ft' (fun _ => False) → Qx c (osL os as 0) → E c none H') :
    Lk (FG h) (WG H as ft) (fun cls d _ H => E cls d H) { nx := fun _ H' => Q .non H', rt := Q } (GEnds as Qd Qx) := by
  refine ⟨fun W σ Γ _ R ⟨e0, e⟩ => ?_, fun W σ Γ y v _ R o ⟨e0, r, e, z⟩ => ?_, fun W σ Γ o p ho _ R hp oh ⟨e0, z⟩ => ?_, fun W σ Γ _ R e => e, fun W σ Γ _ R e => e, fun W σ Γ c _ R ⟨e0, e⟩ => ?_⟩
  · exact q .non W.H _ _ (fun _ => False) (.d .none) (gOut_of h R e0 fun a z => z.elim) ⟨.non, fun a z => z⟩ e
  · obtain ⟨T, hT, ok⟩ := retR_ok h R e0 o e
    exact q v W.H _ _ T r (gOut_of h R e0 hT) ok z
  · obtain ⟨R2, k2, t2, h0, nrf⟩ := R.temp (ho := ho) hp (mo_ownH oh)
    have hT : ∀ a, a = p → (a = p ∨ W.O a) ∧ H a = none ∧ ¬ Rfs as W.ft a := fun a ha => by
      subst ha
      refine ⟨.inl rfl, h0, fun ⟨j, o', e, hj⟩ => ?_⟩
      obtain ⟨o2, e1, _⟩ := rfB_at e0 e
      exact t2.2 j _ _ e1 rfl hj
    refine q (.ref p) _ _ _ (fun a => a = p) (.nw o) (gOut_of h R2 e0 hT) ⟨p, [p], rfl, ?_, fun a => by simp⟩ z
    refine OwnO.keep (S := (Wd.S (K := K) ⟨fun a => a = p ∨ W.O a, W.ft, upd W.H p ho⟩ (FG h))) (same_less fun a u nx e => ⟨fun y => nx ?_, e⟩) (fun _ _ _ e => e) (ownO_ok.mpr (ownH_ok (oh.same k2.sh) upd_same)) fun _ _ => rfl
    rcases y with y | y | y
    · exact .inl y
    · exact .inr (rfs_O h R2 e0 y)
    · exact .inr (.inl y)
  · exact qx c W.H _ _ (gOut_of h R e0 fun a z => z.elim) e
theorem gen_ok {x qual : Str} {st : Stmt} {f : Addr} {fd : FuncData} {N ps : List Str} {k : Nat} {m : Bool} {C : Ct} (Fn : L2.Fun K x qual st f fd) (S : FnScope N ps (defScope st)) (hl : ∀ as Qd Qx, C as Qd Qx → as.length = ps.length)
    (hbody : ∀ (cdv : Value) (A : Around) (outer : List Env) (s : Shared) (H : Hp) (E : XK), Room k (A.deeper (envOfC qual (defScope st) s.heap.objs.size f cdv)) →
      ∃ t, PSs (cxOf CX0 P w K mg base N qual (defScope st) f cdv A outer s H E).nox (defBody st) t ∧ ∃ d, SS K X0 t d ∧ ∀ as Qd Qx, C as Qd Qx → ∃ ss, Paired adSl ss as ∧ d (GEnds as Qd fun _ _ => False) (startG N ss)) : FnOk P w K mg base CX0 (k + 1) f fd ps (GSp K m C) := by
  refine Fn.ok S (fun vs H Q E h => ?_) (fun cdv A outer s H vs Q E hr h => ?_)
  · obtain ⟨as, ft, X, Qd, Qx, h1, h2, _⟩ := h
    rw [h1.len]
    exact hl as Qd Qx h2
  · obtain ⟨as, ft, X, Qd, Qx, h1, h2, q, qx⟩ := h
    obtain ⟨t, ht, d, hs, hd⟩ := hbody cdv A outer s H E hr
    obtain ⟨ss, hss, hd⟩ := hd as Qd Qx h2
    have L := gen_link (Qx := fun _ _ => False) (E := fun _ _ _ => False) h1 q fun _ _ _ _ _ z => z.elim
    exact ⟨t, ht, hs.run (FG h1) (WG H as ft) (start N vs) (startG N ss) _ _ (rel_startA h1 hss) hd ⟨L.nx, L.rt, L.rn, L.bk, L.ct, fun W σ Γ c s R e => e.2.elim⟩⟩
theorem genX_ok {x qual : Str} {st : Stmt} {f : Addr} {fd : FuncData} {N ps : List Str} {k : Nat} {m : Bool} {C : Ct} (Fn : L2.Fun K x qual st f fd) (S : FnScope N ps (defScope st)) (hl : ∀ as Qd Qx, C as Qd Qx → as.length = ps.length)
    (hbody : ∀ (cdv : Value) (A : Around) (outer : List Env) (s : Shared) (H : Hp) (E : XK), Room k (A.deeper (envOfC qual (defScope st) s.heap.objs.size f cdv)) →
      ∃ t, PSs (cxOf (L2.CX P w) P w K mg base N qual (defScope st) f cdv A outer s H E) (defBody st) t ∧ ∃ d, SS K (fun cls d _ H => E cls d H) t d ∧ ∀ as Qd Qx, C as Qd Qx → ∃ ss, Paired adSl ss as ∧ d (GEnds as Qd Qx) (startG N ss)) : FnOk P w K mg base (L2.CX P w) (k + 1) f fd ps (GSp K m C) := by
  refine Fn.okX S (fun vs H Q E h => ?_) (fun cdv A outer s H vs Q E hr h => ?_)
  · obtain ⟨as, ft, X, Qd, Qx, h1, h2, _⟩ := h
    rw [h1.len]
    exact hl as Qd Qx h2
  · obtain ⟨as, ft, X, Qd, Qx, h1, h2, q, qx⟩ := h
    obtain ⟨t, ht, d, hs, hd⟩ := hbody cdv A outer s H E hr
    obtain ⟨ss, hss, hd⟩ := hd as Qd Qx h2
    exact ⟨t, ht, hs.run (FG h1) (WG H as ft) (start N vs) (startG N ss) _ _ (rel_startA h1 hss) hd (gen_link h1 q qx)⟩
end
end Dk

namespace Dk
open PySem PySem.Spec PyProof.Rows L2
/-! ### calls by contract: the caller's side -/
/-- an object as an argument; m: it may be changed -/
def odAd (m : Bool) : OD → AD
  | .lst ds => .d (.list ds) false
  | .ins C fs => if m = true then .rf (.ins C fs) else .ro (.ins C fs)
  | o => .rf o
def adOf (m : Bool) (Γ : G) : RV → Option AD
  | .sh d => some (.d d true)
  | .ar d => some (.d d (tupO d))
  | .own i => match Γ[i]? with
    | some (.ow o) => some (odAd m o)
    | some (.rf o) => some (odAd m o)
    | some (.ro o) => some (.ro o)
    | some (.sh d) => some (.d d true)
    | _ => none
  | .fld i path => match Γ[i]? with
    | some s => s.ins?.bind fun o => match o.at_ path with
      | some (.lst ds) => if m = true then none else some (.d (.list ds) false)
      | some (.ins C fs) => if m = true then none else some (.ro (.ins C fs))
      | _ => none
    | _ => none
def adsOf (m : Bool) (Γ : G) : List RV → Option (List AD)
  | [] => some []
  | x :: xs => match adOf m Γ x, adsOf m Γ xs with
    | some a, some as => some (a :: as)
    | _, _ => none
def isRf : AD → Bool
  | .rf _ => true
  | _ => false
/-- the names whose objects may be changed, with the places of the arguments -/
def rfIx : List RV → List AD → Nat → List (Nat × Nat)
  | .own i :: xs, .rf _ :: as, j => (i, j) :: rfIx xs as (j + 1)
  | _ :: xs, _ :: as, j => rfIx xs as (j + 1)
  | _, _, _ => []
def putOs (os : Nat → OD) : List (Nat × Nat) → G → G
  | [], Γ => Γ
  | (i, j) :: r, Γ => putOs os r (Γ.set i (setOwn (Γ.getD i .no) (os j)))
def putOL : List OD → List (Nat × Nat) → G → G
  | o :: ol, (i, _) :: r, Γ => putOL ol r (Γ.set i (setOwn (Γ.getD i .no) o))
  | _, _, Γ => Γ
theorem putOL_os (os : Nat → OD) : ∀ (ix : List (Nat × Nat)) (Γ : G), putOL (ix.map fun q => os q.2) ix Γ = putOs os ix Γ
  | [], _ => rfl
  | (i, j) :: r, Γ => putOL_os os r _
def distB : List (Nat × Nat) → Bool
  | [] => true
  | (i, _) :: r => r.all (fun q => q.1 != i) && distB r
def isOw : Option Sl → Bool
  | some (.ow _) => true
  | _ => false
def isRfS : Option Sl → Bool
  | some (.rf _) => true
  | _ => false
def uniB (Γ : G) (ix : List (Nat × Nat)) : Bool := ix.all (fun q => isOw Γ[q.1]?) || ix.all (fun q => isRfS Γ[q.1]?)
def ixM (os : Nat → OD) (ft : Nat → List Addr) (ix : List (Nat × Nat)) : Chg := fun i => (ix.find? fun q => q.1 == i).map fun q => (os q.2, ft q.2)
theorem ixM_some {os : Nat → OD} {ft : Nat → List Addr} {ix : List (Nat × Nat)} {i : Nat} {n : OD × List Addr} (h : ixM os ft ix i = some n) : ∃ j, (i, j) ∈ ix ∧ n = (os j, ft j) := by
  obtain ⟨q, h1, h2⟩ := Option.map_eq_some_iff.mp h
  have h3 := List.find?_some h1
  have h4 := List.mem_of_find?_eq_some h1
  simp only [beq_iff_eq] at h3
  subst h3
  exact ⟨q.2, h4, h2.symm⟩
theorem ixM_mem {os : Nat → OD} {ft : Nat → List Addr} : ∀ {ix : List (Nat × Nat)} {i j : Nat}, distB ix = true → (i, j) ∈ ix → ixM os ft ix i = some (os j, ft j)
  | [], _, _, _, h => by cases h
  | (k, l) :: r, i, j, hd, h => by
    simp only [distB, Bool.and_eq_true] at hd
    by_cases e : k = i
    · subst e
      rcases List.mem_cons.mp h with h | h
      · cases h
        simp [ixM, List.find?_cons]
      · have := List.all_eq_true.mp hd.1 _ h
        simp at this
    · have h' : (i, j) ∈ r := (List.mem_cons.mp h).resolve_left fun z => e (by cases z; rfl)
      have := ixM_mem (os := os) (ft := ft) hd.2 h'
      simp only [ixM, List.find?_cons] at this ⊢
      rw [show ((k, l).1 == i) = false from beq_false_of_ne e]
      exact this
theorem putOs_len (os : Nat → OD) : ∀ (ix : List (Nat × Nat)) (Γ : G), (putOs os ix Γ).length = Γ.length
  | [], _ => rfl
  | (i, j) :: r, Γ => by simp [putOs, putOs_len os r]
theorem putOs_get (os : Nat → OD) (ft : Nat → List Addr) : ∀ {ix : List (Nat × Nat)} (Γ : G), distB ix = true → ∀ i : Nat, (putOs os ix Γ)[i]? = match ixM os ft ix i with
    | some n => Γ[i]?.map fun s => setOwn s n.1
    | none => Γ[i]?
  | [], Γ, _, i => rfl
  | (k, l) :: r, Γ, hd, i => by
    have hd' := hd
    simp only [distB, Bool.and_eq_true] at hd
    rw [putOs, putOs_get os ft _ hd.2 i]
    by_cases e : k = i
    · subst e
      have e1 : ixM os ft ((k, l) :: r) k = some (os l, ft l) := ixM_mem hd' (by simp)
      have e2 : ixM os ft r k = none := by
        cases q : ixM os ft r k with
        | none => rfl
        | some n =>
          obtain ⟨j, hj, _⟩ := ixM_some q
          have := List.all_eq_true.mp hd.1 _ hj
          simp at this
      rw [e1, e2]
      simp only
      cases q : Γ[k]? with
      | none =>
        rw [List.getElem?_eq_none (by rw [List.length_set]; exact List.getElem?_eq_none_iff.mp q)]
        rfl
      | some s =>
        rw [List.getElem?_set_self (lt_of_get q), getD_of q]
        rfl
    · have e1 : ixM os ft ((k, l) :: r) i = ixM os ft r i := by
        simp only [ixM, List.find?_cons]
        rw [show ((k, l).1 == i) = false from beq_false_of_ne e]
      rw [e1, List.getElem?_set_ne e]
theorem putOs_ch {os : Nat → OD} {ft : Nat → List Addr} {ix : List (Nat × Nat)} {Γ : G} (hd : distB ix = true) : chG Γ (ixM os ft ix) = putOs os ix Γ := by
  apply List.ext_getElem?
  intro i
  rw [putOs_get os ft Γ hd i, chG, List.getElem?_mapIdx]
  cases q : ixM os ft ix i with
  | none => simp [q]
  | some n => simp [q]
theorem rfIx_mem : ∀ {xs : List RV} {as : List AD} {j i k : Nat}, (i, k) ∈ rfIx xs as j → ∃ n o, k = j + n ∧ xs[n]? = some (.own i) ∧ as[n]? = some (.rf o)
  | [], _, _, _, _, h => by simp [rfIx] at h
  | _ :: _, [], _, _, _, h => by simp [rfIx] at h
  | .own i0 :: xs, .rf o0 :: as, j, i, k, h => by
    simp only [rfIx] at h
    rcases List.mem_cons.mp h with h | h
    · cases h
      exact ⟨0, o0, rfl, rfl, rfl⟩
    · obtain ⟨n, o, h1, h2, h3⟩ := rfIx_mem h
      exact ⟨n + 1, o, by omega, by simpa using h2, by simpa using h3⟩
  | .own i0 :: xs, .d _ _ :: as, j, i, k, h => by
    simp only [rfIx] at h
    obtain ⟨n, o, h1, h2, h3⟩ := rfIx_mem h
    exact ⟨n + 1, o, by omega, by simpa using h2, by simpa using h3⟩
  | .own i0 :: xs, .ro _ :: as, j, i, k, h => by
    simp only [rfIx] at h
    obtain ⟨n, o, h1, h2, h3⟩ := rfIx_mem h
    exact ⟨n + 1, o, by omega, by simpa using h2, by simpa using h3⟩
  | .sh _ :: xs, _ :: as, j, i, k, h => by
    simp only [rfIx] at h
    obtain ⟨n, o, h1, h2, h3⟩ := rfIx_mem h
    exact ⟨n + 1, o, by omega, by simpa using h2, by simpa using h3⟩
  | .ar _ :: xs, _ :: as, j, i, k, h => by
    simp only [rfIx] at h
    obtain ⟨n, o, h1, h2, h3⟩ := rfIx_mem h
    exact ⟨n + 1, o, by omega, by simpa using h2, by simpa using h3⟩
  | .fld _ _ :: xs, _ :: as, j, i, k, h => by
    simp only [rfIx] at h
    obtain ⟨n, o, h1, h2, h3⟩ := rfIx_mem h
    exact ⟨n + 1, o, by omega, by simpa using h2, by simpa using h3⟩
theorem rfIx_of : ∀ {xs : List RV} {as : List AD} {j n i : Nat} {o : OD}, xs[n]? = some (.own i) → as[n]? = some (.rf o) → (i, j + n) ∈ rfIx xs as j
  | [], _, _, _, _, _, h, _ => by simp at h
  | _ :: _, [], _, _, _, _, _, h => by simp at h
  | x :: xs, a :: as, j, 0, i, o, h1, h2 => by
    simp at h1 h2
    subst h1
    subst h2
    simp [rfIx]
  | x :: xs, a :: as, j, n + 1, i, o, h1, h2 => by
    have := rfIx_of (j := j + 1) (n := n) (i := i) (o := o) (by simpa using h1) (by simpa using h2)
    rw [show j + (n + 1) = j + 1 + n by omega]
    cases x with
    | own i0 => cases a <;> simp [rfIx, this]
    | _ => simp [rfIx, this]
theorem adsOf_get {m : Bool} {Γ : G} : ∀ {xs : List RV} {as : List AD}, adsOf m Γ xs = some as → xs.length = as.length ∧ ∀ (j : Nat) (a : AD), as[j]? = some a → ∃ x, xs[j]? = some x ∧ adOf m Γ x = some a
  | [], as, h => by
    simp only [adsOf] at h
    cases h
    exact ⟨rfl, fun j a e => by simp at e⟩
  | x :: xs, as, h => by
    simp only [adsOf] at h
    split at h
    · rename_i a as' h1 h2
      cases h
      obtain ⟨g1, g2⟩ := adsOf_get h2
      refine ⟨by simp [g1], fun j b e => ?_⟩
      cases j with
      | zero => simp at e; subst e; exact ⟨x, rfl, h1⟩
      | succ j => simpa using g2 j b (by simpa using e)
    · cases h
section
variable {K : Fg} {F : Fx K} {W : Wd} {σ : L2.St} {Γ : G}
/-- the object of an argument that may be changed -/
theorem adOf_rf {m : Bool} {x : RV} {o : OD} (h : adOf m Γ x = some (.rf o)) : ∃ i s, x = .own i ∧ Γ[i]? = some s ∧ s.own? = some o ∧ (∀ ds, o ≠ .lst ds) ∧ (m = false → o.isIns = false) := by
  have key : ∀ {o' : OD}, odAd m o' = .rf o → o' = o ∧ (∀ ds, o ≠ .lst ds) ∧ (m = false → o.isIns = false) := fun {o'} e => by
    cases o' with
    | lst ds => cases e
    | ins C fs =>
      simp only [odAd] at e
      split at e
      · rename_i z
        cases e
        exact ⟨rfl, (fun ds w => nomatch w), fun w => by rw [z] at w; cases w⟩
      · cases e
    | dK _ => cases e; exact ⟨rfl, (fun ds w => nomatch w), fun _ => rfl⟩
    | dT _ => cases e; exact ⟨rfl, (fun ds w => nomatch w), fun _ => rfl⟩
    | ab _ => cases e; exact ⟨rfl, (fun ds w => nomatch w), fun _ => rfl⟩
  cases x with
  | sh d => cases h
  | ar d => cases h
  | own i =>
    simp only [adOf] at h
    split at h
    · rename_i o' e
      obtain ⟨rfl, b, c⟩ := key (Option.some.inj h)
      exact ⟨i, _, rfl, e, rfl, b, c⟩
    · rename_i o' e
      obtain ⟨rfl, b, c⟩ := key (Option.some.inj h)
      exact ⟨i, _, rfl, e, rfl, b, c⟩
    · cases h
    · cases h
    · cases h
  | fld i path =>
    simp only [adOf] at h
    split at h
    · obtain ⟨o2, _, e⟩ := Option.bind_eq_some_iff.mp h
      split at e
      · split at e <;> cases e
      · split at e <;> cases e
      · cases e
    · cases h
theorem less_S : less W.H (Ex F W.O) = W.S F := rfl
/-- arguments, as a contract wants them -/
theorem gIn_of {m : Bool} {vs : List V} {xs : List RV} {as : List AD} (R : Rel F W σ Γ) (o : VOks F W σ Γ vs xs) (ha : adsOf m Γ xs = some as) (hd : distB (rfIx xs as 0) = true) :
    ∃ ft : Nat → List Addr, GIn K m vs W.H as ft (Ex F W.O) ∧ ∀ i j, (i, j) ∈ rfIx xs as 0 → ft j = W.ft i := by
  obtain ⟨hl, hg⟩ := adsOf_get ha
  let ft : Nat → List Addr := fun j => match xs[j]? with
    | some (.own i) => W.ft i
    | _ => []
  have ftE : ∀ {i j : Nat}, xs[j]? = some (.own i) → ft j = W.ft i := fun {i j} e => by show (match xs[j]? with | some (.own i) => W.ft i | _ => []) = _; rw [e]
  have rfO : ∀ a, Rfs as ft a → ∃ (i j : Nat) (s : Sl) (o : OD), xs[j]? = some (RV.own i) ∧ as[j]? = some (AD.rf o) ∧ Γ[i]? = some s ∧ s.own? = some o ∧ (∀ ds, o ≠ .lst ds) ∧ (m = false → o.isIns = false) ∧ a ∈ W.ft i ∧ W.O a := fun a ⟨j, o1, e, hj⟩ => by
    obtain ⟨x, e1, e2⟩ := hg j _ e
    obtain ⟨i, s, rfl, b1, b2, b3, b4⟩ := adOf_rf e2
    rw [ftE e1] at hj
    exact ⟨i, j, s, o1, e1, e, b1, b2, b3, b4, hj, slot_O (R.slot i s b1) b2 a hj⟩
  refine ⟨ft, ⟨(Paired.length o).trans hl, fun j a e => ?_, fun a z => R.exmo z, fun a z => by obtain ⟨_, _, _, _, _, _, _, _, _, _, _, q⟩ := rfO a z; exact .inr q, fun i j o1 o2 a ne e1 e2 h1 h2 => ?_⟩, fun i j h => ?_⟩
  · obtain ⟨x, e1, e2⟩ := hg j a e
    obtain ⟨v, e3, ov⟩ := paired_get' o e1
    refine ⟨v, e3, ?_⟩
    have apO : ∀ {i : Nat} {s : Sl} {o0 : OD} {b : Addr}, Γ[i]? = some s → s.own? = some o0 → ((∃ ds, o0 = .lst ds) ∨ (m = false ∧ o0.isIns = true)) → b ∈ W.ft i → ¬ Rfs as ft b := fun {i s o0 b} h1 h2 hk hb z => by
      obtain ⟨i', j', s', o', _, _, c3, c4, c5, c6, c7, _⟩ := rfO b z
      by_cases q : i = i'
      · subst q
        rw [h1] at c3
        cases c3
        rw [h2] at c4
        cases c4
        rcases hk with ⟨ds, hk⟩ | ⟨hk, hk2⟩
        · exact c5 ds hk
        · rw [c6 hk] at hk2; cases hk2
      · exact R.dis i i' s s' o0 o' b q h1 c3 h2 c4 hb c7
    have roS : ∀ {i : Nat} {s : Sl} {o0 : OD} {p : Addr}, m = false ∨ (∃ o1, s = .ro o1) → Γ[i]? = some s → s.ins? = some o0 → σ[i]? = some (some (.ref p)) → ∃ g, (∀ b ∈ g, ¬ Rfs as ft b ∧ Ex F W.O b) ∧ OwnO K (W.S F) W.H o0 p g := fun {i s o0 p} hm h1 h2 h3 => by
      obtain ⟨p', f, g1, g2, g3, g4⟩ := R.insOkX h1 h2
      rw [h3] at g1
      cases g1
      refine ⟨f, fun b hb => ⟨fun z => ?_, g4 b hb⟩, g2⟩
      obtain ⟨_, _, _, _, _, _, _, _, _, _, _, q⟩ := rfO b z
      obtain ⟨w1, w2⟩ := g3 b hb q
      rcases hm with hm | ⟨o1, hm⟩
      · refine apO h1 w2 (.inr ⟨hm, ?_⟩) w1 z
        cases s with
        | ow q => cases (insO_eq h2).1; exact (insO_eq h2).2
        | rf q => cases (insO_eq h2).1; exact (insO_eq h2).2
        | _ => cases w2
      · rw [hm] at w2
        cases w2
    cases x with
    | sh d => cases e2; exact ov
    | ar d =>
      simp only [adOf, Option.some.injEq] at e2
      subst e2
      cases t : tupO d with
      | true => exact VOk.sh R ov (by simp [shOf, t])
      | false =>
        refine Dq.same (same_less fun b u nx e => ⟨fun z => ?_, R.base b u e nx⟩) (show Dq K (less F.H0 F.rf) v d from ov)
        obtain ⟨_, _, _, _, _, _, _, _, _, _, _, q⟩ := rfO b z
        rcases R.new b q with w | w
        · rw [w] at e; cases e
        · exact nx w
    | own i =>
      obtain ⟨s, h1, h2, h3⟩ := ov
      have lst : ∀ {o0 : OD}, s.own? = some o0 → a = odAd m o0 → ArgOk K W.H (Ex F W.O) (Rfs as ft) (ft j) v a := fun {o0} hs ea => by
        obtain ⟨p, hp⟩ := own_ref R h1 hs
        rw [h3] at hp
        cases hp
        have ok := own_at R h1 hs h3
        have rfc : a = .rf o0 → ArgOk K W.H (Ex F W.O) (Rfs as ft) (ft j) (.ref p) a := fun ea => by
          subst ea
          refine ⟨p, rfl, ?_⟩
          rw [ftE e1]
          exact ownO_ok.mpr ok
        cases o0 with
        | lst ds =>
          subst ea
          obtain ⟨hf, us, q1, q2⟩ := ok
          refine .lst (less_some.mpr ⟨apO h1 hs (.inl ⟨ds, rfl⟩) (by rw [hf]; simp), q1⟩) (q2.same (same_less fun b u nx e => ⟨fun z => ?_, e⟩))
          obtain ⟨_, _, _, _, _, _, _, _, _, _, _, q⟩ := rfO b z
          exact nx (.inr q)
        | dK _ => exact rfc ea
        | dT _ => exact rfc ea
        | ab _ => exact rfc ea
        | ins C fs =>
          simp only [odAd] at ea
          split at ea
          · exact rfc ea
          · rename_i nm
            subst ea
            have hi : s.ins? = some (.ins C fs) := by
              cases s with
              | ow q => cases hs; rfl
              | rf q => cases hs; rfl
              | _ => cases hs
            obtain ⟨g, g1, g2⟩ := roS (.inl (by cases m <;> first | rfl | exact (nm rfl).elim)) h1 hi h3
            exact ⟨rfl, p, g, rfl, g1, g2⟩
      simp only [adOf, h1] at e2
      cases s with
      | no => cases e2
      | ar _ => cases e2
      | sh d =>
        cases e2
        obtain ⟨v', q1, q2⟩ := R.slot i _ h1
        rw [h3] at q1
        cases q1
        exact q2
      | ow o0 => exact lst rfl (Option.some.inj e2).symm
      | rf o0 => exact lst rfl (Option.some.inj e2).symm
      | ro o0 =>
        cases e2
        obtain ⟨p, f, q1, q2, q3, _⟩ := R.slot i _ h1
        rw [h3] at q1
        cases q1
        obtain ⟨g, g1, g2⟩ := roS (o0 := o0) (.inr ⟨o0, rfl⟩) h1 (by simp [Sl.ins?, insO, q3]) h3
        exact ⟨q3, p, g, rfl, g1, g2⟩
    | fld i path =>
      obtain ⟨s, p, o2, h1, h2, h3, h4⟩ := ov
      simp only [adOf, h1, h2, Option.bind_some] at e2
      obtain ⟨p', f, g1, g2, g3, g4⟩ := R.insOkX h1 h2
      rw [h3] at g1
      cases g1
      have away : m = false → ∀ b ∈ f, ¬ Rfs as ft b := fun hm b hb z => by
        obtain ⟨i', j', s', o', c1, c2, c3, c4, c5, c6, c7, c8⟩ := rfO b z
        obtain ⟨w1, w2⟩ := g3 b hb c8
        refine apO h1 w2 (.inr ⟨hm, ?_⟩) w1 z
        cases s with
        | ow q => cases (insO_eq h2).1; exact (insO_eq h2).2
        | rf q => cases (insO_eq h2).1; exact (insO_eq h2).2
        | _ => cases w2
      have mF : ¬ m = true → m = false := fun nm => by cases m <;> first | rfl | exact (nm rfl).elim
      split at e2
      · rename_i ds e4
        split at e2
        · cases e2
        rename_i nm
        cases e2
        obtain ⟨q, F', rfl, hF, hO⟩ := g2.path e4 h4
        simp only [OwnO] at hO
        obtain ⟨rfl, us, q1, q2⟩ := hO
        refine .lst (less_some.mpr ⟨away (mF nm) q (hF q (by simp)), q1⟩) (q2.same (same_less fun b u nx e => ⟨fun z => ?_, e⟩))
        obtain ⟨_, _, _, _, _, _, _, _, _, _, _, q⟩ := rfO b z
        exact nx (.inr q)
      · rename_i C fs e4
        split at e2
        · cases e2
        rename_i nm
        cases e2
        obtain ⟨q, F', rfl, hF, hO⟩ := g2.path e4 h4
        exact ⟨rfl, q, F', rfl, fun b hb => ⟨away (mF nm) b (hF b hb), g4 b (hF b hb)⟩, hO⟩
      · cases e2
  · obtain ⟨x1, c1, c2⟩ := hg i _ e1
    obtain ⟨x2, d1, d2⟩ := hg j _ e2
    obtain ⟨i1, s1, rfl, b1, b2, _⟩ := adOf_rf c2
    obtain ⟨i2, s2, rfl, b3, b4, _⟩ := adOf_rf d2
    rw [ftE c1] at h1
    rw [ftE d1] at h2
    have ne2 : i1 ≠ i2 := fun z => by
      subst z
      have m1 := rfIx_of (j := 0) c1 e1
      have m2 := rfIx_of (j := 0) d1 e2
      have a1 := ixM_mem (os := fun j => .lst [.int j]) (ft := fun _ => []) hd m1
      have a2 := ixM_mem (os := fun j => .lst [.int j]) (ft := fun _ => []) hd m2
      rw [a1] at a2
      simp at a2
      omega
    exact R.dis i1 i2 s1 s2 _ _ a ne2 b1 b3 b2 b4 h1 h2
  · obtain ⟨n, o1, rfl, h1, h2⟩ := rfIx_mem h
    rw [Nat.zero_add]
    exact ftE h1
/-- an answer, where it stands; what is new was nobody's ahead of it -/
def RtOk {K : Fg} (F : Fx K) (W0 : Wd) (Γ0 : G) (W : Wd) (Γ : G) (v : V) : RT → Prop
  | .d d => Dq K (W.S F) v d
  | .nw o => ∃ p f, v = .ref p ∧ OwnO K (W.S F) W.H o p f ∧ ∀ a ∈ f, (Tm W Γ a ∧ F.H0 a = none ∧ ¬ F.rf a) ∧ ¬ Tm W0 Γ0 a
theorem ixM_rf {m : Bool} {vs : List V} {xs : List RV} {as : List AD} {os : Nat → OD} {ft : Nat → List Addr} {i : Nat} {n : OD × List Addr} (h : ixM os ft (rfIx xs as 0) i = some n) : ∃ j o, n = (os j, ft j) ∧ (i, j) ∈ rfIx xs as 0 ∧ xs[j]? = some (.own i) ∧ as[j]? = some (AD.rf o) := by
  obtain ⟨j, h1, h2⟩ := ixM_some h
  obtain ⟨k, o, rfl, h3, h4⟩ := rfIx_mem h1
  rw [Nat.zero_add] at h1 h2
  exact ⟨k, o, h2, h1, h3, h4⟩
theorem osL_ix (os : Nat → OD) : ∀ {xs : List RV} {as : List AD} {j : Nat}, xs.length = as.length → (∀ (n : Nat) (o : OD), as[n]? = some (.rf o) → ∃ i, xs[n]? = some (.own i)) → osL os as j = (rfIx xs as j).map fun q => os q.2
  | [], [], _, _, _ => rfl
  | [], _ :: _, _, h, _ => by simp at h
  | _ :: _, [], _, h, _ => by simp at h
  | x :: xs, a :: as, j, h, hr => by
    have ih := osL_ix os (xs := xs) (as := as) (j := j + 1) (by simpa using h) fun n o e => by simpa using hr (n + 1) o (by simpa using e)
    cases a with
    | rf o =>
      obtain ⟨i, e⟩ := hr 0 o rfl
      simp at e
      subst e
      simp only [osL, rfIx, List.map_cons, ih]
    | d d z => cases x <;> simp only [osL, rfIx, ih]
    | ro o => cases x <;> simp only [osL, rfIx, ih]
theorem callG {m : Bool} {C : Ct} {vs : List V} {xs : List RV} {as : List AD} {Q : VK} {E : XK} {Qd : RT → List OD → Prop} {Qx : Value → List OD → Prop} (R : Rel F W σ Γ) (o : VOks F W σ Γ vs xs) (ha : adsOf m Γ xs = some as) (hd : distB (rfIx xs as 0) = true) (hu : uniB Γ (rfIx xs as 0) = true) (hc : C as Qd Qx)
    (kd : ∀ (r : RT) (ol : List OD) (W' : Wd) (v : V), StM m F W Γ W' (putOL ol (rfIx xs as 0) Γ) → Rel F W' σ (putOL ol (rfIx xs as 0) Γ) → RtOk F W Γ W' (putOL ol (rfIx xs as 0) Γ) v r → Qd r ol → Q v W'.H)
    (kx : ∀ (c : Value) (ol : List OD) (W' : Wd), StM m F W Γ W' (putOL ol (rfIx xs as 0) Γ) → Rel F W' σ (putOL ol (rfIx xs as 0) Γ) → Qx c ol → E c none W'.H) : GSp K m C vs W.H Q E := by
  obtain ⟨ft, hin, hft⟩ := gIn_of R o ha hd
  obtain ⟨hl, hg⟩ := adsOf_get ha
  have eL : ∀ os : Nat → OD, putOL (osL os as 0) (rfIx xs as 0) Γ = putOs os (rfIx xs as 0) Γ := fun os => by
    rw [osL_ix os hl fun n o e => by
      obtain ⟨x, e1, e2⟩ := hg n _ e
      obtain ⟨i, s, rfl, _⟩ := adOf_rf e2
      exact ⟨i, e1⟩, putOL_os]
  have fin : ∀ {H' : Hp} {os : Nat → OD} {ft' : Nat → List Addr} {T : Addr → Prop}, GOut K vs W.H as ft (Ex F W.O) H' os ft' T →
      ChOk F W σ Γ (ixM os ft' (rfIx xs as 0)) H' T ∧ ∀ a, (Ex F W.O a ∨ Rfs as ft' a ∨ T a) ↔ Ex F (chW W (ixM os ft' (rfIx xs as 0)) H' T).O a := fun {H' os ft' T} g => by
    have rN : ∀ a, Rfs as ft' a ↔ chN (ixM os ft' (rfIx xs as 0)) a := fun a => by
      constructor
      · rintro ⟨j, o1, e, hj⟩
        obtain ⟨x, e1, e2⟩ := hg j _ e
        obtain ⟨i, s, rfl, _⟩ := adOf_rf e2
        have := rfIx_of (j := 0) e1 e
        rw [Nat.zero_add] at this
        exact ⟨i, _, _, ixM_mem hd this, hj⟩
      · rintro ⟨i, o1, f1, e, hj⟩
        obtain ⟨j, o2, e1, e2, e3, e4⟩ := ixM_rf (m := m) (vs := vs) e
        cases e1
        exact ⟨j, o2, e4, hj⟩
    have rR : ∀ a, Rfs as ft a ↔ chR W (ixM os ft' (rfIx xs as 0)) a := fun a => by
      constructor
      · rintro ⟨j, o1, e, hj⟩
        obtain ⟨x, e1, e2⟩ := hg j _ e
        obtain ⟨i, s, rfl, _⟩ := adOf_rf e2
        have := rfIx_of (j := 0) e1 e
        rw [Nat.zero_add] at this
        exact ⟨i, _, ixM_mem hd this, by rw [← hft i j this]; exact hj⟩
      · rintro ⟨i, n, e, hj⟩
        obtain ⟨j, o2, e1, e2, e3, e4⟩ := ixM_rf (m := m) (vs := vs) e
        exact ⟨j, o2, e4, by rw [hft i j e2]; exact hj⟩
    have eX : ∀ a, (Ex F W.O a ∨ Rfs as ft' a ∨ T a) ↔ Ex F (chW W (ixM os ft' (rfIx xs as 0)) H' T).O a := fun a => by
      show ((F.ex a ∨ W.O a) ∨ Rfs as ft' a ∨ T a) ↔ (F.ex a ∨ (W.O a ∨ chN (ixM os ft' (rfIx xs as 0)) a ∨ T a))
      rw [rN a]
      constructor
      · rintro ((z | z) | z | z)
        · exact .inl z
        · exact .inr (.inl z)
        · exact .inr (.inr (.inl z))
        · exact .inr (.inr (.inr z))
      · rintro (z | z | z | z)
        · exact .inl (.inl z)
        · exact .inl (.inr z)
        · exact .inr (.inl z)
        · exact .inr (.inr z)
    have kind : ∀ (f : Option Sl → Bool), (rfIx xs as 0).all (fun q => f Γ[q.1]?) = true → ∀ i n s, ixM os ft' (rfIx xs as 0) i = some n → Γ[i]? = some s → f (some s) = true := fun f ha i n s e h1 => by
      obtain ⟨j, o2, e1, e2, e3, e4⟩ := ixM_rf (m := m) (vs := vs) e
      have := List.all_eq_true.mp ha _ e2
      rw [show Γ[(i, j).1]? = some s from h1] at this
      exact this
    refine ⟨⟨fun a u n e => g.fr a u (fun z => n ((rR a).mp z)) e, fun a z => ?_, fun a z => ?_, fun i n e => ?_, fun i k n n2 a ne e1 e2 h1 h2 => ?_, fun a z => ⟨(g.tn a z).1, fun y => (g.tn a z).2.1 ((rN a).mpr y), (g.tn a z).2.2⟩, ?_⟩, eX⟩
    · exact (g.nw a ((rN a).mpr z)).imp (rR a).mp id
    · rcases z with z | z
      · exact g.mo a ((rR a).mpr z)
      · obtain ⟨j, o1, e, hj⟩ := (rN a).mpr z
        obtain ⟨p, _, q, _⟩ := g.ob j o1 e
        exact q.mo a hj
    · obtain ⟨j, o2, rfl, e2, e3, e4⟩ := ixM_rf (m := m) (vs := vs) e
      obtain ⟨x, c1, c2⟩ := hg j _ e4
      rw [e3] at c1
      cases c1
      obtain ⟨i', s, z, b1, b2, b3, b4⟩ := adOf_rf c2
      cases z
      obtain ⟨p, q1, q2, q3, q4⟩ := g.ob j o2 e4
      obtain ⟨v, w1, w2⟩ := paired_get' o e3
      rw [q1] at w1
      cases w1
      obtain ⟨_, _, _, w3⟩ := w2
      refine ⟨s, o2, p, b1, b2, w3, ?_, fun z => ?_, q3⟩
      · exact OwnO.keep (same_less fun a u nx e => ⟨fun z => nx ((eX a).mpr z), e⟩) (fun _ _ _ e => e) q2 fun _ _ => rfl
      · rw [← hft i j e2]
        exact q4 (by rw [← q3]; exact z)
    · obtain ⟨j, o2, rfl, b2, b3, b4⟩ := ixM_rf (m := m) (vs := vs) e1
      obtain ⟨l, o3, rfl, d2, d3, d4⟩ := ixM_rf (m := m) (vs := vs) e2
      have njl : j ≠ l := fun z => by
        subst z
        rw [b3] at d3
        cases d3
        exact ne rfl
      exact g.dj j l o2 o3 a njl b4 d4 h1 h2
    · simp only [uniB, Bool.or_eq_true] at hu
      rcases hu with hu | hu
      · left
        intro i n s e h1
        have := kind isOw hu i n s e h1
        cases s <;> first | exact ⟨_, rfl⟩ | cases this
      · right
        intro i n s e h1
        have := kind isRfS hu i n s e h1
        cases s <;> first | exact ⟨_, rfl⟩ | cases this
  have stm : ∀ {H' : Hp} {os : Nat → OD} {ft' : Nat → List Addr} {T : Addr → Prop}, GOut K vs W.H as ft (Ex F W.O) H' os ft' T → ChOk F W σ Γ (ixM os ft' (rfIx xs as 0)) H' T → StM m F W Γ (chW W (ixM os ft' (rfIx xs as 0)) H' T) (putOs os (rfIx xs as 0) Γ) := fun {H' os ft' T} g c => by
    rw [← putOs_ch (ft := ft') hd]
    refine R.objsM c (fun hm i n e => ?_) fun hm a ⟨i, n, e, hj⟩ => ?_
    · obtain ⟨j, o2, rfl, e2, e3, e4⟩ := ixM_rf (m := m) (vs := vs) e
      obtain ⟨x, c1, c2⟩ := hg j _ e4
      obtain ⟨_, _, _, _, _, _, b4⟩ := adOf_rf c2
      obtain ⟨p, q1, q2, q3, q4⟩ := g.ob j o2 e4
      rw [show (os j, ft' j).1 = os j from rfl, q3]
      exact b4 hm
    · obtain ⟨j, o2, rfl, e2, e3, e4⟩ := ixM_rf (m := m) (vs := vs) e
      obtain ⟨x, c1, c2⟩ := hg j _ e4
      rw [e3] at c1
      cases c1
      obtain ⟨i', s, z, b1, b2, b3, b4⟩ := adOf_rf c2
      cases z
      obtain ⟨p, hp⟩ := own_ref R b1 b2
      exact OwnO.notIns (ownO_ok.mpr (own_at R b1 b2 hp)) (b4 hm) a hj
  refine ⟨as, ft, Ex F W.O, Qd, Qx, hin, hc, fun v H' os ft' T r g ok q => ?_, fun c H' os ft' g q => ?_⟩
  · obtain ⟨c, eX⟩ := fin g
    have R2 := (R.objs c).1
    rw [putOs_ch hd] at R2
    refine kd r (osL os as 0) _ v (by rw [eL]; exact stm g c) (by rw [eL]; exact R2) ?_ q
    rw [eL]
    have sS : Same (less H' fun a => Ex F W.O a ∨ Rfs as ft' a ∨ T a) ((chW W (ixM os ft' (rfIx xs as 0)) H' T).S F) := same_less fun a u nx e => ⟨fun z => nx ((eX a).mpr z), e⟩
    cases r with
    | d d => exact ok.1.same sS
    | nw o1 =>
      obtain ⟨p, f, rfl, q1, q2⟩ := ok
      refine ⟨p, f, rfl, OwnO.keep sS (fun _ _ _ e => e) q1 fun _ _ => rfl, fun a ha => ?_⟩
      have := c.tm R ((q2 a).mpr ha)
      rw [putOs_ch hd] at this
      refine ⟨this, fun z => ?_⟩
      have m := R.mu a z.1
      rw [(c.tn a ((q2 a).mpr ha)).1] at m
      exact m
  · obtain ⟨ch, eX⟩ := fin g
    have R2 := (R.objs ch).1
    rw [putOs_ch hd] at R2
    exact kx c (osL os as 0) _ (by rw [eL]; exact stm g ch) (by rw [eL]; exact R2) q
end
end Dk

namespace Dk
open PySem PySem.Spec PyProof.Rows L2
/-! ### expressions that may raise, and change instances -/
abbrev TEXd := G → (RV → G → Prop) → (Value → G → Prop) → Prop
abbrev TAXd := G → (List RV → G → Prop) → (Value → G → Prop) → Prop
abbrev TGCd := G → (RT → G → Prop) → (Value → G → Prop) → Prop
class SEX (K : Fg) (Xw : WX) (m : outParam Bool) (t : TE) (d : outParam TEXd) : Prop where
  run : ∀ (F : Fx K) (W : Wd) (σ : L2.St) (Γ : G) (Q : VK) (Qd : RV → G → Prop) (Qx : Value → G → Prop), Rel F W σ Γ → d Γ Qd Qx →
    (∀ (rv : RV) (W' : Wd) (Γ' : G) (v : V), StM m F W Γ W' Γ' → Rel F W' σ Γ' → VOk F W' σ Γ' v rv → Qd rv Γ' → Q v W'.H) →
    (∀ (c : Value) (W' : Wd) (Γ' : G), Same (W.S F) (W'.S F) → Rel F W' σ Γ' → Qx c Γ' → Xw c none σ W'.H) → t σ W.H Q
class SAX (K : Fg) (Xw : WX) (m : outParam Bool) (t : TA) (d : outParam TAXd) : Prop where
  run : ∀ (F : Fx K) (W : Wd) (σ : L2.St) (Γ : G) (Q : List V → Hp → Prop) (Qd : List RV → G → Prop) (Qx : Value → G → Prop), Rel F W σ Γ → d Γ Qd Qx →
    (∀ (xs : List RV) (W' : Wd) (Γ' : G) (vs : List V), StM m F W Γ W' Γ' → Rel F W' σ Γ' → VOks F W' σ Γ' vs xs → Qd xs Γ' → Q vs W'.H) →
    (∀ (c : Value) (W' : Wd) (Γ' : G), Same (W.S F) (W'.S F) → Rel F W' σ Γ' → Qx c Γ' → Xw c none σ W'.H) → t σ W.H Q
class SEG (K : Fg) (Xw : WX) (m : outParam Bool) (t : TE) (d : outParam TGCd) : Prop where
  run : ∀ (F : Fx K) (W : Wd) (σ : L2.St) (Γ : G) (Q : VK) (Qd : RT → G → Prop) (Qx : Value → G → Prop), Rel F W σ Γ → d Γ Qd Qx →
    (∀ (r : RT) (W' : Wd) (Γ' : G) (v : V), StM m F W Γ W' Γ' → Rel F W' σ Γ' → RtOk F W Γ W' Γ' v r → Qd r Γ' → Q v W'.H) →
    (∀ (c : Value) (W' : Wd) (Γ' : G), Same (W.S F) (W'.S F) → Rel F W' σ Γ' → Qx c Γ' → Xw c none σ W'.H) → t σ W.H Q
def dLiftE (d : TEd) : TEXd := fun Γ Q _ => d Γ Q
def dLiftA (d : TAd) : TAXd := fun Γ Q _ => d Γ Q
section
variable {K : Fg} {Xw : WX} {m m1 m2 : Bool} {t : TE} {ta : TE} {ts : TA}
instance sex_se {d : TEd} [A : SE K t d] : SEX K Xw false t (dLiftE d) := ⟨fun F W σ Γ Q Qd Qx R q k _ => A.run F W σ Γ _ _ R q fun x W' Γ' v s R' o q => k x W' Γ' v s R' o q⟩
instance (priority := high) sax_sa {d : TAd} [A : SA K ts d] : SAX K Xw false ts (dLiftA d) := ⟨fun F W σ Γ Q Qd Qx R q k _ => A.run F W σ Γ _ _ R q fun x W' Γ' v s R' o q => k x W' Γ' v s R' o q⟩
def dConsX (m2 : Bool) (da : TEXd) (d : TAXd) : TAXd := fun Γ Q X => da Γ (fun x Γ1 => stayM m2 x = true ∧ d Γ1 (fun xs Γ2 => Q (x :: xs) Γ2) X) X
instance sax_cons {da : TEXd} {d : TAXd} [A : SEX K Xw m1 ta da] [B : SAX K Xw m2 ts d] : SAX K Xw (m1 || m2) (tCons ta ts) (dConsX m2 da d) := ⟨fun F W σ Γ Q Qd Qx R q k kx => A.run F W σ Γ _ _ _ R q (fun x W1 Γ1 v s1 R1 o1 ⟨hs, q⟩ => B.run F W1 σ Γ1 _ _ _ R1 q (fun xs W2 Γ2 vs s2 R2 o2 q => k (x :: xs) W2 Γ2 (v :: vs) (s1.trans s2) R2 (.cons (o1.stm s2 hs) o2) q) fun c W2 Γ2 s2 R2 q => kx c W2 Γ2 (s1.stx.sh.trans s2) R2 q) fun c W' Γ' s R' q => kx c W' Γ' s R' q⟩
/-! new things without a name: let be, or named -/
theorem Rel.letgo {F : Fx K} {W : Wd} {σ : L2.St} {Γ : G} (R : Rel F W σ Γ) {f : List Addr} (hf : ∀ a ∈ f, Tm W Γ a ∧ F.H0 a = none ∧ ¬ F.rf a) : Rel F ⟨fun a => W.O a ∧ a ∉ f, W.ft, W.H⟩ σ Γ ∧ Same (W.S F) (Wd.S (K := K) ⟨fun a => W.O a ∧ a ∉ f, W.ft, W.H⟩ F) := by
  have hs : Same (W.S F) (Wd.S (K := K) ⟨fun a => W.O a ∧ a ∉ f, W.ft, W.H⟩ F) := same_less fun a u nx e => ⟨fun z => nx (z.imp id And.left), e⟩
  refine ⟨⟨R.base, fun a ha => R.new a ha.1, fun a ha => R.mu a ha.1, fun a ha => ⟨R.rfo a ha, fun z => (hf a z).2.2 ha⟩, R.len, fun j s e => ?_, R.dis⟩, hs⟩
  have z := R.slot j s e
  have keep : ∀ a ∈ W.ft j, ∀ o, s.own? = some o → a ∉ f := fun a ha o so hm => (hf a hm).1.2 j s o e so ha
  cases s with
  | no => trivial
  | sh d => obtain ⟨v, q1, q2⟩ := z; exact ⟨v, q1, q2.same hs⟩
  | ar d => exact z
  | ro o => exact z
  | ow o =>
    obtain ⟨p, a1, a2, a3⟩ := z
    exact ⟨p, a1, fun a ha => ⟨⟨(a2 a ha).1, keep a ha o rfl⟩, (a2 a ha).2⟩, a3.keep hs (fun _ _ => rfl) fun _ _ _ z => z⟩
  | rf o =>
    obtain ⟨p, a0, a1, a2, a3⟩ := z
    exact ⟨p, a0, a1, fun a ha => ⟨a2 a ha, keep a ha o rfl⟩, a3.keep hs (fun _ _ => rfl) fun _ _ _ z => z⟩
theorem Rel.setTm {F : Fx K} {W : Wd} {σ : L2.St} {Γ : G} (R : Rel F W σ Γ) {i : Nat} {p : Addr} {f : List Addr} {o : OD} (hf : ∀ a ∈ f, Tm W Γ a ∧ F.H0 a = none ∧ ¬ F.rf a) (hO : OwnO K (W.S F) W.H o p f) : Rel F ⟨W.O, fun j => if j = i then f else W.ft j, W.H⟩ (σ.set i (some (.ref p))) (Γ.set i (.ow o)) := by
  have ft1 : ∀ j, j ≠ i → (if j = i then f else W.ft j) = W.ft j := fun j n => if_neg n
  refine ⟨R.base, R.new, R.mu, R.rfo, by simp [R.len], fun j s e => ?_, fun j k s t oj ok a ne e1 e2 g1 g2 => ?_⟩
  · rcases get_set _ _ _ _ _ e with ⟨rfl, rfl, hl⟩ | ⟨ne, e⟩
    · refine ⟨p, get_set_same (by rw [R.len]; exact hl), ?_, ?_⟩
      · show ∀ a ∈ (if j = j then f else W.ft j), _
        rw [if_pos rfl]
        exact fun a ha => ⟨(hf a ha).1.1, (hf a ha).2.2⟩
      · show OwnOk K _ _ p (if j = j then f else W.ft j) o
        rw [if_pos rfl]
        exact ownO_ok.mp hO
    · rw [List.getElem?_set_ne (Ne.symm ne)]
      exact (R.slot j s e).keep (W' := ⟨W.O, fun j => if j = i then f else W.ft j, W.H⟩) (ft1 j ne) (Same.refl _) (fun _ _ z => z) (fun _ _ _ => rfl) fun _ _ _ z => z
  · intro ha hb
    rcases get_set _ _ _ _ _ e1 with ⟨q1, _, _⟩ | ⟨n1, h1⟩
    · rcases get_set _ _ _ _ _ e2 with ⟨q2, _, _⟩ | ⟨n2, h2⟩
      · exact ne (q1.trans q2.symm)
      · have ha' : a ∈ f := by subst q1; simpa using ha
        have hb' : a ∈ W.ft k := by have := hb; simp only [if_neg n2] at this; exact this
        exact (hf a ha').1.2 k t ok h2 g2 hb'
    · have ha' : a ∈ W.ft j := by have := ha; simp only [if_neg n1] at this; exact this
      rcases get_set _ _ _ _ _ e2 with ⟨q2, _, _⟩ | ⟨n2, h2⟩
      · have hb' : a ∈ f := by subst q2; simpa using hb
        exact (hf a hb').1.2 j s oj h1 g1 ha'
      · have hb' : a ∈ W.ft k := by have := hb; simp only [if_neg n2] at this; exact this
        exact R.dis j k s t oj ok a ne h1 h2 g1 g2 ha' hb'
/-- an answer as data -/
def rtD : RT → Option PyData
  | .d d => some d
  | .nw o => odD o
theorem StM.letgo {m : Bool} {F : Fx K} {W : Wd} {Γ : G} {W0 : Wd} {Γ0 : G} (s : StM m F W0 Γ0 W Γ) {f : List Addr} (hf : ∀ a ∈ f, ¬ Tm W0 Γ0 a) : StM m F W0 Γ0 ⟨fun a => W.O a ∧ a ∉ f, W.ft, W.H⟩ Γ := by
  have hs : Same (W.S F) (Wd.S (K := K) ⟨fun a => W.O a ∧ a ∉ f, W.ft, W.H⟩ F) := same_less fun a u nx e => ⟨fun z => nx (z.imp id And.left), e⟩
  have kq : Kq F W0 Γ0 ⟨fun a => W.O a ∧ a ∉ f, W.ft, W.H⟩ Γ := ⟨s.stx.sh.trans hs, fun p t => by
    obtain ⟨a1, a2⟩ := s.stx.tmp p t
    exact ⟨⟨⟨a1.1, fun z => hf p z t⟩, a1.2⟩, a2⟩⟩
  cases m with
  | true => exact ⟨kq, s.stx.kin, s.stx.len⟩
  | false => exact ⟨⟨kq, (show Stp F W0 Γ0 W Γ from s).obj⟩, (show Stp F W0 Γ0 W Γ from s).kin, s.stx.len⟩
theorem RtOk.of {m : Bool} {F : Fx K} {W0 W W' : Wd} {Γ0 Γ Γ' : G} {v : V} {r : RT} (s : StM m F W0 Γ0 W Γ) (h : RtOk F W Γ W' Γ' v r) : RtOk F W0 Γ0 W' Γ' v r := by
  cases r with
  | d d => exact h
  | nw o =>
    obtain ⟨p, f, h1, h2, h3⟩ := h
    exact ⟨p, f, h1, h2, fun a ha => ⟨(h3 a ha).1, fun z => (h3 a ha).2 (s.stx.tmp a z).1⟩⟩
/-- an answer, read as data -/
theorem RtOk.data {m : Bool} {F : Fx K} {W0 W : Wd} {σ : L2.St} {Γ0 Γ : G} {v : V} {r : RT} {d : PyData} (s : StM m F W0 Γ0 W Γ) (R : Rel F W σ Γ) (h : RtOk F W0 Γ0 W Γ v r) (e : rtD r = some d) : ∃ W' : Wd, W'.H = W.H ∧ StM m F W0 Γ0 W' Γ ∧ Rel F W' σ Γ ∧ Dq K (W'.S F) v d := by
  cases r with
  | d d' => cases e; exact ⟨W, rfl, s, R, h⟩
  | nw o =>
    obtain ⟨p, f, rfl, h2, h3⟩ := h
    obtain ⟨R', hs⟩ := R.letgo fun a ha => (h3 a ha).1
    refine ⟨⟨fun a => W.O a ∧ a ∉ f, W.ft, W.H⟩, rfl, s.letgo fun a ha => (h3 a ha).2, R', ?_⟩
    have nx : ∀ a ∈ f, ¬ Ex F (fun a => W.O a ∧ a ∉ f) a := fun a ha z => by
      rcases z with z | z
      · have := F.xm a z
        rw [(h3 a ha).1.2.1] at this
        exact this
      · exact z.2 ha
    cases o with
    | lst ds =>
      cases e
      simp only [OwnO] at h2
      obtain ⟨rfl, vs, q1, q2⟩ := h2
      exact .lst (less_some.mpr ⟨nx p (by simp), q1⟩) (q2.same hs)
    | dK kvs =>
      cases e
      simp only [OwnO] at h2
      obtain ⟨rfl, vs, q1, q2⟩ := h2
      exact .dct (.inl (less_some.mpr ⟨nx p (by simp), q1⟩)) ((kvOk_dq q2).same hs)
    | _ => cases e
end
/-! ### calls -/
def dVal (d : TGCd) : TEXd := fun Γ Q X => d Γ (fun r Γ1 => ∃ x, rtD r = some x ∧ Q (.sh x) Γ1) X
/-- what is asked of the arguments of a call, and what follows -/
def dArgs (m : Bool) (C : Ct) (xs : List RV) (Γ : G) (Q : RT → G → Prop) (X : Value → G → Prop) : Prop := ∃ as, adsOf m Γ xs = some as ∧ distB (rfIx xs as 0) = true ∧ uniB Γ (rfIx xs as 0) = true ∧ C as (fun r ol => Q r (putOL ol (rfIx xs as 0) Γ)) fun c ol => X c (putOL ol (rfIx xs as 0) Γ)
def dCallG (m : Bool) (C : Ct) (d : TAXd) : TGCd := fun Γ Q X => d Γ (fun xs Γ1 => dArgs m C xs Γ1 Q X) X
def dCallGN (m : Bool) (C : Ct) (d : TAXd) : TGCd := fun Γ Q X => d Γ (fun xs Γ1 => dArgs m C xs Γ1 Q fun _ _ => False) X
/-- an instance, by a name or an attribute -/
def insAt (Γ : G) : RV → Option OD
  | .own i => match Γ[i]? with
    | some s => s.ins?
    | none => none
  | .fld i path => match Γ[i]? with
    | some s => s.ins?.bind fun o => (o.at_ path).bind insO
    | none => none
  | _ => none
def dMethG (cl : Addr) (nm : Str) (m m2 : Bool) (C : Ct) (dr : TEd) (d : TAXd) : TGCd := fun Γ Q X => dr Γ fun x Γ1 => ∃ fs, insAt Γ1 x = some (.ins cl fs) ∧ fs.has nm = false ∧ d Γ1 (fun xs Γ2 => stayM m2 x = true ∧ dArgs m C (x :: xs) Γ2 Q X) X
def dMethGN (cl : Addr) (nm : Str) (m m2 : Bool) (C : Ct) (dr : TEd) (d : TAXd) : TGCd := fun Γ Q X => dr Γ fun x Γ1 => ∃ fs, insAt Γ1 x = some (.ins cl fs) ∧ fs.has nm = false ∧ d Γ1 (fun xs Γ2 => stayM m2 x = true ∧ dArgs m C (x :: xs) Γ2 Q fun _ _ => False) X
theorem FsOk.none {K : Fg} {S H : Hp} {f : Str} : ∀ {fs : Fs} {vs : List (Str × V)} {qs : List Addr}, FsOk K S H fs vs qs → fs.has f = false → vs.lookup f = none
  | .nil, _, _, h, _ => by simp only [FsOk] at h; rw [h.1]; rfl
  | .sh g d r, _, _, h, e => by
    simp only [FsOk] at h
    obtain ⟨v, vs', rfl, _, h2⟩ := h
    simp only [Fs.has, Bool.or_eq_false_iff, decide_eq_false_iff_not] at e
    rw [List.lookup_cons, beq_false_of_ne e.1]
    exact FsOk.none h2 e.2
  | .ow g o r, _, _, h, e => by
    simp only [FsOk] at h
    obtain ⟨p, vs', q1, q2, rfl, _, _, h2⟩ := h
    simp only [Fs.has, Bool.or_eq_false_iff, decide_eq_false_iff_not] at e
    rw [List.lookup_cons, beq_false_of_ne e.1]
    exact FsOk.none h2 e.2
  | .no g r, _, _, h, e => by
    simp only [FsOk] at h
    obtain ⟨v, vs', rfl, h2⟩ := h
    simp only [Fs.has, Bool.or_eq_false_iff, decide_eq_false_iff_not] at e
    rw [List.lookup_cons, beq_false_of_ne e.1]
    exact FsOk.none h2 e.2
section
variable {K : Fg} {Xw : WX} {m m1 m2 : Bool} {t : TE} {ta : TE} {ts : TA} {C : Ct} {E : XK} {cl : Addr} {nm : Str}
theorem insAt_ok {F : Fx K} {W : Wd} {σ : L2.St} {Γ : G} {v : V} {x : RV} {fs : Fs} (R : Rel F W σ Γ) (o : VOk F W σ Γ v x) (h : insAt Γ x = some (.ins cl fs)) : ∃ a dx vs qs f, v = .ref a ∧ W.H a = some (.ins cl dx vs) ∧ FsOk K (W.S F) W.H fs vs qs ∧ ClsI K cl fs ∧ OwnO K (W.S F) W.H (.ins cl fs) a f := by
  have fin : ∀ {a : Addr} {f : List Addr}, v = .ref a → OwnO K (W.S F) W.H (.ins cl fs) a f → ∃ a dx vs qs f, v = .ref a ∧ W.H a = some (.ins cl dx vs) ∧ FsOk K (W.S F) W.H fs vs qs ∧ ClsI K cl fs ∧ OwnO K (W.S F) W.H (.ins cl fs) a f := fun {a f} hv hO => by
    have hO' := hO
    simp only [OwnO] at hO'
    obtain ⟨dx, vs, qs, _, _, h1, _, h3, h4⟩ := hO'
    exact ⟨a, dx, vs, qs, f, hv, h1, h3, h4, hO⟩
  cases x with
  | sh d => cases h
  | ar d => cases h
  | own i =>
    obtain ⟨s, h1, h2, h3⟩ := o
    simp only [insAt, h1] at h
    obtain ⟨p, f, g1, g2, _⟩ := R.insOk h1 h
    rw [h3] at g1
    cases g1
    exact fin rfl g2
  | fld i path =>
    obtain ⟨s, p, o2, h1, h2, h3, h4⟩ := o
    simp only [insAt, h1, h2, Option.bind_some] at h
    obtain ⟨o', e1, e2⟩ := Option.bind_eq_some_iff.mp h
    cases (insO_eq e2).1
    obtain ⟨p', f, g1, g2, _⟩ := R.insOk h1 h2
    rw [h3] at g1
    cases g1
    obtain ⟨q, F', hv, _, hO⟩ := g2.path e1 h4
    exact fin hv hO
instance (priority := low) sex_seg {d : TGCd} [A : SEG K Xw m t d] : SEX K Xw m t (dVal d) := ⟨fun F W σ Γ Q Qd Qx R q k kx => A.run F W σ Γ _ _ _ R q (fun r W' Γ' v s R' o ⟨x, e, q⟩ => by
  obtain ⟨W2, eH, s2, R2, hd⟩ := o.data s R' e
  rw [← eH]
  exact k (.sh x) W2 Γ' v s2 R2 hd q) kx⟩
theorem callG_run {F : Fx K} {W W1 : Wd} {σ : L2.St} {Γ Γ1 : G} {vs : List V} {xs : List RV} {Q : VK} {Qd : RT → G → Prop} {Qe : Value → G → Prop} {E : XK} (s1 : StM m1 F W Γ W1 Γ1) (R1 : Rel F W1 σ Γ1) (o : VOks F W1 σ Γ1 vs xs) (q : dArgs m C xs Γ1 Qd Qe)
    (k : ∀ (r : RT) (W' : Wd) (Γ' : G) (v : V), StM (m1 || m) F W Γ W' Γ' → Rel F W' σ Γ' → RtOk F W Γ W' Γ' v r → Qd r Γ' → Q v W'.H) (kx : ∀ (c : Value) (W' : Wd) (Γ' : G), Same (W.S F) (W'.S F) → Rel F W' σ Γ' → Qe c Γ' → E c none W'.H) : GSp K m C vs W1.H Q E := by
  obtain ⟨as, ha, hd, hu, hc⟩ := q
  exact callG R1 o ha hd hu hc (fun r os W' v s R' ok q => k r W' _ v (s1.trans s) R' (ok.of s1) q) fun c os W' s R' q => kx c W' _ (s1.stx.sh.trans s.stx.sh) R' q
instance seg_callS {d : TAXd} [A : SAX K Xw m1 ts d] : SEG K Xw (m1 || m) (tCallS (GSp K m C) (WE Xw) ts) (dCallG m C d) := ⟨fun F W σ Γ Q Qd Qx R q k kx => A.run F W σ Γ _ _ _ R q (fun xs W1 Γ1 vs s1 R1 o1 q => callG_run s1 R1 o1 q k kx) kx⟩
instance seg_call {d : TAXd} [A : SAX K Xw m1 ts d] : SEG K Xw (m1 || m) (tCall (GSp K m C) [] E ts) (dCallGN m C d) := ⟨fun F W σ Γ Q Qd Qx R q k kx => A.run F W σ Γ _ _ _ R q (fun xs W1 Γ1 vs s1 R1 o1 q => by
  rw [List.append_nil]
  exact callG_run s1 R1 o1 q k fun c W' Γ' s R' z => z.elim) kx⟩
theorem meth_run {F : Fx K} {W : Wd} {σ : L2.St} {Γ : G} {Q : VK} {Qd : RT → G → Prop} {Qx Qe : Value → G → Prop} {dr : TEd} {d : TAXd} [B : SE K ta dr] [A : SAX K Xw m1 ts d] (R : Rel F W σ Γ) (q : dr Γ fun x Γ1 => ∃ fs, insAt Γ1 x = some (.ins cl fs) ∧ fs.has nm = false ∧ d Γ1 (fun xs Γ2 => stayM m1 x = true ∧ dArgs m C (x :: xs) Γ2 Qd Qe) Qx)
    (k : ∀ (r : RT) (W' : Wd) (Γ' : G) (v : V), StM (m1 || m) F W Γ W' Γ' → Rel F W' σ Γ' → RtOk F W Γ W' Γ' v r → Qd r Γ' → Q v W'.H) (kx : ∀ (c : Value) (W' : Wd) (Γ' : G), Same (W.S F) (W'.S F) → Rel F W' σ Γ' → Qx c Γ' → Xw c none σ W'.H) (ke : ∀ (c : Value) (W' : Wd) (Γ' : G), Same (W.S F) (W'.S F) → Rel F W' σ Γ' → Qe c Γ' → E c none W'.H) :
    ta σ W.H fun x H1 => ∃ a dx fs, x = .ref a ∧ H1 a = some (.ins cl dx fs) ∧ fs.lookup nm = none ∧ ts σ H1 fun vs H2 => GSp K m C (x :: vs) H2 Q E := by
  refine B.run F W σ Γ _ _ R q fun x W1 Γ1 v s1 R1 o1 ⟨fs, h1, h2, q⟩ => ?_
  obtain ⟨a, dx, vs, qs, f, rfl, g1, g2, _⟩ := insAt_ok R1 o1 h1
  refine ⟨a, dx, vs, rfl, g1, g2.none h2, A.run F W1 σ Γ1 _ _ _ R1 q (fun xs W2 Γ2 us s2 R2 o2 ⟨hs, q⟩ => ?_) fun c W' Γ' s R' q => kx c W' Γ' (s1.sh.trans s) R' q⟩
  have s12 : StM (false || m1) F W Γ W2 Γ2 := StM.trans (m := false) s1 s2
  rw [Bool.false_or] at s12
  exact callG_run s12 R2 (.cons (o1.stm s2 hs) o2) q k ke
instance seg_methE {dr : TEd} {d : TAXd} [B : SE K ta dr] [A : SAX K Xw m1 ts d] : SEG K Xw (m1 || m) (tMethE cl nm (GSp K m C) (WE Xw) ta ts) (dMethG cl nm m m1 C dr d) := ⟨fun F W σ Γ Q Qd Qx R q k kx => meth_run (Xw := Xw) R q k kx kx⟩
instance seg_meth {dr : TEd} {d : TAXd} [B : SE K ta dr] [A : SAX K Xw m1 ts d] : SEG K Xw (m1 || m) (tMeth cl nm (GSp K m C) [] E ta ts) (dMethGN cl nm m m1 C dr d) := ⟨fun F W σ Γ Q Qd Qx R q k kx => by
  have := meth_run (Xw := Xw) (cl := cl) (nm := nm) (ta := ta) (ts := ts) (E := E) R q k kx fun c W' Γ' s R' z => z.elim
  simp only [tMeth, List.append_nil]
  exact this⟩
/-! pure ones, that raise nothing -/
def dCallE (C : Ct) (d : TAd) : TEd := fun Γ Q => d Γ fun xs Γ1 => dArgs false C xs Γ1 (fun r Γ2 => ∃ x, rtD r = some x ∧ Q (.sh x) Γ2) fun _ _ => False
def dMethEE (cl : Addr) (nm : Str) (C : Ct) (dr : TEd) (d : TAd) : TEd := fun Γ Q => dr Γ fun x Γ1 => ∃ fs, insAt Γ1 x = some (.ins cl fs) ∧ fs.has nm = false ∧ d Γ1 fun xs Γ2 => dArgs false C (x :: xs) Γ2 (fun r Γ3 => ∃ x, rtD r = some x ∧ Q (.sh x) Γ3) fun _ _ => False
instance se_callG {d : TAd} [A : SA K ts d] : SE K (tCall (GSp K false C) [] E ts) (dCallE C d) := ⟨fun F W σ Γ Q Qd R q k => A.run F W σ Γ _ _ R q fun xs W1 Γ1 vs s1 R1 o1 q => by
  rw [List.append_nil]
  refine callG_run (m1 := false) (m := false) s1 R1 o1 q (fun r W' Γ' v s R' o ⟨x, e, q⟩ => ?_) fun c W' Γ' s R' z => z.elim
  obtain ⟨W2, eH, s2, R2, hd⟩ := o.data s R' e
  rw [← eH]
  exact k (.sh x) W2 Γ' v s2 R2 hd q⟩
instance se_methG {dr : TEd} {d : TAd} [B : SE K ta dr] [A : SA K ts d] : SE K (tMeth cl nm (GSp K false C) [] E ta ts) (dMethEE cl nm C dr d) := ⟨fun F W σ Γ Q Qd R q k => by
  simp only [tMeth, List.append_nil]
  refine B.run F W σ Γ _ _ R q fun x W1 Γ1 v s1 R1 o1 ⟨fs, h1, h2, q⟩ => ?_
  obtain ⟨a, dx, vs, qs, f, rfl, g1, g2, _⟩ := insAt_ok R1 o1 h1
  refine ⟨a, dx, vs, rfl, g1, g2.none h2, A.run F W1 σ Γ1 _ _ R1 q fun xs W2 Γ2 us s2 R2 o2 q => ?_⟩
  have s12 := s1.trans s2
  refine callG_run (m1 := false) (m := false) s12 R2 (.cons (o1.stp s2) o2) q (fun r W' Γ' v s R' o ⟨x, e, q⟩ => ?_) fun c W' Γ' s R' z => z.elim
  obtain ⟨W3, eH, s3, R3, hd⟩ := o.data s R' e
  rw [← eH]
  exact k (.sh x) W3 Γ' v s3 R3 hd q⟩
/-! the older contracts, with arguments that may raise -/
def dPureX (Cp : List PyData → (PyData → Prop) → (Value → Prop) → Prop) (d : TAXd) : TGCd := fun Γ Q X => d Γ (fun xs Γ1 => ∃ ds, dats Γ1 xs = some ds ∧ Cp ds (fun r => Q (.d r) Γ1) fun c => X c Γ1) X
instance seg_pureX {Cp : List PyData → (PyData → Prop) → (Value → Prop) → Prop} {d : TAXd} [A : SAX K Xw m1 ts d] : SEG K Xw m1 (tCallS (PureXSp K Cp) (WE Xw) ts) (dPureX Cp d) := ⟨fun F W σ Γ Q Qd Qx R q k kx => A.run F W σ Γ _ _ _ R q (fun xs W1 Γ1 vs s1 R1 o1 ⟨ds, e1, q⟩ => by
  refine ⟨ds, _, _, o1.full R1 e1, q, fun v H' r hS hv hq => ?_, fun c H' hS hq => ?_⟩
  · have st : StM (m1 || false) F W Γ { W1 with H := H' } Γ1 := StM.trans s1 (n := false) (Stp.grow R1 hS)
    rw [Bool.or_false] at st
    exact k (.d r) { W1 with H := H' } Γ1 v st (R1.grow hS).1 (hv.same (same_less fun a o nx e => ⟨fun z => nx (R1.exmo z), e⟩)) hq
  · exact kx c { W1 with H := H' } Γ1 (s1.stx.sh.trans (R1.grow hS).2) (R1.grow hS).1 hq) kx⟩
def dPureV (Cp : List PyData → (PyData → Prop) → Prop) (d : TAXd) : TGCd := fun Γ Q X => d Γ (fun xs Γ1 => ∃ ds, dats Γ1 xs = some ds ∧ Cp ds fun r => Q (.d r) Γ1) X
instance seg_pure {Cp : List PyData → (PyData → Prop) → Prop} {d : TAXd} [A : SAX K Xw m1 ts d] : SEG K Xw m1 (tCall (PureSp K Cp) [] E ts) (dPureV Cp d) := ⟨fun F W σ Γ Q Qd Qx R q k kx => A.run F W σ Γ _ _ _ R q (fun xs W1 Γ1 vs s1 R1 o1 ⟨ds, e1, q⟩ => by
  rw [List.append_nil]
  refine ⟨ds, _, o1.full R1 e1, q, fun v H' r hS hv hq => ?_⟩
  have st : StM (m1 || false) F W Γ { W1 with H := H' } Γ1 := StM.trans s1 (n := false) (Stp.grow R1 hS)
  rw [Bool.or_false] at st
  exact k (.d r) { W1 with H := H' } Γ1 v st (R1.grow hS).1 (hv.same (same_less fun a o nx e => ⟨fun z => nx (R1.exmo z), e⟩)) hq) kx⟩
end
/-! ### statements -/
def rtSl : RT → Sl
  | .d d => .sh d
  | .nw o => .ow o
section
variable {K : Fg} {Xw : WX} {m : Bool} {t : TE} {d : TGCd} {i : Nat}
def dDropG (d : TGCd) : TSd := fun E Γ => d Γ (fun _ Γ1 => E.nx Γ1) E.xs
instance (priority := low) ss_dropG [A : SEG K Xw m t d] : SS K Xw (tDrop t) (dDropG d) := ⟨fun F W σ Γ D E R q L => A.run F W σ Γ _ _ _ R q (fun r W' Γ' v s R' o q => L.nx W' σ Γ' s.stx.sh R' q) fun c W' Γ' s R' q => L.xs W' σ Γ' c s R' q⟩
def dAsgG (i : Nat) (d : TGCd) : TSd := fun E Γ => d Γ (fun r Γ1 => E.nx (Γ1.set i (rtSl r))) E.xs
instance ss_asgG [A : SEG K Xw m t d] : SS K Xw (tAsg t (gName i)) (dAsgG i d) := ⟨fun F W σ Γ D E R q L => A.run F W σ Γ _ _ _ R q (fun r W' Γ' v s R' o q => by
  cases r with
  | d x => exact L.nx W' _ _ s.stx.sh (R'.setSh o) q
  | nw o1 =>
    obtain ⟨p, f, rfl, h2, h3⟩ := o
    exact L.nx ⟨W'.O, fun j => if j = i then f else W'.ft j, W'.H⟩ _ _ s.stx.sh (R'.setTm (fun a ha => (h3 a ha).1) h2) q) fun c W' Γ' s R' q => L.xs W' σ Γ' c s R' q⟩
/-- .. in parts -/
def dAsgV (d : TEXd) (g : TGd) : TSd := fun E Γ => d Γ (fun x Γ1 => g x Γ1 E.nx) E.xs
instance (priority := low) ss_asgV {de : TEXd} {g : TG} {dg : TGd} {ix : List Nat} [A : SEX K Xw m t de] [B : SG K g dg ix] : SS K Xw (tAsg t g) (dAsgV de dg) := ⟨fun F W σ Γ D E R q L => A.run F W σ Γ _ _ _ R q (fun x W' Γ' v s R' o q => B.run F W' σ Γ' v x _ _ R' o q fun W2 σ2 Γ2 s2 _ R2 q => L.nx W2 σ2 Γ2 (s.stx.sh.trans s2.sh) R2 q) fun c W' Γ' s R' q => L.xs W' σ Γ' c s R' q⟩
def dRetG (d : TGCd) : TSd := fun E Γ => d Γ (fun r Γ1 => match r with
  | .d x => E.rt (.sh x) Γ1
  | .nw o => plainOD o = true ∧ E.rn o Γ1) E.xs
instance ss_retG [A : SEG K Xw m t d] : SS K Xw (tRet t) (dRetG d) := ⟨fun F W σ Γ D E R q L => A.run F W σ Γ _ _ _ R q (fun r W' Γ' v s R' o q => by
  cases r with
  | d x => exact L.rt W' σ Γ' _ v s.stx.sh R' (.ofSh o) q
  | nw o1 =>
    obtain ⟨p, f, rfl, h2, h3⟩ := o
    obtain ⟨hp, q⟩ := q
    have key : ∀ {ho : HO}, f = [p] → W'.H p = some ho → (∀ S', Same (W'.S F) S' → OwnH K S' ho o1) → D.rt (.ref p) W'.H := fun {ho} hf e hh => by
      have t := h3 p (by rw [hf]; simp)
      obtain ⟨R2, s2⟩ := R'.dropTemp t.1.1 t.1.2.1 t.1.2.2
      have := L.rn (dropW W' p) σ Γ' o1 p ho (s.stx.sh.trans s2) R2 dropW_at (hh _ s2) q
      rw [dropW_upd e] at this
      exact this
    cases o1 with
    | lst ds =>
      simp only [OwnO] at h2
      obtain ⟨hf, vs, q1, q2⟩ := h2
      exact key hf q1 fun S' s => ⟨vs, rfl, q2.same s⟩
    | dK ds =>
      simp only [OwnO] at h2
      obtain ⟨hf, vs, q1, q2⟩ := h2
      exact key hf q1 fun S' s => ⟨vs, rfl, Paired.mapP q2 fun _ _ z => ⟨z.1, z.2.same s⟩⟩
    | dT ds =>
      simp only [OwnO] at h2
      obtain ⟨hf, vs, q1, q2⟩ := h2
      exact key hf q1 fun S' s => ⟨vs, rfl, Paired.mapP q2 fun _ _ z => ⟨z.1, z.2.same s⟩⟩
    | ab _ => cases hp
    | ins _ _ => cases hp) fun c W' Γ' s R' q => L.xs W' σ Γ' c s R' q⟩
end
end Dk

namespace Dk
open PySem PySem.Spec PyProof.Rows L2
/-! ### attributes read -/
def fldRV (x : RV) (fs : Fs) (f : Str) : Option RV := match fs.getD f with
  | some d => some (.sh d)
  | none => match fs.getO f with
    | some _ => match x with
      | .own i => some (.fld i [f])
      | .fld i p => some (.fld i (p ++ [f]))
      | _ => none
    | none => none
theorem getD_has {f : Str} {d : PyData} : ∀ {fs : Fs}, fs.getD f = some d → fs.has f = true
  | .nil, e => by simp [Fs.getD] at e
  | .sh g _ r, e => by
    by_cases z : f = g
    · simp [Fs.has, z]
    · simp only [Fs.getD, if_neg z] at e
      simp [Fs.has, getD_has e]
  | .ow g _ r, e => by
    by_cases z : f = g
    · simp [Fs.getD, z] at e
    · simp only [Fs.getD, if_neg z] at e
      simp [Fs.has, getD_has e]
  | .no g r, e => by
    by_cases z : f = g
    · simp [Fs.getD, z] at e
    · simp only [Fs.getD, if_neg z] at e
      simp [Fs.has, getD_has e]
theorem getO_has {f : Str} {o : OD} : ∀ {fs : Fs}, fs.getO f = some o → fs.has f = true
  | .nil, e => by simp [Fs.getO] at e
  | .ow g _ r, e => by
    by_cases z : f = g
    · simp [Fs.has, z]
    · simp only [Fs.getO, if_neg z] at e
      simp [Fs.has, getO_has e]
  | .sh g _ r, e => by
    by_cases z : f = g
    · simp [Fs.getO, z] at e
    · simp only [Fs.getO, if_neg z] at e
      simp [Fs.has, getO_has e]
  | .no g r, e => by
    by_cases z : f = g
    · simp [Fs.getO, z] at e
    · simp only [Fs.getO, if_neg z] at e
      simp [Fs.has, getO_has e]
theorem PathV.snoc {H : Hp} {C dx q : Addr} {vs : List (Str × V)} {f : Str} {u : V} (h1 : H q = some (.ins C dx vs)) (h2 : vs.lookup f = some u) : ∀ {path : List Str} {p : Addr}, PathV H p path (.ref q) → PathV H p (path ++ [f]) u
  | [], p, h => by
    cases (show V.ref q = V.ref p from h)
    exact ⟨C, dx, vs, u, h1, h2, .inl ⟨rfl, rfl⟩⟩
  | g :: r, p, ⟨C', dx', vs', u', a1, a2, a3⟩ => by
    refine ⟨C', dx', vs', u', a1, a2, .inr ⟨by simp, ?_⟩⟩
    rcases a3 with ⟨rfl, rfl⟩ | ⟨_, q', rfl, a4⟩
    · exact ⟨q, rfl, PathV.snoc h1 h2 (path := []) rfl⟩
    · exact ⟨q', rfl, PathV.snoc h1 h2 a4⟩
theorem kfld (K : Fg) {X : Cx} {e : Expr} {f : Str} {ta : TE} {pos : Pos} (he : PE X e ta) (hb : attributeBase e f X.env (eval e X.env) = eval e X.env) (h : X.K = K := by rfl) : PE X (.Attribute e f pos) (tFld K ta f) := h ▸ pe_fld he hb
def dFld (f : Str) (da : TEd) : TEd := fun Γ Q => da Γ fun x Γ1 => ∃ C fs rv, insAt Γ1 x = some (.ins C fs) ∧ fldRV x fs f = some rv ∧ Q rv Γ1
section
variable {K : Fg} {ta : TE} {da : TEd}
instance se_fld {f : Str} [A : SE K ta da] : SE K (tFld K ta f) (dFld f da) := ⟨fun F W σ Γ Q Qd R q k => A.run F W σ Γ _ _ R q fun x W' Γ' v s R' o ⟨C, fs, rv, h1, h2, q⟩ => by
  obtain ⟨a, dx, vs, qs, fp, rfl, g1, g2, g3, g4⟩ := insAt_ok R' o h1
  unfold fldRV at h2
  split at h2
  · rename_i d e
    cases h2
    obtain ⟨u, l1, l2⟩ := g2.getD e
    exact ⟨a, C, dx, vs, u, rfl, g1, g3.cl, g3.na f (getD_has e), l1, k (.sh d) W' Γ' u s R' l2 q⟩
  · split at h2
    · rename_i o1 e
      obtain ⟨p, l1⟩ := g2.lookO e
      refine ⟨a, C, dx, vs, .ref p, rfl, g1, g3.cl, g3.na f (getO_has e), l1, ?_⟩
      cases x with
      | sh d => cases h2
      | ar d => cases h2
      | own i =>
        cases h2
        obtain ⟨t, b1, b2, b3⟩ := o
        simp only [insAt, b1] at h1
        exact k (.fld i [f]) W' Γ' _ s R' ⟨t, a, .ins C fs, b1, h1, b3, C, dx, vs, .ref p, g1, l1, .inl ⟨rfl, rfl⟩⟩ q
      | fld i path =>
        cases h2
        obtain ⟨t, p0, o2, b1, b2, b3, b4⟩ := o
        exact k (.fld i (path ++ [f])) W' Γ' _ s R' ⟨t, p0, o2, b1, b2, b3, b4.snoc g1 l1⟩ q
    · cases h2⟩
end
/-! ### attributes set -/
def Fs.setSh : Fs → Str → PyData → Fs
  | .nil, f, d => .sh f d .nil
  | .sh g e r, f, d => if g = f then .sh g d r else .sh g e (r.setSh f d)
  | .ow g o r, f, d => if g = f then .sh g d r else .ow g o (r.setSh f d)
  | .no g r, f, d => if g = f then .sh g d r else .no g (r.setSh f d)
def Fs.setOw : Fs → Str → OD → Fs
  | .nil, f, o => .ow f o .nil
  | .sh g e r, f, o => if g = f then .ow g o r else .sh g e (r.setOw f o)
  | .ow g o' r, f, o => if g = f then .ow g o r else .ow g o' (r.setOw f o)
  | .no g r, f, o => if g = f then .ow g o r else .no g (r.setOw f o)
def Fs.len : Fs → Nat
  | .nil => 0
  | .sh _ _ r => r.len + 1
  | .ow _ _ r => r.len + 1
  | .no _ r => r.len + 1
section
variable {K : Fg} {S H : Hp}
theorem FsOk.len : ∀ {fs : Fs} {vs : List (Str × V)} {qs : List Addr}, FsOk K S H fs vs qs → vs.length = fs.len
  | .nil, _, _, h => by simp only [FsOk] at h; rw [h.1]; rfl
  | .sh g d r, _, _, h => by
    simp only [FsOk] at h
    obtain ⟨v, vs', rfl, _, h2⟩ := h
    simp [Fs.len, h2.len]
  | .ow g o r, _, _, h => by
    simp only [FsOk] at h
    obtain ⟨p, vs', q1, q2, rfl, _, _, h2⟩ := h
    simp [Fs.len, h2.len]
  | .no g r, _, _, h => by
    simp only [FsOk] at h
    obtain ⟨v, vs', rfl, h2⟩ := h
    simp [Fs.len, h2.len]
theorem FsOk.setSh {f : Str} {y : V} {d : PyData} (hy : Dq K S y d) : ∀ {fs : Fs} {vs : List (Str × V)} {qs : List Addr}, FsOk K S H fs vs qs → ∃ qs', FsOk K S H (fs.setSh f d) (putF f y vs) qs' ∧ qs'.Sublist qs
  | .nil, _, _, h => by
    simp only [FsOk] at h
    obtain ⟨rfl, rfl⟩ := h
    exact ⟨[], by simp only [Fs.setSh, putF, FsOk]; exact ⟨y, [], rfl, hy, by simp⟩, List.Sublist.refl _⟩
  | .sh g e r, _, qs, h => by
    simp only [FsOk] at h
    obtain ⟨v, vs', rfl, h1, h2⟩ := h
    by_cases z : g = f
    · exact ⟨qs, by simp only [Fs.setSh, putF, if_pos z, FsOk]; exact ⟨y, vs', rfl, hy, h2⟩, List.Sublist.refl _⟩
    · obtain ⟨qs', k1, k2⟩ := FsOk.setSh (f := f) hy h2
      exact ⟨qs', by simp only [Fs.setSh, putF, if_neg z, FsOk]; exact ⟨v, _, rfl, h1, k1⟩, k2⟩
  | .ow g o r, _, _, h => by
    simp only [FsOk] at h
    obtain ⟨p, vs', q1, q2, rfl, rfl, h1, h2⟩ := h
    by_cases z : g = f
    · exact ⟨q2, by simp only [Fs.setSh, putF, if_pos z, FsOk]; exact ⟨y, vs', rfl, hy, h2⟩, List.sublist_append_right q1 q2⟩
    · obtain ⟨qs', k1, k2⟩ := FsOk.setSh (f := f) hy h2
      exact ⟨q1 ++ qs', by simp only [Fs.setSh, putF, if_neg z, FsOk]; exact ⟨p, _, q1, qs', rfl, rfl, h1, k1⟩, k2.append_left q1⟩
  | .no g r, _, qs, h => by
    simp only [FsOk] at h
    obtain ⟨v, vs', rfl, h2⟩ := h
    by_cases z : g = f
    · exact ⟨qs, by simp only [Fs.setSh, putF, if_pos z, FsOk]; exact ⟨y, vs', rfl, hy, h2⟩, List.Sublist.refl _⟩
    · obtain ⟨qs', k1, k2⟩ := FsOk.setSh (f := f) hy h2
      exact ⟨qs', by simp only [Fs.setSh, putF, if_neg z, FsOk]; exact ⟨v, _, rfl, k1⟩, k2⟩
theorem FsOk.setOw {f : Str} {p1 : Addr} {q : List Addr} {o1 : OD} (hy : OwnO K S H o1 p1 q) : ∀ {fs : Fs} {vs : List (Str × V)} {qs : List Addr}, FsOk K S H fs vs qs → ∃ qa qb, FsOk K S H (fs.setOw f o1) (putF f (.ref p1) vs) (qa ++ q ++ qb) ∧ (qa ++ qb).Sublist qs
  | .nil, _, _, h => by
    simp only [FsOk] at h
    obtain ⟨rfl, rfl⟩ := h
    exact ⟨[], [], by simp only [Fs.setOw, putF, FsOk]; exact ⟨p1, [], q, [], rfl, by simp, hy, by simp⟩, List.Sublist.refl _⟩
  | .sh g e r, _, qs, h => by
    simp only [FsOk] at h
    obtain ⟨v, vs', rfl, h1, h2⟩ := h
    by_cases z : g = f
    · exact ⟨[], qs, by simp only [Fs.setOw, putF, if_pos z, FsOk]; exact ⟨p1, vs', q, qs, rfl, by simp, hy, h2⟩, List.Sublist.refl _⟩
    · obtain ⟨qa, qb, k1, k2⟩ := FsOk.setOw (f := f) hy h2
      exact ⟨qa, qb, by simp only [Fs.setOw, putF, if_neg z, FsOk]; exact ⟨v, _, rfl, h1, k1⟩, k2⟩
  | .ow g o r, _, _, h => by
    simp only [FsOk] at h
    obtain ⟨p, vs', q1, q2, rfl, rfl, h1, h2⟩ := h
    by_cases z : g = f
    · exact ⟨[], q2, by simp only [Fs.setOw, putF, if_pos z, FsOk]; exact ⟨p1, vs', q, q2, rfl, by simp, hy, h2⟩, List.sublist_append_right q1 q2⟩
    · obtain ⟨qa, qb, k1, k2⟩ := FsOk.setOw (f := f) hy h2
      refine ⟨q1 ++ qa, qb, by simp only [Fs.setOw, putF, if_neg z, FsOk]; exact ⟨p, _, q1, qa ++ q ++ qb, rfl, by simp, h1, k1⟩, ?_⟩
      rw [List.append_assoc]
      exact k2.append_left q1
  | .no g r, _, qs, h => by
    simp only [FsOk] at h
    obtain ⟨v, vs', rfl, h2⟩ := h
    by_cases z : g = f
    · exact ⟨[], qs, by simp only [Fs.setOw, putF, if_pos z, FsOk]; exact ⟨p1, vs', q, qs, rfl, by simp, hy, h2⟩, List.Sublist.refl _⟩
    · obtain ⟨qa, qb, k1, k2⟩ := FsOk.setOw (f := f) hy h2
      exact ⟨qa, qb, by simp only [Fs.setOw, putF, if_neg z, FsOk]; exact ⟨v, _, rfl, k1⟩, k2⟩
/-- a list of an attribute, changed in its place -/
theorem FsOk.updL {f : Str} {ds ds' : List PyData} {q : Addr} {us' : List V} (hd : DqAll K S us' ds') : ∀ {fs : Fs} {vs : List (Str × V)} {qs : List Addr}, FsOk K S H fs vs qs → qs.Nodup → fs.getO f = some (.lst ds) → vs.lookup f = some (.ref q) → (∃ us, H q = some (.lst us) ∧ DqAll K S us ds) ∧ q ∈ qs ∧ FsOk K S (upd H q (.lst us')) (fs.setOw f (.lst ds')) vs qs
  | .nil, _, _, _, _, e, _ => by simp [Fs.getO] at e
  | .sh g e0 r, _, _, h, nd, e, l => by
    simp only [FsOk] at h
    obtain ⟨v, vs', rfl, h1, h2⟩ := h
    by_cases z : f = g
    · simp [Fs.getO, z] at e
    · simp only [Fs.getO, if_neg z] at e
      rw [List.lookup_cons, beq_false_of_ne z] at l
      obtain ⟨k1, k2, k3⟩ := FsOk.updL hd h2 nd e l
      exact ⟨k1, k2, by simp only [Fs.setOw, if_neg (Ne.symm z), FsOk]; exact ⟨v, vs', rfl, h1, k3⟩⟩
  | .ow g o r, _, _, h, nd, e, l => by
    simp only [FsOk] at h
    obtain ⟨p, vs', q1, q2, rfl, rfl, h1, h2⟩ := h
    by_cases z : f = g
    · subst z
      simp only [Fs.getO, if_true] at e
      rw [List.lookup_cons, beq_self_eq_true] at l
      cases e
      cases l
      have h1' := h1
      simp only [OwnO] at h1'
      obtain ⟨rfl, us, a1, a2⟩ := h1'
      refine ⟨⟨us, a1, a2⟩, by simp, ?_⟩
      simp only [Fs.setOw, if_true, FsOk]
      refine ⟨q, vs', [q], q2, rfl, rfl, ownO_ok.mpr ⟨rfl, us', upd_same, hd⟩, ?_⟩
      refine h2.keep (Same.refl _) (fun a u nm e => ?_) fun a ha => upd_ne fun z => ?_
      · rw [upd_ne]
        · exact e
        · intro z
          rw [z, a1] at e
          cases e
          exact nm trivial
      · subst z
        exact (List.nodup_cons.mp nd).1 ha
    · simp only [Fs.getO, if_neg z] at e
      rw [List.lookup_cons, beq_false_of_ne z] at l
      obtain ⟨k1, k2, k3⟩ := FsOk.updL hd h2 (List.nodup_append.mp nd).2.1 e l
      refine ⟨k1, by simp [k2], ?_⟩
      simp only [Fs.setOw, if_neg (Ne.symm z), FsOk]
      obtain ⟨us, a1, a2⟩ := k1
      refine ⟨p, vs', q1, q2, rfl, rfl, OwnO.keep (Same.refl _) (fun a u nm e => ?_) h1 (fun a ha => upd_ne fun z => ?_), k3⟩
      · rw [upd_ne]
        · exact e
        · intro z
          rw [z, a1] at e
          cases e
          exact nm trivial
      · subst z
        exact (List.nodup_append.mp nd).2.2 a ha a k2 rfl
  | .no g r, _, _, h, nd, e, l => by
    simp only [FsOk] at h
    obtain ⟨v, vs', rfl, h2⟩ := h
    by_cases z : f = g
    · simp [Fs.getO, z] at e
    · simp only [Fs.getO, if_neg z] at e
      rw [List.lookup_cons, beq_false_of_ne z] at l
      obtain ⟨k1, k2, k3⟩ := FsOk.updL hd h2 nd e l
      exact ⟨k1, k2, by simp only [Fs.setOw, if_neg (Ne.symm z), FsOk]; exact ⟨v, vs', rfl, k3⟩⟩
end
theorem setSh_has {f g : Str} {d : PyData} : ∀ {fs : Fs}, (fs.setSh f d).has g = true → fs.has g = true ∨ g = f
  | .nil, h => by simp [Fs.setSh, Fs.has] at h; exact .inr h
  | .sh g' _ r, h => by
    by_cases z : g' = f
    · simp only [Fs.setSh, if_pos z, Fs.has] at h ⊢; exact .inl h
    · simp only [Fs.setSh, if_neg z, Fs.has, Bool.or_eq_true] at h ⊢
      rcases h with h | h
      · exact .inl (.inl h)
      · exact (setSh_has h).imp .inr id
  | .ow g' _ r, h => by
    by_cases z : g' = f
    · simp only [Fs.setSh, if_pos z, Fs.has] at h ⊢; exact .inl h
    · simp only [Fs.setSh, if_neg z, Fs.has, Bool.or_eq_true] at h ⊢
      rcases h with h | h
      · exact .inl (.inl h)
      · exact (setSh_has h).imp .inr id
  | .no g' r, h => by
    by_cases z : g' = f
    · simp only [Fs.setSh, if_pos z, Fs.has] at h ⊢; exact .inl h
    · simp only [Fs.setSh, if_neg z, Fs.has, Bool.or_eq_true] at h ⊢
      rcases h with h | h
      · exact .inl (.inl h)
      · exact (setSh_has h).imp .inr id
theorem setOw_has {f g : Str} {d : OD} : ∀ {fs : Fs}, (fs.setOw f d).has g = true → fs.has g = true ∨ g = f
  | .nil, h => by simp [Fs.setOw, Fs.has] at h; exact .inr h
  | .sh g' _ r, h => by
    by_cases z : g' = f
    · simp only [Fs.setOw, if_pos z, Fs.has] at h ⊢; exact .inl h
    · simp only [Fs.setOw, if_neg z, Fs.has, Bool.or_eq_true] at h ⊢
      rcases h with h | h
      · exact .inl (.inl h)
      · exact (setOw_has h).imp .inr id
  | .ow g' _ r, h => by
    by_cases z : g' = f
    · simp only [Fs.setOw, if_pos z, Fs.has] at h ⊢; exact .inl h
    · simp only [Fs.setOw, if_neg z, Fs.has, Bool.or_eq_true] at h ⊢
      rcases h with h | h
      · exact .inl (.inl h)
      · exact (setOw_has h).imp .inr id
  | .no g' r, h => by
    by_cases z : g' = f
    · simp only [Fs.setOw, if_pos z, Fs.has] at h ⊢; exact .inl h
    · simp only [Fs.setOw, if_neg z, Fs.has, Bool.or_eq_true] at h ⊢
      rcases h with h | h
      · exact .inl (.inl h)
      · exact (setOw_has h).imp .inr id
/-- a name's instance that may be changed -/
def insI (Γ : G) (i : Nat) : Option (Addr × Fs) := match Γ[i]? with
  | some (.ow (.ins C fs)) => some (C, fs)
  | some (.rf (.ins C fs)) => some (C, fs)
  | _ => none
def putI (Γ : G) (i : Nat) (C : Addr) (fs : Fs) : G := Γ.set i (setOwn (Γ.getD i .no) (.ins C fs))
section
variable {K : Fg} {F : Fx K} {W : Wd} {σ : L2.St} {Γ : G}
theorem insI_ok (R : Rel F W σ Γ) {i : Nat} {C : Addr} {fs : Fs} (h : insI Γ i = some (C, fs)) : ∃ s p dx vs qs, Γ[i]? = some s ∧ s.own? = some (.ins C fs) ∧ σ[i]? = some (some (.ref p)) ∧ W.ft i = p :: dx :: qs ∧ (p :: dx :: qs).Nodup ∧ W.H p = some (.ins C dx vs) ∧ W.H dx = some (.own p) ∧ FsOk K (W.S F) W.H fs vs qs ∧ ClsI K C fs ∧ ∀ o, putI Γ i C o = Γ.set i (setOwn s (.ins C o)) := by
  have key : ∀ {s : Sl}, Γ[i]? = some s → s.own? = some (.ins C fs) → ∃ s p dx vs qs, Γ[i]? = some s ∧ s.own? = some (.ins C fs) ∧ σ[i]? = some (some (.ref p)) ∧ W.ft i = p :: dx :: qs ∧ (p :: dx :: qs).Nodup ∧ W.H p = some (.ins C dx vs) ∧ W.H dx = some (.own p) ∧ FsOk K (W.S F) W.H fs vs qs ∧ ClsI K C fs ∧ ∀ o, putI Γ i C o = Γ.set i (setOwn s (.ins C o)) := fun {s} h1 h2 => by
    obtain ⟨p, h3⟩ := own_ref R h1 h2
    obtain ⟨dx, vs, qs, a1, a2, a3, a4, a5, a6⟩ := own_at R h1 h2 h3
    exact ⟨s, p, dx, vs, qs, h1, h2, h3, a1, a1 ▸ a2, a3, a4, a5, a6, fun o => by rw [putI, getD_of h1]⟩
  unfold insI at h
  split at h
  · rename_i C' fs' e
    cases h
    exact key e rfl
  · rename_i C' fs' e
    cases h
    exact key e rfl
  · cases h
theorem Rel.setIns (R : Rel F W σ Γ) {i : Nat} {s : Sl} {C : Addr} {fs fs' : Fs} {p : Addr} {H' : Hp} {f' : List Addr} (h1 : Γ[i]? = some s) (h2 : s.own? = some (.ins C fs)) (h3 : σ[i]? = some (some (.ref p))) (fr : ∀ a u, a ∉ W.ft i → W.H a = some u → H' a = some u) (nw : ∀ a ∈ f', a ∈ W.ft i ∨ W.H a = none) (mo : ∀ a ∈ W.ft i, Mo (H' a))
    (own : OwnO K (W.S F) H' (.ins C fs') p f') : ∃ W' : Wd, W'.H = H' ∧ Rel F W' σ (Γ.set i (setOwn s (.ins C fs'))) ∧ Stx F W Γ W' (Γ.set i (setOwn s (.ins C fs'))) := by
  let M : Chg := fun j => if j = i then some (.ins C fs', f') else none
  have Mi : M i = some (.ins C fs', f') := if_pos rfl
  have Mx : ∀ {j m}, M j = some m → j = i ∧ m = (.ins C fs', f') := fun {j m} e => by
    by_cases z : j = i
    · subst z; rw [Mi] at e; exact ⟨rfl, (Option.some.inj e).symm⟩
    · rw [show M j = none from if_neg z] at e; cases e
  have cR : ∀ a, chR W M a ↔ a ∈ W.ft i := fun a => ⟨fun ⟨j, m, e, ha⟩ => by obtain ⟨rfl, _⟩ := Mx e; exact ha, fun ha => ⟨i, _, Mi, ha⟩⟩
  have cN : ∀ a, chN M a ↔ a ∈ f' := fun a => ⟨fun ⟨j, o, f, e, ha⟩ => by obtain ⟨rfl, e2⟩ := Mx e; cases e2; exact ha, fun ha => ⟨i, _, _, Mi, ha⟩⟩
  have hO : ∀ a ∈ W.ft i, W.O a := slot_O (R.slot i s h1) h2
  have eG : chG Γ M = Γ.set i (setOwn s (.ins C fs')) := by
    apply List.ext_getElem?
    intro j
    by_cases z : j = i
    · subst z
      rw [chG_some h1 Mi, List.getElem?_set_self (lt_of_get h1)]
    · rw [chG_none (show M j = none from if_neg z), List.getElem?_set_ne (Ne.symm z)]
  have sS : Same (W.S F) ((chW W M H' fun _ => False).S F) := same_less fun a u nx e => by
    refine ⟨fun z => ?_, fr a u (fun c => nx (.inr (hO a c))) e⟩
    rcases z with z | z | z | z
    · exact nx (.inl z)
    · exact nx (.inr z)
    · rcases nw a ((cN a).mp z) with c | c
      · exact nx (.inr (hO a c))
      · rw [e] at c; cases c
    · exact z
  have ch : ChOk F W σ Γ M H' fun _ => False := by
    refine ⟨fun a u n e => fr a u (fun z => n ((cR a).mpr z)) e, fun a z => (nw a ((cN a).mp z)).imp (cR a).mpr id, fun a z => ?_, fun j m e => ?_, fun j k m n a ne e1 e2 => ?_, fun a z => z.elim, ?_⟩
    · rcases z with z | z
      · exact mo a ((cR a).mp z)
      · exact own.mo a ((cN a).mp z)
    · obtain ⟨rfl, rfl⟩ := Mx e
      exact ⟨s, _, p, h1, h2, h3, own.keep sS (fun _ _ _ e => e) fun _ _ => rfl, (fun z => nomatch z), rfl⟩
    · obtain ⟨rfl, _⟩ := Mx e1
      obtain ⟨rfl, _⟩ := Mx e2
      exact absurd rfl ne
    · cases s with
      | ow o => exact .inl fun j m t e h => by obtain ⟨rfl, _⟩ := Mx e; rw [h1] at h; cases h; exact ⟨o, rfl⟩
      | rf o => exact .inr fun j m t e h => by obtain ⟨rfl, _⟩ := Mx e; rw [h1] at h; cases h; exact ⟨o, rfl⟩
      | _ => cases h2
  obtain ⟨R', kq⟩ := R.objs ch
  have st := R.objsM (m := true) ch (fun z => nomatch z) (fun z => nomatch z)
  rw [eG] at R' st
  exact ⟨_, rfl, R', st⟩
end
/-! self.f = .. -/
section
variable {K : Fg} {Xw : WX} {m : Bool} {t : TE} {i : Nat} {f : Str}
def dSetF (K : Fg) (i : Nat) (f : Str) (d : TEXd) : TSd := fun E Γ => d Γ (fun x Γ1 => ∃ C fs y, insI Γ1 i = some (C, fs) ∧ shOf x = some y ∧ fs.len < 1000 ∧ (fs.has f = true ∨ NoAttr K C f) ∧ E.nx (putI Γ1 i C (fs.setSh f y))) E.xs
instance (priority := low) ss_setF {d : TEXd} [A : SEX K Xw m t d] : SS K Xw (sFld K (tVar i) t f) (dSetF K i f d) := ⟨fun F W σ Γ D E R q L => A.run F W σ Γ _ _ _ R q (fun x W' Γ' v s R' o ⟨C, fs, y, h1, h2, h3, h4, q⟩ => by
  obtain ⟨sl, p, dx, vs, qs, a1, a2, a3, a4, a5, a6, a7, a8, a9, a10⟩ := insI_ok R' h1
  have na : NoAttr K C f := h4.elim (fun z => a9.na f z) id
  refine ⟨.ref p, a3, p, C, dx, vs, rfl, a6, a9.cl, na, by rw [a8.len]; exact h3, ?_⟩
  have hv := o.sh R' h2
  have npx : ∀ a ∈ dx :: qs, a ≠ p := fun a ha z => (List.nodup_cons.mp a5).1 (z ▸ ha)
  have txp : Tx W'.H (upd W'.H p (.ins C dx (putF f v vs))) := fun a u nm e => by
    rw [upd_ne]
    · exact e
    · intro z
      rw [z, a6] at e
      cases e
      exact nm trivial
  obtain ⟨qs', b1, b2⟩ := a8.setSh (f := f) hv
  rw [a10] at q
  obtain ⟨W2, eH, R2, s2⟩ := R'.setIns (H' := upd W'.H p (.ins C dx (putF f v vs))) (fs' := fs.setSh f y) (f' := p :: dx :: qs') a1 a2 a3 (fun a u n e => by
    rw [upd_ne fun z => n (by rw [a4, z]; simp)]
    exact e) (fun a ha => .inl (by
    rw [a4]
    rcases List.mem_cons.mp ha with rfl | ha
    · simp
    · rcases List.mem_cons.mp ha with rfl | ha
      · simp
      · simp [b2.subset ha])) (fun a ha => by
    by_cases z : a = p
    · rw [z, upd_same]; trivial
    · rw [upd_ne z]
      exact R'.mu a (slot_O (R'.slot i sl a1) a2 a ha)) (by
    simp only [OwnO]
    refine ⟨dx, putF f v vs, qs', rfl, ?_, upd_same, by rw [upd_ne (npx dx (by simp))]; exact a7, ?_, a9.cl, fun g hg => (setSh_has hg).elim (a9.na g) fun z => z ▸ na⟩
    · exact List.Nodup.sublist ((b2.cons₂ dx).cons₂ p) a5
    · exact b1.keep (Same.refl _) txp fun a ha => upd_ne (npx a (by simp [b2.subset ha])))
  rw [← eH]
  exact L.nx W2 σ _ (s.stx.sh.trans s2.sh) R2 q) fun c W' Γ' s R' q => L.xs W' σ Γ' c s R' q⟩
/-- .. with a new list or dict -/
def dSetFN (K : Fg) (i : Nat) (f : Str) (d : TFd) : TSd := fun E Γ => d Γ fun o Γ1 => ∃ C fs, insI Γ1 i = some (C, fs) ∧ fs.len < 1000 ∧ (fs.has f = true ∨ NoAttr K C f) ∧ E.nx (putI Γ1 i C (fs.setOw f o))
instance ss_setFN {d : TFd} [A : SEF K t d] : SS K Xw (sFld K (tVar i) t f) (dSetFN K i f d) := ⟨fun F W σ Γ D E R q L => A.run F W σ Γ _ _ R q fun o W' Γ' l ho s R' hl oh ⟨C, fs, h1, h3, h4, q⟩ => by
  obtain ⟨sl, p, dx, vs, qs, a1, a2, a3, a4, a5, a6, a7, a8, a9, a10⟩ := insI_ok R' h1
  have na : NoAttr K C f := h4.elim (fun z => a9.na f z) id
  have nlp : l ≠ p := fun z => by rw [z, a6] at hl; cases hl
  have hO := slot_O (R'.slot i sl a1) a2
  have nl : l ∉ W'.ft i := fun z => by
    have := R'.mu l (hO l z)
    rw [hl] at this
    exact this
  refine ⟨.ref p, a3, p, C, dx, vs, rfl, by rw [upd_ne (Ne.symm nlp)]; exact a6, a9.cl, na, by rw [a8.len]; exact h3, ?_⟩
  have npx : ∀ a ∈ dx :: qs, a ≠ p := fun a ha z => (List.nodup_cons.mp a5).1 (z ▸ ha)
  rw [a10] at q
  have e1 : ∀ a, a ≠ l → a ≠ p → upd (upd W'.H l ho) p (.ins C dx (putF f (.ref l) vs)) a = W'.H a := fun a n1 n2 => by rw [upd_ne n2, upd_ne n1]
  have el : upd (upd W'.H l ho) p (.ins C dx (putF f (.ref l) vs)) l = some ho := by rw [upd_ne nlp, upd_same]
  have tx : Tx W'.H (upd (upd W'.H l ho) p (.ins C dx (putF f (.ref l) vs))) := fun a u nm e => by
    rw [e1]
    · exact e
    · intro z; rw [z, hl] at e; cases e
    · intro z; rw [z, a6] at e; cases e; exact nm trivial
  have mem : ∀ a ∈ W'.ft i, a ≠ l := fun a ha z => nl (z ▸ ha)
  have hF : FsOk K (W'.S F) (upd (upd W'.H l ho) p (.ins C dx (putF f (.ref l) vs))) fs vs qs := a8.keep (Same.refl _) tx fun a ha => e1 a (mem a (by rw [a4]; simp [ha])) (npx a (by simp [ha]))
  have hL : OwnO K (W'.S F) (upd (upd W'.H l ho) p (.ins C dx (putF f (.ref l) vs))) o l [l] := ownO_ok.mpr (ownH_ok oh el)
  obtain ⟨qa, qb, b1, b2⟩ := hF.setOw (f := f) hL
  have sub : ∀ a, a ∈ qa ++ [l] ++ qb → a ∈ qs ∨ a = l := fun a ha => by
    simp only [List.mem_append, List.mem_singleton] at ha
    rcases ha with (ha | ha) | ha
    · exact .inl (b2.subset (by simp [ha]))
    · exact .inr ha
    · exact .inl (b2.subset (by simp [ha]))
  have nlq : l ∉ qs := fun z => nl (by rw [a4]; simp [z])
  have nd : (p :: dx :: (qa ++ [l] ++ qb)).Nodup := by
    have h1 : (p :: dx :: (qa ++ qb)).Nodup := List.Nodup.sublist ((b2.cons₂ dx).cons₂ p) a5
    have h2 : l ∉ p :: dx :: (qa ++ qb) := fun z => by
      rcases List.mem_cons.mp z with z | z
      · exact nlp z
      · rcases List.mem_cons.mp z with z | z
        · exact nl (by rw [a4, z]; simp)
        · exact nlq (b2.subset z)
    have pm : (l :: p :: dx :: (qa ++ qb)).Perm (p :: dx :: (qa ++ [l] ++ qb)) := by
      refine (List.Perm.swap p l _).trans (.cons p ((List.Perm.swap dx l _).trans (.cons dx ?_)))
      rw [List.append_assoc]
      exact List.perm_middle.symm
    exact pm.nodup (List.nodup_cons.mpr ⟨h2, h1⟩)
  obtain ⟨W2, eH, R2, s2⟩ := R'.setIns (H' := upd (upd W'.H l ho) p (.ins C dx (putF f (.ref l) vs))) (fs' := fs.setOw f o) (f' := p :: dx :: (qa ++ [l] ++ qb)) a1 a2 a3 (fun a u n e => by
    rw [e1 a (fun z => by rw [z, hl] at e; cases e) fun z => n (by rw [a4, z]; simp)]
    exact e) (fun a ha => by
    rw [a4]
    rcases List.mem_cons.mp ha with rfl | ha
    · simp
    · rcases List.mem_cons.mp ha with rfl | ha
      · simp
      · rcases sub a ha with ha | ha
        · simp [ha]
        · right; rw [ha]; exact hl) (fun a ha => by
    by_cases z : a = p
    · rw [z, upd_same]; trivial
    · rw [e1 a (mem a ha) z]
      exact R'.mu a (hO a ha)) (by
    simp only [OwnO]
    exact ⟨dx, putF f (.ref l) vs, qa ++ [l] ++ qb, rfl, nd, upd_same, by rw [e1 dx (mem dx (by rw [a4]; simp)) (npx dx (by simp))]; exact a7, b1, a9.cl, fun g hg => (setOw_has hg).elim (a9.na g) fun z => z ▸ na⟩)
  rw [← eH]
  exact L.nx W2 σ _ (s.sh.trans s2.sh) R2 q⟩
/-! a list of an attribute -/
def fldL (Γ : G) (i : Nat) (f : Str) : Option (Addr × Fs × List PyData) := match insI Γ i with
  | some (C, fs) => match fs.getO f with
    | some (.lst ds) => some (C, fs, ds)
    | _ => none
  | none => none
theorem fldL_of {Γ : G} {i : Nat} {f : Str} {C : Addr} {fs : Fs} {ds : List PyData} (h : fldL Γ i f = some (C, fs, ds)) : insI Γ i = some (C, fs) ∧ fs.getO f = some (.lst ds) := by
  unfold fldL at h
  split at h
  · rename_i C' fs' e
    split at h
    · rename_i ds' e2
      cases h
      exact ⟨e, e2⟩
    · cases h
  · cases h
theorem Rel.putFL {F : Fx K} {W : Wd} {σ : L2.St} {Γ : G} (R : Rel F W σ Γ) {C : Addr} {fs : Fs} {ds ds' : List PyData} {us' : List V} (h : fldL Γ i f = some (C, fs, ds)) (hd : DqAll K (W.S F) us' ds') : ∃ p dx vs q us, σ[i]? = some (some (.ref p)) ∧ W.H p = some (.ins C dx vs) ∧ vs.lookup f = some (.ref q) ∧ Cls K C ∧ NoAttr K C f ∧ W.H q = some (.lst us) ∧ DqAll K (W.S F) us ds ∧
    ∃ W' : Wd, W'.H = upd W.H q (.lst us') ∧ Rel F W' σ (putI Γ i C (fs.setOw f (.lst ds'))) ∧ Stx F W Γ W' (putI Γ i C (fs.setOw f (.lst ds'))) := by
  obtain ⟨h1, h2⟩ := fldL_of h
  obtain ⟨sl, p, dx, vs, qs, a1, a2, a3, a4, a5, a6, a7, a8, a9, a10⟩ := insI_ok R h1
  obtain ⟨q, l1⟩ := a8.lookO h2
  have nd := (List.nodup_cons.mp (List.nodup_cons.mp a5).2).2
  obtain ⟨⟨us, b1, b2⟩, b3, b4⟩ := a8.updL hd nd h2 l1
  have npq : q ≠ p := fun z => (List.nodup_cons.mp a5).1 (by rw [← z]; simp [b3])
  have ndq : q ≠ dx := fun z => (List.nodup_cons.mp (List.nodup_cons.mp a5).2).1 (by rw [← z]; exact b3)
  refine ⟨p, dx, vs, q, us, a3, a6, l1, a9.cl, a9.na f (getO_has h2), b1, b2, ?_⟩
  rw [a10]
  exact R.setIns (H' := upd W.H q (.lst us')) (fs' := fs.setOw f (.lst ds')) (f' := p :: dx :: qs) a1 a2 a3 (fun a u n e => by
    rw [upd_ne fun z => n (by rw [a4, z]; simp [b3])]
    exact e) (fun a ha => .inl (by rw [a4]; exact ha)) (fun a ha => by
    by_cases z : a = q
    · rw [z, upd_same]; trivial
    · rw [upd_ne z]
      exact R.mu a (slot_O (R.slot i sl a1) a2 a ha)) (by
    simp only [OwnO]
    exact ⟨dx, vs, qs, rfl, a5, by rw [upd_ne (Ne.symm npq)]; exact a6, by rw [upd_ne (Ne.symm ndq)]; exact a7, b4, a9.cl, fun g hg => (setOw_has hg).elim (a9.na g) fun z => z ▸ a9.na f (getO_has h2)⟩)
def dFldApp (i : Nat) (f : Str) (d : TEXd) : TSd := fun E Γ => (fldL Γ i f).isSome = true ∧ d Γ (fun x Γ1 => ∃ C fs ds y, fldL Γ1 i f = some (C, fs, ds) ∧ shOf x = some y ∧ ds.length < sizeLine ∧ E.nx (putI Γ1 i C (fs.setOw f (.lst (ds ++ [y]))))) E.xs
theorem insI_ins {Γ : G} {C : Addr} {fs : Fs} (h : insI Γ i = some (C, fs)) : ∃ s, Γ[i]? = some s ∧ s.ins? = some (.ins C fs) := by
  unfold insI at h
  split at h
  · rename_i C' fs' e; cases h; exact ⟨_, e, rfl⟩
  · rename_i C' fs' e; cases h; exact ⟨_, e, rfl⟩
  · cases h
class IsF (m : Bool) : Prop where
  e : m = false
instance isF_no : IsF false := ⟨rfl⟩
instance isF_or {a b : Bool} [A : IsF a] [B : IsF b] : IsF (a || b) := ⟨by rw [A.e, B.e]; rfl⟩
instance (priority := high) ss_fldApp {te : TE} {d : TEXd} [A : SEX K Xw m te d] [M : IsF m] : SS K Xw (tDrop (tBM K "list" rAppend (tFld K (tVar i) f) (tCons te tNil))) (dFldApp i f d) := ⟨fun F W σ Γ D E R ⟨h0, q⟩ L => by
  obtain ⟨⟨C0, fs0, ds0⟩, h0⟩ := Option.isSome_iff_exists.mp h0
  obtain ⟨p0, dx0, vs0, q0, us0, c1, c2, c3, c4, c5, c6, c7, _⟩ := R.putFL (us' := []) (ds' := []) h0 .nil
  obtain ⟨sl, z1, z2⟩ := insI_ins (fldL_of h0).1
  refine ⟨.ref p0, c1, p0, C0, dx0, vs0, .ref q0, rfl, c2, c4, c5, c3, .inl ⟨rfl, _, SqL.of c6⟩, ?_⟩
  refine A.run F W σ Γ _ _ _ R q (fun x W' Γ' v s R' o ⟨C, fs, ds, y, h1, h2, h3, q⟩ => ?_) fun c W' Γ' s R' q => L.xs W' σ Γ' c s R' q
  have hs : Stp F W Γ W' Γ' := by
    rw [M.e] at s
    exact s
  obtain ⟨p, dx, vs, q', us, e1, e2, e3, _, _, e6, e7, _⟩ := R'.putFL (us' := []) (ds' := []) h1 .nil
  have eq : q' = q0 := by
    rw [c1] at e1
    cases e1
    have := hs.obj _ _ _ _ c2
    rw [e2] at this
    cases this
    rw [e3] at c3
    cases c3
    rfl
  subst eq
  obtain ⟨p2, dx2, vs2, q2, us2, f1, f2, f3, _, _, f6, f7, W2, eH, R2, s2⟩ := R'.putFL (us' := us ++ [v]) (ds' := ds ++ [y]) h1 (e7.app (.cons (o.sh R' h2) .nil))
  have eq2 : q2 = q' := by
    rw [f1] at e1
    cases e1
    rw [f2] at e2
    cases e2
    rw [f3] at e3
    cases e3
    rfl
  subst eq2
  refine ⟨q2, us, v, rfl, rfl, e6, by rw [e7.length]; exact h3, ?_⟩
  show D.nx σ _
  rw [← eH]
  exact L.nx W2 σ _ (hs.sh.trans s2.sh) R2 q⟩
def dFldPop (i : Nat) (f : Str) : TEXd := fun Γ Q _ => ∃ C fs ds y, fldL Γ i f = some (C, fs, ds) ∧ ds[ds.length - 1]? = some y ∧ Q (.sh y) (putI Γ i C (fs.setOw f (.lst ds.dropLast)))
instance sex_fldPop : SEX K Xw true (tBM0 K "list" rPop (tFld K (tVar i) f)) (dFldPop i f) := ⟨fun F W σ Γ Q Qd Qx R ⟨C, fs, ds, y, h1, h2, q⟩ k _ => by
  obtain ⟨p, dx, vs, q', us, e1, e2, e3, e4, e5, e6, e7, _⟩ := R.putFL (us' := []) (ds' := []) h1 .nil
  obtain ⟨v, g1, g2⟩ := e7.get h2
  obtain ⟨p2, dx2, vs2, q2, us2, f1, f2, f3, _, _, f6, f7, W2, eH, R2, s2⟩ := R.putFL (us' := us.dropLast) (ds' := ds.dropLast) h1 e7.dropLast
  have eq2 : q2 = q' := by
    rw [f1] at e1
    cases e1
    rw [f2] at e2
    cases e2
    rw [f3] at e3
    cases e3
    rfl
  subst eq2
  refine ⟨.ref p, e1, p, C, dx, vs, .ref q2, rfl, e2, e4, e5, e3, .inl ⟨rfl, _, SqL.of e6⟩, q2, us, v, rfl, rfl, e6, by rw [e7.length]; exact g1, ?_⟩
  rw [← eH]
  exact k (.sh y) W2 _ v s2 R2 (g2.same s2.sh) q⟩
/-! C(..) -/
def noRf (as : List AD) : Bool := as.all fun a => !isRf a
def dMake (K : Fg) (cl : Addr) (C : Ct) (d : TAXd) : TGCd := fun Γ Q X => d Γ (fun xs Γ1 => ∃ as, adsOf true Γ1 xs = some as ∧ noRf as = true ∧ Cls K cl ∧ C (.rf (.ins cl .nil) :: as) (fun r ol => r = .d .none ∧ ∃ o, ol = [o] ∧ Q (.nw o) Γ1) fun _ _ => False) X
theorem noRf_at {as : List AD} (h : noRf as = true) {j : Nat} {o : OD} (e : as[j]? = some (.rf o)) : False := by
  have := List.all_eq_true.mp h _ (List.mem_of_getElem? e)
  simp [isRf] at this
theorem noRf_ix {as : List AD} (h : noRf as = true) (xs : List RV) : rfIx xs as 0 = [] := by
  cases e : rfIx xs as 0 with
  | nil => rfl
  | cons q r =>
    obtain ⟨n, o, _, _, h3⟩ := rfIx_mem (i := q.1) (k := q.2) (xs := xs) (as := as) (j := 0) (by rw [e]; simp)
    exact (noRf_at h h3).elim
theorem chG_id (Γ : G) : chG Γ (fun _ => none) = Γ := by
  apply List.ext_getElem?
  intro i
  exact chG_none rfl
theorem make_run {F : Fx K} {W W1 : Wd} {σ : L2.St} {Γ Γ1 : G} {m1 : Bool} {cl : Addr} {C : Ct} {vs : List V} {xs : List RV} {as : List AD} {Q : VK} {Qd : RT → G → Prop} {Qe : Value → Prop} {E : XK} (s1 : StM m1 F W Γ W1 Γ1) (R1 : Rel F W1 σ Γ1) (o1 : VOks F W1 σ Γ1 vs xs) (ha : adsOf true Γ1 xs = some as) (hn : noRf as = true) (hcl : Cls K cl) (hc : C (.rf (.ins cl .nil) :: as) (fun r ol => r = .d .none ∧ ∃ o, ol = [o] ∧ Qd (.nw o) Γ1) fun c _ => Qe c)
    (k : ∀ (r : RT) (W' : Wd) (Γ' : G) (v : V), StM m1 F W Γ W' Γ' → Rel F W' σ Γ' → RtOk F W Γ W' Γ' v r → Qd r Γ' → Q v W'.H) (kx : ∀ (c : Value) (W' : Wd), Same (W.S F) (W'.S F) → Rel F W' σ Γ1 → Qe c → E c none W'.H) {x dx : Addr} (hx : W1.H x = none) (hdx : W1.H dx = none) (ne : dx ≠ x) :
    GSp K true C (.ref x :: vs) (upd (upd W1.H dx (.own x)) x (.ins cl dx [])) (fun v H2 => v = .non ∧ Q (.ref x) H2) E := by
  obtain ⟨ft0, hin, _⟩ := gIn_of R1 o1 ha (by rw [noRf_ix hn]; rfl)
  have nr0 : ∀ ft a, ¬ Rfs as ft a := fun ft a ⟨j, o, e, _⟩ => noRf_at hn e
  have old : ∀ a u, W1.H a = some u → upd (upd W1.H dx (.own x)) x (.ins cl dx []) a = some u := fun a u e => by
    rw [upd_ne (fun z => by rw [z, hx] at e; cases e), upd_ne (fun z => by rw [z, hdx] at e; cases e)]
    exact e
  have ex : upd (upd W1.H dx (.own x)) x (.ins cl dx []) x = some (.ins cl dx []) := upd_same
  have edx : upd (upd W1.H dx (.own x)) x (.ins cl dx []) dx = some (.own x) := by rw [upd_ne ne, upd_same]
  generalize hH : upd (upd W1.H dx (.own x)) x (.ins cl dx []) = H2 at old ex edx
  have tx : Tx W1.H H2 := fun a u _ e => old a u e
  let ft : Nat → List Addr := fun j => if j = 0 then [x, dx] else []
  have rf1 : ∀ a, Rfs (.rf (.ins cl .nil) :: as) ft a → a = x ∨ a = dx := fun a ⟨j, o, e, hj⟩ => by
    cases j with
    | zero => simpa [ft] using hj
    | succ j => exact (noRf_at hn (by simpa using e)).elim
  have nxd : ∀ a u, W1.H a = some u → ¬ (a = x ∨ a = dx) := fun a u e z => by
    rcases z with rfl | rfl
    · rw [hx] at e; cases e
    · rw [hdx] at e; cases e
  have inn : GIn K true (.ref x :: vs) H2 (.rf (.ins cl .nil) :: as) ft (fun a => Ex F W1.O a ∨ a = x ∨ a = dx) := by
    refine ⟨by simp [hin.len], fun j a e => ?_, fun a z => ?_, fun a z => .inr (rf1 a z), fun i j o o' a ni e1 e2 h1 h2 => ?_⟩
    · cases j with
      | zero =>
        simp at e
        subst e
        refine ⟨_, rfl, x, rfl, ?_⟩
        simp only [OwnO]
        exact ⟨dx, [], [], rfl, by simp [ft, Ne.symm ne], ex, edx, by simp only [FsOk]; exact ⟨trivial, trivial⟩, hcl, fun f hf => by simp [Fs.has] at hf⟩
      | succ j =>
        obtain ⟨v, g1, g2⟩ := hin.arg j a (by simpa using e)
        refine ⟨v, by simpa using g1, ?_⟩
        have sX : Same (less W1.H (Ex F W1.O)) (less H2 fun a => Ex F W1.O a ∨ a = x ∨ a = dx) := same_less fun b u nx e => ⟨fun z => z.elim nx (nxd b u e), old b u e⟩
        cases a with
        | d d z =>
          cases z with
          | true => exact Dq.same sX g2
          | false => exact Dq.same (same_less fun b u _ e => ⟨fun z => nxd b u e (rf1 b z), old b u e⟩) g2
        | rf o => exact (noRf_at hn (by simpa using e)).elim
        | ro o =>
          obtain ⟨q0, p, g, q1, q2, q3⟩ := g2
          have some_of : ∀ b ∈ g, ∃ u, W1.H b = some u := fun b hb => by
            cases w : W1.H b with
            | none => have m := R1.exmo (q2 b hb).2; rw [w] at m; exact m.elim
            | some u => exact ⟨u, rfl⟩
          refine ⟨q0, p, g, q1, fun b hb => ?_, q3.keep sX tx fun b hb => ?_⟩
          · obtain ⟨u, hu⟩ := some_of b hb
            exact ⟨fun z => nxd b u hu (rf1 b z), .inl (q2 b hb).2⟩
          · obtain ⟨u, hu⟩ := some_of b hb
            rw [old b u hu, hu]
    · rcases z with z | rfl | rfl
      · have m := R1.exmo z
        obtain ⟨u, hu⟩ := mo_some m
        rw [old a u hu, ← hu]
        exact m
      · rw [ex]; trivial
      · rw [edx]; trivial
    · cases i with
      | zero =>
        cases j with
        | zero => exact ni rfl
        | succ j => exact noRf_at hn (by simpa using e2)
      | succ i => exact noRf_at hn (by simpa using e1)
  have fin : ∀ {H' : Hp} {os : Nat → OD} {ft' : Nat → List Addr} {T : Addr → Prop}, GOut K (.ref x :: vs) H2 (.rf (.ins cl .nil) :: as) ft (fun a => Ex F W1.O a ∨ a = x ∨ a = dx) H' os ft' T → ∀ T' : Addr → Prop, (∀ a, T' a → a ∈ ft' 0) → ChOk F W1 σ Γ1 (fun _ => none) H' T' := fun {H' os ft' T} g T' hT => by
    refine ⟨fun a u _ e => g.fr a u (fun z => nxd a u e (rf1 a z)) (old a u e), (fun a ⟨_, _, _, e, _⟩ => nomatch e), fun a z => ?_, (fun i m e => nomatch e), (fun i k m n a _ e => nomatch e), fun a z => ?_, .inl fun i m s e => nomatch e⟩
    · rcases z with ⟨_, _, e, _⟩ | ⟨_, _, _, e, _⟩ <;> cases e
    · obtain ⟨p, _, q2, _⟩ := g.ob 0 _ rfl
      refine ⟨?_, (fun ⟨_, _, _, e, _⟩ => nomatch e), q2.mo a (hT a z)⟩
      cases w : W1.H a with
      | none => rfl
      | some u =>
        rcases g.nw a ⟨0, _, rfl, hT a z⟩ with y | y
        · exact (nxd a u w (rf1 a y)).elim
        · rw [old a u w] at y; cases y
  refine ⟨_, ft, _, _, _, inn, hc, fun v H' os ft' T r g ok ⟨er, o0, eo, q⟩ => ?_, fun c H' os ft' g q => ?_⟩
  · subst er
    cases (show some (os 0) = some o0 from congrArg List.head? eo)
    have ev : v = .non := by cases ok.1; rfl
    refine ⟨ev, ?_⟩
    have ch := fin g (fun a => a ∈ ft' 0) fun a z => z
    obtain ⟨R2, _⟩ := R1.objs ch
    have st := R1.objsM (m := false) ch (fun _ i n e => nomatch e) (fun _ a ⟨_, _, e, _⟩ => nomatch e)
    rw [chG_id] at R2 st
    have st2 := s1.trans st
    rw [Bool.or_false] at st2
    refine k (.nw (os 0)) _ Γ1 (.ref x) st2 R2 ?_ q
    obtain ⟨p, q1, q2, _⟩ := g.ob 0 _ rfl
    cases (show some (V.ref x) = some (V.ref p) from q1)
    refine ⟨x, ft' 0, rfl, q2.keep (same_less fun a u nx e => ⟨fun z => nx ?_, e⟩) (fun _ _ _ e => e) fun _ _ => rfl, fun a ha => ⟨?_, fun z => ?_⟩⟩
    · rcases z with z | z | z | z
      · exact .inl (.inl (.inl z))
      · exact .inl (.inl (.inr z))
      · obtain ⟨_, _, _, e, _⟩ := z; cases e
      · exact .inr (.inl ⟨0, _, rfl, z⟩)
    · have := ch.tm R1 ha
      rw [chG_id] at this
      exact this
    · have m := R1.mu a (s1.stx.tmp a z).1.1
      rw [(ch.tn a ha).1] at m
      exact m
  · have ch := fin g (fun _ => False) fun a z => z.elim
    obtain ⟨R2, kq⟩ := R1.objs ch
    rw [chG_id] at R2
    exact kx c _ (s1.stx.sh.trans kq.sh) R2 q
instance seg_make {cl : Addr} {C : Ct} {E : XK} {m1 : Bool} {ts : TA} {d : TAXd} [A : SAX K Xw m1 ts d] : SEG K Xw m1 (tMake cl (GSp K true C) [] E ts) (dMake K cl C d) := ⟨fun F W σ Γ Q Qd Qx R q k kx => A.run F W σ Γ _ _ _ R q (fun xs W1 Γ1 vs s1 R1 o1 ⟨as, ha, hn, hcl, hc⟩ => by
  intro x dx hx hdx ne
  rw [List.append_nil]
  exact make_run (Qe := fun _ => False) s1 R1 o1 ha hn hcl hc k (fun c W' _ _ z => z.elim) hx hdx ne) kx⟩
end
end Dk

namespace Dk
open PySem PySem.Spec PyProof.Rows L2
/-! ### a walk over a list or a tuple -/
def iEither (K : Fg) (te : TE) : TI := fun σ H R => iList K te σ H R ∨ iTup K te σ H R
theorem kpie (K : Fg) {X : Cx} {tg l : Expr} {tl : TE} (hl : PE X l tl) (h : X.K = K := by rfl) : PI X tg l (iEither K tl) := ⟨fun pn st σ H R J q => q.elim (fun q => (kpil K hl h).run pn st σ H R J q) fun q => (kpit K hl h).run pn st σ H R J q⟩
section
variable {K : Fg} {vs ix : List Nat} {g : TG} {dg : TGd} {tt : TT} {dt : TTd} {te t0 ta : TE} {de d0 da : TEd}
def dLcE (d0 : TEd) (dg : TGd) (dt : TTd) (de : TEd) (ix vs : List Nat) : TFd := fun Γ Q => dLc itL d0 dg dt de ix vs Γ Q ∨ dLc itT d0 dg dt de ix vs Γ Q
instance sf_lcE [A : SE K t0 d0] [B : SG K g dg ix] [T : ST K tt dt] [C : SE K te de] : SEF K (tLc (iEither K t0) g tt te vs) (dLcE d0 dg dt de ix vs) := ⟨fun F W σ Γ Q Qd R q kk => by
  rcases q with q | q
  · exact .inl ((sf_lcL (K := K) (g := g) (tt := tt) (te := te) (t0 := t0) (vs := vs)).run F W σ Γ Q Qd R q kk)
  · exact .inr ((sf_lcT (K := K) (g := g) (tt := tt) (te := te) (t0 := t0) (vs := vs)).run F W σ Γ Q Qd R q kk)⟩
/-! ### slices of tuples -/
theorem kslT {X : Cx} (K : Fg) (h : X.K = K := by rfl) : SlR X (rSlA K) := h ▸ sl_tupA
theorem tup_sh {F : Fx K} {W : Wd} {σ : L2.St} {Γ : G} {v : V} {x : RV} {ds : List PyData} (R : Rel F W σ Γ) (o : VOk F W σ Γ v x) (e : tupOf Γ x = some ds) (hk : keepable x ds) : Dq K (W.S F) v (.tuple ds) := by
  cases x with
  | fld _ _ => cases e
  | sh d =>
    cases d with
    | tuple ds' => cases e; exact o
    | _ => cases e
  | ar d =>
    cases d with
    | tuple ds' =>
      cases e
      exact VOk.sh R o (by show (if tupO (.tuple ds) = true then _ else _) = _; exact if_pos (by show tupO (.tuple ds) = true; simp only [tupO]; exact hk))
    | _ => cases e
  | own i =>
    obtain ⟨s, h1, h2, h3⟩ := o
    simp only [tupOf, h1] at e
    cases s with
    | no => cases e
    | ar d => cases e
    | ow o => cases e
    | rf o => cases e
    | ro o => cases e
    | sh d =>
      cases d with
      | tuple ds' =>
        cases e
        obtain ⟨v', q1, q2⟩ := R.slot i _ h1
        rw [h3] at q1
        cases q1
        exact q2
      | _ => cases e
def dSlT (da : TEd) (dl dh : G → (Option Int → G → Prop) → Prop) : TEd := fun Γ Q => da Γ fun x Γ1 => dl Γ1 fun lo Γ2 => dh Γ2 fun hi Γ3 => ∃ ds, tupOf Γ3 x = some ds ∧ keepable x ds ∧ Q (.sh (.tuple (cutD ds lo hi))) Γ3
instance se_sliceT {tl th : TO} {dl dh : G → (Option Int → G → Prop) → Prop} [A : SE K ta da] [L : SO K tl dl] [U : SO K th dh] : SE K (L2.tSl (rSlA K) ta tl th) (dSlT da dl dh) := ⟨fun F W σ Γ Q Qd R q k => A.run F W σ Γ _ _ R q fun x W1 Γ1 v s1 R1 o1 q => L.run F W1 σ Γ1 _ _ R1 q fun lo W2 Γ2 s2 R2 q => U.run F W2 σ Γ2 _ _ R2 q fun hi W3 Γ3 s3 R3 ⟨ds, e, hk, q⟩ => by
  have o3 := o1.stp (s2.trans s3)
  have hv := tup_sh R3 o3 e hk
  obtain ⟨a, xs, rfl, h1, h2, h3⟩ := tupOf_ok R3 o3 e
  have hd := keep_ok R3 h2 hk
  refine ⟨a, xs, rfl, h1.sq, fun hw => ?_, fun _ p hp => ?_⟩
  · refine k (.sh (.tuple (cutD ds lo hi))) W3 Γ3 _ (s1.trans (s2.trans s3)) R3 (.ofSh ?_) q
    have : cutD ds lo hi = ds := by
      unfold cutD
      rw [← hd.length, hw.1, hw.2, hd.length, List.drop_zero, Nat.sub_zero, List.take_length]
    rw [this]
    exact hv
  · have hS := same_new (o := .tup (cutV xs lo hi)) hp
    refine k (.sh (.tuple (cutD ds lo hi))) { W3 with H := upd W3.H p (.tup (cutV xs lo hi)) } Γ3 (.ref p) ((s1.trans (s2.trans s3)).trans (Stp.grow R3 hS)) (R3.grow hS).1 ?_ q
    refine .tup (.inl (S_of (W := { W3 with H := upd W3.H p (.tup (cutV xs lo hi)) }) (R3.free hp) upd_same)) (DqAll.same (R3.grow hS).2 ?_)
    unfold cutV cutD
    rw [hd.length]
    exact (hd.drop _).take _⟩
end
end Dk

namespace Dk
open PySem PySem.Spec PyProof.Rows L2
/-! ### constants of the module -/
structure CInt (mg : Str → Option Value) (x : Str) (i : Int) where
  u : Value
  g : mg x = some u
  r : RelV (.int i) u
/-- a written tuple -/
class KtLink (K : Fg) (a : Addr) (ds : outParam (List PyData)) : Prop where
  ok : ∀ H, Dq K H (.ref a) (.tuple ds)
structure KTup (K : Fg) (mg : Str → Option Value) (x : Str) (ds : List PyData) where
  a : Addr
  g : mg x = some (.ref a)
  l : KtLink K a ds
instance se_kt {K : Fg} {a : Addr} {ds : List PyData} [L : KtLink K a ds] : SE K (tC (.ref a)) (dC (.tuple ds)) := ⟨fun F W σ Γ Q Qd R h k => k _ W Γ _ (Stp.refl ..) R (.ofSh (L.ok _)) h⟩
/-- a written dict with text keys: f what stands at a key, m whether a key is there (as far as one asks) -/
class KdLink (K : Fg) (w : World) (d : Addr) (f : outParam (Str → Option PyData)) (m : outParam (Str → Option Bool)) : Prop where
  item : ∀ z x, f z = some x → ∃ v, KDct K w d z v ∧ ∀ H, Dq K H v x
  mem : ∀ z b, m z = some b → ∃ r, PySem.W.nsIn K d z = some r ∧ r.isSome = b
structure KDic (K : Fg) (w : World) (mg : Str → Option Value) (x : Str) (f : Str → Option PyData) (m : Str → Option Bool) where
  d : Addr
  es : Array DictEntry
  n : Nat
  g : mg x = some (.ref d)
  D : KDict K w d es n
  l : KdLink K w d f m
theorem kixD {X : Cx} (K : Fg) (w : World) (h : X.K = K := by rfl) (h2 : X.w = w := by rfl) : IxR X (rIxD K w) := h ▸ h2 ▸ ix_kdict
def rNotInD (K : Fg) (w : World) (d : Addr) : R2 := fun x y H Q => ∃ (z : Str) (r : Option Value), x = .str z ∧ y = .ref d ∧ PySem.W.nsIn K d z = some r ∧ Q (.bl (!r.isSome)) H
theorem knotInD {X : Cx} (K : Fg) (w : World) {d : Addr} {es : Array DictEntry} {n : Nat} (D : KDict K w d es n) (h : X.K = K := by rfl) (h2 : X.w = w := by rfl) : OpR X (compareOp .NotIn) (rNotInD K w d) := by
  subst h h2
  exact op_notIn_kd D
section
variable {K : Fg} {w : World} {d : Addr} {f : Str → Option PyData} {m : Str → Option Bool} {ta : TE} {da : TEd}
def dKdIx (f : Str → Option PyData) (da : TEd) : TEd := fun Γ Q => da Γ fun x Γ1 => ∃ z y, dat Γ1 x = some (.str z) ∧ f z = some y ∧ Q (.sh y) Γ1
instance se_kdIx [L : KdLink K w d f m] [A : SE K ta da] : SE K (tOp (rIxD K w) (tC (.ref d)) ta) (dKdIx f da) := ⟨fun F W σ Γ Q Qd R q k => A.run F W σ Γ _ _ R q fun x W' Γ' u s' R' o ⟨z, y, e1, e2, q⟩ => by
  obtain ⟨v, h1, h2⟩ := L.item z y e2
  exact ⟨d, z, v, rfl, str_of (o.full R' e1), h1, k _ W' Γ' _ s' R' (.ofSh (h2 _)) q⟩⟩
def dKdNot (m : Str → Option Bool) (da : TEd) : TEd := fun Γ Q => da Γ fun x Γ1 => ∃ z b, dat Γ1 x = some (.str z) ∧ m z = some b ∧ Q (.sh (.bool (!b))) Γ1
instance se_kdNot [L : KdLink K w d f m] [A : SE K ta da] : SE K (tOp (rNotInD K w d) ta (tC (.ref d))) (dKdNot m da) := ⟨fun F W σ Γ Q Qd R q k => A.run F W σ Γ _ _ R q fun x W' Γ' u s' R' o ⟨z, b, e1, e2, q⟩ => by
  obtain ⟨r, h1, h2⟩ := L.mem z b e2
  refine ⟨z, r, str_of (o.full R' e1), rfl, h1, ?_⟩
  rw [h2]
  exact k _ W' Γ' _ s' R' (.bl _) q⟩
end
theorem kt_of {K : Fg} {a : Addr} {xs : List V} {ds : List PyData} {od : Option Addr} {its : Array Value} {n : Nat} {sl : Array (Option Value)} (kt : KT = true) (h : K.lookup a = some ⟨.type "tuple", od, .seq its n, sl⟩) (hz : its.size ≤ sizeLine) (hv : Vals xs its.toList) (hd : ∀ H, DqAll K H xs ds) : ∀ H, Dq K H (.ref a) (.tuple ds) := fun H =>
  .tup (.inr ⟨kt, _, its, n, h, rfl, rfl, hz, hv⟩) (hd H)
end Dk

namespace Dk
open PySem PySem.Spec PyProof.Rows L2
/-! ### dicts that are data -/
def dicRV : RV → Option (List (PyData × PyData))
  | .sh (.dict kvs) => some kvs
  | .ar (.dict kvs) => some kvs
  | _ => none
section
variable {K : Fg} {td ty : TE} {dd dy : TEd}
theorem dicRV_ok {F : Fx K} {W : Wd} {σ : L2.St} {Γ : G} {v : V} {x : RV} {kvs : List (PyData × PyData)} (R : Rel F W σ Γ) (o : VOk F W σ Γ v x) (e : dicRV x = some kvs) : ∃ a us, v = .ref a ∧ L2.Rd W.H a (.dK us) ∧ DqKv K W.H us kvs ∧ (∀ k d, valP kvs k = some d → ∃ u, valV us k = some u ∧ VOk F W σ Γ u (itK x d)) ∧ ∀ k, valP kvs k = none → valV us k = none := by
  cases x with
  | sh d =>
    cases d with
    | dict kvs' =>
      cases e
      cases (show Dq K (W.S F) v (.dict kvs) from o) with
      | dct a b => exact ⟨_, _, rfl, L2.Same.rd less_same a, b.same less_same, fun k d z => (b.val (k := k)).2 d z, fun k z => (b.val (k := k)).1 z⟩
    | _ => cases e
  | ar d =>
    cases d with
    | dict kvs' =>
      cases e
      cases (show Dq K (less F.H0 F.rf) v (.dict kvs) from o) with
      | dct a b => exact ⟨_, _, rfl, L2.Same.rd R.ar_same a, b.same R.ar_same, fun k d z => (b.val (k := k)).2 d z, fun k z => (b.val (k := k)).1 z⟩
    | _ => cases e
  | own i => cases e
  | fld i p => cases e
def dDGetV (dd dy : TEd) : TEd := fun Γ Q => dd Γ fun x Γ1 => dy Γ1 fun y Γ2 => ∃ key k kvs d, dat Γ2 y = some key ∧ keyD key = some k ∧ dicRV x = some kvs ∧ valP kvs k = some d ∧ Q (itK x d) Γ2
instance (priority := low) se_dgetV [A : SE K td dd] [B : SE K ty dy] : SE K (tDGet td ty) (dDGetV dd dy) := ⟨fun F W σ Γ Q Qd R q kk => A.run F W σ Γ _ _ R q fun x W1 Γ1 u s1 R1 o1 q => B.run F W1 σ Γ1 _ _ R1 q fun y W2 Γ2 v s2 R2 o2 ⟨key, k, kvs, d, e1, e2, e3, e4, q⟩ => by
  obtain ⟨a, us, rfl, h1, h2, h3, _⟩ := dicRV_ok R2 (o1.stp s2) e3
  obtain ⟨w, w1, w2⟩ := h3 k d e4
  refine ⟨a, w, rfl, ?_, kk _ W2 Γ2 w (s1.trans s2) R2 w2 q⟩
  rw [keyD_ok (o2.full R2 e1) e2, ← w1]
  exact DGet.kr h1⟩
def dDInV (f : Bool → Bool) (dd dy : TEd) : TEd := fun Γ Q => dy Γ fun y Γ1 => dd Γ1 fun x Γ2 => ∃ key k kvs, dat Γ2 y = some key ∧ keyD key = some k ∧ dicRV x = some kvs ∧ Q (.sh (.bool (f (valP kvs k).isSome))) Γ2
theorem din_run {f : Bool → Bool} [A : SE K td dd] [B : SE K ty dy] {F : Fx K} {W : Wd} {σ : L2.St} {Γ : G} {Q : VK} {Qd : RV → G → Prop} (R : Rel F W σ Γ) (q : dDInV f dd dy Γ Qd) (kk : ∀ (rv : RV) (W' : Wd) (Γ' : G) (v : V), Stp F W Γ W' Γ' → Rel F W' σ Γ' → VOk F W' σ Γ' v rv → Qd rv Γ' → Q v W'.H) :
    ty σ W.H fun y H1 => td σ H1 fun x H2 => ∃ a o, x = .ref a ∧ DGet H2 a y o ∧ Q (.bl (f o.isSome)) H2 := B.run F W σ Γ _ _ R q fun y W1 Γ1 v s1 R1 o1 q => A.run F W1 σ Γ1 _ _ R1 q fun x W2 Γ2 u s2 R2 o2 ⟨key, k, kvs, e1, e2, e3, q⟩ => by
  obtain ⟨a, us, rfl, h1, h2, h3, h4⟩ := dicRV_ok R2 o2 e3
  refine ⟨a, valV us k, rfl, ?_, ?_⟩
  · rw [keyD_ok ((o1.stp s2).full R2 e1) e2]
    exact DGet.kr h1
  · have e : (valV us k).isSome = (valP kvs k).isSome := by
      cases c : valP kvs k with
      | none => rw [h4 k c]; rfl
      | some d => obtain ⟨w, w1, _⟩ := h3 k d c; rw [w1]; rfl
    rw [e]
    exact kk _ W2 Γ2 _ (s1.trans s2) R2 (.bl _) q
instance (priority := low) se_dinV [A : SE K td dd] [B : SE K ty dy] : SE K (tDIn ty td) (dDInV id dd dy) := ⟨fun F W σ Γ Q Qd R q kk => din_run R q kk⟩
instance (priority := low) se_dnotinV [A : SE K td dd] [B : SE K ty dy] : SE K (tDNotIn ty td) (dDInV not dd dy) := ⟨fun F W σ Γ Q Qd R q kk => din_run (f := not) R q kk⟩
/-! dict(d) -/
def rDictOf : List V → Hp → VK → Prop := fun xs H Q => ∃ (a : Addr) (kvs : List (Key × V)), xs = [.ref a] ∧ L2.Rd H a (.dK kvs) ∧ ∀ p, H p = none → Q (.ref p) (upd H p (.dK kvs))
theorem b_dict {X : Cx} : CallR X (.type "dict") rDictOf := call_dictD
/-- the entries, with keys as they are -/
def kvsOf : List (PyData × PyData) → Option (List (Key × PyData))
  | [] => some []
  | (e, d) :: r => match keyD e, kvsOf r with
    | some k, some ks => some ((k, d) :: ks)
    | _, _ => none
theorem DqKv.kv {H : Hp} : ∀ {us : List (Key × V)} {kvs : List (PyData × PyData)} {ks : List (Key × PyData)}, DqKv K H us kvs → kvsOf kvs = some ks → KvOk K H us ks
  | _, _, _, .nil, e => by cases e; exact .nil
  | (k0, v0) :: us, (e, d) :: kvs, ks, .cons he hv hr, e2 => by
    subst he
    simp only [kvsOf, keyD_kD] at e2
    split at e2
    · rename_i k ks' e3 e4
      cases e3
      cases e2
      exact .cons ⟨rfl, hv⟩ (DqKv.kv hr e4)
    · cases e2
theorem kvsOf_map (kvs : List (Key × PyData)) : kvsOf (kvs.map fun p => (kD p.1, p.2)) = some kvs := by
  induction kvs with
  | nil => rfl
  | cons p r ih => simp only [List.map_cons, kvsOf, keyD_kD, ih]
/-- a copy of a dict that is data: its values may be kept -/
def dDictOf (dd : TEd) : TFd := fun Γ Q => dd Γ fun x Γ1 => ∃ kvs ks, dicRV x = some kvs ∧ kvsOf kvs = some ks ∧ keepable x (ks.map (·.2)) ∧ Q (.dK ks) Γ1
theorem kvOk_vals {S : Hp} : ∀ {us : List (Key × V)} {ks : List (Key × PyData)}, KvOk K S us ks → DqAll K S (us.map (·.2)) (ks.map (·.2))
  | _, _, .nil => .nil
  | _, _, .cons h t => .cons h.2 (kvOk_vals t)
theorem kvOk_of {S S' : Hp} : ∀ {us : List (Key × V)} {ks : List (Key × PyData)}, KvOk K S us ks → DqAll K S' (us.map (·.2)) (ks.map (·.2)) → KvOk K S' us ks
  | _, _, .nil, _ => .nil
  | _, _, .cons h t, z => by
    cases z with
    | cons a b => exact .cons ⟨h.1, a⟩ (kvOk_of t b)
instance sf_dictOf [A : SE K td dd] : SEF K (tCB rDictOf (tCons td tNil)) (dDictOf dd) := ⟨fun F W σ Γ Q Qd R q k => one (ta := td) (da := dd) R q fun x W' Γ' v s' R' o ⟨kvs, ks, e1, e2, hk, q⟩ => by
  have fin : ∀ {a : Addr} {us : List (Key × V)}, v = .ref a → L2.Rd W'.H a (.dK us) → KvOk K (W'.S F) us ks → rDictOf [v] W'.H Q := fun {a us} hv h1 h2 => by
    subst hv
    exact ⟨a, us, rfl, h1, fun p hp => k (.dK ks) W' Γ' p _ s' R' hp ⟨us, rfl, h2⟩ q⟩
  cases x with
  | sh d =>
    cases d with
    | dict kvs' =>
      cases e1
      cases (show Dq K (W'.S F) v (.dict kvs) from o) with
      | dct a b => exact fin rfl (L2.Same.rd less_same a) (b.kv e2)
    | _ => cases e1
  | ar d =>
    cases d with
    | dict kvs' =>
      cases e1
      cases (show Dq K (less F.H0 F.rf) v (.dict kvs) from o) with
      | dct a b =>
        have h := b.kv e2
        exact fin rfl (L2.Same.rd R'.ar_same a) (kvOk_of h (DqAll.tupO_less (H' := W'.H) (fun a z => R'.exmo z) _ _ hk ((kvOk_vals h).same R'.ar_same)))
    | _ => cases e1
  | own i => cases e1
  | fld i p => cases e1⟩
/-! d.pop(k), a dict of a name -/
def dropD (kvs : List (Key × PyData)) (k : Key) : List (Key × PyData) := kvs.filter fun kv => decide (kv.1 ≠ k)
end
end Dk

namespace Dk
open PySem PySem.Spec PyProof.Rows L2
section
variable {K : Fg} {S : Hp} {td ty te ti : TE} {dd dy de di : TEd}
/-! d.pop(k), a dict of a name -/
theorem KvOk.drop {us : List (Key × V)} {kvs : List (Key × PyData)} (h : KvOk K S us kvs) (k : Key) : KvOk K S (dropK us k) (dropD kvs k) := by
  unfold KvOk at h ⊢
  induction h with
  | nil => exact .nil
  | @cons p q ps qs h t ih =>
    obtain ⟨h1, h2⟩ := h
    by_cases e : q.1 = k
    · have e' : p.1 = k := h1.trans e
      simpa [dropK, dropD, List.filter_cons, e, e'] using ih
    · have e' : ¬ p.1 = k := fun z => e (h1.symm.trans z)
      have g : dropK (p :: ps) k = p :: dropK ps k := by simp [dropK, List.filter_cons, e']
      have g' : dropD (q :: qs) k = q :: dropD qs k := by simp [dropD, List.filter_cons, e]
      rw [g, g']
      exact .cons ⟨h1, h2⟩ ih
def dictK (Γ : G) (i : Nat) : Option (Sl × List (Key × PyData)) := match Γ[i]? with
  | some (.ow (.dK kvs)) => some (.ow (.dK kvs), kvs)
  | some (.rf (.dK kvs)) => some (.rf (.dK kvs), kvs)
  | _ => none
theorem dictK_ok {Γ : G} {i : Nat} {s : Sl} {kvs : List (Key × PyData)} (e : dictK Γ i = some (s, kvs)) : Γ[i]? = some s ∧ s.own? = some (.dK kvs) := by
  unfold dictK at e
  split at e
  · rename_i h; cases e; exact ⟨h, rfl⟩
  · rename_i h; cases e; exact ⟨h, rfl⟩
  · cases e
def dDPop (i : Nat) (dy : TEd) : TEd := fun Γ Q => isDict Γ i = true ∧ dy Γ fun y Γ1 => ∃ key k s kvs d, dat Γ1 y = some key ∧ keyD key = some k ∧ dictK Γ1 i = some (s, kvs) ∧ valD kvs k = some d ∧ Q (.sh d) (Γ1.set i (setOwn s (.dK (dropD kvs k))))
instance se_dpop {i : Nat} [A : SE K ty dy] : SE K (tDPop1 (tVar i) ty) (dDPop i dy) := ⟨fun F W σ Γ Q Qd R ⟨h0, q⟩ kk => by
  obtain ⟨p, e0, hd⟩ := isDict_ref R h0
  refine ⟨.ref p, e0, p, rfl, hd, A.run F W σ Γ _ _ R q fun y W' Γ' u s' R' o ⟨key, k, s, kvs, d, e1, e2, e3, e4, q⟩ => ?_⟩
  obtain ⟨h1, h2⟩ := dictK_ok e3
  obtain ⟨p', us, g1, g2, g3⟩ := own_dK R' h1 h2
  rw [e0] at g1
  cases g1
  obtain ⟨v, w1, w2⟩ := (g3.val k).2 d e4
  have hh : OwnH K (W'.S F) (.dK (dropK us k)) (.dK (dropD kvs k)) := ⟨_, rfl, g3.drop k⟩
  refine ⟨us, k, v, g2, keyD_ok (o.full R' e1) e2, w1, ?_⟩
  refine kk _ { W' with H := upd W'.H p (.dK (dropK us k)) } _ _ (s'.trans (Stp.put R' h1 h2 rfl e0 hh)) (R'.put h1 h2 rfl e0 hh).1 (.ofSh ?_) q
  rw [(R'.put h1 h2 rfl e0 hh).2]
  exact w2⟩
/-! sorted(d), keys that are texts, fewer than 64 -/
def rSortDS : List V → Hp → VK → Prop := fun xs H Q => ∃ (a : Addr) (kvs : List (Key × V)) (ks : List Str), xs = [.ref a] ∧ L2.Rd H a (.dK kvs) ∧ kvs.map (·.1) = ks.map Sum.inr ∧ ks.length < 64 ∧
    ∀ ys p, ys.Perm ks → sortedS ys = true → H p = none → Q (.ref p) (upd H p (.lst (ys.map V.str)))
theorem b_sortDS {X : Cx} (calm : X.calm = true) : CallR X (.builtin "sorted") rSortDS := call_sortedD calm
theorem DqAll.ofStrs' : ∀ (xs : List Str), DqAll K S (xs.map V.str) (xs.map .str)
  | [] => .nil
  | x :: xs => .cons (.str x) (DqAll.ofStrs' xs)
def dSortDS (dd : TEd) : TFd := fun Γ Q => dd Γ fun x Γ1 => ∃ kvs l, ∃ ks : List Str, dicRV x = some kvs ∧ kvsOf kvs = some l ∧ l.map (·.1) = ks.map Sum.inr ∧ ks.length < 64 ∧ ∀ ys : List Str, ys.Perm ks → sortedS ys = true → Q (.lst (ys.map .str)) Γ1
instance sf_sortDS [A : SE K td dd] : SEF K (tCB rSortDS (tCons td tNil)) (dSortDS dd) := ⟨fun F W σ Γ Q Qd R q k => one (ta := td) (da := dd) R q fun x W' Γ' v s' R' o ⟨kvs, l, ks, e1, e2, e3, hl, q⟩ => by
  obtain ⟨a, us, rfl, h1, h2, _, _⟩ := dicRV_ok R' o e1
  have h := h2.kv e2
  exact ⟨a, us, ks, rfl, h1, by rw [KvOk.keys h, e3], hl, fun ys p hp hs hn => k (.lst (ys.map .str)) W' Γ' p _ s' R' hn ⟨_, rfl, DqAll.ofStrs' ys⟩ (q ys hp hs)⟩⟩
/-! xs.insert(i, y), xs.clear() -/
def rInsert : V → List V → Hp → VK → Prop := fun x vs H Q => ∃ (l : Addr) (xs : List V) (i : Int) (y : V), x = .ref l ∧ vs = [.int i, y] ∧ H l = some (.lst xs) ∧ xs.length < sizeLine ∧ 0 ≤ i ∧ i < 2 ^ 63 ∧
    Q .non (upd H l (.lst (xs.take i.toNat ++ [y] ++ xs.drop i.toNat)))
theorem b_insert {X : Cx} : MtR X "list.insert" rInsert := mt_insert
def dInsert (i : Nat) (di de : TEd) : TEd := fun Γ Q => (ownL Γ i).isSome = true ∧ di Γ fun z Γ0 => de Γ0 fun x Γ1 => ∃ ds d n, ownL Γ1 i = some ds ∧ dat Γ1 z = some (.int n) ∧ shOf x = some d ∧ ds.length < sizeLine ∧ 0 ≤ n ∧ n < 2 ^ 63 ∧ Q (.sh .none) (putL Γ1 i (ds.take n.toNat ++ [d] ++ ds.drop n.toNat))
instance se_insert {i : Nat} [A : SE K ti di] [B : SE K te de] : SE K (tBM K "list" rInsert (tVar i) (tCons ti (tCons te tNil))) (dInsert i di de) := ⟨fun F W σ Γ Q Qd R ⟨h0, q⟩ k => by
  obtain ⟨ds0, h0⟩ := Option.isSome_iff_exists.mp h0
  obtain ⟨s0, a1, a2, _⟩ := ownL_of h0
  obtain ⟨p, e0⟩ := own_ref R a1 a2
  obtain ⟨vs0, b1, b2⟩ := own_lst R a1 a2 e0
  refine ⟨.ref p, e0, .inl ⟨rfl, _, SqL.of b1⟩, ?_⟩
  refine A.run F W σ Γ _ _ R q fun z W1 Γ1 u s1 R1 o1 q => ?_
  refine B.run F W1 σ Γ1 _ _ R1 q fun x W' Γ' v s' R' o ⟨ds, d, n, h1, e1, e2, hl, n0, n1, q⟩ => ?_
  obtain ⟨s, c1, c2, c3⟩ := ownL_of h1
  obtain ⟨vs, b1, b2⟩ := own_lst R' c1 c2 e0
  have hh : OwnH K (W'.S F) (.lst (vs.take n.toNat ++ [v] ++ vs.drop n.toNat)) (.lst (ds.take n.toNat ++ [d] ++ ds.drop n.toNat)) := ⟨_, rfl, ((b2.take _).app (.cons (o.sh R' e2) .nil)).app (b2.drop _)⟩
  refine ⟨p, vs, n, v, rfl, by rw [int_of ((o1.stp s').full R' e1)], b1, by rw [b2.length]; exact hl, n0, n1, ?_⟩
  rw [c3] at q
  exact k _ { W' with H := upd W'.H p (.lst (vs.take n.toNat ++ [v] ++ vs.drop n.toNat)) } _ _ ((s1.trans s').trans (Stp.put R' c1 c2 rfl e0 hh)) (R'.put c1 c2 rfl e0 hh).1 .non q⟩
theorem b_clear {X : Cx} : MtR X "list.clear" rClear := mt_clear
def dClear (i : Nat) : TEd := fun Γ Q => (ownL Γ i).isSome = true ∧ Q (.sh .none) (putL Γ i [])
instance se_clear {i : Nat} : SE K (tBM0 K "list" rClear (tVar i)) (dClear i) := ⟨fun F W σ Γ Q Qd R ⟨h0, q⟩ k => by
  obtain ⟨ds, h0⟩ := Option.isSome_iff_exists.mp h0
  obtain ⟨s, c1, c2, c3⟩ := ownL_of h0
  obtain ⟨p, e0⟩ := own_ref R c1 c2
  obtain ⟨vs, b1, b2⟩ := own_lst R c1 c2 e0
  have hh : OwnH K (W.S F) (.lst []) (.lst []) := ⟨_, rfl, .nil⟩
  refine ⟨.ref p, e0, .inl ⟨rfl, _, SqL.of b1⟩, p, vs, rfl, rfl, b1, ?_⟩
  rw [c3] at q
  exact k _ { W with H := upd W.H p (.lst []) } _ _ (Stp.put R c1 c2 rfl e0 hh) (R.put c1 c2 rfl e0 hh).1 .non q⟩
end
end Dk

namespace Dk
open PySem PySem.Spec PyProof.Rows L2
/-! ### a walk over a dict's keys: the dict is locked meanwhile -/
def lcW (J : It) (g : TG) (tt : TT) (te : TE) (vs : List Nat) (σ : L2.St) (H1 : Hp) (Q : VK) : Prop := ∀ D, H1 D = none → ∃ W : Nat → Nat → Hp → Prop, (∃ m, W 0 m (upd H1 D (.lst []))) ∧ ∀ i m H, W i m H →
  (J.stop i H ∧ Q (.ref D) H) ∨ (J.go i H ∧ ∃ Nx : Hp → Prop, (∀ H', Nx H' → ∃ m', m' < m ∧ W (i + 1) m' H') ∧ ∀ x H', J.yld i H x H' → g x (wipe σ vs) H' fun σ2 H2 => wipe σ2 vs = wipe σ vs ∧ tt σ2 H2 fun b H3 =>
    if b = true then te σ2 H3 fun y H4 => ∃ acc, H4 D = some (.lst acc) ∧ acc.length < sizeLine ∧ Nx (upd H4 D (.lst (acc ++ [y]))) else Nx H3)
theorem lcW.mono {J : It} {g : TG} {tt : TT} {te : TE} {vs : List Nat} {σ : L2.St} {H1 : Hp} {Q Q2 : VK} (h : lcW J g tt te vs σ H1 Q) (k : ∀ v H', Q v H' → Q2 v H') : lcW J g tt te vs σ H1 Q2 := fun D hD => by
  obtain ⟨W, w0, w⟩ := h D hD
  exact ⟨W, w0, fun i m H z => (w i m H z).imp (fun ⟨a, b⟩ => ⟨a, k _ _ b⟩) id⟩
def tLcK (td : TE) (g : TG) (tt : TT) (te : TE) (vs : List Nat) : TE := fun σ H Q => td σ H fun x H1 => ∃ d us, x = .ref d ∧ L2.Rd H1 d (.dK us) ∧ ∀ od, (∀ o, H1 d = some (.frz o (.dK us)) → o = od) → lcW (Itk d od us) g tt te vs σ (upd H1 d (.frz od (.dK us))) fun v H' => H' d = some (.frz od (.dK us)) ∧ ∀ u, H1 d = some u → Q v (upd H' d u)
def tLk (X : Cx) (td : TE) : TE := fun σ H Q => ∃ Q1 : VK, td σ H Q1 ∧ ∀ x H1, Q1 x H1 → ∃ d us, x = .ref d ∧ L2.Rd H1 d (.dK us) ∧ (∀ o, H1 d = some (.frz o (.dK us)) → Q x H1) ∧ (H1 d = some (.dK us) → ∀ od, (∀ o' u', X.H_0 d ≠ some (.frz o' u')) → Q x (upd H1 d (.frz od (.dK us))))
theorem pe_lk {X : Cx} {e : Expr} {td : TE} (h : PE X e td) : PE X e (tLk X td) := ⟨fun pins s σ H Q I ⟨Q1, h1, h2⟩ => thn (h.run pins s σ H Q1 I h1) fun u s1 ⟨x, H1, I1, rx, q⟩ => by
  obtain ⟨d, us, ex, rd, c1, c2⟩ := h2 x H1 q
  rcases rd with rd | ⟨o, rd⟩
  · obtain ⟨od, I2⟩ := I1.lock rd trivial
    exact ⟨x, _, I2, rx, c2 rd od (I1.nofrz rd trivial)⟩
  · exact ⟨x, H1, I1, rx, c1 o rd⟩⟩
theorem upd_id {H : Hp} {d : Addr} {o : HO} (h : H d = some o) : upd H d o = H := by
  funext a
  by_cases z : a = d
  · subst z; rw [upd_same, h]
  · rw [upd_ne z]
def unL (X : Cx) (Q : VK) : VK := fun v H' => ∃ d od us u, H' d = some (.frz od (.dK us)) ∧ (u = .frz od (.dK us) ∨ u = .dK us ∧ ∀ o' u', X.H_0 d ≠ some (.frz o' u')) ∧ Q v (upd H' d u)
theorem pe_lcK {X : Cx} {elt tg iter : Expr} {ifs : List Expr} {scope : Scope} {own : List (Str × Nat)} {pos : Pos} {td : TE} {g : TG} {tt : TT} {te : TE} (hc : X.calm = true) (hN : X.N.Nodup) (hi : PE X iter td) (ok : BlkOk X.N X.env.scope scope own)
    (hg : ∀ (s : Shared) (H : Hp) (C : Addr) (cl : List (Str × Addr)) (fp : List Addr), PG (X.blk s H scope (compEnvC scope cl C X.env) fp) tg g) (ht : ∀ (s : Shared) (H : Hp) (C : Addr) (cl : List (Str × Addr)) (fp : List Addr), PTs (X.blk s H scope (compEnvC scope cl C X.env) fp) ifs tt)
    (he : ∀ (s : Shared) (H : Hp) (C : Addr) (cl : List (Str × Addr)) (fp : List Addr), PE (X.blk s H scope (compEnvC scope cl C X.env) fp) elt te) (hs : ∀ x, foldedSetIterable iter X.env x = pure x := by intro _; rfl) :
    PE X (.ListComp elt [⟨tg, iter, ifs, 0⟩] scope pos) (tLcK td g tt te (own.map (·.2))) := by
  have h2 := pe_lc (pos := pos) hc hN (pi_keys (tg := tg) (pe_lk hi)) ok hg ht he hs
  refine ⟨fun pins s σ H Q I h => ?_⟩
  refine thn (h2.run pins s σ H (unL X Q) I ?_) fun v s1 ⟨x, H1, I1, r, d, od, us, u, e, hu, q⟩ => ?_
  · refine ⟨_, h, fun x H1 ⟨d, us, ex, rd, w⟩ => ⟨d, us, ex, rd, fun o ho => ?_, fun ho od hn => ?_⟩⟩
    · refine ⟨d, o, ex, .inl ⟨us, ho, ?_⟩⟩
      have w' := w o fun o' z => by rw [ho] at z; cases z; rfl
      rw [upd_id ho] at w'
      exact lcW.mono (Q2 := unL X Q) w' fun v H' ⟨a, b⟩ => ⟨d, o, us, _, a, .inl rfl, b _ ho⟩
    · refine ⟨d, od, ex, .inl ⟨us, upd_same, ?_⟩⟩
      exact lcW.mono (Q2 := unL X Q) (w od fun o' z => by rw [ho] at z; cases z) fun v H' ⟨a, b⟩ => ⟨d, od, us, _, a, .inr ⟨rfl, hn⟩, b _ ho⟩
  · rcases hu with rfl | ⟨rfl, hn⟩
    · rw [upd_id e] at q
      exact ⟨x, H1, I1, r, q⟩
    · exact ⟨x, _, I1.unlock e hn, r, q⟩
theorem lc_keysW {d : Addr} {od : Obj} {us : List (Key × V)} {g : TG} {tt : TT} {te : TE} {vs : List Nat} {σ : L2.St} {H1 : Hp} {D : Addr} {Qd : Hp → Prop} (Pv : Nat → Hp → Prop) (h0 : Pv 0 (upd H1 D (.lst []))) (hl : ∀ i H, i ≤ us.length → Pv i H → H d = some (.frz od (.dK us)))
    (hs : ∀ i k v H, us[i]? = some (k, v) → Pv i H → g (kV k) (wipe σ vs) H fun σ2 H2 => wipe σ2 vs = wipe σ vs ∧ tt σ2 H2 fun b H3 =>
      if b = true then te σ2 H3 fun y H4 => ∃ acc, H4 D = some (.lst acc) ∧ acc.length < sizeLine ∧ Pv (i + 1) (upd H4 D (.lst (acc ++ [y]))) else Pv (i + 1) H3) (hd : ∀ H, Pv us.length H → Qd H) :
    ∃ W : Nat → Nat → Hp → Prop, (∃ m, W 0 m (upd H1 D (.lst []))) ∧ ∀ i m H, W i m H →
      ((Itk d od us).stop i H ∧ Qd H) ∨ ((Itk d od us).go i H ∧ ∃ Nx : Hp → Prop, (∀ H', Nx H' → ∃ m', m' < m ∧ W (i + 1) m' H') ∧ ∀ x H', (Itk d od us).yld i H x H' → g x (wipe σ vs) H' fun σ2 H2 => wipe σ2 vs = wipe σ vs ∧ tt σ2 H2 fun b H3 =>
        if b = true then te σ2 H3 fun y H4 => ∃ acc, H4 D = some (.lst acc) ∧ acc.length < sizeLine ∧ Nx (upd H4 D (.lst (acc ++ [y]))) else Nx H3) := by
  refine ⟨fun i m H => m = us.length - i ∧ i ≤ us.length ∧ Pv i H, ⟨us.length, by simp, Nat.zero_le _, h0⟩, ?_⟩
  rintro i m H ⟨rfl, hi, p⟩
  have q := hl i H hi p
  by_cases hlt : i < us.length
  · refine .inr ⟨⟨q, hlt⟩, Pv (i + 1), fun H' p' => ⟨us.length - (i + 1), by omega, rfl, hlt, p'⟩, fun x H' y => ?_⟩
    obtain ⟨e, k, v, e2, ex⟩ := y
    subst e ex
    exact hs i k v _ e2 p
  · have e : i = us.length := by omega
    subst e
    exact .inl ⟨⟨q, Nat.le_refl _⟩, hd H p⟩
/-! ### the world with a dict locked -/
def isDk (us : List (Key × V)) (o : HO) : Prop := o = .dK us ∨ ∃ od, o = .frz od (.dK us)
theorem isDk.mo {us : List (Key × V)} {o : HO} (h : isDk us o) : Mo (some o) := by rcases h with rfl | ⟨_, rfl⟩ <;> trivial
theorem isDk.nlst {us : List (Key × V)} {xs : List V} (h : isDk us (.lst xs)) : False := by rcases h with h | ⟨_, h⟩ <;> cases h
theorem isDk.ntup {us : List (Key × V)} {xs : List V} (h : isDk us (.tup xs)) : False := by rcases h with h | ⟨_, h⟩ <;> cases h
theorem isDk.nins {us : List (Key × V)} {C dx : Addr} {fs : List (Str × V)} (h : isDk us (.ins C dx fs)) : False := by rcases h with h | ⟨_, h⟩ <;> cases h
open Classical in
noncomputable def setH (d : Addr) (o : HO) (H : Hp) : Hp := fun a => if a = d then (H d).map (fun _ => o) else H a
section
variable {K : Fg} {d : Addr} {o o2 : HO} {us : List (Key × V)} {H H' S S' : Hp}
theorem setH_ne {a : Addr} (h : a ≠ d) : setH d o H a = H a := by simp [setH, h]
theorem setH_at {u : HO} (h : H d = some u) : setH d o H d = some o := by simp [setH, h]
theorem setH_no (h : H d = none) : setH d o H = H := by
  funext a
  by_cases z : a = d
  · subst z; simp [setH, h]
  · rw [setH_ne z]
theorem setH_upd {u : HO} (h : H d = some u) : setH d o H = upd H d o := by
  funext a
  by_cases z : a = d
  · subst z; rw [setH_at h, upd_same]
  · rw [setH_ne z, upd_ne z]
theorem setH_some {a : Addr} {u : HO} (h : setH d o H a = some u) : (a ≠ d ∧ H a = some u) ∨ (a = d ∧ u = o ∧ ∃ w, H d = some w) := by
  by_cases z : a = d
  · subst z
    cases e : H a with
    | none => rw [setH_no e, e] at h; cases h
    | some w => rw [setH_at e] at h; cases h; exact .inr ⟨rfl, rfl, w, rfl⟩
  · rw [setH_ne z] at h
    exact .inl ⟨z, h⟩
theorem setH_less {x : Addr → Prop} : less (setH d o H) x = setH d o (less H x) := by
  funext a
  by_cases z : a = d
  · subst z
    by_cases n : x a
    · have e : less H x a = none := by simp [less, n]
      rw [setH_no e, e]; simp [less, n]
    · cases e : H a with
      | none =>
        have e2 : less H x a = none := by simp [less, n, e]
        rw [setH_no e2, setH_no e]
      | some w =>
        have e2 : less H x a = some w := less_some.mpr ⟨n, e⟩
        rw [setH_at e2]; exact less_some.mpr ⟨n, setH_at e⟩
  · rw [setH_ne z]; simp [less, setH_ne z]
theorem setH_back (h : ∀ w, H d = some w → w = o2) : setH d o2 (setH d o H) = H := by
  funext a
  by_cases z : a = d
  · subst z
    cases e : H a with
    | none => rw [setH_no e, setH_no e, e]
    | some w => rw [setH_at (setH_at e), h w e]
  · rw [setH_ne z, setH_ne z]
theorem setH_same (h : Same S S') : Same (setH d o S) (setH d o S') := fun a u e => by
  rcases setH_some e with ⟨n, e⟩ | ⟨rfl, rfl, w, e⟩
  · rw [setH_ne n]; exact h _ _ e
  · exact setH_at (h _ _ e)
theorem Dq.setH (hd : ∀ w, S d = some w → isDk us w) (ho : isDk us o) {v : V} {e : PyData} (h : Dq K S v e) : Dq K (setH d o S) v e := by
  refine Dq.mono (fun a xs q => ?_) (fun a xs q => ?_) (fun a vs q => ?_) h
  · rw [setH_ne]
    · exact q
    · rintro rfl; exact (hd _ q).nlst
  · rw [setH_ne]
    · exact q
    · rintro rfl; exact (hd _ q).ntup
  · by_cases z : a = d
    · subst z
      have : ∃ w, S a = some w ∧ (w = .dK vs ∨ ∃ od, w = .frz od (.dK vs)) := by
        rcases q with q | ⟨od, q⟩
        · exact ⟨_, q, .inl rfl⟩
        · exact ⟨_, q, .inr ⟨od, rfl⟩⟩
      obtain ⟨w, e, hw⟩ := this
      have ev : vs = us := by
        rcases hd w e with rfl | ⟨_, rfl⟩
        · rcases hw with hw | ⟨_, hw⟩ <;> cases hw
          rfl
        · rcases hw with hw | ⟨_, hw⟩ <;> cases hw
          rfl
      subst ev
      rcases ho with rfl | ⟨od, rfl⟩
      · exact .inl (setH_at e)
      · exact .inr ⟨od, setH_at e⟩
    · exact q.imp (fun q => by rw [setH_ne z]; exact q) fun ⟨od, q⟩ => ⟨od, by rw [setH_ne z]; exact q⟩
theorem setH_tx (hd : ∀ w, H d = some w → isDk us w) : Tx H (setH d o H) := fun a u nm e => by
  rw [setH_ne]
  · exact e
  · rintro rfl; exact nm (hd u e).mo
/-- two surroundings, alike but for the dict -/
structure FxL (F F' : Fx K) (d : Addr) (o : HO) : Prop where
  h0 : F'.H0 = setH d o F.H0
  rf : F'.rf = F.rf
  rp : F'.rp = F.rp
  ex : F'.ex = F.ex
noncomputable def Fx.lock (F : Fx K) (d : Addr) (o : HO) (m : Mo (some o)) : Fx K :=
  { H0 := Dk.setH d o F.H0, rf := F.rf, rp := F.rp, ex := F.ex
    xm := fun a z => by
      have q := F.xm a z
      by_cases e : a = d
      · subst e
        obtain ⟨w, hw⟩ := mo_some q
        rw [setH_at hw]; exact m
      · rw [setH_ne e]; exact q
    rm := fun a z => by
      have q := F.rm a z
      by_cases e : a = d
      · subst e
        obtain ⟨w, hw⟩ := mo_some q
        rw [setH_at hw]; exact m
      · rw [setH_ne e]; exact q }
noncomputable def Wd.put (W : Wd) (d : Addr) (o : HO) : Wd := { W with H := Dk.setH d o W.H }
variable {F F' : Fx K} {W W1 : Wd} {σ : L2.St} {Γ Γ1 : G}
theorem FxL.sS (h : FxL F F' d o) (W : Wd) : (W.put d o).S F' = Dk.setH d o (W.S F) := by
  show less (Dk.setH d o W.H) (Ex F' W.O) = _
  rw [setH_less]
  have e : Ex F' W.O = Ex F W.O := by unfold Ex; rw [h.ex]
  rw [e]
theorem FxL.S0 (h : FxL F F' d o) : F'.S0 = Dk.setH d o F.S0 := by
  show less F'.H0 (fun a => F'.ex a ∨ F'.rf a) = _
  rw [h.h0, h.ex, h.rf, setH_less]
theorem FxL.ar (h : FxL F F' d o) : less F'.H0 F'.rf = Dk.setH d o (less F.H0 F.rf) := by
  rw [h.h0, h.rf, setH_less]
def noRo (Γ : G) : Bool := Γ.all fun s => match s with
  | .ro _ => false
  | _ => true
theorem noRo_at {i : Nat} {x : OD} (h : noRo Γ = true) (e : Γ[i]? = some (.ro x)) : False := by
  have z := List.all_eq_true.mp h _ (List.mem_of_getElem? e)
  cases z
theorem Rel.setH (L : FxL F F' d o) (R : Rel F W σ Γ) (hW : ∀ w, W.H d = some w → isDk us w) (h0 : ∀ w, F.H0 d = some w → isDk us w) (ho : isDk us o) (nO : ¬ W.O d) (hro : F.ex d → noRo Γ = true) : Rel F' (W.put d o) σ Γ := by
  have hS : ∀ w, W.S F d = some w → isDk us w := fun w e => hW w (less_some.mp e).2
  have hS0 : ∀ w, F.S0 d = some w → isDk us w := fun w e => h0 w (less_some.mp e).2
  have neO : ∀ a, W.O a → a ≠ d := fun a h z => nO (z ▸ h)
  have own : ∀ {x : OD} {p : Addr} {f : List Addr}, (∀ a ∈ f, W.O a) → OwnOk K (W.S F) W.H p f x → OwnOk K ((W.put d o).S F') (W.put d o).H p f x := fun {x p f} hf h => by
    refine ownO_ok.mp (OwnO.keepD (fun v e q => ?_) (setH_tx hW) (ownO_ok.mpr h) fun a ha => setH_ne (neO a (hf a ha)))
    rw [L.sS]
    exact q.setH hS ho
  refine ⟨fun a u e n => ?_, fun a h => ?_, fun a h => ?_, fun a h => R.rfo a (L.rf ▸ h), R.len, fun i s e => ?_, R.dis⟩
  · rw [L.rf] at n
    rw [L.h0] at e
    rcases setH_some e with ⟨ne, e⟩ | ⟨rfl, rfl, w, e⟩
    · show Dk.setH d o W.H a = _
      rw [setH_ne ne]; exact R.base a u e n
    · exact setH_at (R.base _ _ e n)
  · rw [L.h0, L.rf, setH_ne (neO a h)]
    exact R.new a h
  · show Mo (Dk.setH d o W.H a)
    rw [setH_ne (neO a h)]
    exact R.mu a h
  · have q := R.slot i s e
    cases s with
    | no => trivial
    | sh x =>
      obtain ⟨v, q1, q2⟩ := q
      exact ⟨v, q1, by rw [L.sS]; exact q2.setH hS ho⟩
    | ar x =>
      obtain ⟨v, q1, q2⟩ := q
      exact ⟨v, q1, by rw [L.ar]; exact q2.setH (fun w e => h0 w (less_some.mp e).2) ho⟩
    | ow x =>
      obtain ⟨p, q1, q2, q3⟩ := q
      exact ⟨p, q1, by rw [L.rf]; exact q2, own (fun a ha => (q2 a ha).1) q3⟩
    | rf x =>
      obtain ⟨p, q0, q1, q2, q3⟩ := q
      exact ⟨p, by rw [L.rp]; exact q0, q1, q2, own q2 q3⟩
    | ro x =>
      obtain ⟨p, f, q1, q2, q3, q4⟩ := q
      refine ⟨p, f, q1, by rw [L.rf, L.ex]; exact q2, q3, ?_⟩
      refine ownO_ok.mp (OwnO.keepD (H := F.H0) (S := F.S0) (fun v y z => ?_) ?_ (ownO_ok.mpr q4) fun a ha => ?_)
      · rw [L.S0]; exact z.setH hS0 ho
      · rw [L.h0]; exact setH_tx h0
      · rw [L.h0, setH_ne]
        rintro rfl
        exact noRo_at (hro (q2 a ha).2) e
theorem VOk.setH (L : FxL F F' d o) {v : V} {rv : RV} (h : VOk F W σ Γ v rv) (hW : ∀ w, W.H d = some w → isDk us w) (h0 : ∀ w, F.H0 d = some w → isDk us w) (ho : isDk us o) : VOk F' (W.put d o) σ Γ v rv := by
  cases rv with
  | sh x =>
    show Dq K ((W.put d o).S F') v x
    rw [L.sS]
    exact Dq.setH (fun w e => hW w (less_some.mp e).2) ho h
  | ar x =>
    show Dq K (less F'.H0 F'.rf) v x
    rw [L.ar]
    exact Dq.setH (fun w e => h0 w (less_some.mp e).2) ho h
  | own i => exact h
  | fld i path =>
    obtain ⟨s, p, x, h1, h2, h3, h4⟩ := h
    refine ⟨s, p, x, h1, h2, h3, PathV.mono (fun a C dx vs e => ?_) h4⟩
    show Dk.setH d o W.H a = _
    rw [setH_ne]
    · exact e
    · rintro rfl; exact (hW _ e).nins
theorem Stp.unlock {us : List (Key × V)} {of : HO} (L : FxL F F' d of) (hW : W.H d = some o) (hof : isDk us of) (ho : isDk us o) (nO : ¬ W.O d) (h0 : ∀ w, F.H0 d = some w → w = o) (s : Stp F' (W.put d of) Γ W1 Γ1) (h1 : W1.H d = some of) : Stp F W Γ (W1.put d o) Γ1 := by
  have L' : FxL F' F d o := ⟨by rw [L.h0, setH_back h0], L.rf.symm, L.rp.symm, L.ex.symm⟩
  refine ⟨⟨⟨?_, fun p t => ?_⟩, fun a C dx vs e => ?_⟩, s.kin, s.len⟩
  · rw [L'.sS W1]
    have z := setH_same (d := d) (o := o) s.sh
    rw [L.sS W, setH_back (fun w e => by have := (less_some.mp e).2; rw [hW] at this; cases this; rfl)] at z
    exact z
  · have ne : p ≠ d := fun z => nO (z ▸ t.1)
    obtain ⟨t1, t2⟩ := s.tmp p t
    refine ⟨t1, ?_⟩
    show Dk.setH d o W1.H p = _
    rw [setH_ne ne, t2]
    exact setH_ne ne
  · have ne : a ≠ d := by
      rintro rfl
      rw [hW] at e
      cases e
      exact ho.nins
    show Dk.setH d o W1.H a = _
    rw [setH_ne ne]
    exact s.obj a C dx vs (by show Dk.setH d of W.H a = _; rw [setH_ne ne]; exact e)
end
/-! ### [.. for k in d] -/
def lockB (Γ : G) : RV → Bool
  | .sh _ => true
  | _ => noRo Γ
def dLcK (d0 : TEd) (dg : TGd) (dt : TTd) (de : TEd) (ix vs : List Nat) : TFd := fun Γ Q => d0 Γ fun x Γ1 => ∃ kvs, dicRV x = some kvs ∧ lockB Γ1 x = true ∧ ownFree Γ1 vs = true ∧ subL ix vs = true ∧ kvs.length ≤ sizeLine ∧
  ∃ I : Nat → List PyData → G → Prop, I 0 [] (wipeG Γ1 vs) ∧ (∀ k e y acc Γ', kvs[k]? = some (e, y) → I k acc Γ' → LcTurn dg dt de vs (.sh e) Γ' fun o Γ5 => I (k + 1) (acc ++ o.toList) Γ5) ∧ (∀ acc Γ', I kvs.length acc Γ' → noRo Γ1 = noRo (backG Γ1 Γ' vs) ∧ Q (.lst acc) (backG Γ1 Γ' vs))
theorem DqKv.len {K : Fg} {H : Hp} : ∀ {us : List (Key × V)} {kvs : List (PyData × PyData)}, DqKv K H us kvs → us.length = kvs.length
  | _, _, .nil => rfl
  | _, _, .cons _ _ t => by simp [t.len]
theorem DqKv.at_ {K : Fg} {H : Hp} : ∀ {us : List (Key × V)} {kvs : List (PyData × PyData)} {i : Nat} {k : Key} {v : V}, DqKv K H us kvs → us[i]? = some (k, v) → ∃ y, kvs[i]? = some (kD k, y)
  | _, _, _, _, _, .nil, e => by cases e
  | _, _, 0, _, _, .cons h _ _, e => by cases e; subst h; exact ⟨_, rfl⟩
  | _, _, i + 1, _, _, .cons _ _ t, e => by
    obtain ⟨y, z⟩ := t.at_ (i := i) (by simpa using e)
    exact ⟨y, by simpa using z⟩
theorem dq_key {K : Fg} {H : Hp} (k : Key) : Dq K H (kV k) (kD k) := by
  cases k with
  | inl i => exact .int i
  | inr x => exact .str x
section
variable {K : Fg} {vs ix : List Nat} {g : TG} {dg : TGd} {tt : TT} {dt : TTd} {te t0 : TE} {de d0 : TEd}
theorem lcK_core [B : SG K g dg ix] [T : ST K tt dt] [C : SE K te de] {F : Fx K} {W : Wd} {σ : L2.St} {Γ : G} {d : Addr} {od : Obj} {us : List (Key × V)} {kvs : List (PyData × PyData)} {Q : VK} {Qd : OD → G → Prop} {I : Nat → List PyData → G → Prop} {S : Hp}
    (R : Rel F W σ Γ) (hd : ∀ (W' : Wd) (σ' : L2.St) (Γ' : G), Same (W.S F) (W'.S F) → Rel F W' σ' Γ' → W'.H d = some (.frz od (.dK us))) (hk : DqKv K S us kvs) (hf : ownFree Γ vs = true) (hix : subL ix vs = true) (hl : kvs.length ≤ sizeLine)
    (i0 : I 0 [] (wipeG Γ vs)) (step : ∀ k e y acc Γ', kvs[k]? = some (e, y) → I k acc Γ' → LcTurn dg dt de vs (.sh e) Γ' fun o Γ5 => I (k + 1) (acc ++ o.toList) Γ5) (done : ∀ acc Γ', I kvs.length acc Γ' → Qd (.lst acc) (backG Γ Γ' vs))
    (kk : ∀ (o : OD) (W' : Wd) (Γ' : G) (p : Addr) (ho : HO), Stp F W Γ W' Γ' → Rel F W' σ Γ' → W'.H p = none → OwnH K (W'.S F) ho o → Qd o Γ' → Q (.ref p) (upd W'.H p ho)) : lcW (Itk d od us) g tt te vs σ W.H Q := fun D hD => by
  obtain ⟨_, _, _, h0, nrf⟩ := R.temp (ho := .lst []) hD trivial
  have hlen := hk.len
  refine lc_keysW (LcSt F W σ Γ vs D I) (lc_begin R hD i0) ?_ ?_ ?_
  · rintro k H' hk ⟨W', Γ', acc, us', rfl, R', t', hd', hu, ha, s', tm', kn', ik', i'⟩
    exact hd W' _ Γ' s' R'
  · rintro i k v H' hy ⟨W', Γ', acc, us', rfl, R', t', hd', hu, ha, s', tm', kn', ik', i'⟩
    obtain ⟨y, e⟩ := hk.at_ hy
    have hi := lt_of_get hy
    exact lc_turn (x := .sh (kD k)) hix nrf R' t' hd' hu (by omega) ha s' tm' kn' ik' (dq_key k) (step i _ y acc Γ' e i')
  · intro H' h
    rw [hlen] at h
    exact lc_end R hD h0 nrf hf h done kk
theorem dic_at {F : Fx K} {W : Wd} {σ : L2.St} {Γ : G} {v : V} {x : RV} {kvs : List (PyData × PyData)} (o : VOk F W σ Γ v x) (R : Rel F W σ Γ) (e : dicRV x = some kvs) :
    ∃ a us w, v = .ref a ∧ W.H a = some w ∧ isDk us w ∧ DqKv K W.H us kvs ∧ (W.S F a = some w ∨ (F.H0 a = some w ∧ ¬ F.rf a)) ∧ (F.ex a → lockB Γ x = true → noRo Γ = true) := by
  have rdw : ∀ {S : Hp} {a : Addr} {us : List (Key × V)}, L2.Rd S a (.dK us) → ∃ w, S a = some w ∧ isDk us w := fun {S a us} h => by
    rcases h with h | ⟨od, h⟩
    · exact ⟨_, h, .inl rfl⟩
    · exact ⟨_, h, .inr ⟨od, rfl⟩⟩
  cases x with
  | sh d =>
    cases d with
    | dict kvs' =>
      cases e
      cases (show Dq K (W.S F) v (.dict kvs) from o) with
      | dct a b =>
        obtain ⟨w, h1, h2⟩ := rdw a
        exact ⟨_, _, w, rfl, less_same _ _ h1, h2, b.same less_same, .inl h1, fun z => ((less_some.mp h1).1 (.inl z)).elim⟩
    | _ => cases e
  | ar d =>
    cases d with
    | dict kvs' =>
      cases e
      cases (show Dq K (less F.H0 F.rf) v (.dict kvs) from o) with
      | dct a b =>
        obtain ⟨w, h1, h2⟩ := rdw a
        exact ⟨_, _, w, rfl, R.ar_same _ _ h1, h2, b.same R.ar_same, .inr ⟨(less_some.mp h1).2, (less_some.mp h1).1⟩, fun _ z => z⟩
    | _ => cases e
  | own i => cases e
  | fld i p => cases e
theorem DqAll.setH {d : Addr} {o : HO} {us : List (Key × V)} {S : Hp} (hd : ∀ w, S d = some w → isDk us w) (ho : isDk us o) {v : List V} {e : List PyData} (h : DqAll K S v e) : DqAll K (Dk.setH d o S) v e := DqAll.map (fun _ _ z => z.setH hd ho) h
theorem OwnH.setH {d : Addr} {o : HO} {us : List (Key × V)} {S : Hp} {ho : HO} {x : OD} (hd : ∀ w, S d = some w → isDk us w) (hu : isDk us o) (h : OwnH K S ho x) : OwnH K (Dk.setH d o S) ho x := by
  cases x with
  | lst ds => obtain ⟨vs, e, q⟩ := h; exact ⟨vs, e, q.setH hd hu⟩
  | dK ds => obtain ⟨vs, e, q⟩ := h; exact ⟨vs, e, Paired.mapP q fun _ _ z => ⟨z.1, z.2.setH hd hu⟩⟩
  | dT ds => obtain ⟨vs, e, q⟩ := h; exact ⟨vs, e, Paired.mapP q fun _ _ z => ⟨z.1, z.2.setH hd hu⟩⟩
  | ab I => exact h
  | ins C fs => exact h
theorem upd_comm {H : Hp} {a b : Addr} {x y : HO} (n : a ≠ b) : upd (upd H a x) b y = upd (upd H b y) a x := by
  funext c
  by_cases z : c = b
  · subst z; rw [upd_same, upd_ne (Ne.symm n), upd_same]
  · rw [upd_ne z]
    by_cases z2 : c = a
    · subst z2; rw [upd_same, upd_same]
    · rw [upd_ne z2, upd_ne z2, upd_ne z]
instance sf_lcK [A : SE K t0 d0] [B : SG K g dg ix] [T : ST K tt dt] [C : SE K te de] : SEF K (tLcK t0 g tt te vs) (dLcK d0 dg dt de ix vs) := ⟨fun F W σ Γ Q Qd R q kk => A.run F W σ Γ _ _ R q fun x W1 Γ1 v s1 R1 o1 ⟨kvs, e1, hlk, hf, hix, hl, I, i0, step, done⟩ => by
  obtain ⟨a, us, w, rfl, hw, hdk, hkv, pl, hex⟩ := dic_at o1 R1 e1
  have nrf : ¬ F.rf a := by
    rcases pl with pl | pl
    · exact fun z => (less_some.mp pl).1 (.inr (R1.rfo a z))
    · exact pl.2
  have nO : ¬ W1.O a := by
    rcases pl with pl | pl
    · exact fun z => (less_some.mp pl).1 (.inr z)
    · intro z
      rcases R1.new a z with y | y
      · rw [pl.1] at y; cases y
      · exact pl.2 y
  have h0 : ∀ u, F.H0 a = some u → u = w := fun u e => by
    have := R1.base a u e nrf
    rw [hw] at this
    cases this
    rfl
  refine ⟨a, us, rfl, ?_, fun od hod => ?_⟩
  · rcases hdk with rfl | ⟨od, rfl⟩
    · exact .inl hw
    · exact .inr ⟨od, hw⟩
  have hof : isDk us (.frz od (.dK us)) := .inr ⟨od, rfl⟩
  have L : FxL F (F.lock a (.frz od (.dK us)) trivial) a (.frz od (.dK us)) := ⟨rfl, rfl, rfl, rfl⟩
  have L' : FxL (F.lock a (.frz od (.dK us)) trivial) F a w := ⟨by rw [L.h0, setH_back h0], L.rf.symm, L.rp.symm, L.ex.symm⟩
  generalize F.lock a (.frz od (.dK us)) trivial = F' at L L'
  have R2 : Rel F' (W1.put a (.frz od (.dK us))) σ Γ1 := Rel.setH L R1 (fun u e => by rw [hw] at e; cases e; exact hdk) (fun u e => h0 u e ▸ hdk) hof nO fun z => hex z hlk
  have fz : ∀ (W' : Wd) (σ' : L2.St) (Γ' : G), Same ((W1.put a (.frz od (.dK us))).S F') (W'.S F') → Rel F' W' σ' Γ' → W'.H a = some (.frz od (.dK us)) := fun W' σ' Γ' sm R' => by
    rcases pl with pl | pl
    · refine less_same _ _ (sm a _ ?_)
      rw [L.sS]
      exact setH_at pl
    · refine R'.base a _ ?_ (by rw [L.rf]; exact nrf)
      rw [L.h0]
      exact setH_at pl.1
  rw [← setH_upd hw]
  refine lcK_core (W := W1.put a (.frz od (.dK us))) (Qd := fun o Γ' => noRo Γ1 = noRo Γ' ∧ Qd o Γ') R2 fz hkv hf hix hl i0 step done fun o W' Γ' p ho st R' hp oh q => ?_
  have fa := fz W' σ Γ' st.sh R'
  have ne : p ≠ a := fun z => by rw [z, fa] at hp; cases hp
  refine ⟨by rw [upd_ne (Ne.symm ne)]; exact fa, fun u hu => ?_⟩
  rw [hw] at hu
  cases hu
  rw [upd_comm ne, ← setH_upd (o := w) fa]
  have fW : ∀ u, W'.H a = some u → isDk us u := fun u e => by rw [fa] at e; cases e; exact hof
  have f0 : ∀ u, F'.H0 a = some u → isDk us u := fun u e => by
    rw [L.h0] at e
    rcases setH_some e with ⟨n, _⟩ | ⟨_, rfl, _⟩
    · exact (n rfl).elim
    · exact hof
  have nO' : ¬ W'.O a := fun z => by
    rcases pl with pl | pl
    · have m : (W1.put a (.frz od (.dK us))).S F' a = some (.frz od (.dK us)) := by rw [L.sS]; exact setH_at pl
      exact (less_some.mp (st.sh a _ m)).1 (.inr z)
    · rcases R'.new a z with y | y
      · rw [L.h0, setH_at pl.1] at y; cases y
      · exact nrf (L.rf ▸ y)
  refine kk o (W'.put a w) Γ' p ho (s1.trans (Stp.unlock L hw hof hdk nO h0 st fa)) (Rel.setH L' R' fW f0 hdk nO' fun z => ?_) ?_ ?_ q.2
  · rw [← q.1]
    exact hex (L.ex ▸ z) hlk
  · show Dk.setH a w W'.H p = none
    rw [setH_ne ne]
    exact hp
  · rw [L'.sS]
    exact oh.setH (fun u e => fW u (less_some.mp e).2) hdk⟩
end
end Dk

namespace Dk
open PySem PySem.Spec PyProof.Rows L2
/-! ### texts -/
def numS (i : Int) : Str := Str.ofString (toString i)
theorem ofS_len (s : String) : (Str.ofString s).length = s.length := by
  rw [Str.ofString_eq_toList]
  show (s.toList.map Char.toNat).toArray.size = _
  rw [List.size_toArray, List.length_map, String.length_toList]
theorem digs_len : ∀ (f n : Nat) (acc : List Char) (k : Nat), n < 10 ^ (k + 1) → (Nat.toDigitsCore 10 f n acc).length ≤ acc.length + k + 1
  | 0, n, acc, k, _ => by simp only [Nat.toDigitsCore]; omega
  | f + 1, n, acc, k, h => by
    simp only [Nat.toDigitsCore]
    split
    · simp only [List.length_cons]; omega
    · cases k with
      | zero =>
        rename_i hz
        exact absurd (Nat.div_eq_of_lt (by simpa using h)) hz
      | succ k =>
        have := digs_len f (n / 10) (Nat.digitChar (n % 10) :: acc) k (by
          rw [Nat.div_lt_iff_lt_mul (by decide)]
          rw [Nat.pow_succ] at h
          exact h)
        simp only [List.length_cons] at this
        omega
theorem natS_len {n k : Nat} (h : n < 10 ^ (k + 1)) : (toString n).length ≤ k + 1 := by
  show (Nat.repr n).length ≤ k + 1
  unfold Nat.repr Nat.toDigits
  have := digs_len (n + 1) n [] k h
  simp only [List.length_nil, Nat.zero_add] at this
  simpa using this
theorem numS_len {i : Int} (h : i.natAbs < 10 ^ 30) : (numS i).length ≤ 31 := by
  unfold numS
  rw [ofS_len]
  cases i with
  | ofNat m =>
    have := natS_len (n := m) (k := 29) h
    show (toString m).length ≤ 31
    omega
  | negSucc m =>
    have := natS_len (n := m + 1) (k := 29) h
    show ("-" ++ toString (m + 1)).length ≤ 31
    rw [String.length_append]
    have : ("-" : String).length = 1 := rfl
    omega
theorem log_small {i : Int} (h : i.natAbs < 10 ^ 30) : i.natAbs.log2 < 1920 := by
  by_cases z : i.natAbs = 0
  · rw [z]; decide
  · rw [Nat.log2_lt z]
    exact Nat.lt_of_lt_of_le h (by decide +kernel)
def rStrI : List V → Hp → VK → Prop := fun xs H Q => ∃ i, xs = [.int i] ∧ i.natAbs.log2 < 1920 ∧ Q (.str (numS i)) H
theorem b_str {X : Cx} : CallR X (.type "str") rStrI := call_str_int
def rAddS : R2 := fun x y H Q => ∃ i j, x = .str i ∧ y = .str j ∧ i.length + j.length ≤ sizeLine ∧ Q (.str (i ++ j)) H
theorem o_addS {X : Cx} : OpR X (binaryOp .Add) rAddS := op_add_str
def rJoin (K : Fg) : V → List V → Hp → VK → Prop := fun x xs H Q => ∃ a p, ∃ ys : List Str, x = .str a ∧ xs = [.ref p] ∧ (SqL K H p (ys.map V.str) ∨ SqT K H p (ys.map V.str)) ∧ (ys.map (·.length)).sum + ys.length * a.length ≤ 16777216 ∧ Q (.str (Txt.join a ys)) H
theorem kjoin {X : Cx} (K : Fg) {o e : Expr} {to te : TE} {apos pos : Pos} (ho : PE X o to) (he : PE X e te) (h : X.K = K := by rfl) (hs : starEach [e] X.env = [(false, eval e X.env)] := by rfl) (hbase : attributeBase o "join" X.env (eval o X.env) = eval o X.env := by rfl) (hline : (apos.endLine == pos.line) = true := by rfl) :
    PE X (.Call (.Attribute o "join" apos) [e] [] pos) (tM1 (rJoin K) to te) := h ▸ pe_join ho he hs hbase hline
section
variable {K : Fg} {ta tb : TE} {da db : TEd}
def dStrI (da : TEd) : TEd := fun Γ Q => da Γ fun x Γ1 => ∃ i, dat Γ1 x = some (.int i) ∧ i.natAbs.log2 < 1920 ∧ Q (.sh (.str (numS i))) Γ1
instance se_strI [SE K ta da] : SE K (tCB rStrI (tCons ta tNil)) (dStrI da) := ⟨fun F W σ Γ Q Qd R q k => one (ta := ta) (da := da) R q fun x W' Γ' v s' R' o ⟨i, e, h, q⟩ => ⟨i, by rw [int_of (o.full R' e)], h, k _ W' Γ' _ s' R' (.str _) q⟩⟩
def dAddS (da db : TEd) : TEd := fun Γ Q => da Γ fun x Γ1 => db Γ1 fun y Γ2 => ∃ i j, dat Γ2 x = some (.str i) ∧ dat Γ2 y = some (.str j) ∧ i.length + j.length ≤ sizeLine ∧ Q (.sh (.str (i ++ j))) Γ2
instance se_addS [SE K ta da] [SE K tb db] : SE K (tOp rAddS ta tb) (dAddS da db) := ⟨fun F W σ Γ Q Qd R q k => two R q fun x y W' Γ' u v s' R' o1 o2 ⟨i, j, e1, e2, h, q⟩ =>
  ⟨i, j, str_of (o1.full R' e1), str_of (o2.full R' e2), h, k _ W' Γ' _ s' R' (.str _) q⟩⟩
def dJoin (da db : TEd) : TEd := fun Γ Q => da Γ fun x Γ1 => ∃ a, dat Γ1 x = some (.str a) ∧ db Γ1 fun y Γ2 => ∃ ys : List Str, lstOf Γ2 y = some (ys.map .str) ∧ (ys.map (·.length)).sum + ys.length * a.length ≤ 16777216 ∧ Q (.sh (.str (Txt.join a ys))) Γ2
instance se_join [A : SE K ta da] [B : SE K tb db] : SE K (tM1 (rJoin K) ta tb) (dJoin da db) := ⟨fun F W σ Γ Q Qd R q k => A.run F W σ Γ _ _ R q fun x W1 Γ1 u s1 R1 o1 ⟨a, e1, q⟩ => by
  have hu := str_of (o1.full R1 e1)
  subst hu
  refine ⟨⟨_, rfl⟩, B.run F W1 σ Γ1 _ _ R1 q fun y W2 Γ2 v s2 R2 o2 ⟨ys, e2, h, q⟩ => ?_⟩
  obtain ⟨p, xs, rfl, h1, h2, h3⟩ := lstOf_ok R2 o2 e2
  exact ⟨a, p, ys, rfl, rfl, .inl (SqL.of (h3.strs ▸ h1)), h, k _ W2 Γ2 _ (s1.trans s2) R2 (.str _) q⟩⟩
end
/-! rounds as texts -/
def wordS (x : Int × Int) : Str := numS x.1 ++ "=" ++ numS x.2
def wordsS (a : Int) (xs : Pt.Pat) : List Str := (numS a ++ ":") :: xs.map wordS
def textS (a : Rd.R) : Str := Txt.join " " (wordsS a.1 a.2)
def Plain (a : Rd.R) : Prop := a.1.natAbs < 10 ^ 30 ∧ ∀ x ∈ a.2, x.1.natAbs < 10 ^ 30 ∧ x.2.natAbs < 10 ^ 30
theorem app_len (s t : Str) : (s ++ t).length = s.length + t.length := Array.size_append ..
theorem lit1 : ("=" : Str).length = 1 := by decide +kernel
theorem lit2 : (":" : Str).length = 1 := by decide +kernel
theorem lit3 : (" " : Str).length = 1 := by decide +kernel
theorem wordS_len {x : Int × Int} (h1 : x.1.natAbs < 10 ^ 30) (h2 : x.2.natAbs < 10 ^ 30) : (wordS x).length ≤ 63 := by
  unfold wordS
  have := numS_len h1
  have := numS_len h2
  rw [app_len, app_len, lit1]
  omega
theorem sum_le {α : Type} (f : α → Nat) (b : Nat) : ∀ xs : List α, (∀ x ∈ xs, f x ≤ b) → (xs.map f).sum ≤ b * xs.length
  | [], _ => by simp
  | x :: r, h => by
    have h1 := h x (by simp)
    have h2 := sum_le f b r fun y hy => h y (by simp [hy])
    simp only [List.map_cons, List.sum_cons, List.length_cons, Nat.mul_succ]
    omega
theorem words_fit {a : Int} {xs : Pt.Pat} (h : Plain (a, xs)) (hl : xs.length ≤ 1000) : ((wordsS a xs).map (·.length)).sum + (wordsS a xs).length * (" " : Str).length ≤ 16777216 := by
  have h0 : (numS a ++ ":").length ≤ 63 := by
    rw [app_len, lit2]
    have h9 : (numS a).length ≤ 31 := numS_len h.1
    omega
  have h1 : ∀ s ∈ wordsS a xs, s.length ≤ 63 := fun s hs => by
    rcases List.mem_cons.mp hs with rfl | hs
    · exact h0
    · obtain ⟨x, hx, rfl⟩ := List.mem_map.mp hs
      exact wordS_len (h.2 x hx).1 (h.2 x hx).2
  have h2 := sum_le (fun s : Str => s.length) 63 _ h1
  have h3 : (wordsS a xs).length = xs.length + 1 := by simp [wordsS]
  rw [lit3]
  omega
def cShown : List PyData → (PyData → Prop) → Prop := fun ds Qd => ∃ a : Rd.R, ds = [eRound a] ∧ Plain a ∧ a.2.length ≤ 1000 ∧ Qd (.str (textS a))
theorem strs_map (ws : List Str) : (ws.map PyData.str).length = ws.length := by simp
end Dk

namespace Dk
open PySem PySem.Spec PyProof.Rows L2
/-! ### texts -/
structure CStr (mg : Str → Option Value) (x : Str) (i : Str) where
  u : Value
  g : mg x = some u
  r : RelV (.str i) u
def repS (x : Str) (n : Nat) : Str := ⟨(List.replicate n x.cps.toList).flatten.toArray⟩
def rMulS : R2 := fun x y H Q => ∃ z n, x = .str z ∧ y = .int n ∧ 1 ≤ n ∧ n < 2 ^ 31 ∧ z.length * n.toNat ≤ sizeLine ∧ Q (.str (repS z n.toNat)) H
theorem foldl_cps (x : Str) : ∀ (n : Nat) (a : Array Nat), (List.replicate n x.cps).foldl (· ++ ·) a = a ++ (List.replicate n x.cps.toList).flatten.toArray
  | 0, a => by simp
  | n + 1, a => by
    rw [List.replicate_succ, List.foldl_cons, foldl_cps x n, List.replicate_succ, List.flatten_cons]
    apply Array.ext'
    simp
theorem repS_eq (x : Str) (n : Nat) : (⟨(List.replicate n x.cps).foldl (· ++ ·) #[]⟩ : Str) = repS x n := by
  unfold repS
  rw [foldl_cps]
  simp
theorem o_mulS {X : Cx} : OpR X (binaryOp .Mult) rMulS := by
  intro pins s σ H x y v u Q I rx ry h
  obtain ⟨z, n, rfl, rfl, n1, n2, hz, q⟩ := h
  obtain ⟨t, rfl⟩ := rx
  obtain ⟨t', rfl⟩ := ry
  have n63 : n < 2 ^ 63 := Int.lt_trans n2 (by decide)
  refine PySem.P.mul_str ?_ (fun _ _ => ?_) (fun _ _ => ?_) ?_
  · rw [decide_eq_false (by omega), decide_eq_false (by omega)]; rfl
  · intro hh
    have hl : (z.length : Int) ≤ 2 ^ 24 := by
      have : z.length * 1 ≤ z.length * n.toNat := Nat.mul_le_mul_left _ (by omega)
      have e : sizeLine = 2 ^ 24 := by decide
      rw [e] at hz
      have h3 : z.length ≤ 2 ^ 24 := by omega
      exact_mod_cast h3
    have : (2 ^ 24 : Int) ≤ (2 ^ 63 - 1) / n := by
      rw [Int.le_ediv_iff_mul_le (by omega)]
      have : (2 ^ 24 : Int) * n ≤ 2 ^ 24 * 2 ^ 31 := Int.mul_le_mul_of_nonneg_left (by omega) (by decide)
      omega
    omega
  · unfold Builtin.Str.tooLong
    simp
    exact hz
  · rw [if_neg (by omega)]
    by_cases c : (n == 1 || z.length == 0) = true
    · rw [if_pos c]
      have e : repS z n.toNat = z := by
        rw [Bool.or_eq_true] at c
        rcases c with c | c
        · have : n = 1 := by simpa using c
          subst this
          simp [repS]
        · have : z.cps = #[] := by
            have c2 : z.length = 0 := by simpa using c
            exact Array.eq_empty_of_size_eq_zero c2
          cases z with
          | mk cps =>
            simp only at this
            subst this
            simp [repS]
      rw [e] at q
      exact ⟨.str z, H, I, ⟨_, rfl⟩, q⟩
    · rw [if_neg c, repS_eq]
      refine ⟨?_, .str (repS z n.toNat), H, I.tok _, ⟨_, rfl⟩, q⟩
      unfold repS
      simpa [Str.length, Nat.mul_comm] using hz
def rInC : R2 := fun x y H Q => ∃ (c : Nat) (z : Str), x = .str ⟨#[c]⟩ ∧ y = .str z ∧ Q (.bl (decide (c ∈ z.cps.toList))) H
theorem o_inC {X : Cx} : OpR X (compareOp .In) rInC := op_in_sign
theorem o_ixS {X : Cx} : IxR X rIxS := ix_str
theorem o_slS {X : Cx} : SlR X rSlS := sl_str
section
variable {K : Fg} {ta tb t0 te : TE} {da db d0 de : TEd} {g : TG} {dg : TGd} {tt : TT} {dt : TTd} {ix vs : List Nat}
def dMulS (da db : TEd) : TEd := fun Γ Q => da Γ fun x Γ1 => db Γ1 fun y Γ2 => ∃ z n, dat Γ2 x = some (.str z) ∧ dat Γ2 y = some (.int n) ∧ 1 ≤ n ∧ n < 2 ^ 31 ∧ z.length * n.toNat ≤ sizeLine ∧ Q (.sh (.str (repS z n.toNat))) Γ2
instance se_mulS [SE K ta da] [SE K tb db] : SE K (tOp rMulS ta tb) (dMulS da db) := ⟨fun F W σ Γ Q Qd R q k => two R q fun x y W' Γ' u v s' R' o1 o2 ⟨z, n, e1, e2, h1, h2, h3, q⟩ =>
  ⟨z, n, str_of (o1.full R' e1), int_of (o2.full R' e2), h1, h2, h3, k _ W' Γ' _ s' R' (.str _) q⟩⟩
def dInC (da db : TEd) : TEd := fun Γ Q => da Γ fun x Γ1 => db Γ1 fun y Γ2 => ∃ c z, dat Γ2 x = some (.str ⟨#[c]⟩) ∧ dat Γ2 y = some (.str z) ∧ Q (.sh (.bool (decide (c ∈ z.cps.toList)))) Γ2
instance se_inC [SE K ta da] [SE K tb db] : SE K (tOp rInC ta tb) (dInC da db) := ⟨fun F W σ Γ Q Qd R q k => two R q fun x y W' Γ' u v s' R' o1 o2 ⟨c, z, e1, e2, q⟩ =>
  ⟨c, z, str_of (o1.full R' e1), str_of (o2.full R' e2), k _ W' Γ' _ s' R' (.bl _) q⟩⟩
def dIxS (da db : TEd) : TEd := fun Γ Q => da Γ fun x Γ1 => db Γ1 fun y Γ2 => ∃ z i c, dat Γ2 x = some (.str z) ∧ dat Γ2 y = some (.int i) ∧ z.length ≤ sizeLine ∧ atI z.cps.toList i = some c ∧ Q (.sh (.str ⟨#[c]⟩)) Γ2
instance se_ixS [SE K ta da] [SE K tb db] : SE K (tOp rIxS ta tb) (dIxS da db) := ⟨fun F W σ Γ Q Qd R q k => two R q fun x y W' Γ' u v s' R' o1 o2 ⟨z, i, c, e1, e2, h1, h2, q⟩ =>
  ⟨z, i, c, str_of (o1.full R' e1), int_of (o2.full R' e2), h1, h2, k _ W' Γ' _ s' R' (.str _) q⟩⟩
def dSlS (da : TEd) (dl dh : G → (Option Int → G → Prop) → Prop) : TEd := fun Γ Q => da Γ fun x Γ1 => dl Γ1 fun lo Γ2 => dh Γ2 fun hi Γ3 => ∃ z, dat Γ3 x = some (.str z) ∧ z.length ≤ sizeLine ∧ Q (.sh (.str (cutS z lo hi))) Γ3
instance se_slS {tl th : TO} {dl dh : G → (Option Int → G → Prop) → Prop} [A : SE K ta da] [L : SO K tl dl] [U : SO K th dh] : SE K (L2.tSl rSlS ta tl th) (dSlS da dl dh) := ⟨fun F W σ Γ Q Qd R q k => A.run F W σ Γ _ _ R q fun x W1 Γ1 v s1 R1 o1 q => L.run F W1 σ Γ1 _ _ R1 q fun lo W2 Γ2 s2 R2 q => U.run F W2 σ Γ2 _ _ R2 q fun hi W3 Γ3 s3 R3 ⟨z, e, h, q⟩ =>
  ⟨z, str_of ((o1.stp (s2.trans s3)).full R3 e), h, k _ W3 Γ3 _ (s1.trans (s2.trans s3)) R3 (.str _) q⟩⟩
/-! len of a text -/
def rLenS : List V → Hp → VK → Prop := fun xs H Q => ∃ z : Str, xs = [.str z] ∧ z.length ≤ sizeLine ∧ Q (.int z.length) H
theorem b_lenS {X : Cx} : CallR X (.builtin "len") rLenS := call_len_str
def dLenS (da : TEd) : TEd := fun Γ Q => da Γ fun x Γ1 => ∃ z, dat Γ1 x = some (.str z) ∧ z.length ≤ sizeLine ∧ Q (.sh (.int z.length)) Γ1
instance se_lenS [SE K ta da] : SE K (tCB rLenS (tCons ta tNil)) (dLenS da) := ⟨fun F W σ Γ Q Qd R q k => one (ta := ta) (da := da) R q fun x W' Γ' v s' R' o ⟨z, e, h, q⟩ => ⟨z, by rw [str_of (o.full R' e)], h, k _ W' Γ' _ s' R' (.int _) q⟩⟩
/-! [.. for c in text] -/
theorem lc_strW {x : Str} {g : TG} {tt : TT} {te : TE} {vs : List Nat} {σ : L2.St} {H1 : Hp} {D : Addr} {Qd : Hp → Prop} (Pv : Nat → Hp → Prop) (h0 : Pv 0 (upd H1 D (.lst [])))
    (hs : ∀ i c H, x.cps[i]? = some c → Pv i H → g (.str ⟨#[c]⟩) (wipe σ vs) H fun σ2 H2 => wipe σ2 vs = wipe σ vs ∧ tt σ2 H2 fun b H3 =>
      if b = true then te σ2 H3 fun y H4 => ∃ acc, H4 D = some (.lst acc) ∧ acc.length < sizeLine ∧ Pv (i + 1) (upd H4 D (.lst (acc ++ [y]))) else Pv (i + 1) H3) (hd : ∀ H, Pv x.cps.size H → Qd H) :
    ∃ W : Nat → Nat → Hp → Prop, (∃ m, W 0 m (upd H1 D (.lst []))) ∧ ∀ i m H, W i m H →
      ((Its x).stop i H ∧ Qd H) ∨ ((Its x).go i H ∧ ∃ Nx : Hp → Prop, (∀ H', Nx H' → ∃ m', m' < m ∧ W (i + 1) m' H') ∧ ∀ y H', (Its x).yld i H y H' → g y (wipe σ vs) H' fun σ2 H2 => wipe σ2 vs = wipe σ vs ∧ tt σ2 H2 fun b H3 =>
        if b = true then te σ2 H3 fun y H4 => ∃ acc, H4 D = some (.lst acc) ∧ acc.length < sizeLine ∧ Nx (upd H4 D (.lst (acc ++ [y]))) else Nx H3) := by
  refine ⟨fun i m H => m = x.cps.size - i ∧ i ≤ x.cps.size ∧ Pv i H, ⟨x.cps.size, by simp, Nat.zero_le _, h0⟩, ?_⟩
  rintro i m H ⟨rfl, hi, p⟩
  by_cases hlt : i < x.cps.size
  · refine .inr ⟨hlt, Pv (i + 1), fun H' p' => ⟨x.cps.size - (i + 1), by omega, rfl, hlt, p'⟩, fun y H' z => ?_⟩
    obtain ⟨e, c, e2, ex⟩ := z
    subst e ex
    exact hs i c _ e2 p
  · have e : i = x.cps.size := by omega
    subst e
    exact .inl ⟨Nat.le_refl _, hd H p⟩
def dLcS (d0 : TEd) (dg : TGd) (dt : TTd) (de : TEd) (ix vs : List Nat) : TFd := fun Γ Q => d0 Γ fun x Γ1 => ∃ z, dat Γ1 x = some (.str z) ∧ ownFree Γ1 vs = true ∧ subL ix vs = true ∧ z.length ≤ sizeLine ∧
  ∃ I : Nat → List PyData → G → Prop, I 0 [] (wipeG Γ1 vs) ∧ (∀ k c acc Γ', z.cps.toList[k]? = some c → I k acc Γ' → LcTurn dg dt de vs (.sh (.str ⟨#[c]⟩)) Γ' fun o Γ5 => I (k + 1) (acc ++ o.toList) Γ5) ∧ ∀ acc Γ', I z.length acc Γ' → Q (.lst acc) (backG Γ1 Γ' vs)
instance sf_lcS [A : SE K t0 d0] [B : SG K g dg ix] [T : ST K tt dt] [C : SE K te de] : SEF K (tLc (iStr t0) g tt te vs) (dLcS d0 dg dt de ix vs) := ⟨fun F W σ Γ Q Qd R q kk => A.run F W σ Γ _ _ R q fun x W1 Γ1 v s1 R1 o1 ⟨z, e, hf, hix, hl, I, i0, step, done⟩ => by
  refine ⟨z, str_of (o1.full R1 e), fun D hD => ?_⟩
  obtain ⟨_, _, _, h0, nrf⟩ := R1.temp (ho := .lst []) hD trivial
  refine lc_strW (LcSt F W1 σ Γ1 vs D I) (lc_begin R1 hD i0) ?_ ?_
  · rintro i c H' hy ⟨W', Γ', acc, us', rfl, R', t', hd', hu, ha, s', tm', kn', ik', i'⟩
    have hi : i < z.length := (Array.getElem?_eq_some_iff.mp hy).1
    exact lc_turn (x := .sh (.str ⟨#[c]⟩)) hix nrf R' t' hd' hu (by omega) ha s' tm' kn' ik' (.str _) (step i c acc Γ' (by rw [Array.getElem?_toList]; exact hy) i')
  · intro H' h
    exact lc_end R1 hD h0 nrf hf h done fun o W' Γ' p ho s' R' hp oh q => kk o W' Γ' p ho (s1.trans s') R' hp oh q⟩
end
end Dk

namespace Dk
open PySem PySem.Spec PyProof.Rows L2
/-! ### try with any body and several clauses, none of them with a name -/
abbrev Hds := List (Value × (Addr → Value → Option Addr → TS))
def tTryM (K : Fg) (l : Hds) (tb : WX → TS) (Wout : WX) : TS := fun D σ H => tb (wMany K Wout D l) D σ H
theorem hd_nil {X : Cx} : HdsOk X [] [] := .nil
theorem hd_cons {X : Cx} {x : Str} {c : Value} {ts : TS} {b₀ : Stmt} {suite : List Stmt} {np pos' : Pos} {hds : List ExceptHandler} {l : Hds} (hc : Names X x c) (hsu : ∀ (a : Addr) (oe : Obj) (pn : List (Addr × Obj)), PSs (X.suite a ((a, oe) :: pn)) (b₀ :: suite) ts) (r : HdsOk X hds l) :
    HdsOk X (.ExceptHandler (some (.Name x np)) none (b₀ :: suite) pos' :: hds) ((c, fun _ _ _ => ts) :: l) := .cons hc (fun a oe _ _ pn _ _ => hsu a oe pn) r
theorem ps_tryM {X : Cx} (K : Fg) {body : List Stmt} {h₀ : ExceptHandler} {hds : List ExceptHandler} {l : Hds} {pos : Pos} {tb : WX → TS} {Wout : WX} (hs : X.stack = X.env :: X.outer) (hf : X.env.frame = some X.env.locals) (tk : Takes X Wout)
    (hb : ∀ (W : WX) (pn : List (Addr × Obj)) (xe : Value → Shared → Prop), Takes (X.tr pn xe) W → PassesOwn (model X.prog X.w) X.A X.env xe → PSs (X.tr pn xe) body (tb W))
    (hh : HdsOk X (h₀ :: hds) l) (h : X.K = K := by rfl) : PS X (.Try body (h₀ :: hds) [] [] pos) (tTryM K l tb Wout) := h ▸ ps_try_many hs hf tk hb hh
def DE.xw (E : DE) (f : Value → G → Prop) : DE := { E with xs := f }
def dMany (K : Fg) (E : DE) : List (Value × TSd) → Value → G → Prop
  | [], c, Γ => E.xs c Γ
  | (cv, db) :: r, c, Γ => ∃ b, PySem.W.exmOne K c cv = some b ∧ (b = true → db E Γ) ∧ (b = false → dMany K E r c Γ)
def dTryM (K : Fg) (hs : List (Value × TSd)) (db : TSd) : TSd := fun E Γ => db (E.xw (dMany K E hs)) Γ
class HS (K : Fg) (Xw : WX) (l : Hds) (hs : outParam (List (Value × TSd))) : Prop where
  run : ∀ (F : Fx K) (W0 W : Wd) (σ : L2.St) (Γ : G) (D : Ends) (E : DE) (c : Value), Lk F W0 Xw D E → Same (W0.S F) (W.S F) → Rel F W σ Γ → dMany K E hs c Γ → wMany K Xw D l c none σ W.H
section
variable {K : Fg} {Xw : WX} {ts : TS} {d db : TSd} {l : Hds} {hs : List (Value × TSd)} {c : Value} {tb : WX → TS}
instance hs_nil : HS K Xw [] [] := ⟨fun F W0 W σ Γ D E c L s R q => L.xs W σ Γ c s R q⟩
instance hs_cons [S : SS K Xw ts d] [T : HS K Xw l hs] : HS K Xw ((c, fun _ _ _ => ts) :: l) ((c, d) :: hs) := ⟨fun F W0 W σ Γ D E cx L s R ⟨b, e, q1, q2⟩ =>
  ⟨b, e, fun hb a ha => S.run F W σ Γ D E R (q1 hb) (L.mono s), fun hb => T.run F W0 W σ Γ D E cx L s R (q2 hb)⟩⟩
instance ss_tryM [B : ∀ W, SS K W (tb W) db] [T : HS K Xw l hs] : SS K Xw (tTryM K l tb Xw) (dTryM K hs db) := ⟨fun F W σ Γ D E R q L =>
  (B (wMany K Xw D l)).run F W σ Γ D _ R q ⟨L.nx, L.rt, L.rn, L.bk, L.ct, fun W' σ' Γ' c s R' z => T.run F W W' σ' Γ' D E c L s R' z⟩⟩
end
end Dk

/-! plain: how far a round lies -/
namespace Bk
def okB (m r : Int) (a : Rd.R) : Bool := decide (Dk.absI a.1 ≤ m) && a.2.all fun x => decide (Dk.absI x.1 ≤ r)
theorem okB_f {m r : Int} {a : Rd.R} (h : m < Dk.absI a.1) : okB m r a = false := by
  unfold okB
  rw [decide_eq_false (by omega), Bool.false_and]
theorem okB_t {m r : Int} {a : Rd.R} (h : ¬ m < Dk.absI a.1) : okB m r a = a.2.all fun x => decide (Dk.absI x.1 ≤ r) := by
  unfold okB
  rw [decide_eq_true (by omega), Bool.true_and]
/-- small letters -/
def letters : PySem.Str := "abcdefghijklmnopqrstuvwxyz"
def nameB (z : PySem.Str) : Bool := decide (1 ≤ z.length) && decide (z.length ≤ 12) && z.cps.toList.all fun c => decide (c ∈ letters.cps.toList)
end Bk
namespace Dk
open PySem PySem.Spec PyProof.Rows L2
theorem lcS_map {dg : TGd} {dt : TTd} {de : TEd} {vs : List Nat} {Γ2 : G} {z : Str} {R : List PyData → G → Prop} (h : Nat → Option PyData) (step : ∀ c, c ∈ z.cps.toList → ∀ P : Option PyData → G → Prop, P (h c) (wipeG Γ2 vs) → LcTurn dg dt de vs (.sh (.str ⟨#[c]⟩)) (wipeG Γ2 vs) P) (done : R (z.cps.toList.filterMap h) (wipeG Γ2 vs)) :
    ∃ I : Nat → List PyData → G → Prop, I 0 [] (wipeG Γ2 vs) ∧ (∀ k c acc Γ', z.cps.toList[k]? = some c → I k acc Γ' → LcTurn dg dt de vs (.sh (.str ⟨#[c]⟩)) Γ' fun o Γ5 => I (k + 1) (acc ++ o.toList) Γ5) ∧ ∀ acc Γ', I z.length acc Γ' → R acc Γ' := by
  obtain ⟨J, j0, j1, j2⟩ := lc_map (f := fun c => PyData.str ⟨#[c]⟩) (kd := RV.sh) (xs := z.cps.toList) (R := R) (vs := vs) (Γ2 := Γ2) (dg := dg) (dt := dt) (de := de) h step done
  exact ⟨J, j0, fun k c acc Γ' e i => j1 k _ acc Γ' (by simp only [List.getElem?_map, e, Option.map_some]) i, fun acc Γ' i => j2 acc Γ' (by rw [List.length_map, Array.length_toList]; exact i)⟩
def cOk (m r : Int) : List PyData → (PyData → Prop) → Prop := fun ds Qd => ∃ a : Rd.R, ds = [eRound a] ∧ a.2.length ≤ 100000 ∧ Qd (.bool (Bk.okB m r a))
def cName : List PyData → (PyData → Prop) → Prop := fun ds Qd => ∃ z : Str, ds = [.str z] ∧ z.length ≤ 1000 ∧ Qd (.bool (Bk.nameB z))
def cFarL : List PyData → (PyData → Prop) → Prop := fun ds Qd => ∃ (a : Rd.R) (m r : Int), ds = [eRound a, .int m, .int r] ∧ a.2.length ≤ 100000 ∧ Qd (.bool (!Bk.okB m r a))
end Dk

namespace Dk
open PySem PySem.Spec PyProof.Rows L2
/-! ### a name's list or dict that is handed on, and changed no more by it -/
def tVarZ (i : Nat) : TE := tVar i
theorem pz {X : Cx} (i : Nat) {x : Str} {pos : Pos} (hN : X.N[i]? = some x := by rfl) (hv : Vis X.env.scope x := by first | exact Or.inl rfl | exact Or.inr (Or.inl rfl) | exact Or.inr (Or.inr rfl)) (hd : (x == ("__debug__" : Str)) = false := by decide) (hcd : (x == ("__classdict__" : Str)) = false := by decide) : PE X (.Name x pos) (tVarZ i) := pv i hN hv hd hcd
def dVarZ (i : Nat) : TEd := fun Γ Q => ∃ o d, Γ[i]? = some (.ow o) ∧ odD o = some d ∧ Q (.sh d) (Γ.set i (.sh d))
instance se_varZ {K : Fg} (i : Nat) : SE K (tVarZ i) (dVarZ i) := ⟨fun F W σ Γ Q Qd R ⟨o, d, h, e, q⟩ k => by
  obtain ⟨W', eW, sW, R'⟩ := R.freezeO h e
  have hl : i < Γ.length := (List.getElem?_eq_some_iff.mp h).1
  obtain ⟨v, e1, e2⟩ := R'.slot i (.sh d) (by rw [List.getElem?_set_self hl])
  refine ⟨v, e1, ?_⟩
  rw [← eW]
  exact k (.sh d) W' _ v sW R' (.ofSh e2) q⟩
/-! for x in xs, where xs is a name's own list that stays its own -/
theorem Rel.recast {K : Fg} {F : Fx K} {W : Wd} {σ : L2.St} {Γ : G} (R : Rel F W σ Γ) {i : Nat} {o o' : OD} (h : Γ[i]? = some (.ow o)) (ok : ∀ p, σ[i]? = some (some (.ref p)) → OwnOk K (W.S F) W.H p (W.ft i) o → OwnOk K (W.S F) W.H p (W.ft i) o') : Rel F W σ (Γ.set i (.ow o')) := by
  refine ⟨R.base, R.new, R.mu, R.rfo, by rw [List.length_set]; exact R.len, fun j s e => ?_, fun j k s t oj ok' a ne e1 e2 g1 g2 => ?_⟩
  · rcases get_set _ _ _ _ _ e with ⟨rfl, rfl, hl⟩ | ⟨ne, e⟩
    · obtain ⟨p, a1, a2, a3⟩ := R.slot _ _ h
      exact ⟨p, a1, a2, ok p a1 a3⟩
    · exact R.slot j s e
  · have at_ : ∀ {j : Nat} {s : Sl} {oj : OD}, (Γ.set i (.ow o'))[j]? = some s → s.own? = some oj → ∃ s0 o0, Γ[j]? = some s0 ∧ s0.own? = some o0 := fun {j s oj} e g => by
      rcases get_set _ _ _ _ _ e with ⟨rfl, rfl, hl⟩ | ⟨ne, e⟩
      · exact ⟨_, _, h, rfl⟩
      · exact ⟨_, _, e, g⟩
    obtain ⟨s0, o0, b1, b2⟩ := at_ e1 g1
    obtain ⟨t0, o1, b3, b4⟩ := at_ e2 g2
    exact R.dis j k s0 t0 o0 o1 a ne b1 b3 b2 b4
def iListO (K : Fg) (i : Nat) : TI := iList K (tVar i)
theorem kpilO (K : Fg) {X : Cx} {tg l : Expr} {i : Nat} (hl : PE X l (tVar i)) (h : X.K = K := by rfl) : PI X tg l (iListO K i) := h ▸ pi_list hl
/-- a list that stands at one place, unchanged -/
def IsL (p0 : Addr) (vs : List V) : Hp → Addr → List Addr → Prop := fun H p f => p = p0 ∧ f = [p0] ∧ H p0 = some (.lst vs)
def DE.lpO (E : DE) (M : G → Prop) : DE := { E with nx := M, ct := M, bk := fun _ => False }
def dForO (i : Nat) (dg : TGd) (db : TSd) : TSd := fun E Γ => ∃ ds, Γ[i]? = some (.ow (.lst ds)) ∧ ∀ A : Hp → Addr → List Addr → Prop, ∃ I : Nat → G → Prop, I 0 (Γ.set i (.ow (.ab A))) ∧ (∀ k Γ', I k Γ' → Γ'[i]? = some (.ow (.ab A))) ∧
  (∀ k d Γ', ds[k]? = some d → I k Γ' → dg (.sh d) Γ' fun Γ3 => db (E.lpO (I (k + 1))) Γ3) ∧ ∀ Γ', I ds.length Γ' → E.nx (Γ'.set i (.ow (.lst ds)))
instance ss_forO {K : Fg} {Xw : WX} {i : Nat} {g : TG} {dg : TGd} {ix : List Nat} {tb : TS} {db : TSd} [B : SG K g dg ix] [C : SS K Xw tb db] : SS K Xw (tFor (iListO K i) g tb) (dForO i dg db) := ⟨fun F W σ Γ D E R ⟨ds, h, q⟩ L => by
  obtain ⟨p, a1, a2, hf, vs, hp, hd⟩ := R.slot i _ h
  obtain ⟨I, i0, own, step, done⟩ := q (IsL p vs)
  refine ⟨_, a1, p, rfl, ⟨vs, SqL.of hp⟩, ?_⟩
  have R0 : Rel F W σ (Γ.set i (.ow (.ab (IsL p vs)))) := R.recast h fun p' e1 hw => by
    rw [a1] at e1
    cases e1
    refine ⟨by rw [hf]; simp, ⟨rfl, hf, hp⟩, fun H' hk ht => ⟨rfl, hf, by rw [hk p (by rw [hf]; simp)]; exact hp⟩, fun a ha => ?_⟩
    have e : a = p := by rw [hf] at ha; simpa using ha
    subst e
    rw [hp]
    exact ⟨trivial, trivial⟩
  have stand : ∀ {W' : Wd} {σ' : L2.St} {Γ' : G} {k : Nat}, Rel F W' σ' Γ' → I k Γ' → W'.H p = some (.lst vs) ∧ σ'[i]? = some (some (.ref p)) ∧ W'.ft i = [p] := fun {W' σ' Γ' k} R' i' => by
    obtain ⟨p', b1, b2, b3, ⟨b4, b5, b6⟩, _⟩ := R'.slot i _ (own k Γ' i')
    subst b4
    exact ⟨b6, b1, b5⟩
  have hl : vs.length = ds.length := hd.length
  refine for_list (K := K) (a := p) (xs := vs) (fun k σ' H' => ∃ W' Γ', W'.H = H' ∧ Same (W.S F) (W'.S F) ∧ Rel F W' σ' Γ' ∧ I k Γ') ⟨W, _, rfl, Same.refl _, R0, i0⟩ ?_ ?_ ?_
  · rintro k σ' H' hk ⟨W', Γ', rfl, s', R', i'⟩
    exact SqL.of (stand R' i').1
  · rintro k y σ' H' hy ⟨W', Γ', rfl, s', R', i'⟩
    have hk : k < ds.length := by rw [← hl]; exact (List.getElem?_eq_some_iff.mp hy).1
    obtain ⟨y', hy', od⟩ := hd.get (List.getElem?_eq_getElem hk)
    rw [hy] at hy'
    cases hy'
    refine B.run F W' σ' Γ' y (.sh ds[k]) _ _ R' (od.same s') (step k ds[k] Γ' (List.getElem?_eq_getElem hk) i') fun W3 σ3 Γ3 k3 f3 R3 q3 => ?_
    refine C.run F W3 σ3 Γ3 _ _ R3 q3 ⟨fun W4 σ4 Γ4 s4 R4 q4 => ⟨W4, Γ4, rfl, (s'.trans k3.sh).trans s4, R4, q4⟩, fun W4 σ4 Γ4 x4 v4 s4 => L.rt W4 σ4 Γ4 x4 v4 ((s'.trans k3.sh).trans s4), fun W4 σ4 Γ4 o4 p4 h4 s4 => L.rn W4 σ4 Γ4 o4 p4 h4 ((s'.trans k3.sh).trans s4), fun W4 σ4 Γ4 s4 R4 q4 => q4.elim, fun W4 σ4 Γ4 s4 R4 q4 => ⟨W4, Γ4, rfl, (s'.trans k3.sh).trans s4, R4, q4⟩, fun W4 σ4 Γ4 c4 s4 => L.xs W4 σ4 Γ4 c4 ((s'.trans k3.sh).trans s4)⟩
  · rintro σ' H' ⟨W', Γ', rfl, s', R', i'⟩
    rw [hl] at i'
    obtain ⟨b1, b2, b3⟩ := stand R' i'
    refine L.nx W' σ' _ s' (R'.recast (own _ Γ' i') fun p' e1 hw => ?_) (done Γ' i')
    rw [b2] at e1
    cases e1
    exact ⟨b3, vs, b1, hd.same s'⟩⟩
/-! tuples put together -/
theorem kcatA (K : Fg) {X : Cx} (h : X.K = K := by rfl) : OpR X (binaryOp .Add) (rCatA K) := h ▸ op_catA
def dCatA (da db : TEd) : TEd := fun Γ Q => da Γ fun x Γ1 => db Γ1 fun y Γ2 => ∃ ds es, shOf x = some (.tuple ds) ∧ shOf y = some (.tuple es) ∧ ds.length + es.length ≤ sizeLine ∧ Q (.sh (.tuple (ds ++ es))) Γ2
theorem dq_tup {K : Fg} {S : Hp} {v : V} {ds : List PyData} (h : Dq K S v (.tuple ds)) : ∃ a xs, v = .ref a ∧ Tq K S a xs ∧ DqAll K S xs ds := by
  cases h with
  | tup a b => exact ⟨_, _, rfl, a, b⟩
instance se_catA {K : Fg} {ta tb : TE} {da db : TEd} [SE K ta da] [SE K tb db] : SE K (tOp (rCatA K) ta tb) (dCatA da db) := ⟨fun F W σ Γ Q Qd R q k => two R q fun x y W' Γ' u v s' R' o1 o2 ⟨ds, es, e1, e2, hl, q⟩ => by
  have h1 := o1.sh R' e1
  have h2 := o2.sh R' e2
  obtain ⟨a, xs, rfl, ha, hx⟩ := dq_tup h1
  obtain ⟨b, ys, rfl, hb, hy⟩ := dq_tup h2
  refine ⟨a, b, xs, ys, rfl, rfl, (ha.same less_same).sq, (hb.same less_same).sq, by rw [hx.length, hy.length]; exact hl, fun z => ?_, fun z1 z2 => ?_, fun z1 z2 p hp => ?_⟩
  · subst z
    have e : ds = [] := List.length_eq_zero_iff.mp hx.length.symm
    subst e
    exact k _ W' Γ' _ s' R' (.ofSh h2) q
  · subst z2
    have e : es = [] := List.length_eq_zero_iff.mp hy.length.symm
    subst e
    rw [List.append_nil] at q
    exact k _ W' Γ' _ s' R' (.ofSh h1) q
  · have hS := same_new (o := .tup (xs ++ ys)) hp
    refine k (.sh (.tuple (ds ++ es))) { W' with H := upd W'.H p (.tup (xs ++ ys)) } Γ' (.ref p) (s'.trans (Stp.grow R' hS)) (R'.grow hS).1 ?_ q
    exact .tup (.inl (S_of (W := { W' with H := upd W'.H p (.tup (xs ++ ys)) }) (R'.free hp) upd_same)) ((hx.app hy).same (R'.grow hS).2)⟩
/-! list(x), where x may raise -/
def dListX (da : TEXd) : TGCd := fun Γ Q X => da Γ (fun x Γ1 => ∃ ds, seqOf Γ1 x = some ds ∧ keepable x ds ∧ Q (.nw (.lst ds)) Γ1) X
instance seg_listX {K : Fg} {Xw : WX} {m : Bool} {ta : TE} {da : TEXd} [A : SEX K Xw m ta da] : SEG K Xw m (tCB (rListOf K) (tCons ta tNil)) (dListX da) := ⟨fun F W σ Γ Q Qd Qx R q k kx => A.run F W σ Γ _ _ _ R q (fun x W' Γ' v s' R' o ⟨ds, e, hk, q⟩ => by
  obtain ⟨a, xs, rfl, h1, h2, h3⟩ := seqOf_ok R' o e
  refine ⟨a, xs, rfl, sq_or h1, fun l hl => ?_⟩
  obtain ⟨R2, k2, t2, h0, nrf⟩ := R'.temp (ho := .lst xs) hl trivial
  have hd := keep_ok R' h2 hk
  have sp : Stp F W' Γ' ⟨fun a => a = l ∨ W'.O a, W'.ft, upd W'.H l (.lst xs)⟩ Γ' := ⟨k2, fun i s e => ⟨s, e, Kn.refl s⟩, rfl⟩
  have sm : StM m F W' Γ' ⟨fun a => a = l ∨ W'.O a, W'.ft, upd W'.H l (.lst xs)⟩ Γ' := by
    cases m with
    | true => exact Stp.stx sp
    | false => exact sp
  refine k (.nw (.lst ds)) _ Γ' _ (by have := s'.trans sm; rwa [Bool.or_self] at this) R2 ⟨l, [l], rfl, ?_, fun b hb => ?_⟩ q
  · exact ownO_ok.mpr ⟨rfl, xs, upd_same, hd.same k2.sh⟩
  · have eb : b = l := by simpa using hb
    subst eb
    refine ⟨⟨t2, h0, nrf⟩, fun t => ?_⟩
    obtain ⟨t3, e3⟩ := s'.stx.tmp b t
    have := R'.mu b t3.1
    rw [hl] at this
    exact this) kx⟩
end Dk

namespace Dk
open PySem PySem.Spec PyProof.Rows L2
/-! ### tests that may raise, and change instances -/
abbrev TTXd := G → (Bool → G → Prop) → (Value → G → Prop) → Prop
class STX (K : Fg) (Xw : WX) (m : outParam Bool) (t : TT) (d : outParam TTXd) : Prop where
  run : ∀ (F : Fx K) (W : Wd) (σ : L2.St) (Γ : G) (Q : Bool → Hp → Prop) (Qd : Bool → G → Prop) (Qx : Value → G → Prop), Rel F W σ Γ → d Γ Qd Qx →
    (∀ (b : Bool) (W' : Wd) (Γ' : G), StM m F W Γ W' Γ' → Rel F W' σ Γ' → Qd b Γ' → Q b W'.H) →
    (∀ (c : Value) (W' : Wd) (Γ' : G), Same (W.S F) (W'.S F) → Rel F W' σ Γ' → Qx c Γ' → Xw c none σ W'.H) → t σ W.H Q
section
variable {K : Fg} {Xw : WX} {m m1 m2 : Bool} {t u : TT} {ta tb : TE} {da : TEXd} {db : TEd} {ts us : TS} {ds es : TSd}
def dLiftT (d : TTd) : TTXd := fun Γ Q _ => d Γ Q
instance (priority := high) stx_st {d : TTd} [A : ST K t d] : STX K Xw false t (dLiftT d) := ⟨fun F W σ Γ Q Qd Qx R q k _ => A.run F W σ Γ _ _ R q fun b W' Γ' s R' q => k b W' Γ' s R' q⟩
def dTestX (da : TEXd) : TTXd := fun Γ Q X => da Γ (fun x Γ1 => ∃ b, dat Γ1 x = some (.bool b) ∧ Q b Γ1) X
instance stx_test [A : SEX K Xw m ta da] : STX K Xw m (tTest ta) (dTestX da) := ⟨fun F W σ Γ Q Qd Qx R q k kx => A.run F W σ Γ _ _ _ R q (fun x W' Γ' v s' R' o1 ⟨b, e1, q⟩ => ⟨b, bl_of (o1.full R' e1), k b W' Γ' s' R' q⟩) kx⟩
instance stx_tB [A : SEX K Xw m ta da] : STX K Xw m (tB ta) (dTestX da) := ⟨fun F W σ Γ Q Qd Qx R q k kx => A.run F W σ Γ _ _ _ R q (fun x W' Γ' v s' R' o1 ⟨b, e1, q⟩ => ⟨b, bl_of (o1.full R' e1), k b W' Γ' s' R' q⟩) kx⟩
def dNotX (d : TTXd) : TTXd := fun Γ Q X => d Γ (fun b Γ1 => Q (!b) Γ1) X
instance stx_not {d : TTXd} [A : STX K Xw m t d] : STX K Xw m (tNot t) (dNotX d) := ⟨fun F W σ Γ Q Qd Qx R q k kx => A.run F W σ Γ _ _ _ R q (fun b W' Γ' s' R' q => k _ W' Γ' s' R' q) kx⟩
def dAndX (d e : TTXd) : TTXd := fun Γ Q X => d Γ (fun b Γ1 => if b = true then e Γ1 Q X else Q false Γ1) X
def dOrX (d e : TTXd) : TTXd := fun Γ Q X => d Γ (fun b Γ1 => if b = true then Q true Γ1 else e Γ1 Q X) X
instance stx_and {d e : TTXd} [A : STX K Xw m1 t d] [B : STX K Xw m2 u e] : STX K Xw (m1 || m2) (tAnd t u) (dAndX d e) := ⟨fun F W σ Γ Q Qd Qx R q k kx => A.run F W σ Γ _ _ _ R q (fun b W' Γ' s' R' q => by
  cases b with
  | true => rw [if_pos rfl] at q; exact iteT (B.run F W' σ Γ' _ _ _ R' q (fun b' W2 Γ2 s2 R2 q => k b' W2 Γ2 (s'.trans s2) R2 q) fun c W2 Γ2 s2 R2 q => kx c W2 Γ2 (s'.stx.sh.trans s2) R2 q)
  | false => rw [if_neg Bool.false_ne_true] at q; exact iteF (k _ W' Γ' (s'.trans (StM.refl F W' Γ')) R' q)) kx⟩
instance stx_or {d e : TTXd} [A : STX K Xw m1 t d] [B : STX K Xw m2 u e] : STX K Xw (m1 || m2) (tOr t u) (dOrX d e) := ⟨fun F W σ Γ Q Qd Qx R q k kx => A.run F W σ Γ _ _ _ R q (fun b W' Γ' s' R' q => by
  cases b with
  | false => rw [if_neg Bool.false_ne_true] at q; exact iteF (B.run F W' σ Γ' _ _ _ R' q (fun b' W2 Γ2 s2 R2 q => k b' W2 Γ2 (s'.trans s2) R2 q) fun c W2 Γ2 s2 R2 q => kx c W2 Γ2 (s'.stx.sh.trans s2) R2 q)
  | true => rw [if_pos rfl] at q; exact iteT (k _ W' Γ' (s'.trans (StM.refl F W' Γ')) R' q)) kx⟩
/-! a call compared with data -/
def dEqX (f : Bool → Bool) (da : TEXd) (db : TEd) : TEXd := fun Γ Q X => da Γ (fun x Γ1 => db Γ1 fun y Γ2 => ∃ a b, dat Γ2 x = some a ∧ dat Γ2 y = some b ∧ SeqAt.shaped a = true ∧ SeqAt.shaped b = true ∧ Q (.sh (.bool (f (PyData.eqv a b)))) Γ2) X
theorem eqX_run {f : Bool → Bool} [A : SEX K Xw m ta da] [B : SE K tb db] {F : Fx K} {W : Wd} {σ : L2.St} {Γ : G} {Q : V → V → Hp → Prop} {Qd : RV → G → Prop} {Qx : Value → G → Prop} (R : Rel F W σ Γ) (q : dEqX f da db Γ Qd Qx)
    (k : ∀ (a b : PyData) (u v : V) (W' : Wd) (Γ' : G), StM m F W Γ W' Γ' → Rel F W' σ Γ' → Dp K W'.H u a → Dp K W'.H v b → SeqAt.shaped a = true → SeqAt.shaped b = true → Qd (.sh (.bool (f (PyData.eqv a b)))) Γ' → Q u v W'.H)
    (kx : ∀ (c : Value) (W' : Wd) (Γ' : G), Same (W.S F) (W'.S F) → Rel F W' σ Γ' → Qx c Γ' → Xw c none σ W'.H) : ta σ W.H fun u H1 => tb σ H1 fun v H2 => Q u v H2 :=
  A.run F W σ Γ _ _ _ R q (fun x W1 Γ1 u s1 R1 o1 q => B.run F W1 σ Γ1 _ _ R1 q fun y W2 Γ2 v s2 R2 o2 ⟨a, b, e1, e2, h1, h2, q⟩ =>
    k a b u v W2 Γ2 (by have := s1.trans (n := false) (show StM false F W1 Γ1 W2 Γ2 from s2); rwa [Bool.or_false] at this) R2 (Dq.dp _ _ (SeqAt.canLay_of_shaped h1) ((o1.stp s2).full R2 e1)) (Dq.dp _ _ (SeqAt.canLay_of_shaped h2) (o2.full R2 e2)) h1 h2 q) kx
instance (priority := low) sex_eqD [A : SEX K Xw m ta da] [B : SE K tb db] : SEX K Xw m (tOp (rEqD K) ta tb) (dEqX id da db) := ⟨fun F W σ Γ Q Qd Qx R q k kx => eqX_run (f := id) (tb := tb) R q (fun a b u v W' Γ' s' R' p1 p2 h1 h2 q => ⟨a, b, p1, p2, h1, h2, k _ W' Γ' _ s' R' (.bl _) q⟩) kx⟩
instance (priority := low) sex_neD [A : SEX K Xw m ta da] [B : SE K tb db] : SEX K Xw m (tOp (rNeD K) ta tb) (dEqX not da db) := ⟨fun F W σ Γ Q Qd Qx R q k kx => eqX_run (f := not) (tb := tb) R q (fun a b u v W' Γ' s' R' p1 p2 h1 h2 q => ⟨a, b, p1, p2, h1, h2, k _ W' Γ' _ s' R' (.bl _) q⟩) kx⟩
/-! if -/
def dIfX (c : TTXd) (d e : TSd) : TSd := fun E Γ => ∃ M : G → Prop, (∀ Γ', M Γ' → E.nx Γ') ∧ c Γ (fun b Γ1 => if b = true then d (E.nxt M) Γ1 else e (E.nxt M) Γ1) E.xs
instance (priority := low) ss_ifX {dc : TTXd} [C : STX K Xw m t dc] [A : SS K Xw ts ds] [B : SS K Xw us es] : SS K Xw (tIfS t ts us) (dIfX dc ds es) := ⟨fun F W σ Γ D E R ⟨M, hM, q⟩ L => C.run F W σ Γ _ _ _ R q (fun b W' Γ' s R' q => by
  have L' : Lk F W' Xw D (E.nxt M) := by
    have := L.mono s.stx.sh
    exact ⟨fun W2 σ2 Γ2 s2 R2 q2 => this.nx W2 σ2 Γ2 s2 R2 (hM Γ2 q2), this.rt, this.rn, this.bk, this.ct, this.xs⟩
  cases b with
  | true => rw [if_pos rfl] at q; exact iteT (A.run F W' σ Γ' D _ R' q L')
  | false => rw [if_neg Bool.false_ne_true] at q; exact iteF (B.run F W' σ Γ' D _ R' q L')) fun c W' Γ' s R' q => L.xs W' σ Γ' c s R' q⟩
end
end Dk

/-! what stands in a book: rounds and crews by name; a book: what stands, what stood, what is held -/
namespace Bk
open PySem
section
variable {α : Type}
def get (l : List (Str × α)) (k : Str) : Option α := (l.find? fun e => decide (e.1 = k)).map (·.2)
def put (l : List (Str × α)) (k : Str) (v : α) : List (Str × α) := if (l.any fun e => decide (e.1 = k)) = true then l.map (fun e => if e.1 = k then (e.1, v) else e) else l ++ [(k, v)]
def del (l : List (Str × α)) (k : Str) : List (Str × α) := l.filter fun e => decide (e.1 ≠ k)
theorem get_mem {l : List (Str × α)} {k : Str} {v : α} (h : get l k = some v) : (k, v) ∈ l := by
  unfold get at h
  obtain ⟨e, h1, h2⟩ := Option.map_eq_some_iff.mp h
  have h3 := List.find?_some h1
  have h4 := List.mem_of_find?_eq_some h1
  simp only [decide_eq_true_eq] at h3
  subst h3 h2
  exact h4
theorem get_some {l : List (Str × α)} {e : Str × α} (h : e ∈ l) : (get l e.1).isSome = true := by
  unfold get
  rw [Option.isSome_map, List.find?_isSome]
  exact ⟨e, h, by simp⟩
theorem put_mem {l : List (Str × α)} {k : Str} {v : α} {e : Str × α} (h : e ∈ put l k v) : e = (k, v) ∨ e ∈ l := by
  unfold put at h
  split at h
  · obtain ⟨e0, h0, rfl⟩ := List.mem_map.mp h
    split
    · rename_i c; exact .inl (by rw [c])
    · exact .inr h0
  · rcases List.mem_append.mp h with h | h
    · exact .inr h
    · simp at h; exact .inl h
theorem put_len (l : List (Str × α)) (k : Str) (v : α) : (put l k v).length ≤ l.length + 1 := by
  unfold put
  split <;> simp
theorem del_len (l : List (Str × α)) (k : Str) : (del l k).length ≤ l.length := List.length_filter_le _ _
theorem del_mem {l : List (Str × α)} {k : Str} {e : Str × α} (h : e ∈ del l k) : e ∈ l := (List.mem_filter.mp h).1
end
structure St where
  rs : List (Str × Rd.R)
  cs : List (Str × List Str)
def St.nil : St := ⟨[], []⟩
/-- is the name a member, crew by crew -/
def usedL (s : St) (n : Str) : List Bool := s.cs.map fun c => decide (n ∈ (get s.cs c.1).getD [])
def used (s : St) (n : Str) : Bool := (usedL s n).any id
inductive Er where
  | badName | noDeed | noRound | noCrew | taken | inUse | tooMany | tooFar | noMore | noState
def Er.txt : Er → Str
  | .badName => "BadName"
  | .noDeed => "NoDeed"
  | .noRound => "NoRound"
  | .noCrew => "NoCrew"
  | .taken => "Taken"
  | .inUse => "InUse"
  | .tooMany => "TooMany"
  | .tooFar => "TooFar"
  | .noMore => "NoMore"
  | .noState => "NoState"
abbrev Word := Str × Int
inductive Deed where
  | tell (n : Str) (ds : List Word)
  | join (n a b : Str)
  | back (n a : Str)
  | times (n a : Str) (k : Int)
  | drop (n : Str)
  | found (c : Str)
  | disband (c : Str)
  | enlist (c n : Str)
  | dismiss (c n : Str)
  | undo
  | redo
  | hold
  | ret (k : Int)
def goodW (x : Word) : Bool := decide (x.1 = "go") || decide (x.1 = "turn")
def asDeed (x : Word) : Rd.Deed := (decide (x.1 = "go"), x.2)
abbrev Res (α : Type) := Except Er α
/-- the round that is told -/
def valR (p : Int) (s : St) : Deed → Res Rd.R
  | .tell _ ds => if ds.all goodW = true then .ok (Rd.gone p (ds.map asDeed)) else .error .noDeed
  | .join _ a b => match get s.rs a, get s.rs b with
    | some x, some y => .ok (Rd.join p x y)
    | _, _ => .error .noRound
  | .back _ a => match get s.rs a with
    | some x => .ok (Rd.inv p x)
    | none => .error .noRound
  | .times _ a k => match get s.rs a with
    | some x => .ok (Rd.times p x k)
    | none => .error .noRound
  | _ => .error .noRound
def farB (s : St) (n : Str) (r : Rd.R) : Bool := !okB 200 200 r || (used s n && !okB 8 24 r)
def keepS (s : St) (n : Str) (r : Rd.R) : Res St := if farB s n r = true then .error .tooFar else .ok ⟨put s.rs n r, s.cs⟩
def tellS (p : Int) (s : St) (n : Str) (d : Deed) : Res St := if nameB n = true then (match valR p s d with | .ok r => keepS s n r | .error e => .error e) else .error .badName
def dropS (s : St) (n : Str) : Res St := match get s.rs n with
  | none => .error .noRound
  | some _ => if used s n = true then .error .inUse else .ok ⟨del s.rs n, s.cs⟩
def foundS (s : St) (c : Str) : Res St := if nameB c = true then (match get s.cs c with | some _ => .error .taken | none => .ok ⟨s.rs, put s.cs c []⟩) else .error .badName
def disbandS (s : St) (c : Str) : Res St := match get s.cs c with
  | none => .error .noCrew
  | some _ => .ok ⟨s.rs, del s.cs c⟩
def enlistM (s : St) (ns : List Str) (n : Str) : Res (List Str) := match get s.rs n with
  | none => .error .noRound
  | some r => if n ∈ ns then .error .taken else if 6 ≤ ns.length then .error .tooMany else if okB 8 24 r = true then .ok (ns ++ [n]) else .error .tooFar
def dismissM (ns : List Str) (n : Str) : Res (List Str) := if n ∈ ns then .ok (ns.filter fun x => decide (x ≠ n)) else .error .noRound
def mannedS (s : St) (c : Str) (f : List Str → Res (List Str)) : Res St := match get s.cs c with
  | none => .error .noCrew
  | some ns => match f ns with
    | .ok ms => .ok ⟨s.rs, put s.cs c ms⟩
    | .error e => .error e
/-- what stands behind a deed -/
def dueS (p : Int) (s : St) : Deed → Res St
  | .tell n ds => tellS p s n (.tell n ds)
  | .join n a b => tellS p s n (.join n a b)
  | .back n a => tellS p s n (.back n a)
  | .times n a k => tellS p s n (.times n a k)
  | .drop n => dropS s n
  | .found c => foundS s c
  | .disband c => disbandS s c
  | .enlist c n => mannedS s c fun ns => enlistM s ns n
  | .dismiss c n => mannedS s c fun ns => dismissM ns n
  | _ => .ok s
structure B where
  st : St
  past : List St
  ahead : List St
  held : List St
def B.new : B := ⟨.nil, [], [], []⟩
def B.stand (b : B) (s : St) : B := ⟨s, b.past ++ [b.st], [], b.held⟩
/-- a told number, and the book behind -/
def doB (p : Int) (b : B) : Deed → Res (Option Int × B)
  | .undo => match b.past.getLast? with
    | none => .error .noMore
    | some s => .ok (none, ⟨s, b.past.dropLast, b.ahead ++ [b.st], b.held⟩)
  | .redo => match b.ahead.getLast? with
    | none => .error .noMore
    | some s => .ok (none, ⟨s, b.past ++ [b.st], b.ahead.dropLast, b.held⟩)
  | .hold => .ok (some b.held.length, { b with held := b.held ++ [b.st] })
  | .ret k => if k < 0 then .error .noState else match b.held[k.toNat]? with
    | none => .error .noState
    | some s => .ok (none, b.stand s)
  | d => match dueS p b.st d with
    | .ok s => .ok (none, b.stand s)
    | .error e => .error e
/-! what is true of all that stands -/
structure StOk (p : Int) (m : Nat) (s : St) : Prop where
  rd : ∀ e ∈ s.rs, Rd.IsRound p e.2 ∧ okB 200 200 e.2 = true ∧ nameB e.1 = true
  cr : ∀ e ∈ s.cs, e.2.length ≤ 6 ∧ nameB e.1 = true ∧ ∀ n ∈ e.2, nameB n = true
  rl : s.rs.length ≤ m
  cl : s.cs.length ≤ m
theorem StOk.mono {p : Int} {m m' : Nat} {s : St} (h : StOk p m s) (l : m ≤ m') : StOk p m' s := ⟨h.rd, h.cr, Nat.le_trans h.rl l, Nat.le_trans h.cl l⟩
theorem StOk.nil (p : Int) (m : Nat) : StOk p m .nil := ⟨(fun e h => nomatch h), (fun e h => nomatch h), Nat.zero_le _, Nat.zero_le _⟩
theorem rising_len {lo hi : Int} : ∀ (xs : Pt.Pat), xs.Pairwise (fun a b => a.1 < b.1) → (∀ x ∈ xs, lo ≤ x.1 ∧ x.1 ≤ hi) → lo ≤ hi + 1 → (xs.length : Int) ≤ hi + 1 - lo
  | [], _, _, l => by simp; omega
  | x :: r, hs, hb, l => by
    obtain ⟨h1, h2⟩ := List.pairwise_cons.mp hs
    have hx := hb x (by simp)
    have := rising_len (lo := x.1 + 1) (hi := hi) r h2 (fun y hy => ⟨by have := h1 y hy; omega, (hb y (by simp [hy])).2⟩) (by omega)
    simp only [List.length_cons]
    omega
theorem okB_iff {m r : Int} {a : Rd.R} : okB m r a = true ↔ Dk.absI a.1 ≤ m ∧ ∀ x ∈ a.2, Dk.absI x.1 ≤ r := by
  unfold okB
  simp
theorem ok_len {p : Int} {a : Rd.R} (h : Rd.IsRound p a) (k : okB 200 200 a = true) : a.2.length ≤ 401 := by
  obtain ⟨_, h2⟩ := okB_iff.mp k
  have := rising_len (lo := -200) (hi := 200) a.2 h.srt (fun x hx => by
    have := h2 x hx
    unfold Dk.absI at this
    split at this <;> omega) (by decide)
  omega
theorem gone_ok {p : Int} (hp : 0 < p) (ds : List Rd.Deed) : Rd.IsRound p (Rd.gone p ds) := Pt.tidy_pat hp _
theorem times_ok {p : Int} (hp : 0 < p) {a : Rd.R} (h : Rd.IsRound p a) (k : Int) : Rd.IsRound p (Rd.times p a k) := by
  rw [Rd.times_zpow hp h]
  exact Rd.zpow_ok hp a k
theorem valR_ok {p : Int} (hp : 0 < p) {m : Nat} {s : St} (h : StOk p m s) {d : Deed} {r : Rd.R} (e : valR p s d = .ok r) : Rd.IsRound p r := by
  cases d with
  | tell n ds =>
    simp only [valR] at e
    split at e
    · cases e; exact gone_ok hp _
    · cases e
  | join n a b =>
    simp only [valR] at e
    split at e
    · cases e; exact Rd.join_ok hp _ _
    · cases e
  | back n a =>
    simp only [valR] at e
    split at e
    · cases e; exact Rd.inv_ok hp _
    · cases e
  | times n a k =>
    simp only [valR] at e
    split at e
    · rename_i x hx
      cases e; exact times_ok hp (h.rd _ (get_mem hx)).1 k
    · cases e
  | _ => cases e
theorem tellS_ok {p : Int} (hp : 0 < p) {m : Nat} {s s' : St} (h : StOk p m s) {n : Str} {d : Deed} (e : tellS p s n d = .ok s') : StOk p (m + 1) s' := by
  unfold tellS at e
  split at e
  · rename_i hn
    split at e
    · rename_i r hr
      unfold keepS at e
      split at e
      · cases e
      · rename_i hf
        cases e
        refine ⟨fun x hx => ?_, h.cr, Nat.le_trans (put_len _ _ _) (by have := h.rl; omega), by have := h.cl; simp only; omega⟩
        rcases put_mem hx with rfl | hx
        · refine ⟨valR_ok hp h hr, ?_, hn⟩
          unfold farB at hf
          simp at hf
          exact hf.1
        · exact h.rd x hx
    · cases e
  · cases e
theorem dueS_ok {p : Int} (hp : 0 < p) {m : Nat} {s s' : St} (h : StOk p m s) {d : Deed} (e : dueS p s d = .ok s') : StOk p (m + 1) s' := by
  cases d with
  | tell n ds => exact tellS_ok hp h e
  | join n a b => exact tellS_ok hp h e
  | back n a => exact tellS_ok hp h e
  | times n a k => exact tellS_ok hp h e
  | drop n =>
    simp only [dueS, dropS] at e
    split at e
    · cases e
    · split at e
      · cases e
      · cases e
        exact ⟨fun x hx => h.rd x (del_mem hx), h.cr, Nat.le_trans (del_len _ _) (by have := h.rl; omega), by have := h.cl; simp only; omega⟩
  | found c =>
    simp only [dueS, foundS] at e
    split at e
    · rename_i hn
      split at e
      · cases e
      · cases e
        refine ⟨h.rd, fun x hx => ?_, by have := h.rl; simp only; omega, Nat.le_trans (put_len _ _ _) (by have := h.cl; omega)⟩
        rcases put_mem hx with rfl | hx
        · exact ⟨Nat.zero_le _, hn, fun n z => nomatch z⟩
        · exact h.cr x hx
    · cases e
  | disband c =>
    simp only [dueS, disbandS] at e
    split at e
    · cases e
    · cases e
      exact ⟨h.rd, fun x hx => h.cr x (del_mem hx), by have := h.rl; simp only; omega, Nat.le_trans (del_len _ _) (by have := h.cl; omega)⟩
  | enlist c n =>
    simp only [dueS, mannedS] at e
    split at e
    · cases e
    · rename_i ns hc
      have hcn := h.cr _ (get_mem hc)
      split at e
      · rename_i ms hm
        cases e
        unfold enlistM at hm
        split at hm
        · cases hm
        · rename_i r hr
          split at hm
          · cases hm
          · split at hm
            · cases hm
            · rename_i h6
              split at hm
              · cases hm
                refine ⟨h.rd, fun x hx => ?_, by have := h.rl; simp only; omega, Nat.le_trans (put_len _ _ _) (by have := h.cl; omega)⟩
                rcases put_mem hx with rfl | hx
                · refine ⟨by simp; omega, hcn.2.1, fun y hy => ?_⟩
                  rcases List.mem_append.mp hy with hy | hy
                  · exact hcn.2.2 y hy
                  · simp at hy; rw [hy]; exact (h.rd _ (get_mem hr)).2.2
                · exact h.cr x hx
              · cases hm
      · cases e
  | dismiss c n =>
    simp only [dueS, mannedS] at e
    split at e
    · cases e
    · rename_i ns hc
      have hcn := h.cr _ (get_mem hc)
      split at e
      · rename_i ms hm
        cases e
        unfold dismissM at hm
        split at hm
        · cases hm
          refine ⟨h.rd, fun x hx => ?_, by have := h.rl; simp only; omega, Nat.le_trans (put_len _ _ _) (by have := h.cl; omega)⟩
          rcases put_mem hx with rfl | hx
          · exact ⟨Nat.le_trans (List.length_filter_le _ _) hcn.1, hcn.2.1, fun y hy => hcn.2.2 y (List.mem_filter.mp hy).1⟩
          · exact h.cr x hx
        · cases hm
      · cases e
  | _ => cases e; exact h.mono (Nat.le_succ _)
/-- .. of a book -/
structure BOk (p : Int) (m : Nat) (b : B) : Prop where
  st : StOk p m b.st
  past : ∀ s ∈ b.past, StOk p m s
  ahead : ∀ s ∈ b.ahead, StOk p m s
  held : ∀ s ∈ b.held, StOk p m s
  pl : b.past.length + b.ahead.length + b.held.length ≤ m
theorem BOk.new (p : Int) (m : Nat) : BOk p m .new := ⟨.nil p m, (fun _ h => nomatch h), (fun _ h => nomatch h), (fun _ h => nomatch h), Nat.zero_le _⟩
theorem BOk.stand {p : Int} {m : Nat} {b : B} {s : St} (h : BOk p m b) (hs : StOk p (m + 1) s) : BOk p (m + 1) (b.stand s) := by
  refine ⟨hs, fun x hx => ?_, (fun _ h => nomatch h), fun x hx => (h.held x hx).mono (Nat.le_succ _), ?_⟩
  · rcases List.mem_append.mp hx with hx | hx
    · exact (h.past x hx).mono (Nat.le_succ _)
    · simp at hx; rw [hx]; exact h.st.mono (Nat.le_succ _)
  · have := h.pl
    simp only [B.stand, List.length_append, List.length_cons, List.length_nil]
    omega
theorem doB_ok {p : Int} (hp : 0 < p) {m : Nat} {b b' : B} {o : Option Int} (h : BOk p m b) {d : Deed} (e : doB p b d = .ok (o, b')) : BOk p (m + 1) b' := by
  have gen : ∀ d, (match dueS p b.st d with | .ok s => (.ok (none, b.stand s) : Res (Option Int × B)) | .error e => .error e) = .ok (o, b') → BOk p (m + 1) b' := fun d e => by
    split at e
    · rename_i s hs
      cases e
      exact h.stand (dueS_ok hp h.st hs)
    · cases e
  have up : ∀ {l : List St}, (∀ s ∈ l, StOk p m s) → ∀ s ∈ l, StOk p (m + 1) s := fun hl s hs => (hl s hs).mono (Nat.le_succ _)
  have pl := h.pl
  cases d with
  | undo =>
    simp only [doB] at e
    split at e
    · cases e
    · rename_i s hs
      cases e
      have hm := List.mem_of_getLast? hs
      refine ⟨(h.past s hm).mono (Nat.le_succ _), fun x hx => (h.past x ((List.dropLast_sublist _).subset hx)).mono (Nat.le_succ _), fun x hx => ?_, up h.held, ?_⟩
      · rcases List.mem_append.mp hx with hx | hx
        · exact (h.ahead x hx).mono (Nat.le_succ _)
        · simp at hx; rw [hx]; exact h.st.mono (Nat.le_succ _)
      · simp only [List.length_dropLast, List.length_append, List.length_cons, List.length_nil]
        omega
  | redo =>
    simp only [doB] at e
    split at e
    · cases e
    · rename_i s hs
      cases e
      have hm := List.mem_of_getLast? hs
      refine ⟨(h.ahead s hm).mono (Nat.le_succ _), fun x hx => ?_, fun x hx => (h.ahead x ((List.dropLast_sublist _).subset hx)).mono (Nat.le_succ _), up h.held, ?_⟩
      · rcases List.mem_append.mp hx with hx | hx
        · exact (h.past x hx).mono (Nat.le_succ _)
        · simp at hx; rw [hx]; exact h.st.mono (Nat.le_succ _)
      · simp only [List.length_dropLast, List.length_append, List.length_cons, List.length_nil]
        omega
  | hold =>
    cases e
    refine ⟨h.st.mono (Nat.le_succ _), up h.past, up h.ahead, fun x hx => ?_, ?_⟩
    · rcases List.mem_append.mp hx with hx | hx
      · exact (h.held x hx).mono (Nat.le_succ _)
      · simp at hx; rw [hx]; exact h.st.mono (Nat.le_succ _)
    · simp only [List.length_append, List.length_cons, List.length_nil]
      omega
  | ret k =>
    simp only [doB] at e
    split at e
    · cases e
    · split at e
      · cases e
      · rename_i s hs
        cases e
        exact h.stand ((h.held s (List.mem_of_getElem? hs)).mono (Nat.le_succ _))
  | tell n ds => exact gen _ e
  | join n a b => exact gen _ e
  | back n a => exact gen _ e
  | times n a k => exact gen _ e
  | drop n => exact gen _ e
  | found c => exact gen _ e
  | disband c => exact gen _ e
  | enlist c n => exact gen _ e
  | dismiss c n => exact gen _ e
end Bk

namespace Dk
open PySem PySem.Spec PyProof.Rows L2
/-! ### dicts by names, as data -/
def kvD {α : Type} (f : α → PyData) (l : List (Str × α)) : List (PyData × PyData) := l.map fun e => (.str e.1, f e.2)
def kvK {α : Type} (f : α → PyData) (l : List (Str × α)) : List (Key × PyData) := l.map fun e => (.inr e.1, f e.2)
section
variable {α : Type} {f : α → PyData}
theorem valP_kv (l : List (Str × α)) (k : Str) : valP (kvD f l) (.inr k) = (Bk.get l k).map f := by
  unfold kvD Bk.get
  induction l with
  | nil => rfl
  | cons e r ih =>
    by_cases h : e.1 = k
    · subst h
      simp [valP, keyD, List.find?_cons]
    · have h1 : ¬ some (Sum.inr e.1 : Key) = some (Sum.inr k) := fun z => h (Sum.inr.inj (Option.some.inj z))
      simp only [List.map_cons, valP, keyD, if_neg h1, ih, List.find?_cons, decide_eq_false h]
theorem valD_kv (l : List (Str × α)) (k : Str) : valD (kvK f l) (.inr k) = (Bk.get l k).map f := by
  unfold kvK Bk.get valD
  induction l with
  | nil => rfl
  | cons e r ih =>
    by_cases h : e.1 = k
    · subst h
      simp [List.find?_cons]
    · have h1 : ¬ (Sum.inr e.1 : Key) = Sum.inr k := fun z => h (Sum.inr.inj z)
      simp only [List.map_cons, List.find?_cons, decide_eq_false h1, decide_eq_false h, ih]
theorem kvsOf_kv (l : List (Str × α)) : kvsOf (kvD f l) = some (kvK f l) := by
  unfold kvD kvK
  induction l with
  | nil => rfl
  | cons e r ih => simp only [List.map_cons, kvsOf, keyD, ih]
theorem odD_kv (l : List (Str × α)) : odD (.dK (kvK f l)) = some (.dict (kvD f l)) := by
  unfold kvD kvK
  simp only [odD, List.map_map]
  rfl
theorem kvD_of (l : List (Str × α)) : (kvK f l).map (fun p => (kD p.1, p.2)) = kvD f l := by
  unfold kvD kvK
  rw [List.map_map]
  rfl
theorem putD_kv (l : List (Str × α)) (k : Str) (v : α) : putD (kvK f l) (.inr k) (f v) = kvK f (Bk.put l k v) := by
  unfold kvK putD Bk.put
  have ha : ((l.map fun e => ((Sum.inr e.1 : Key), f e.2)).any fun kv => decide (kv.1 = Sum.inr k)) = l.any fun e => decide (e.1 = k) := by
    rw [List.any_map]
    congr 1
    funext e
    simp
  rw [ha]
  split
  · rw [List.map_map, List.map_map]
    refine List.map_congr_left fun e he => ?_
    simp only [Function.comp]
    by_cases h : e.1 = k
    · simp [h]
    · have h1 : ¬ (Sum.inr e.1 : Key) = Sum.inr k := fun z => h (Sum.inr.inj z)
      rw [if_neg h1, if_neg h]
  · rw [List.map_append]
    rfl
theorem dropD_kv (l : List (Str × α)) (k : Str) : dropD (kvK f l) (.inr k) = kvK f (Bk.del l k) := by
  unfold kvK dropD Bk.del
  rw [List.filter_map]
  congr 1
  refine List.filter_congr fun e he => ?_
  by_cases h : e.1 = k
  · simp [h]
  · have h1 : ¬ (Sum.inr e.1 : Key) = Sum.inr k := fun z => h (Sum.inr.inj z)
    simp [h1, h]
theorem kvK_vals (l : List (Str × α)) : (kvK f l).map (·.2) = (l.map (·.2)).map f := by
  unfold kvK
  rw [List.map_map, List.map_map]
  rfl
theorem kvK_keys (l : List (Str × α)) : (kvK f l).map (·.1) = (l.map (·.1)).map Sum.inr := by
  unfold kvK
  rw [List.map_map, List.map_map]
  rfl
theorem kvK_len (l : List (Str × α)) : (kvK f l).length = l.length := List.length_map _
end
theorem scVs_strs (ns : List Str) : scVs (ns.map .str) = some (ns.map V.str) := by
  induction ns with
  | nil => rfl
  | cons n ns ih => simp [scVs, scV, ih]
theorem inV_strs (i : Str) (ns : List Str) : inV (.str i) (ns.map V.str) = decide (i ∈ ns) := by
  induction ns with
  | nil => rfl
  | cons n ns ih =>
    have e : inV (.str i) ((n :: ns).map V.str) = (eqV (.str n) (.str i) || inV (.str i) (ns.map V.str)) := rfl
    rw [e, ih]
    by_cases h : i = n
    · subst h
      simp [eqV]
    · have h' : n ≠ i := fun z => h z.symm
      simp [eqV, h, h']
theorem lcK_map {dg : TGd} {dt : TTd} {de : TEd} {vs : List Nat} {Γ2 : G} {α : Type} {f : α → PyData} {l : List (Str × α)} {R : List PyData → G → Prop} (h : Str × α → Option PyData) (hl : l.length ≤ 100000) (step : ∀ e, e ∈ l → ∀ P : Option PyData → G → Prop, P (h e) (wipeG Γ2 vs) → LcTurn dg dt de vs (.sh (.str e.1)) (wipeG Γ2 vs) P) (done : R (l.filterMap h) (wipeG Γ2 vs)) :
    (kvD f l).length ≤ sizeLine ∧ ∃ I : Nat → List PyData → G → Prop, I 0 [] (wipeG Γ2 vs) ∧ (∀ k e y acc Γ', (kvD f l)[k]? = some (e, y) → I k acc Γ' → LcTurn dg dt de vs (.sh e) Γ' fun o Γ5 => I (k + 1) (acc ++ o.toList) Γ5) ∧ ∀ acc Γ', I (kvD f l).length acc Γ' → R acc Γ' := by
  obtain ⟨J, j0, j1, j2⟩ := lc_map (f := fun e : Str × α => PyData.str e.1) (kd := RV.sh) (xs := l) (R := R) (vs := vs) (Γ2 := Γ2) (dg := dg) (dt := dt) (de := de) h step done
  have el : (kvD f l).length = l.length := List.length_map _
  refine ⟨by rw [el]; exact Nat.le_of_lt (small100000 hl), J, j0, fun k e y acc Γ' q i => j1 k _ acc Γ' ?_ i, fun acc Γ' i => j2 acc Γ' (by rw [List.length_map, ← el]; exact i)⟩
  unfold kvD at q
  rw [List.getElem?_map] at q ⊢
  obtain ⟨u, h1, h2⟩ := Option.map_eq_some_iff.mp q
  cases h2
  rw [h1]
  rfl
def eNames (ns : List Str) : PyData := .tuple (ns.map .str)
theorem eNames_tupO (ns : List Str) : tupO (eNames ns) = true := map_tupO (fun _ => rfl) ns
abbrev eRs (l : List (Str × Rd.R)) : PyData := .dict (kvD eRound l)
abbrev eCs (l : List (Str × List Str)) : PyData := .dict (kvD eNames l)
def eSt (s : Bk.St) : PyData := .tuple [eRs s.rs, eCs s.cs]
/-! sorted texts -/
theorem sortedS_iff : ∀ (l : List Str), sortedS l = true → l.Pairwise fun a b => ¬ b.cps.toList < a.cps.toList
  | [], _ => .nil
  | x :: r, h => by
    have key : ∀ (p : Str) (l : List Str), risingS p l = true → (p :: l).Pairwise fun a b => ¬ b.cps.toList < a.cps.toList := by
      intro p l
      induction l generalizing p with
      | nil => intro _; exact List.pairwise_cons.mpr ⟨(fun _ z => nomatch z), .nil⟩
      | cons y r ih =>
        intro h
        simp only [risingS, Bool.and_eq_true, Bool.not_eq_true', ltCps_eq, decide_eq_false_iff_not] at h
        have h2 := ih y h.2
        refine List.pairwise_cons.mpr ⟨fun z hz => ?_, h2⟩
        rcases List.mem_cons.mp hz with rfl | hz
        · exact h.1
        · exact List.le_trans (show p.cps.toList ≤ y.cps.toList from h.1) ((List.pairwise_cons.mp h2).1 z hz)
    exact key x r h
theorem sorted_uniq {ys zs ks : List Str} (h1 : ys.Perm ks) (h2 : zs.Perm ks) (s1 : sortedS ys = true) (s2 : sortedS zs = true) : ys = zs :=
  List.Perm.eq_of_pairwise (le := fun a b => ¬ b.cps.toList < a.cps.toList) (fun a b _ _ q1 q2 => by
    have := List.le_antisymm (show a.cps.toList ≤ b.cps.toList from q1) q2
    obtain ⟨⟨a⟩⟩ := a
    obtain ⟨⟨b⟩⟩ := b
    simpa using this) (sortedS_iff _ s1) (sortedS_iff _ s2) (h1.trans h2.symm)
/-! deeds' words -/
theorem gone_len (p : Int) (zs : List Rd.Deed) : (Rd.gone p zs).2.length ≤ zs.length := by
  have h1 := Pt.tidy_len p (Rd.walkFrom (0, []) zs).2
  have h2 := Rd.walk_len zs (0, [])
  unfold Rd.gone
  simp only [List.length_nil] at h2 ⊢
  omega
theorem good_words (zs : List Rd.Deed) : (zs.map wdOf).all Bk.goodW = true := by
  rw [List.all_eq_true]
  intro x hx
  obtain ⟨⟨b, n⟩, _, rfl⟩ := List.mem_map.mp hx
  cases b <;> simp [wdOf, Bk.goodW]
theorem asDeed_wd (zs : List Rd.Deed) : (zs.map wdOf).map Bk.asDeed = zs := by
  rw [List.map_map]
  conv => rhs; rw [← List.map_id zs]
  refine List.map_congr_left fun ⟨b, n⟩ _ => ?_
  cases b
  · have : ¬ ("turn" : Str) = "go" := by decide
    simp [wdOf, Bk.asDeed, this]
  · simp [wdOf, Bk.asDeed]
theorem bad_word {ds : List Wd2} (h : ∃ x ∈ ds, BadWd x) : ¬ ds.all Bk.goodW = true := by
  obtain ⟨x, hx, h1, h2⟩ := h
  intro z
  have := List.all_eq_true.mp z x hx
  simp [Bk.goodW, h1, h2] at this
theorem word_cases (ds : List Wd2) : (∃ zs : List Rd.Deed, ds = zs.map wdOf) ∨ ∃ x ∈ ds, BadWd x := by
  by_cases h : ∃ x ∈ ds, BadWd x
  · exact .inr h
  · exact .inl (walk_wd fun x hx z => h ⟨x, hx, z⟩)
theorem times_len2 (p : Int) (a : Rd.R) (n : Int) : (Rd.times p a n).2.length ≤ a.2.length + n.natAbs * a.2.length := by
  unfold Rd.times
  by_cases h : a.1 = 0
  · rw [if_pos h]
    have := Pt.timed_len p a.2 n
    simp only
    omega
  · rw [if_neg h]
    have hb : (Rd.baseOf p a n).2.length ≤ a.2.length := by
      unfold Rd.baseOf
      split
      · exact Rd.inv_len p a
      · exact Nat.le_refl _
    have h1 := Pt.tidy_len p (Rd.goings (Rd.baseOf p a n) n.natAbs)
    rw [Rd.goings_len] at h1
    have h2 : n.natAbs * (Rd.baseOf p a n).2.length ≤ n.natAbs * a.2.length := Nat.mul_le_mul (Nat.le_refl _) hb
    simp only
    omega
theorem iteIn {A B : Prop} {x : Bool} {q : Prop} [Decidable q] (e : x = decide q) (h1 : q → A) (h2 : ¬ q → B) : if x = true then A else B := by
  rw [e]
  by_cases h : q
  · rw [if_pos (decide_eq_true h)]; exact h1 h
  · rw [if_neg (by rw [decide_eq_false h]; decide)]; exact h2 h
theorem iteNotIn {A B : Prop} {x : Bool} {q : Prop} [Decidable q] (e : x = decide q) (h1 : ¬ q → A) (h2 : q → B) : if (!x) = true then A else B := by
  rw [e]
  by_cases h : q
  · rw [if_neg (by rw [decide_eq_true h]; decide)]; exact h2 h
  · rw [if_pos (by rw [decide_eq_false h]; decide)]; exact h1 h
theorem fm_names (ns : List Str) (n : Str) : (ns.filterMap fun x => if x ≠ n then some (PyData.str x) else none) = (ns.filter fun x => decide (x ≠ n)).map .str := by
  induction ns with
  | nil => rfl
  | cons x r ih => by_cases h : x = n <;> simp [h] at ih ⊢ <;> exact ih
theorem last_at {α : Type} (f : α → PyData) {l : List α} {s : α} (h : l.getLast? = some s) : (l.map f)[(l.map f).length - 1]? = some (f s) := by
  rw [← List.getLast?_eq_getElem?, List.getLast?_map, h]
  rfl
/-! ### books as instances -/
def bookF (p : Int) (b : Bk.B) : Fs := .sh "p" (.int p) (.sh "kept" (eSt b.st) (.ow "past" (.lst (b.past.map eSt)) (.ow "ahead" (.lst (b.ahead.map eSt)) (.ow "held" (.lst (b.held.map eSt)) (.ow "known" (.dK []) .nil)))))
abbrev bookO (C : Addr) (p : Int) (b : Bk.B) : OD := .ins C (bookF p b)
abbrev Cls2 := Bk.Er → Value
def cBkInit (C : Addr) : Ct := fun as Qd Qx => ∃ (p : Int) (z : Bool), as = [.rf (.ins C .nil), .d (.int p) z] ∧ GoodP p ∧ Qd (.d .none) [bookO C p .new]
def cSettings (C : Addr) : Ct := fun as Qd Qx => ∃ (p : Int) (b : Bk.B), as = [.ro (bookO C p b)] ∧ Qd (.d (.int p)) []
def cNamed (C : Addr) (cl : Cls2) : Ct := fun as Qd Qx => ∃ (p : Int) (b : Bk.B) (n : Str) (z : Bool), as = [.ro (bookO C p b), .d (.str n) z] ∧ (∀ r, Bk.get b.st.rs n = some r → Qd (.d (eRound r)) []) ∧ (Bk.get b.st.rs n = none → Qx (cl .noRound) [])
def cCrewNames (C : Addr) (cl : Cls2) : Ct := fun as Qd Qx => ∃ (p : Int) (b : Bk.B) (n : Str) (z : Bool), as = [.ro (bookO C p b), .d (.str n) z] ∧ (∀ r, Bk.get b.st.cs n = some r → Qd (.d (eNames r)) []) ∧ (Bk.get b.st.cs n = none → Qx (cl .noCrew) [])
def cInUse (C : Addr) : Ct := fun as Qd Qx => ∃ (p : Int) (b : Bk.B) (n : Str) (z : Bool), as = [.ro (bookO C p b), .d (.str n) z] ∧ b.st.cs.length ≤ 100000 ∧ (∀ e ∈ b.st.cs, (Bk.get b.st.cs e.1).isSome = true) ∧ Qd (.d (.bool (Bk.used b.st n))) []
def cChecked (C : Addr) (cl : Cls2) : Ct := fun as Qd Qx => ∃ (p : Int) (b : Bk.B) (n : Str) (z : Bool), as = [.ro (bookO C p b), .d (.str n) z] ∧ n.length ≤ 1000 ∧ (Bk.nameB n = true → Qd (.d .none) []) ∧ (Bk.nameB n = false → Qx (cl .badName) [])
def cDone (C : Addr) : Ct := fun as Qd Qx => ∃ (p : Int) (b : Bk.B) (s : Bk.St), as = [.rf (bookO C p b), .d (eRs s.rs) true, .d (eCs s.cs) true] ∧ b.past.length ≤ 100000 ∧ Qd (.d .none) [bookO C p (b.stand s)]
/-- what follows a deed's way -/
def Out (C : Addr) (cl : Cls2) (p : Int) (b : Bk.B) (x : Bk.Res Bk.St) (Qd : RT → List OD → Prop) (Qx : Value → List OD → Prop) : Prop := (∀ s, x = .ok s → Qd (.d .none) [bookO C p (b.stand s)]) ∧ ∀ e, x = .error e → Qx (cl e) [bookO C p b]
def cKeep (C : Addr) (cl : Cls2) : Ct := fun as Qd Qx => ∃ (p : Int) (b : Bk.B) (m : Nat) (n : Str) (r : Rd.R) (z1 z2 : Bool), as = [.rf (bookO C p b), .d (.str n) z1, .d (eRound r) z2] ∧ Bk.BOk p m b ∧ m ≤ 1000 ∧ r.2.length ≤ 100000 ∧ Out C cl p b (Bk.keepS b.st n r) Qd Qx
def cDrop (C : Addr) (cl : Cls2) : Ct := fun as Qd Qx => ∃ (p : Int) (b : Bk.B) (m : Nat) (n : Str) (z1 : Bool), as = [.rf (bookO C p b), .d (.str n) z1] ∧ Bk.BOk p m b ∧ m ≤ 1000 ∧ Out C cl p b (Bk.dropS b.st n) Qd Qx
def cTell (C : Addr) (cl : Cls2) : Ct := fun as Qd Qx => ∃ (p : Int) (b : Bk.B) (m : Nat) (n : Str) (ds : List Bk.Word) (z1 z2 : Bool), as = [.rf (bookO C p b), .d (.str n) z1, .d (.list (ds.map eWd)) z2] ∧ 0 < p ∧ Bk.BOk p m b ∧ m ≤ 1000 ∧ n.length ≤ 1000 ∧ ds.length ≤ 1000 ∧ Out C cl p b (Bk.tellS p b.st n (.tell n ds)) Qd Qx
def cJoinAs (C : Addr) (cl : Cls2) : Ct := fun as Qd Qx => ∃ (p : Int) (b : Bk.B) (m : Nat) (n n1 n2 : Str) (z1 z2 z3 : Bool), as = [.rf (bookO C p b), .d (.str n) z1, .d (.str n1) z2, .d (.str n2) z3] ∧ 0 < p ∧ Bk.BOk p m b ∧ m ≤ 1000 ∧ n.length ≤ 1000 ∧ Out C cl p b (Bk.tellS p b.st n (.join n n1 n2)) Qd Qx
def cBackAs (C : Addr) (cl : Cls2) : Ct := fun as Qd Qx => ∃ (p : Int) (b : Bk.B) (m : Nat) (n n1 : Str) (z1 z2 : Bool), as = [.rf (bookO C p b), .d (.str n) z1, .d (.str n1) z2] ∧ 0 < p ∧ Bk.BOk p m b ∧ m ≤ 1000 ∧ n.length ≤ 1000 ∧ Out C cl p b (Bk.tellS p b.st n (.back n n1)) Qd Qx
def cTimesAs (C : Addr) (cl : Cls2) : Ct := fun as Qd Qx => ∃ (p : Int) (b : Bk.B) (m : Nat) (n n1 : Str) (k : Int) (z1 z2 z3 : Bool), as = [.rf (bookO C p b), .d (.str n) z1, .d (.str n1) z2, .d (.int k) z3] ∧ GoodP p ∧ Bk.BOk p m b ∧ m ≤ 1000 ∧ n.length ≤ 1000 ∧ k.natAbs ≤ 200 ∧ Out C cl p b (Bk.tellS p b.st n (.times n n1 k)) Qd Qx
def cFound (C : Addr) (cl : Cls2) : Ct := fun as Qd Qx => ∃ (p : Int) (b : Bk.B) (m : Nat) (n : Str) (z1 : Bool), as = [.rf (bookO C p b), .d (.str n) z1] ∧ Bk.BOk p m b ∧ m ≤ 1000 ∧ n.length ≤ 1000 ∧ Out C cl p b (Bk.foundS b.st n) Qd Qx
def cDisband (C : Addr) (cl : Cls2) : Ct := fun as Qd Qx => ∃ (p : Int) (b : Bk.B) (m : Nat) (n : Str) (z1 : Bool), as = [.rf (bookO C p b), .d (.str n) z1] ∧ Bk.BOk p m b ∧ m ≤ 1000 ∧ Out C cl p b (Bk.disbandS b.st n) Qd Qx
def cManned (C : Addr) : Ct := fun as Qd Qx => ∃ (p : Int) (b : Bk.B) (m : Nat) (c : Str) (ns : List Str) (z1 z2 : Bool), as = [.rf (bookO C p b), .d (.str c) z1, .d (eNames ns) z2] ∧ Bk.BOk p m b ∧ m ≤ 1000 ∧ Qd (.d .none) [bookO C p (b.stand ⟨b.st.rs, Bk.put b.st.cs c ns⟩)]
def cEnlist (C : Addr) (cl : Cls2) : Ct := fun as Qd Qx => ∃ (p : Int) (b : Bk.B) (m : Nat) (c n : Str) (z1 z2 : Bool), as = [.rf (bookO C p b), .d (.str c) z1, .d (.str n) z2] ∧ Bk.BOk p m b ∧ m ≤ 1000 ∧ Out C cl p b (Bk.mannedS b.st c fun ns => Bk.enlistM b.st ns n) Qd Qx
def cDismiss (C : Addr) (cl : Cls2) : Ct := fun as Qd Qx => ∃ (p : Int) (b : Bk.B) (m : Nat) (c n : Str) (z1 z2 : Bool), as = [.rf (bookO C p b), .d (.str c) z1, .d (.str n) z2] ∧ Bk.BOk p m b ∧ m ≤ 1000 ∧ Out C cl p b (Bk.mannedS b.st c fun ns => Bk.dismissM ns n) Qd Qx
/-- .. of deeds that tell a number -/
def optD : Option Int → PyData
  | none => .none
  | some k => .int k
def OutB (C : Addr) (cl : Cls2) (p : Int) (b : Bk.B) (x : Bk.Res (Option Int × Bk.B)) (Qd : RT → List OD → Prop) (Qx : Value → List OD → Prop) : Prop := (∀ o b', x = .ok (o, b') → Qd (.d (optD o)) [bookO C p b']) ∧ ∀ e, x = .error e → Qx (cl e) [bookO C p b]
def cUndo (C : Addr) (cl : Cls2) (d : Bk.Deed) : Ct := fun as Qd Qx => ∃ (p : Int) (b : Bk.B) (m : Nat), as = [.rf (bookO C p b)] ∧ Bk.BOk p m b ∧ m ≤ 1000 ∧ OutB C cl p b (Bk.doB p b d) Qd Qx
def cReturnTo (C : Addr) (cl : Cls2) : Ct := fun as Qd Qx => ∃ (p : Int) (b : Bk.B) (m : Nat) (k : Int) (z : Bool), as = [.rf (bookO C p b), .d (.int k) z] ∧ Bk.BOk p m b ∧ m ≤ 1000 ∧ OutB C cl p b (Bk.doB p b (.ret k)) Qd Qx
def cNames (C : Addr) : Ct := fun as Qd Qx => ∃ (p : Int) (b : Bk.B), as = [.ro (bookO C p b)] ∧ b.st.rs.length < 64 ∧ ∀ ys : List Str, ys.Perm (b.st.rs.map (·.1)) → sortedS ys = true → Qd (.nw (.lst (ys.map .str))) []
def cCrews (C : Addr) : Ct := fun as Qd Qx => ∃ (p : Int) (b : Bk.B), as = [.ro (bookO C p b)] ∧ b.st.cs.length < 64 ∧ ∀ ys : List Str, ys.Perm (b.st.cs.map (·.1)) → sortedS ys = true → Qd (.nw (.lst (ys.map .str))) []
def cMembers (C : Addr) (cl : Cls2) : Ct := fun as Qd Qx => ∃ (p : Int) (b : Bk.B) (n : Str) (z : Bool), as = [.ro (bookO C p b), .d (.str n) z] ∧ (∀ r, Bk.get b.st.cs n = some r → r.length ≤ 100000 ∧ Qd (.nw (.lst (r.map .str))) []) ∧ (Bk.get b.st.cs n = none → Qx (cl .noCrew) [])
end Dk

namespace Dk
open PySem PySem.Spec PyProof.Rows L2
/-! ### the law's side: deeds as data, what is due -/
def deedL : Bk.Deed → List PyData
  | .tell n ds => [.str "tell", .str n, .list (ds.map eWd)]
  | .join n a b => [.str "join", .str n, .tuple [.str a, .str b]]
  | .back n a => [.str "back", .str n, .tuple [.str a], .int (-1)]
  | .times n a k => [.str "times", .str n, .tuple [.str a], .int k]
  | .drop n => [.str "drop", .str n]
  | .found c => [.str "found", .str c]
  | .disband c => [.str "disband", .str c]
  | .enlist c n => [.str "enlist", .str c, .str n]
  | .dismiss c n => [.str "dismiss", .str c, .str n]
  | .undo => [.str "undo"]
  | .redo => [.str "redo"]
  | .hold => [.str "hold"]
  | .ret k => [.str "return", .int k]
def eDeedB (d : Bk.Deed) : PyData := .tuple (deedL d)
def nameOk (n : Str) : Prop := n.length ≤ 1000 ∧ PyData.strOk n = true
/-- deeds as they are drawn -/
def DeedOk : Bk.Deed → Prop
  | .tell n ds => nameOk n ∧ ds.length ≤ 1000 ∧ ∀ x ∈ ds, PyData.strOk x.1 = true
  | .join n a b => nameOk n ∧ nameOk a ∧ nameOk b
  | .back n a => nameOk n ∧ nameOk a
  | .times n a k => nameOk n ∧ nameOk a ∧ k.natAbs ≤ 200
  | .drop n => nameOk n
  | .found c => nameOk c
  | .disband c => nameOk c
  | .enlist c n => nameOk c ∧ nameOk n
  | .dismiss c n => nameOk c ∧ nameOk n
  | _ => True
def isR : Bk.Deed → Bool
  | .tell _ _ => true
  | .join _ _ _ => true
  | .back _ _ => true
  | .times _ _ _ => true
  | .drop _ => true
  | _ => false
def kindS : Bk.Deed → Str
  | .tell _ _ => "tell"
  | .join _ _ _ => "join"
  | .back _ _ => "back"
  | .times _ _ _ => "times"
  | .drop _ => "drop"
  | .found _ => "found"
  | .disband _ => "disband"
  | .enlist _ _ => "enlist"
  | .dismiss _ _ => "dismiss"
  | .undo => "undo"
  | .redo => "redo"
  | .hold => "hold"
  | .ret _ => "return"
def nameS : Bk.Deed → Str
  | .tell n _ => n
  | .join n _ _ => n
  | .back n _ => n
  | .times n _ _ => n
  | .drop n => n
  | .found n => n
  | .disband n => n
  | .enlist n _ => n
  | .dismiss n _ => n
  | _ => ""
theorem deed_at0 (d : Bk.Deed) : atI (deedL d) 0 = some (.str (kindS d)) := by cases d <;> rfl
theorem deed_at1 {d : Bk.Deed} (h : isR d = true) : atI (deedL d) 1 = some (.str (nameS d)) := by
  cases d <;> first | rfl | cases h
theorem used_all (s : Bk.St) (n : Str) : (!((s.cs.map fun e => !decide (n ∈ (Bk.get s.cs e.1).getD [])).all id)) = Bk.used s n := by
  unfold Bk.used Bk.usedL
  generalize hg : (fun e : Str × List Str => decide (n ∈ (Bk.get s.cs e.1).getD [])) = g
  have e : (fun e : Str × List Str => !decide (n ∈ (Bk.get s.cs e.1).getD [])) = fun e => !g e := by rw [← hg]
  rw [e]
  induction s.cs with
  | nil => rfl
  | cons c r ih =>
    simp only [List.map_cons, List.all_cons, List.any_cons, id, Bool.not_and, Bool.not_not]
    rw [ih]
theorem goodW_in (x : Wd2) : inV (V.str x.1) [V.str (Str.ofString "go"), V.str (Str.ofString "turn")] = Bk.goodW x := by
  have := inV_strs x.1 [Str.ofString "go", Str.ofString "turn"]
  rw [show ([V.str (Str.ofString "go"), V.str (Str.ofString "turn")] : List V) = [Str.ofString "go", Str.ofString "turn"].map V.str from rfl, this]
  simp [Bk.goodW]
def tellR (s : Bk.St) : Bk.Res Bk.St → Str × Bk.St
  | .ok s' => ("", s')
  | .error e => (e.txt, s)
def eTold (x : Str × Bk.St) : PyData := .tuple [.str x.1, eSt x.2]
def tellB (b : Bk.B) : Bk.Res (Option Int × Bk.B) → Str × Option Int × Bk.B
  | .ok (o, b') => ("", o, b')
  | .error e => (e.txt, none, b)
def cValue : List PyData → (PyData → Prop) → Prop := fun ds Qd => ∃ (p : Int) (m : Nat) (s : Bk.St) (d : Bk.Deed) (r : Rd.R), ds = [.int p, eRs s.rs, eDeedB d] ∧ GoodP p ∧ Bk.StOk p m s ∧ DeedOk d ∧ Bk.valR p s d = .ok r ∧ Qd (eRound r)
def cDueR : Ct := fun as Qd Qx => ∃ (p : Int) (m : Nat) (s : Bk.St) (d : Bk.Deed) (z : Bool), as = [.d (.int p) z, .d (eSt s) true, .d (eDeedB d) true] ∧ GoodP p ∧ Bk.StOk p m s ∧ m ≤ 1000 ∧ DeedOk d ∧ isR d = true ∧ Qd (.d (eTold (tellR s (Bk.dueS p s d)))) []
def cRun (C : Addr) (cl : Cls2) : Ct := fun as Qd Qx => ∃ (p : Int) (b : Bk.B) (m : Nat) (d : Bk.Deed) (z : Bool), as = [.rf (bookO C p b), .d (eDeedB d) z] ∧ GoodP p ∧ Bk.BOk p m b ∧ m ≤ 1000 ∧ DeedOk d ∧ OutB C cl p b (Bk.doB p b d) Qd Qx
def cCallB (C : Addr) : Ct := fun as Qd Qx => ∃ (p : Int) (b : Bk.B) (m : Nat) (d : Bk.Deed) (z : Bool), as = [.rf (bookO C p b), .d (eDeedB d) z] ∧ GoodP p ∧ Bk.BOk p m b ∧ m ≤ 1000 ∧ DeedOk d ∧ Qd (.d (.tuple [.str (tellB b (Bk.doB p b d)).1, optD (tellB b (Bk.doB p b d)).2.1])) [bookO C p (tellB b (Bk.doB p b d)).2.2]
def cStands (C : Addr) : Ct := fun as Qd Qx => ∃ (p : Int) (b : Bk.B) (m : Nat) (z1 z2 : Bool), as = [.d (.int p) z1, .ro (bookO C p b), .d (eSt b.st) z2] ∧ Bk.StOk p m b.st ∧ m < 64 ∧ Qd (.d (.bool true)) []
def cLeft (C : Addr) : Ct := fun as Qd Qx => ∃ (p : Int) (b : Bk.B) (m : Nat) (n : Str) (ds : List Bk.Word) (z : Bool), as = [.rf (bookO C p b), .d (eDeedB (.tell n ds)) z] ∧ GoodP p ∧ Bk.BOk p m b ∧ m ≤ 1000 ∧ DeedOk (.tell n ds) ∧ (tellR b.st (Bk.dueS p b.st (.tell n ds))).1 ≠ "" ∧ Qd (.d (.bool true)) [bookO C p b]
def tellM (x : Bk.Res (List Str)) : Str × List Str := match x with
  | .ok ms => ("", ms)
  | .error e => (e.txt, [])
def memM (s : Bk.St) (ns : List Str) : Bk.Deed → Bk.Res (List Str)
  | .enlist _ n => Bk.enlistM s ns n
  | .dismiss _ n => Bk.dismissM ns n
  | _ => .error .noCrew
def isM : Bk.Deed → Bool
  | .enlist _ _ => true
  | .dismiss _ _ => true
  | _ => false
def isC : Bk.Deed → Bool
  | .enlist _ _ => true
  | .dismiss _ _ => true
  | .found _ => true
  | .disband _ => true
  | _ => false
def isD : Bk.Deed → Bool
  | .undo => false
  | .redo => false
  | .hold => false
  | .ret _ => false
  | _ => true
def cDueM : Ct := fun as Qd Qx => ∃ (p : Int) (m : Nat) (s : Bk.St) (d : Bk.Deed) (ns : List Str), as = [.d (eSt s) true, .d (eDeedB d) true] ∧ Bk.StOk p m s ∧ DeedOk d ∧ isM d = true ∧ Bk.get s.cs (nameS d) = some ns ∧ Qd (.d (.tuple [.str (tellM (memM s ns d)).1, eNames (tellM (memM s ns d)).2])) []
def cDueC : Ct := fun as Qd Qx => ∃ (p : Int) (m : Nat) (s : Bk.St) (d : Bk.Deed), as = [.d (eSt s) true, .d (eDeedB d) true] ∧ Bk.StOk p m s ∧ m ≤ 1000 ∧ DeedOk d ∧ isC d = true ∧ Qd (.d (eTold (tellR s (Bk.dueS p s d)))) []
def cDueA : Ct := fun as Qd Qx => ∃ (p : Int) (m : Nat) (s : Bk.St) (d : Bk.Deed) (z : Bool), as = [.d (.int p) z, .d (eSt s) true, .d (eDeedB d) true] ∧ GoodP p ∧ Bk.StOk p m s ∧ m ≤ 1000 ∧ DeedOk d ∧ isD d = true ∧ Qd (.d (eTold (tellR s (Bk.dueS p s d)))) []
def cCrewDeed : List PyData → (PyData → Prop) → Prop := fun ds Qd => ∃ ns : List Str, ds = [.list (ns.map .str)] ∧ 1 < ns.length ∧ ns.length ≤ 1000 ∧ (∀ n ∈ ns, nameOk n) ∧ ∀ d, DeedOk d → isC d = true → Qd (eDeedB d)
/-! drawn -/
def Lets (z : Str) : Prop := ∀ c ∈ z.cps.toList, c ∈ Bk.letters.cps.toList
def cNamesD : List PyData → (OD → Prop) → Prop := fun ds Qd => ∃ m : Int, ds = [.int m] ∧ 0 ≤ m ∧ m ≤ 50 ∧ ∀ ns : List Str, (ns.length : Int) = m → (∀ n ∈ ns, nameOk n) → Qd (.lst (ns.map .str))
def cDrawDeeds : List PyData → (OD → Prop) → Prop := fun ds Qd => ds = [] ∧ ∀ xs : List Wd2, xs.length ≤ 1000 → (∀ x ∈ xs, PyData.strOk x.1 = true) → Qd (.lst (xs.map eWd))
def cTarget : List PyData → (PyData → Prop) → Prop := fun ds Qd => ∃ ns : List Str, ds = [.list (ns.map .str)] ∧ 0 < ns.length ∧ ns.length ≤ 1000 ∧ (∀ n ∈ ns, nameOk n) ∧ ∀ n, nameOk n → Qd (.str n)
def cRoundDeed : List PyData → (PyData → Prop) → Prop := fun ds Qd => ∃ ns : List Str, ds = [.list (ns.map .str)] ∧ 0 < ns.length ∧ ns.length ≤ 1000 ∧ (∀ n ∈ ns, nameOk n) ∧ ∀ d, DeedOk d → isR d = true → Qd (eDeedB d)
theorem valR_len {p : Int} {m : Nat} {s : Bk.St} {d : Bk.Deed} {r : Rd.R} (h : Bk.StOk p m s) (hd : DeedOk d) (e : Bk.valR p s d = .ok r) : r.2.length ≤ 100000 := by
  have len : ∀ {a : Str} {x : Rd.R}, Bk.get s.rs a = some x → x.2.length ≤ 401 := fun z => by
    have b1 := h.rd _ (Bk.get_mem z)
    exact Bk.ok_len b1.1 b1.2.1
  cases d with
  | tell n ws =>
    simp only [Bk.valR] at e
    split at e
    · cases e
      have := gone_len p (ws.map Bk.asDeed)
      rw [List.length_map] at this
      have := hd.2.1
      omega
    · cases e
  | join n a b =>
    simp only [Bk.valR] at e
    split at e
    · rename_i x y hx hy
      cases e
      have := len hx
      have := len hy
      have := Rd.join_len p x y
      omega
    · cases e
  | back n a =>
    simp only [Bk.valR] at e
    split at e
    · rename_i x hx
      cases e
      have := len hx
      have := Rd.inv_len p x
      omega
    · cases e
  | times n a k =>
    simp only [Bk.valR] at e
    split at e
    · rename_i x hx
      cases e
      have l1 := len hx
      have := times_len2 p x k
      have := Nat.mul_le_mul hd.2.2 l1
      omega
    · cases e
  | _ => cases e
theorem outB_due {C : Addr} {cl : Cls2} {p : Int} {b : Bk.B} {d : Bk.Deed} {Qd : RT → List OD → Prop} {Qx : Value → List OD → Prop} (h : Bk.doB p b d = (match Bk.dueS p b.st d with | .ok s => .ok (none, b.stand s) | .error e => .error e)) (o : OutB C cl p b (Bk.doB p b d) Qd Qx) : Out C cl p b (Bk.dueS p b.st d) Qd Qx :=
  ⟨fun s e => o.1 none (b.stand s) (by rw [h, e]), fun c e => o.2 c (by rw [h, e])⟩
theorem BOk_up {p : Int} {m : Nat} {b : Bk.B} (h : Bk.BOk p m b) : Bk.BOk p (m + 1) b := ⟨h.st.mono (Nat.le_succ _), fun s hs => (h.past s hs).mono (Nat.le_succ _), fun s hs => (h.ahead s hs).mono (Nat.le_succ _), fun s hs => (h.held s hs).mono (Nat.le_succ _), by have := h.pl; omega⟩
theorem txt_ne (e : Bk.Er) : e.txt ≠ "" := by cases e <;> decide
theorem txt_ok (e : Bk.Er) : PyData.strOk e.txt = true := by cases e <;> decide +kernel
theorem isC_D {d : Bk.Deed} (h : isC d = true) : isD d = true := by cases d <;> first | rfl | cases h
theorem isR_D {d : Bk.Deed} (h : isR d = true) : isD d = true := by cases d <;> first | rfl | cases h
theorem doB_due {p : Int} {b : Bk.B} {d : Bk.Deed} (h : isD d = true) : Bk.doB p b d = (match Bk.dueS p b.st d with | .ok s => .ok (none, b.stand s) | .error e => .error e) := by
  cases d <;> first | rfl | cases h
theorem after_due {p : Int} (hp : 0 < p) {m : Nat} {b : Bk.B} (hb : Bk.BOk p m b) {d : Bk.Deed} (h : isD d = true) : ∃ b', tellB b (Bk.doB p b d) = ((tellR b.st (Bk.dueS p b.st d)).1, none, b') ∧ b'.st = (tellR b.st (Bk.dueS p b.st d)).2 ∧ Bk.BOk p (m + 1) b' ∧ ((tellR b.st (Bk.dueS p b.st d)).1 ≠ "" → b' = b) ∧ PyData.strOk (tellR b.st (Bk.dueS p b.st d)).1 = true := by
  rw [doB_due h]
  cases e : Bk.dueS p b.st d with
  | ok s => exact ⟨b.stand s, rfl, rfl, hb.stand (Bk.dueS_ok hp hb.st e), fun z => (z rfl).elim, by show PyData.strOk ("" : Str) = true; decide +kernel⟩
  | error c => exact ⟨b, rfl, rfl, BOk_up hb, fun _ => rfl, txt_ok c⟩
theorem told_shp {t : Str} (h : PyData.strOk t = true) : Shp 1 (.tuple [.str t, .none]) := Shp.tup fun d hd => by
  simp only [List.mem_cons, List.not_mem_nil, or_false] at hd
  rcases hd with rfl | rfl
  · exact Shp.str h
  · exact Shp.none
theorem lets_ok {z : Str} (h : Lets z) : PyData.strOk z = true := by
  unfold PyData.strOk
  rw [Array.all_eq_true_iff_forall_mem]
  intro c hc
  have h1 := h c (Array.mem_toList_iff.mpr hc)
  have h2 : ∀ c ∈ Bk.letters.cps.toList, c < 0x110000 := by decide +kernel
  simpa using h2 c h1
theorem lets_app {a b : Str} (ha : Lets a) (hb : Lets b) : Lets (a ++ b) := by
  intro c hc
  have e : (a ++ b).cps = a.cps ++ b.cps := rfl
  rw [e, Array.toList_append] at hc
  rcases List.mem_append.mp hc with h | h
  · exact ha c h
  · exact hb c h
theorem lets_cut {a : Str} (ha : Lets a) (lo hi : Option Int) : Lets (cutS a lo hi) := by
  intro c hc
  unfold cutS at hc
  simp only [List.toList_toArray] at hc
  exact ha c (List.mem_of_mem_drop (List.mem_of_mem_take hc))
theorem cut_len (a : Str) (lo hi : Option Int) : (cutS a lo hi).length ≤ a.length := by
  unfold cutS Str.length
  simp only [List.size_toArray, List.length_take, List.length_drop, Array.length_toList]
  omega
theorem rep_len (x : Str) (n : Nat) : (repS x n).length = n * x.length := by
  unfold repS Str.length
  simp only [List.size_toArray, List.length_flatten, List.map_replicate, List.sum_replicate_nat, Array.length_toList]
theorem lets_rep {a : Str} (ha : Lets a) (n : Nat) : Lets (repS a n) := by
  intro c hc
  unfold repS at hc
  simp only [List.toList_toArray] at hc
  obtain ⟨l, h1, h2⟩ := List.mem_flatten.mp hc
  rw [List.mem_replicate] at h1
  exact ha c (h1.2 ▸ h2)
theorem lets_one {c : Nat} (h : c ∈ Bk.letters.cps.toList) : Lets ⟨#[c]⟩ := by
  intro d hd
  simp at hd
  exact hd ▸ h
theorem txt_join (a : Str) (ys : List Str) : Txt.join a ys = Str.join a ys := eq_of_beq (join_plain_closes a ys)
theorem join_nil (cs : List Nat) : (Txt.join (Str.ofString "") (cs.map fun c => (⟨#[c]⟩ : Str))).cps.toList = cs := by
  rw [txt_join]
  induction cs with
  | nil => rfl
  | cons c r ih =>
    cases r with
    | nil => rfl
    | cons d r =>
      have e : Str.join (Str.ofString "") ((c :: d :: r).map fun c => (⟨#[c]⟩ : Str)) = (⟨#[c]⟩ : Str) ++ Str.ofString "" ++ Str.join (Str.ofString "") ((d :: r).map fun c => (⟨#[c]⟩ : Str)) := rfl
      rw [e]
      have e2 : ∀ a b : Str, (a ++ b).cps.toList = a.cps.toList ++ b.cps.toList := fun a b => Array.toList_append
      rw [e2, e2, ih]
      rfl
theorem sum_ones (cs : List Nat) : (cs.map fun _ => 1).sum = cs.length := by
  induction cs with
  | nil => rfl
  | cons c r ih => rw [List.map_cons, List.sum_cons, ih, List.length_cons]; omega
theorem nameB_ok {z : Str} (h : Bk.nameB z = true) : z.length ≤ 12 ∧ PyData.strOk z = true := by
  unfold Bk.nameB at h
  simp only [Bool.and_eq_true, decide_eq_true_eq, List.all_eq_true] at h
  exact ⟨h.1.2, lets_ok fun c hc => h.2 c hc⟩
theorem strs_shp {ys : List Str} (h : ∀ y ∈ ys, PyData.strOk y = true) : Shp 1 (.list (ys.map .str)) := Shp.list fun d hd => by
  obtain ⟨y, hy, rfl⟩ := List.mem_map.mp hd
  exact Shp.str (h y hy)
theorem key_at {α : Type} {l : List (Str × α)} {ys : List Str} (hp : ys.Perm (l.map (·.1))) {k : Nat} {d : PyData} (h : (ys.map PyData.str)[k]? = some d) : ∃ n v, d = .str n ∧ Bk.get l n = some v := by
  rw [List.getElem?_map] at h
  obtain ⟨n, h1, rfl⟩ := Option.map_eq_some_iff.mp h
  have hm := hp.mem_iff.mp (List.mem_of_getElem? h1)
  obtain ⟨e, he, rfl⟩ := List.mem_map.mp hm
  obtain ⟨v, hv⟩ := Option.isSome_iff_exists.mp (Bk.get_some he)
  exact ⟨e.1, v, rfl, hv⟩
theorem lets_join {cs : List Nat} (h : ∀ c ∈ cs, c ∈ Bk.letters.cps.toList) : Lets (Txt.join (Str.ofString "") (cs.map fun c => (⟨#[c]⟩ : Str))) := by
  intro c hc
  rw [join_nil] at hc
  exact h c hc
theorem join_len (cs : List Nat) : (Txt.join (Str.ofString "") (cs.map fun c => (⟨#[c]⟩ : Str))).length = cs.length := by
  have := congrArg List.length (join_nil cs)
  rw [Array.length_toList] at this
  exact this
theorem letter_at {r : Int} (h0 : 0 ≤ r) (h1 : r < 26) : ∃ c ∈ Bk.letters.cps.toList, atI Bk.letters.cps.toList r = some c := by
  obtain ⟨n, rfl⟩ : ∃ n : Nat, r = (n : Int) := ⟨r.toNat, by omega⟩
  have hl : Bk.letters.cps.toList.length = 26 := by decide +kernel
  have hn : n < Bk.letters.cps.toList.length := by omega
  exact ⟨Bk.letters.cps.toList[n], List.getElem_mem hn, atI_nat (List.getElem?_eq_getElem hn)⟩
theorem valA_kv {α : Type} {f : α → PyData} (hf : ∀ x, tupO (f x) = true) (l : List (Str × α)) (k : Str) : valA (kvD f l) (.inr k) = some ((Bk.get l k).map f) := by
  unfold valA
  rw [valP_kv]
  cases h : Bk.get l k with
  | none => rfl
  | some x => simp [hf]
theorem times_neg1 {p : Int} (hp : 0 < p) {a : Rd.R} (h : Rd.IsRound p a) : Rd.times p a (-1) = Rd.inv p a := by
  rw [Rd.times_zpow hp h]
  show Rd.npow p (Rd.inv p a) 1 = _
  exact Rd.still_join hp (Rd.inv_ok hp a)
end Dk

namespace Dk
open PySem PySem.Spec PyProof.Rows L2
/-! ### books as texts -/
def rowR (n : Str) (r : Rd.R) : Str := Str.ofString "round " ++ n ++ Str.ofString " " ++ textS r
def rowC (c : Str) (ns : List Str) : Str := Txt.join " " ([Str.ofString "crew", c] ++ ns)
def headB (p : Int) : Str := Str.ofString "settings " ++ numS p
def rowRs (s : Bk.St) (ys : List Str) : List Str := ys.map fun n => rowR n ((Bk.get s.rs n).getD Rd.still)
def rowCs (s : Bk.St) (zs : List Str) : List Str := zs.map fun c => rowC c ((Bk.get s.cs c).getD [])
def textB (p : Int) (s : Bk.St) (ys zs : List Str) : Str := Txt.join "\n" (headB p :: rowRs s ys ++ rowCs s zs)
theorem tjoin_len (a : Str) (ys : List Str) : (Txt.join a ys).length ≤ (ys.map (·.length)).sum + ys.length * a.length := by
  rw [txt_join]
  exact StrLaws.join_length_le a ys
theorem textS_len {a : Rd.R} (h : Plain a) (hl : a.2.length ≤ 1000) : (textS a).length ≤ 64 * (a.2.length + 1) := by
  have h0 : (numS a.1 ++ ":").length ≤ 63 := by
    rw [app_len, lit2]
    have h9 : (numS a.1).length ≤ 31 := numS_len h.1
    omega
  have h1 : ∀ s ∈ wordsS a.1 a.2, s.length ≤ 63 := fun s hs => by
    rcases List.mem_cons.mp hs with rfl | hs
    · exact h0
    · obtain ⟨x, hx, rfl⟩ := List.mem_map.mp hs
      exact wordS_len (h.2 x hx).1 (h.2 x hx).2
  have h2 := sum_le (fun s : Str => s.length) 63 _ h1
  have h3 : (wordsS a.1 a.2).length = a.2.length + 1 := by simp [wordsS]
  have h4 := tjoin_len " " (wordsS a.1 a.2)
  rw [lit3] at h4
  unfold textS
  omega
theorem absI_nat {i m : Int} (h : absI i ≤ m) : (i.natAbs : Int) ≤ m := by
  unfold absI at h
  split at h <;> omega
theorem okB_plain {p : Int} (hp : GoodP p) {a : Rd.R} (h : Rd.IsRound p a) (k : Bk.okB 200 200 a = true) : Plain a := by
  obtain ⟨h1, h2⟩ := Bk.okB_iff.mp k
  have h3 := absI_nat h1
  have small : ∀ n : Nat, (n : Int) ≤ 200 → n < 10 ^ 30 := fun n hn => Nat.lt_of_le_of_lt (show n ≤ 200 by omega) (by decide)
  refine ⟨small _ h3, fun x hx => ⟨small _ (absI_nat (h2 x hx)), small _ ?_⟩⟩
  have := h.rng x hx
  have := hp.le
  omega
theorem litR : (Str.ofString "round ").length = 6 := by decide +kernel
theorem litS : (Str.ofString "settings ").length = 9 := by decide +kernel
theorem litC : (Str.ofString "crew").length = 4 := by decide +kernel
theorem litW : (Str.ofString " ").length = 1 := by decide +kernel
theorem litN : (Str.ofString "\n").length = 1 := by decide +kernel
theorem rowR_len {p : Int} (hp : GoodP p) {n : Str} {a : Rd.R} (hn : n.length ≤ 12) (h : Rd.IsRound p a) (k : Bk.okB 200 200 a = true) : (rowR n a).length ≤ 26000 := by
  have h1 := Bk.ok_len h k
  have h2 := textS_len (okB_plain hp h k) (by omega)
  unfold rowR
  rw [app_len, app_len, app_len, litR, litW]
  omega
theorem rowC_fit {c : Str} {ns : List Str} (hc : c.length ≤ 12) (hl : ns.length ≤ 6) (hn : ∀ n ∈ ns, n.length ≤ 12) : (([Str.ofString "crew", c] ++ ns).map (·.length)).sum + ([Str.ofString "crew", c] ++ ns).length * (Str.ofString " ").length ≤ 200 := by
  have h2 := sum_le (fun s : Str => s.length) 12 ns hn
  simp only [List.map_append, List.sum_append, List.map_cons, List.map_nil, List.sum_cons, List.sum_nil, litC, litW, List.length_append, List.length_cons, List.length_nil] at h2 ⊢
  omega
theorem rowC_len {c : Str} {ns : List Str} (hc : c.length ≤ 12) (hl : ns.length ≤ 6) (hn : ∀ n ∈ ns, n.length ≤ 12) : (rowC c ns).length ≤ 200 := Nat.le_trans (tjoin_len _ _) (rowC_fit hc hl hn)
theorem numP_len {p : Int} (hp : GoodP p) : (numS p).length ≤ 31 := numS_len (by rcases hp with rfl | rfl | rfl | rfl <;> decide)
theorem headB_len {p : Int} (hp : GoodP p) : (headB p).length ≤ 40 := by
  unfold headB
  rw [app_len, litS]
  have := numP_len hp
  omega
/-- what the names of a book are -/
structure YsOk {α : Type} (l : List (Str × α)) (ys : List Str) : Prop where
  pm : ys.Perm (l.map (·.1))
  so : sortedS ys = true
theorem YsOk.len {α : Type} {l : List (Str × α)} {ys : List Str} (h : YsOk l ys) : ys.length = l.length := by
  have := h.pm.length_eq
  rw [List.length_map] at this
  exact this
theorem YsOk.get {α : Type} {l : List (Str × α)} {ys : List Str} (h : YsOk l ys) {n : Str} (hn : n ∈ ys) : ∃ v, Bk.get l n = some v := by
  obtain ⟨e, he, rfl⟩ := List.mem_map.mp (h.pm.mem_iff.mp hn)
  exact Option.isSome_iff_exists.mp (Bk.get_some he)
theorem YsOk.uniq {α : Type} {l : List (Str × α)} {ys zs : List Str} (h : YsOk l ys) (g : YsOk l zs) : ys = zs := sorted_uniq h.pm g.pm h.so g.so
theorem rows_fit {p : Int} (hp : GoodP p) {m : Nat} {s : Bk.St} (h : Bk.StOk p m s) (hm : m < 64) {ys zs : List Str} (hy : YsOk s.rs ys) (hz : YsOk s.cs zs) : ((headB p :: rowRs s ys ++ rowCs s zs).map (·.length)).sum + (headB p :: rowRs s ys ++ rowCs s zs).length * (Str.ofString "\n").length ≤ 16777216 := by
  have h1 : ∀ r ∈ headB p :: rowRs s ys ++ rowCs s zs, r.length ≤ 26000 := fun r hr => by
    rcases List.mem_append.mp hr with hr | hr
    · rcases List.mem_cons.mp hr with rfl | hr
      · have := headB_len hp; omega
      · obtain ⟨n, hn, rfl⟩ := List.mem_map.mp hr
        obtain ⟨v, hv⟩ := hy.get hn
        have b := h.rd _ (Bk.get_mem hv)
        rw [hv]
        exact rowR_len hp (nameB_ok b.2.2).1 b.1 b.2.1
    · obtain ⟨n, hn, rfl⟩ := List.mem_map.mp hr
      obtain ⟨v, hv⟩ := hz.get hn
      have b := h.cr _ (Bk.get_mem hv)
      rw [hv]
      have := rowC_len (nameB_ok b.2.1).1 b.1 (fun n hn => (nameB_ok (b.2.2 n hn)).1)
      simp only [Option.getD_some] at this ⊢
      omega
  have h2 := sum_le (fun s : Str => s.length) 26000 _ h1
  have l1 := hy.len
  have l2 := hz.len
  have l3 := h.rl
  have l4 := h.cl
  have h3 : (headB p :: rowRs s ys ++ rowCs s zs).length = ys.length + zs.length + 1 := by
    simp [rowRs, rowCs]
  rw [litN]
  omega
def cBookText (C : Addr) : Ct := fun as Qd Qx => ∃ (p : Int) (b : Bk.B) (m : Nat), as = [.ro (bookO C p b)] ∧ GoodP p ∧ Bk.StOk p m b.st ∧ m < 64 ∧ ∀ ys zs, YsOk b.st.rs ys → YsOk b.st.cs zs → Qd (.d (.str (textB p b.st ys zs))) []
def cLBookText : List PyData → (PyData → Prop) → Prop := fun ds Qd => ∃ (p : Int) (s : Bk.St) (m : Nat), ds = [.int p, eSt s] ∧ GoodP p ∧ Bk.StOk p m s ∧ m < 64 ∧ ∀ ys zs, YsOk s.rs ys → YsOk s.cs zs → Qd (.str (textB p s ys zs))
/-! the law's own keeping of a book -/
def eState (b : Bk.B) : PyData := .tuple [eSt b.st, .list (b.past.map eSt), .list (b.ahead.map eSt), .list (b.held.map eSt)]
def eStepB (x : Str × Option Int × Bk.B) : PyData := .tuple [.tuple [.str x.1, optD x.2.1], eState x.2.2]
def cStep : Ct := fun as Qd Qx => ∃ (p : Int) (m : Nat) (b : Bk.B) (d : Bk.Deed) (z : Bool), as = [.d (.int p) z, .d (eState b) true, .d (eDeedB d) true] ∧ GoodP p ∧ Bk.BOk p m b ∧ m ≤ 1000 ∧ DeedOk d ∧ Qd (.d (eStepB (tellB b (Bk.doB p b d)))) []
def cAnyDeed : List PyData → (PyData → Prop) → Prop := fun ds Qd => ∃ ns : List Str, ds = [.list (ns.map .str)] ∧ 1 < ns.length ∧ ns.length ≤ 1000 ∧ (∀ n ∈ ns, nameOk n) ∧ ∀ d, DeedOk d → Qd (eDeedB d)
theorem last_atI {α : Type} (f : α → PyData) {l : List α} {s : α} (h : l.getLast? = some s) : atI (l.map f) (-1) = some (f s) := by
  have e := last_at f h
  have hl : 0 < (l.map f).length := by
    cases l with
    | nil => cases h
    | cons _ _ => simp
  unfold atI ixN
  rw [if_neg (by decide), if_pos (by omega)]
  show (l.map f)[((-1 : Int) + ((l.map f).length : Int)).toNat]? = _
  rw [show ((-1 : Int) + ((l.map f).length : Int)).toNat = (l.map f).length - 1 by omega]
  exact e
theorem cut_last (ds : List PyData) : cutD ds none (some (-1)) = ds.dropLast := by
  unfold cutD
  show (ds.drop 0).take ((if (-1 : Int) < 0 then ((-1 : Int) + (ds.length : Int)).toNat else min (-1 : Int).toNat ds.length) - 0) = _
  rw [if_pos (by decide), List.drop_zero, List.dropLast_eq_take]
  congr 1
  omega
end Dk

local macro_rules | `(tactic| walk_at "ss") => `(tactic| ((try dsimp only [L2.cxOf, List.map]); refine ⟨_, inferInstance, ?_⟩))
local macro_rules | `(tactic| walk_at "s1") => `(tactic| first
  | refine ⟨_, rfl, ?_⟩
  | refine ⟨rfl, ?_⟩
  | refine ⟨_, _, rfl, rfl, ?_⟩
  | refine ⟨_, _, _, rfl, rfl, rfl, ?_⟩
  | refine ⟨_, fun _ h => h, ?_⟩
  | refine L2.iteT ?_
  | refine L2.iteF ?_
  | refine ⟨_, rfl, Nat.le_of_ble_eq_true rfl, ?_⟩
  | refine ⟨_, _, _, rfl, rfl, by assumption, ?_⟩
  | refine ⟨.inr rfl, ?_⟩
  | refine ⟨.inl rfl, ?_⟩)
local macro_rules | `(tactic| walk_at "w") => `(tactic| repeat walk_at "s1")

local macro_rules | `(tactic| walk_at "ln") => `(tactic| ((try simp only [List.length_append, List.length_map, List.length_cons, List.length_nil, List.length_range, List.length_replicate, Dk.fm_map, Pt.moved_len]); first | exact Dk.small100000 (by omega) | exact Nat.le_of_lt (Dk.small100000 (by omega)) | omega))
local macro_rules | `(tactic| walk_at "sd") => `(tactic| first | assumption | omega | (walk_at "ln") | rfl | trivial | decide | exact Nat.le_of_ble_eq_true rfl | exact (Dk.ePat_shp _).ok | exact (Dk.eRound_shp _).ok | exact (Dk.ePairs_shp _).ok | exact (Dk.ePair_shp _).ok | exact (Dk.eNums_shp _).ok | exact (Dk.eList_shp _).ok | walk_at "ln" | (exact Or.inl ⟨by first | decide | omega, by first | decide | omega⟩) | (exact Or.inr ⟨by first | decide | omega, by first | decide | omega⟩) | (intro kvs hne; (cases hne; done)) | exact Or.inl rfl | exact Or.inr (by assumption))
local macro_rules | `(tactic| walk_at "g1") => `(tactic| first
  | refine ⟨_, rfl, ?_⟩
  | refine ⟨rfl, ?_⟩
  | refine ⟨.inl rfl, ?_⟩
  | refine ⟨.inr rfl, ?_⟩
  | refine ⟨_, .inl rfl, rfl, ?_⟩
  | refine ⟨_, .inr rfl, rfl, ?_⟩
  | refine ⟨_, _, rfl, rfl, ?_⟩
  | refine ⟨_, _, rfl, ?_⟩
  | refine ⟨_, _, _, rfl, rfl, rfl, ?_⟩
  | refine ⟨_, _, _, rfl, rfl, ?_⟩
  | refine ⟨_, _, _, rfl, ?_⟩
  | refine ⟨_, _, _, _, rfl, rfl, rfl, ?_⟩
  | refine ⟨_, _, _, _, rfl, rfl, ?_⟩
  | refine ⟨_, _, _, _, rfl, ?_⟩
  | refine ⟨_, _, _, _, _, rfl, ?_⟩
  | refine ⟨_, _, _, _, _, _, rfl, ?_⟩
  | refine ⟨_, fun _ h => h, ?_⟩
  | refine L2.iteT ?_
  | refine L2.iteF ?_
  | refine ⟨_, _, .inl rfl, ?_⟩
  | refine ⟨_, _, .inr rfl, ?_⟩
  | (refine And.intro ?_ ?_; (focus (walk_at "sd"))))
local macro_rules | `(tactic| walk_at "g") => `(tactic| repeat walk_at "g1")
local macro_rules | `(tactic| walk_at "h1") => `(tactic| first
  | refine ⟨_, rfl, ?_⟩
  | refine ⟨rfl, ?_⟩
  | refine ⟨.inl rfl, ?_⟩
  | refine ⟨.inr rfl, ?_⟩
  | refine ⟨_, .inl rfl, rfl, ?_⟩
  | refine ⟨_, .inr rfl, rfl, ?_⟩
  | refine ⟨_, _, rfl, rfl, ?_⟩
  | refine ⟨_, _, rfl, ?_⟩
  | refine ⟨_, _, _, rfl, rfl, rfl, ?_⟩
  | refine ⟨_, _, _, rfl, rfl, ?_⟩
  | refine ⟨_, _, _, rfl, ?_⟩
  | refine ⟨_, _, _, _, rfl, rfl, rfl, ?_⟩
  | refine ⟨_, _, _, _, rfl, rfl, ?_⟩
  | refine ⟨_, _, _, _, rfl, ?_⟩
  | refine ⟨_, _, _, _, _, rfl, ?_⟩
  | refine ⟨_, _, _, _, _, _, rfl, ?_⟩
  | refine L2.iteT ?_
  | refine L2.iteF ?_
  | refine ⟨_, _, .inl rfl, ?_⟩
  | refine ⟨_, _, .inr rfl, ?_⟩
  | (refine And.intro ?_ ?_; (focus (walk_at "sd"))))
local macro_rules | `(tactic| walk_at "h") => `(tactic| repeat walk_at "h1")
local macro_rules | `(tactic| walk_at "rf") => `(tactic| first
  | refine Dk.iteFb (by rw [(Dk.ePat_shp _).refl]; rfl) ?_
  | refine Dk.iteFb (by rw [(Dk.eRound_shp _).refl]; rfl) ?_
  | refine Dk.iteFb (by rw [(Dk.ePairs_shp _).refl]; rfl) ?_
  | refine Dk.iteFb (by rw [(Dk.eNums_shp _).refl]; rfl) ?_
  | refine Dk.iteFb (by rw [(Dk.eList_shp _).refl]; rfl) ?_
  | refine Dk.iteTb (by rw [(Dk.eNums_shp _).refl]; rfl) ?_
  | refine Dk.iteTb (by rw [(Dk.eList_shp _).refl]; rfl) ?_
  | refine Dk.iteTb (by rw [(Dk.ePat_shp _).refl]; rfl) ?_
  | refine Dk.iteTb (by rw [(Dk.eRound_shp _).refl]; rfl) ?_
  | refine Dk.iteTb (by rw [(Dk.ePairs_shp _).refl]; rfl) ?_)
namespace Law
open PySem PySem.Spec PyProof.Rows L2 Dk
def topS (i : Nat) : Stmt := PySem.Challenge.pw_duskround_k52_books_written.main.body.getD i (.Pass ⟨0, 0, 0, 0⟩)
structure FnIn (K : Fg) (mg : Str → Option Value) (x : Str) (st : Stmt) (ps : List Str) where
  f : Addr
  fd : FuncData
  F : L2.Fun K x x st f fd
  b : Binds K fd ps []
  m : mg x = some (.ref f)
abbrev sWall : Stmt := topS 0
abbrev nWall : List Str := ["k"]
theorem scWall : FnScope nWall ["k"] (defScope sWall) := ⟨rfl, rfl, rfl, by decide +kernel, rfl, by decide +kernel, by decide +kernel⟩
abbrev sTidy : Stmt := topS 15
abbrev nTidy : List Str := ["p", "pairs", "sums", "place", "setting"]
theorem scTidy : FnScope nTidy ["p", "pairs"] (defScope sTidy) := ⟨rfl, rfl, rfl, by decide +kernel, rfl, by decide +kernel, by decide +kernel⟩
abbrev sAdded : Stmt := topS 16
abbrev nAdded : List Str := ["p", "one", "other"]
theorem scAdded : FnScope nAdded ["p", "one", "other"] (defScope sAdded) := ⟨rfl, rfl, rfl, by decide +kernel, rfl, by decide +kernel, by decide +kernel⟩
abbrev sMoved : Stmt := topS 17
abbrev nMoved : List Str := ["pattern", "by", "place", "setting"]
theorem scMoved : FnScope nMoved ["pattern", "by"] (defScope sMoved) := ⟨rfl, rfl, rfl, by decide +kernel, rfl, by decide +kernel, by decide +kernel⟩
abbrev sTimed : Stmt := topS 18
abbrev nTimed : List Str := ["p", "pattern", "n", "place", "setting"]
theorem scTimed : FnScope nTimed ["p", "pattern", "n"] (defScope sTimed) := ⟨rfl, rfl, rfl, by decide +kernel, rfl, by decide +kernel, by decide +kernel⟩
abbrev sGone : Stmt := topS 20
abbrev nGone : List Str := ["p", "deeds", "here", "pairs", "word", "many"]
theorem scGone : FnScope nGone ["p", "deeds"] (defScope sGone) := ⟨rfl, rfl, rfl, by decide +kernel, rfl, by decide +kernel, by decide +kernel⟩
abbrev sJoined : Stmt := topS 21
abbrev nJoined : List Str := ["p", "one", "other"]
theorem scJoined : FnScope nJoined ["p", "one", "other"] (defScope sJoined) := ⟨rfl, rfl, rfl, by decide +kernel, rfl, by decide +kernel, by decide +kernel⟩
abbrev sBackward : Stmt := topS 22
abbrev nBackward : List Str := ["p", "one"]
theorem scBackward : FnScope nBackward ["p", "one"] (defScope sBackward) := ⟨rfl, rfl, rfl, by decide +kernel, rfl, by decide +kernel, by decide +kernel⟩
abbrev sRepeated : Stmt := topS 23
abbrev nRepeated : List Str := ["p", "one", "n", "base", "many", "pairs", "k"]
theorem scRepeated : FnScope nRepeated ["p", "one", "n"] (defScope sRepeated) := ⟨rfl, rfl, rfl, by decide +kernel, rfl, by decide +kernel, by decide +kernel⟩
abbrev sNear : Stmt := topS 27
abbrev nNear : List Str := ["one", "place", "setting"]
theorem scNear : FnScope nNear ["one"] (defScope sNear) := ⟨rfl, rfl, rfl, by decide +kernel, rfl, by decide +kernel, by decide +kernel⟩
abbrev sGood_name : Stmt := topS 33
abbrev nGood_name : List Str := ["name", "sign"]
theorem scGood_name : FnScope nGood_name ["name"] (defScope sGood_name) := ⟨rfl, rfl, rfl, by decide +kernel, rfl, by decide +kernel, by decide +kernel⟩
abbrev sWithin_bounds : Stmt := topS 34
abbrev nWithin_bounds : List Str := ["one", "place", "setting"]
theorem scWithin_bounds : FnScope nWithin_bounds ["one"] (defScope sWithin_bounds) := ⟨rfl, rfl, rfl, by decide +kernel, rfl, by decide +kernel, by decide +kernel⟩
abbrev sShown : Stmt := topS 37
abbrev nShown : List Str := ["one", "words", "place", "setting"]
theorem scShown : FnScope nShown ["one"] (defScope sShown) := ⟨rfl, rfl, rfl, by decide +kernel, rfl, by decide +kernel, by decide +kernel⟩
abbrev sBook_text : Stmt := topS 38
abbrev nBook_text : List Str := ["book", "rows", "name"]
theorem scBook_text : FnScope nBook_text ["book"] (defScope sBook_text) := ⟨rfl, rfl, rfl, by decide +kernel, rfl, by decide +kernel, by decide +kernel⟩
abbrev sL_begin : Stmt := topS 40
abbrev nL_begin : List Str := ["_law_script"]
theorem scL_begin : FnScope nL_begin ["_law_script"] (defScope sL_begin) := ⟨rfl, rfl, rfl, by decide +kernel, rfl, by decide +kernel, by decide +kernel⟩
abbrev sL_take : Stmt := topS 41
abbrev nL_take : List Str := ["_law_draw", "_law_many", "_law_number", "_law_got"]
theorem scL_take : FnScope nL_take ["_law_draw", "_law_many"] (defScope sL_take) := ⟨rfl, rfl, rfl, by decide +kernel, rfl, by decide +kernel, by decide +kernel⟩
abbrev sL_p : Stmt := topS 42
abbrev nL_p : List Str := ["_law_draw"]
theorem scL_p : FnScope nL_p ["_law_draw"] (defScope sL_p) := ⟨rfl, rfl, rfl, by decide +kernel, rfl, by decide +kernel, by decide +kernel⟩
abbrev sL_names : Stmt := topS 43
abbrev nL_names : List Str := ["_law_draw", "_law_many", "_law_letters", "_law_body", "_law_cut", "_law_start", "_law_names_here", "_law_k", "_law_sign"]
theorem scL_names : FnScope nL_names ["_law_draw", "_law_many"] (defScope sL_names) := ⟨rfl, rfl, rfl, by decide +kernel, rfl, by decide +kernel, by decide +kernel⟩
abbrev sL_tidy : Stmt := topS 44
abbrev nL_tidy : List Str := ["_law_p_here", "_law_pairs", "_law_sums", "_law_place", "_law_setting"]
theorem scL_tidy : FnScope nL_tidy ["_law_p_here", "_law_pairs"] (defScope sL_tidy) := ⟨rfl, rfl, rfl, by decide +kernel, rfl, by decide +kernel, by decide +kernel⟩
abbrev sL_sum : Stmt := topS 45
abbrev nL_sum : List Str := ["_law_p_here", "_law_one", "_law_other", "_law_by", "_law_many", "_law_place", "_law_setting"]
theorem scL_sum : FnScope nL_sum ["_law_p_here", "_law_one", "_law_other", "_law_by", "_law_many"] (defScope sL_sum) := ⟨rfl, rfl, rfl, by decide +kernel, rfl, by decide +kernel, by decide +kernel⟩
abbrev sL_join : Stmt := topS 46
abbrev nL_join : List Str := ["_law_p_here", "_law_one", "_law_other"]
theorem scL_join : FnScope nL_join ["_law_p_here", "_law_one", "_law_other"] (defScope sL_join) := ⟨rfl, rfl, rfl, by decide +kernel, rfl, by decide +kernel, by decide +kernel⟩
abbrev sL_back : Stmt := topS 47
abbrev nL_back : List Str := ["_law_p_here", "_law_one"]
theorem scL_back : FnScope nL_back ["_law_p_here", "_law_one"] (defScope sL_back) := ⟨rfl, rfl, rfl, by decide +kernel, rfl, by decide +kernel, by decide +kernel⟩
abbrev sL_times : Stmt := topS 48
abbrev nL_times : List Str := ["_law_p_here", "_law_one", "_law_n", "_law_base", "_law_pairs", "_law_k", "_law_place", "_law_setting"]
theorem scL_times : FnScope nL_times ["_law_p_here", "_law_one", "_law_n"] (defScope sL_times) := ⟨rfl, rfl, rfl, by decide +kernel, rfl, by decide +kernel, by decide +kernel⟩
abbrev sL_is_name : Stmt := topS 49
abbrev nL_is_name : List Str := ["_law_name", "_law_good", "_law_sign"]
theorem scL_is_name : FnScope nL_is_name ["_law_name"] (defScope sL_is_name) := ⟨rfl, rfl, rfl, by decide +kernel, rfl, by decide +kernel, by decide +kernel⟩
abbrev sL_far : Stmt := topS 50
abbrev nL_far : List Str := ["_law_one", "_law_most", "_law_reach", "_law_place", "_law_setting"]
theorem scL_far : FnScope nL_far ["_law_one", "_law_most", "_law_reach"] (defScope sL_far) := ⟨rfl, rfl, rfl, by decide +kernel, rfl, by decide +kernel, by decide +kernel⟩
abbrev sL_walk : Stmt := topS 51
abbrev nL_walk : List Str := ["_law_p_here", "_law_deeds", "_law_here", "_law_pairs", "_law_word", "_law_number"]
theorem scL_walk : FnScope nL_walk ["_law_p_here", "_law_deeds"] (defScope sL_walk) := ⟨rfl, rfl, rfl, by decide +kernel, rfl, by decide +kernel, by decide +kernel⟩
abbrev sL_value : Stmt := topS 52
abbrev nL_value : List Str := ["_law_p_here", "_law_rounds", "_law_deed"]
theorem scL_value : FnScope nL_value ["_law_p_here", "_law_rounds", "_law_deed"] (defScope sL_value) := ⟨rfl, rfl, rfl, by decide +kernel, rfl, by decide +kernel, by decide +kernel⟩
abbrev sL_due_round : Stmt := topS 53
abbrev nL_due_round : List Str := ["_law_p_here", "_law_stand", "_law_deed", "_law_rounds", "_law_used", "_law_one", "_law_crew", "_law_word", "_law_number", "_law_name"]
theorem scL_due_round : FnScope nL_due_round ["_law_p_here", "_law_stand", "_law_deed"] (defScope sL_due_round) := ⟨rfl, rfl, rfl, by decide +kernel, rfl, by decide +kernel, by decide +kernel⟩
abbrev sL_due_member : Stmt := topS 54
abbrev nL_due_member : List Str := ["_law_stand", "_law_deed", "_law_names_here", "_law_name"]
theorem scL_due_member : FnScope nL_due_member ["_law_stand", "_law_deed"] (defScope sL_due_member) := ⟨rfl, rfl, rfl, by decide +kernel, rfl, by decide +kernel, by decide +kernel⟩
abbrev sL_due_crew : Stmt := topS 55
abbrev nL_due_crew : List Str := ["_law_stand", "_law_deed", "_law_crews", "_law_told"]
theorem scL_due_crew : FnScope nL_due_crew ["_law_stand", "_law_deed"] (defScope sL_due_crew) := ⟨rfl, rfl, rfl, by decide +kernel, rfl, by decide +kernel, by decide +kernel⟩
abbrev sL_due : Stmt := topS 56
abbrev nL_due : List Str := ["_law_p_here", "_law_stand", "_law_deed"]
theorem scL_due : FnScope nL_due ["_law_p_here", "_law_stand", "_law_deed"] (defScope sL_due) := ⟨rfl, rfl, rfl, by decide +kernel, rfl, by decide +kernel, by decide +kernel⟩
abbrev sL_run : Stmt := topS 57
abbrev nL_run : List Str := ["_law_book", "_law_deed", "_law_handed", "_law_told"]
theorem scL_run : FnScope nL_run ["_law_book", "_law_deed"] (defScope sL_run) := ⟨rfl, rfl, rfl, by decide +kernel, rfl, by decide +kernel, by decide +kernel⟩
abbrev sL_call : Stmt := topS 58
abbrev nL_call : List Str := ["_law_book", "_law_deed", "_law_told", "_law_value_here"]
theorem scL_call : FnScope nL_call ["_law_book", "_law_deed"] (defScope sL_call) := ⟨rfl, rfl, rfl, by decide +kernel, rfl, by decide +kernel, by decide +kernel⟩
abbrev sL_draw_deeds : Stmt := topS 59
abbrev nL_draw_deeds : List Str := ["_law_draw", "_law_deeds", "_law_k", "_law_word", "_law_way"]
theorem scL_draw_deeds : FnScope nL_draw_deeds ["_law_draw"] (defScope sL_draw_deeds) := ⟨rfl, rfl, rfl, by decide +kernel, rfl, by decide +kernel, by decide +kernel⟩
abbrev sL_target : Stmt := topS 60
abbrev nL_target : List Str := ["_law_draw", "_law_names_here"]
theorem scL_target : FnScope nL_target ["_law_draw", "_law_names_here"] (defScope sL_target) := ⟨rfl, rfl, rfl, by decide +kernel, rfl, by decide +kernel, by decide +kernel⟩
abbrev sL_round_deed : Stmt := topS 61
abbrev nL_round_deed : List Str := ["_law_draw", "_law_names_here", "_law_name", "_law_one", "_law_way"]
theorem scL_round_deed : FnScope nL_round_deed ["_law_draw", "_law_names_here"] (defScope sL_round_deed) := ⟨rfl, rfl, rfl, by decide +kernel, rfl, by decide +kernel, by decide +kernel⟩
abbrev sL_crew_deed : Stmt := topS 62
abbrev nL_crew_deed : List Str := ["_law_draw", "_law_names_here", "_law_crew", "_law_name", "_law_way"]
theorem scL_crew_deed : FnScope nL_crew_deed ["_law_draw", "_law_names_here"] (defScope sL_crew_deed) := ⟨rfl, rfl, rfl, by decide +kernel, rfl, by decide +kernel, by decide +kernel⟩
abbrev sL_planned : Stmt := topS 63
abbrev nL_planned : List Str := ["_law_draw", "_law_k", "_law_names_here"]
theorem scL_planned : FnScope nL_planned ["_law_draw", "_law_k", "_law_names_here"] (defScope sL_planned) := ⟨rfl, rfl, rfl, by decide +kernel, rfl, by decide +kernel, by decide +kernel⟩
abbrev sL_grow : Stmt := topS 64
abbrev nL_grow : List Str := ["_law_draw", "_law_p_here", "_law_book", "_law_names_here", "_law_stand", "_law_k", "_law_deed", "_law_due_here"]
theorem scL_grow : FnScope nL_grow ["_law_draw", "_law_p_here", "_law_book", "_law_names_here"] (defScope sL_grow) := ⟨rfl, rfl, rfl, by decide +kernel, rfl, by decide +kernel, by decide +kernel⟩
abbrev sL_int : Stmt := topS 65
abbrev nL_int : List Str := ["_law_thing"]
theorem scL_int : FnScope nL_int ["_law_thing"] (defScope sL_int) := ⟨rfl, rfl, rfl, by decide +kernel, rfl, by decide +kernel, by decide +kernel⟩
abbrev sL_is_pattern : Stmt := topS 66
abbrev nL_is_pattern : List Str := ["_law_p_here", "_law_thing", "_law_k", "_law_pair"]
theorem scL_is_pattern : FnScope nL_is_pattern ["_law_p_here", "_law_thing"] (defScope sL_is_pattern) := ⟨rfl, rfl, rfl, by decide +kernel, rfl, by decide +kernel, by decide +kernel⟩
abbrev sL_is_round : Stmt := topS 67
abbrev nL_is_round : List Str := ["_law_p_here", "_law_thing"]
theorem scL_is_round : FnScope nL_is_round ["_law_p_here", "_law_thing"] (defScope sL_is_round) := ⟨rfl, rfl, rfl, by decide +kernel, rfl, by decide +kernel, by decide +kernel⟩
abbrev sL_stands : Stmt := topS 68
abbrev nL_stands : List Str := ["_law_p_here", "_law_book", "_law_stand", "_law_names_here", "_law_crews", "_law_name", "_law_one", "_law_crew", "_law_members"]
theorem scL_stands : FnScope nL_stands ["_law_p_here", "_law_book", "_law_stand"] (defScope sL_stands) := ⟨rfl, rfl, rfl, by decide +kernel, rfl, by decide +kernel, by decide +kernel⟩
abbrev sL_shown : Stmt := topS 69
abbrev nL_shown : List Str := ["_law_one", "_law_words", "_law_place", "_law_setting"]
theorem scL_shown : FnScope nL_shown ["_law_one"] (defScope sL_shown) := ⟨rfl, rfl, rfl, by decide +kernel, rfl, by decide +kernel, by decide +kernel⟩
abbrev sL_book_text : Stmt := topS 70
abbrev nL_book_text : List Str := ["_law_p_here", "_law_stand", "_law_rows", "_law_name", "_law_crew"]
theorem scL_book_text : FnScope nL_book_text ["_law_p_here", "_law_stand"] (defScope sL_book_text) := ⟨rfl, rfl, rfl, by decide +kernel, rfl, by decide +kernel, by decide +kernel⟩
abbrev sLaw : Stmt := topS 71
abbrev nLaw : List Str := ["_law_script", "_law_draw", "_law_p_here", "_law_names_here", "_law_book", "_law_first", "_law_stand", "_law_found", "_law_deed", "_law_due_here"]
theorem scLaw : FnScope nLaw ["_law_script"] (defScope sLaw) := ⟨rfl, rfl, rfl, by decide +kernel, rfl, by decide +kernel, by decide +kernel⟩
abbrev sBook_init : Stmt := inClass (topS 35) 0
abbrev nBook_init : List Str := ["self", "p"]
theorem scBook_init : FnScope nBook_init ["self", "p"] (defScope sBook_init) := ⟨rfl, rfl, rfl, by decide +kernel, rfl, by decide +kernel, by decide +kernel⟩
abbrev sBook_settings : Stmt := inClass (topS 35) 1
abbrev nBook_settings : List Str := ["self"]
theorem scBook_settings : FnScope nBook_settings ["self"] (defScope sBook_settings) := ⟨rfl, rfl, rfl, by decide +kernel, rfl, by decide +kernel, by decide +kernel⟩
abbrev sBook_done : Stmt := inClass (topS 35) 3
abbrev nBook_done : List Str := ["self", "rounds", "crews"]
theorem scBook_done : FnScope nBook_done ["self", "rounds", "crews"] (defScope sBook_done) := ⟨rfl, rfl, rfl, by decide +kernel, rfl, by decide +kernel, by decide +kernel⟩
abbrev sBook_named : Stmt := inClass (topS 35) 4
abbrev nBook_named : List Str := ["self", "name"]
theorem scBook_named : FnScope nBook_named ["self", "name"] (defScope sBook_named) := ⟨rfl, rfl, rfl, by decide +kernel, rfl, by decide +kernel, by decide +kernel⟩
abbrev sBook_crew_names : Stmt := inClass (topS 35) 5
abbrev nBook_crew_names : List Str := ["self", "crew"]
theorem scBook_crew_names : FnScope nBook_crew_names ["self", "crew"] (defScope sBook_crew_names) := ⟨rfl, rfl, rfl, by decide +kernel, rfl, by decide +kernel, by decide +kernel⟩
abbrev sBook_in_use : Stmt := inClass (topS 35) 6
abbrev nBook_in_use : List Str := ["self", "name", "crew"]
theorem scBook_in_use : FnScope nBook_in_use ["self", "name"] (defScope sBook_in_use) := ⟨rfl, rfl, rfl, by decide +kernel, rfl, by decide +kernel, by decide +kernel⟩
abbrev sBook_checked : Stmt := inClass (topS 35) 7
abbrev nBook_checked : List Str := ["self", "name"]
theorem scBook_checked : FnScope nBook_checked ["self", "name"] (defScope sBook_checked) := ⟨rfl, rfl, rfl, by decide +kernel, rfl, by decide +kernel, by decide +kernel⟩
abbrev sBook_keep : Stmt := inClass (topS 35) 8
abbrev nBook_keep : List Str := ["self", "name", "one", "rounds"]
theorem scBook_keep : FnScope nBook_keep ["self", "name", "one"] (defScope sBook_keep) := ⟨rfl, rfl, rfl, by decide +kernel, rfl, by decide +kernel, by decide +kernel⟩
abbrev sBook_tell : Stmt := inClass (topS 35) 9
abbrev nBook_tell : List Str := ["self", "name", "deeds"]
theorem scBook_tell : FnScope nBook_tell ["self", "name", "deeds"] (defScope sBook_tell) := ⟨rfl, rfl, rfl, by decide +kernel, rfl, by decide +kernel, by decide +kernel⟩
abbrev sBook_join_as : Stmt := inClass (topS 35) 10
abbrev nBook_join_as : List Str := ["self", "name", "one", "other"]
theorem scBook_join_as : FnScope nBook_join_as ["self", "name", "one", "other"] (defScope sBook_join_as) := ⟨rfl, rfl, rfl, by decide +kernel, rfl, by decide +kernel, by decide +kernel⟩
abbrev sBook_back_as : Stmt := inClass (topS 35) 11
abbrev nBook_back_as : List Str := ["self", "name", "one"]
theorem scBook_back_as : FnScope nBook_back_as ["self", "name", "one"] (defScope sBook_back_as) := ⟨rfl, rfl, rfl, by decide +kernel, rfl, by decide +kernel, by decide +kernel⟩
abbrev sBook_times_as : Stmt := inClass (topS 35) 12
abbrev nBook_times_as : List Str := ["self", "name", "one", "n"]
theorem scBook_times_as : FnScope nBook_times_as ["self", "name", "one", "n"] (defScope sBook_times_as) := ⟨rfl, rfl, rfl, by decide +kernel, rfl, by decide +kernel, by decide +kernel⟩
abbrev sBook_drop : Stmt := inClass (topS 35) 13
abbrev nBook_drop : List Str := ["self", "name", "rounds"]
theorem scBook_drop : FnScope nBook_drop ["self", "name"] (defScope sBook_drop) := ⟨rfl, rfl, rfl, by decide +kernel, rfl, by decide +kernel, by decide +kernel⟩
abbrev sBook_found : Stmt := inClass (topS 35) 14
abbrev nBook_found : List Str := ["self", "crew"]
theorem scBook_found : FnScope nBook_found ["self", "crew"] (defScope sBook_found) := ⟨rfl, rfl, rfl, by decide +kernel, rfl, by decide +kernel, by decide +kernel⟩
abbrev sBook_manned : Stmt := inClass (topS 35) 15
abbrev nBook_manned : List Str := ["self", "crew", "names", "crews"]
theorem scBook_manned : FnScope nBook_manned ["self", "crew", "names"] (defScope sBook_manned) := ⟨rfl, rfl, rfl, by decide +kernel, rfl, by decide +kernel, by decide +kernel⟩
abbrev sBook_disband : Stmt := inClass (topS 35) 16
abbrev nBook_disband : List Str := ["self", "crew", "crews"]
theorem scBook_disband : FnScope nBook_disband ["self", "crew"] (defScope sBook_disband) := ⟨rfl, rfl, rfl, by decide +kernel, rfl, by decide +kernel, by decide +kernel⟩
abbrev sBook_enlist : Stmt := inClass (topS 35) 17
abbrev nBook_enlist : List Str := ["self", "crew", "name", "names", "one"]
theorem scBook_enlist : FnScope nBook_enlist ["self", "crew", "name"] (defScope sBook_enlist) := ⟨rfl, rfl, rfl, by decide +kernel, rfl, by decide +kernel, by decide +kernel⟩
abbrev sBook_dismiss : Stmt := inClass (topS 35) 18
abbrev nBook_dismiss : List Str := ["self", "crew", "name", "names", "one"]
theorem scBook_dismiss : FnScope nBook_dismiss ["self", "crew", "name"] (defScope sBook_dismiss) := ⟨rfl, rfl, rfl, by decide +kernel, rfl, by decide +kernel, by decide +kernel⟩
abbrev sBook_undo : Stmt := inClass (topS 35) 19
abbrev nBook_undo : List Str := ["self"]
theorem scBook_undo : FnScope nBook_undo ["self"] (defScope sBook_undo) := ⟨rfl, rfl, rfl, by decide +kernel, rfl, by decide +kernel, by decide +kernel⟩
abbrev sBook_redo : Stmt := inClass (topS 35) 20
abbrev nBook_redo : List Str := ["self"]
theorem scBook_redo : FnScope nBook_redo ["self"] (defScope sBook_redo) := ⟨rfl, rfl, rfl, by decide +kernel, rfl, by decide +kernel, by decide +kernel⟩
abbrev sBook_hold : Stmt := inClass (topS 35) 21
abbrev nBook_hold : List Str := ["self"]
theorem scBook_hold : FnScope nBook_hold ["self"] (defScope sBook_hold) := ⟨rfl, rfl, rfl, by decide +kernel, rfl, by decide +kernel, by decide +kernel⟩
abbrev sBook_return_to : Stmt := inClass (topS 35) 22
abbrev nBook_return_to : List Str := ["self", "k"]
theorem scBook_return_to : FnScope nBook_return_to ["self", "k"] (defScope sBook_return_to) := ⟨rfl, rfl, rfl, by decide +kernel, rfl, by decide +kernel, by decide +kernel⟩
abbrev sBook_names : Stmt := inClass (topS 35) 23
abbrev nBook_names : List Str := ["self"]
theorem scBook_names : FnScope nBook_names ["self"] (defScope sBook_names) := ⟨rfl, rfl, rfl, by decide +kernel, rfl, by decide +kernel, by decide +kernel⟩
abbrev sBook_crews : Stmt := inClass (topS 35) 24
abbrev nBook_crews : List Str := ["self"]
theorem scBook_crews : FnScope nBook_crews ["self"] (defScope sBook_crews) := ⟨rfl, rfl, rfl, by decide +kernel, rfl, by decide +kernel, by decide +kernel⟩
abbrev sBook_round_of : Stmt := inClass (topS 35) 25
abbrev nBook_round_of : List Str := ["self", "name"]
theorem scBook_round_of : FnScope nBook_round_of ["self", "name"] (defScope sBook_round_of) := ⟨rfl, rfl, rfl, by decide +kernel, rfl, by decide +kernel, by decide +kernel⟩
abbrev sBook_members : Stmt := inClass (topS 35) 26
abbrev nBook_members : List Str := ["self", "crew"]
theorem scBook_members : FnScope nBook_members ["self", "crew"] (defScope sBook_members) := ⟨rfl, rfl, rfl, by decide +kernel, rfl, by decide +kernel, by decide +kernel⟩
structure ClsIn (K : Fg) (mg : Str → Option Value) (x : Str) where
  C : Addr
  g : mg x = some (.ref C)
  cl : Cls K C
  mks : PySem.W.makesIn K C = true
  kp : PySem.W.keepIn K (.ref C) = true
structure MeIn (K : Fg) (C : Addr) (x qual : Str) (st : Stmt) (ps : List Str) where
  f : Addr
  fd : FuncData
  F : L2.Fun K x qual st f fd
  b : Binds K fd ps []
  me : Meth K C x f
structure Txt (K : Fg) (mg : Str → Option Value) where
  wall : FnIn K mg "_wall" sWall ["k"]
  tidy : FnIn K mg "tidy" sTidy ["p", "pairs"]
  added : FnIn K mg "added" sAdded ["p", "one", "other"]
  moved : FnIn K mg "moved" sMoved ["pattern", "by"]
  timed : FnIn K mg "timed" sTimed ["p", "pattern", "n"]
  gone : FnIn K mg "gone" sGone ["p", "deeds"]
  joined : FnIn K mg "joined" sJoined ["p", "one", "other"]
  backward : FnIn K mg "backward" sBackward ["p", "one"]
  repeated : FnIn K mg "repeated" sRepeated ["p", "one", "n"]
  near : FnIn K mg "near" sNear ["one"]
  good_name : FnIn K mg "good_name" sGood_name ["name"]
  within_bounds : FnIn K mg "within_bounds" sWithin_bounds ["one"]
  shown : FnIn K mg "shown" sShown ["one"]
  book_text : FnIn K mg "book_text" sBook_text ["book"]
  l_begin : FnIn K mg "_law_begin" sL_begin ["_law_script"]
  l_take : FnIn K mg "_law_take" sL_take ["_law_draw", "_law_many"]
  l_p : FnIn K mg "_law_p" sL_p ["_law_draw"]
  l_names : FnIn K mg "_law_names" sL_names ["_law_draw", "_law_many"]
  l_tidy : FnIn K mg "_law_tidy" sL_tidy ["_law_p_here", "_law_pairs"]
  l_sum : FnIn K mg "_law_sum" sL_sum ["_law_p_here", "_law_one", "_law_other", "_law_by", "_law_many"]
  l_join : FnIn K mg "_law_join" sL_join ["_law_p_here", "_law_one", "_law_other"]
  l_back : FnIn K mg "_law_back" sL_back ["_law_p_here", "_law_one"]
  l_times : FnIn K mg "_law_times" sL_times ["_law_p_here", "_law_one", "_law_n"]
  l_is_name : FnIn K mg "_law_is_name" sL_is_name ["_law_name"]
  l_far : FnIn K mg "_law_far" sL_far ["_law_one", "_law_most", "_law_reach"]
  l_walk : FnIn K mg "_law_walk" sL_walk ["_law_p_here", "_law_deeds"]
  l_value : FnIn K mg "_law_value" sL_value ["_law_p_here", "_law_rounds", "_law_deed"]
  l_due_round : FnIn K mg "_law_due_round" sL_due_round ["_law_p_here", "_law_stand", "_law_deed"]
  l_due_member : FnIn K mg "_law_due_member" sL_due_member ["_law_stand", "_law_deed"]
  l_due_crew : FnIn K mg "_law_due_crew" sL_due_crew ["_law_stand", "_law_deed"]
  l_due : FnIn K mg "_law_due" sL_due ["_law_p_here", "_law_stand", "_law_deed"]
  l_run : FnIn K mg "_law_run" sL_run ["_law_book", "_law_deed"]
  l_call : FnIn K mg "_law_call" sL_call ["_law_book", "_law_deed"]
  l_draw_deeds : FnIn K mg "_law_draw_deeds" sL_draw_deeds ["_law_draw"]
  l_target : FnIn K mg "_law_target" sL_target ["_law_draw", "_law_names_here"]
  l_round_deed : FnIn K mg "_law_round_deed" sL_round_deed ["_law_draw", "_law_names_here"]
  l_crew_deed : FnIn K mg "_law_crew_deed" sL_crew_deed ["_law_draw", "_law_names_here"]
  l_planned : FnIn K mg "_law_planned" sL_planned ["_law_draw", "_law_k", "_law_names_here"]
  l_grow : FnIn K mg "_law_grow" sL_grow ["_law_draw", "_law_p_here", "_law_book", "_law_names_here"]
  l_int : FnIn K mg "_law_int" sL_int ["_law_thing"]
  l_is_pattern : FnIn K mg "_law_is_pattern" sL_is_pattern ["_law_p_here", "_law_thing"]
  l_is_round : FnIn K mg "_law_is_round" sL_is_round ["_law_p_here", "_law_thing"]
  l_stands : FnIn K mg "_law_stands" sL_stands ["_law_p_here", "_law_book", "_law_stand"]
  l_shown : FnIn K mg "_law_shown" sL_shown ["_law_one"]
  l_book_text : FnIn K mg "_law_book_text" sL_book_text ["_law_p_here", "_law_stand"]
  cBook : ClsIn K mg "Book"
  nBook_p : NoAttr K cBook.C "p"
  nBook_kept : NoAttr K cBook.C "kept"
  nBook_past : NoAttr K cBook.C "past"
  nBook_ahead : NoAttr K cBook.C "ahead"
  nBook_held : NoAttr K cBook.C "held"
  nBook_known : NoAttr K cBook.C "known"
  Book_init : MeIn K cBook.C "__init__" "Book.__init__" sBook_init ["self", "p"]
  Book_settings : MeIn K cBook.C "settings" "Book.settings" sBook_settings ["self"]
  Book_done : MeIn K cBook.C "done" "Book.done" sBook_done ["self", "rounds", "crews"]
  Book_named : MeIn K cBook.C "named" "Book.named" sBook_named ["self", "name"]
  Book_crew_names : MeIn K cBook.C "crew_names" "Book.crew_names" sBook_crew_names ["self", "crew"]
  Book_in_use : MeIn K cBook.C "in_use" "Book.in_use" sBook_in_use ["self", "name"]
  Book_checked : MeIn K cBook.C "checked" "Book.checked" sBook_checked ["self", "name"]
  Book_keep : MeIn K cBook.C "keep" "Book.keep" sBook_keep ["self", "name", "one"]
  Book_tell : MeIn K cBook.C "tell" "Book.tell" sBook_tell ["self", "name", "deeds"]
  Book_join_as : MeIn K cBook.C "join_as" "Book.join_as" sBook_join_as ["self", "name", "one", "other"]
  Book_back_as : MeIn K cBook.C "back_as" "Book.back_as" sBook_back_as ["self", "name", "one"]
  Book_times_as : MeIn K cBook.C "times_as" "Book.times_as" sBook_times_as ["self", "name", "one", "n"]
  Book_drop : MeIn K cBook.C "drop" "Book.drop" sBook_drop ["self", "name"]
  Book_found : MeIn K cBook.C "found" "Book.found" sBook_found ["self", "crew"]
  Book_manned : MeIn K cBook.C "manned" "Book.manned" sBook_manned ["self", "crew", "names"]
  Book_disband : MeIn K cBook.C "disband" "Book.disband" sBook_disband ["self", "crew"]
  Book_enlist : MeIn K cBook.C "enlist" "Book.enlist" sBook_enlist ["self", "crew", "name"]
  Book_dismiss : MeIn K cBook.C "dismiss" "Book.dismiss" sBook_dismiss ["self", "crew", "name"]
  Book_undo : MeIn K cBook.C "undo" "Book.undo" sBook_undo ["self"]
  Book_redo : MeIn K cBook.C "redo" "Book.redo" sBook_redo ["self"]
  Book_hold : MeIn K cBook.C "hold" "Book.hold" sBook_hold ["self"]
  Book_return_to : MeIn K cBook.C "return_to" "Book.return_to" sBook_return_to ["self", "k"]
  Book_names : MeIn K cBook.C "names" "Book.names" sBook_names ["self"]
  Book_crews : MeIn K cBook.C "crews" "Book.crews" sBook_crews ["self"]
  Book_round_of : MeIn K cBook.C "round_of" "Book.round_of" sBook_round_of ["self", "name"]
  Book_members : MeIn K cBook.C "members" "Book.members" sBook_members ["self", "crew"]
  zabs : mg "abs" = none
  zall : mg "all" = none
  zany : mg "any" = none
  zbool : mg "bool" = none
  zdict : mg "dict" = none
  zint : mg "int" = none
  zisinstance : mg "isinstance" = none
  zlen : mg "len" = none
  zlist : mg "list" = none
  zrange : mg "range" = none
  zsorted : mg "sorted" = none
  zstr : mg "str" = none
  ztuple : mg "tuple" = none
  xNoDeed : ExcIn K mg "NoDeed"
  xTooFar : ExcIn K mg "TooFar"
  xTooMany : ExcIn K mg "TooMany"
  xBadCount : ExcIn K mg "BadCount"
  xBadName : ExcIn K mg "BadName"
  xNoRound : ExcIn K mg "NoRound"
  xNoCrew : ExcIn K mg "NoCrew"
  xTaken : ExcIn K mg "Taken"
  xInUse : ExcIn K mg "InUse"
  xNoMore : ExcIn K mg "NoMore"
  xNoState : ExcIn K mg "NoState"
  eNoDeed_BadName : PySem.W.exmOne K (.ref xNoDeed.C) (.ref xBadName.C) = some false
  eNoDeed_InUse : PySem.W.exmOne K (.ref xNoDeed.C) (.ref xInUse.C) = some false
  eNoDeed_NoCrew : PySem.W.exmOne K (.ref xNoDeed.C) (.ref xNoCrew.C) = some false
  eNoDeed_NoDeed : PySem.W.exmOne K (.ref xNoDeed.C) (.ref xNoDeed.C) = some true
  eNoDeed_NoMore : PySem.W.exmOne K (.ref xNoDeed.C) (.ref xNoMore.C) = some false
  eNoDeed_NoRound : PySem.W.exmOne K (.ref xNoDeed.C) (.ref xNoRound.C) = some false
  eNoDeed_NoState : PySem.W.exmOne K (.ref xNoDeed.C) (.ref xNoState.C) = some false
  eNoDeed_Taken : PySem.W.exmOne K (.ref xNoDeed.C) (.ref xTaken.C) = some false
  eNoDeed_TooFar : PySem.W.exmOne K (.ref xNoDeed.C) (.ref xTooFar.C) = some false
  eNoDeed_TooMany : PySem.W.exmOne K (.ref xNoDeed.C) (.ref xTooMany.C) = some false
  eTooFar_BadName : PySem.W.exmOne K (.ref xTooFar.C) (.ref xBadName.C) = some false
  eTooFar_InUse : PySem.W.exmOne K (.ref xTooFar.C) (.ref xInUse.C) = some false
  eTooFar_NoCrew : PySem.W.exmOne K (.ref xTooFar.C) (.ref xNoCrew.C) = some false
  eTooFar_NoDeed : PySem.W.exmOne K (.ref xTooFar.C) (.ref xNoDeed.C) = some false
  eTooFar_NoMore : PySem.W.exmOne K (.ref xTooFar.C) (.ref xNoMore.C) = some false
  eTooFar_NoRound : PySem.W.exmOne K (.ref xTooFar.C) (.ref xNoRound.C) = some false
  eTooFar_NoState : PySem.W.exmOne K (.ref xTooFar.C) (.ref xNoState.C) = some false
  eTooFar_Taken : PySem.W.exmOne K (.ref xTooFar.C) (.ref xTaken.C) = some false
  eTooFar_TooFar : PySem.W.exmOne K (.ref xTooFar.C) (.ref xTooFar.C) = some true
  eTooFar_TooMany : PySem.W.exmOne K (.ref xTooFar.C) (.ref xTooMany.C) = some false
  eTooMany_BadName : PySem.W.exmOne K (.ref xTooMany.C) (.ref xBadName.C) = some false
  eTooMany_InUse : PySem.W.exmOne K (.ref xTooMany.C) (.ref xInUse.C) = some false
  eTooMany_NoCrew : PySem.W.exmOne K (.ref xTooMany.C) (.ref xNoCrew.C) = some false
  eTooMany_NoDeed : PySem.W.exmOne K (.ref xTooMany.C) (.ref xNoDeed.C) = some false
  eTooMany_NoMore : PySem.W.exmOne K (.ref xTooMany.C) (.ref xNoMore.C) = some false
  eTooMany_NoRound : PySem.W.exmOne K (.ref xTooMany.C) (.ref xNoRound.C) = some false
  eTooMany_NoState : PySem.W.exmOne K (.ref xTooMany.C) (.ref xNoState.C) = some false
  eTooMany_Taken : PySem.W.exmOne K (.ref xTooMany.C) (.ref xTaken.C) = some false
  eTooMany_TooFar : PySem.W.exmOne K (.ref xTooMany.C) (.ref xTooFar.C) = some false
  eTooMany_TooMany : PySem.W.exmOne K (.ref xTooMany.C) (.ref xTooMany.C) = some true
  eBadCount_BadName : PySem.W.exmOne K (.ref xBadCount.C) (.ref xBadName.C) = some false
  eBadCount_InUse : PySem.W.exmOne K (.ref xBadCount.C) (.ref xInUse.C) = some false
  eBadCount_NoCrew : PySem.W.exmOne K (.ref xBadCount.C) (.ref xNoCrew.C) = some false
  eBadCount_NoDeed : PySem.W.exmOne K (.ref xBadCount.C) (.ref xNoDeed.C) = some false
  eBadCount_NoMore : PySem.W.exmOne K (.ref xBadCount.C) (.ref xNoMore.C) = some false
  eBadCount_NoRound : PySem.W.exmOne K (.ref xBadCount.C) (.ref xNoRound.C) = some false
  eBadCount_NoState : PySem.W.exmOne K (.ref xBadCount.C) (.ref xNoState.C) = some false
  eBadCount_Taken : PySem.W.exmOne K (.ref xBadCount.C) (.ref xTaken.C) = some false
  eBadCount_TooFar : PySem.W.exmOne K (.ref xBadCount.C) (.ref xTooFar.C) = some false
  eBadCount_TooMany : PySem.W.exmOne K (.ref xBadCount.C) (.ref xTooMany.C) = some false
  eBadName_BadName : PySem.W.exmOne K (.ref xBadName.C) (.ref xBadName.C) = some true
  eBadName_InUse : PySem.W.exmOne K (.ref xBadName.C) (.ref xInUse.C) = some false
  eBadName_NoCrew : PySem.W.exmOne K (.ref xBadName.C) (.ref xNoCrew.C) = some false
  eBadName_NoDeed : PySem.W.exmOne K (.ref xBadName.C) (.ref xNoDeed.C) = some false
  eBadName_NoMore : PySem.W.exmOne K (.ref xBadName.C) (.ref xNoMore.C) = some false
  eBadName_NoRound : PySem.W.exmOne K (.ref xBadName.C) (.ref xNoRound.C) = some false
  eBadName_NoState : PySem.W.exmOne K (.ref xBadName.C) (.ref xNoState.C) = some false
  eBadName_Taken : PySem.W.exmOne K (.ref xBadName.C) (.ref xTaken.C) = some false
  eBadName_TooFar : PySem.W.exmOne K (.ref xBadName.C) (.ref xTooFar.C) = some false
  eBadName_TooMany : PySem.W.exmOne K (.ref xBadName.C) (.ref xTooMany.C) = some false
  eNoRound_BadName : PySem.W.exmOne K (.ref xNoRound.C) (.ref xBadName.C) = some false
  eNoRound_InUse : PySem.W.exmOne K (.ref xNoRound.C) (.ref xInUse.C) = some false
  eNoRound_NoCrew : PySem.W.exmOne K (.ref xNoRound.C) (.ref xNoCrew.C) = some false
  eNoRound_NoDeed : PySem.W.exmOne K (.ref xNoRound.C) (.ref xNoDeed.C) = some false
  eNoRound_NoMore : PySem.W.exmOne K (.ref xNoRound.C) (.ref xNoMore.C) = some false
  eNoRound_NoRound : PySem.W.exmOne K (.ref xNoRound.C) (.ref xNoRound.C) = some true
  eNoRound_NoState : PySem.W.exmOne K (.ref xNoRound.C) (.ref xNoState.C) = some false
  eNoRound_Taken : PySem.W.exmOne K (.ref xNoRound.C) (.ref xTaken.C) = some false
  eNoRound_TooFar : PySem.W.exmOne K (.ref xNoRound.C) (.ref xTooFar.C) = some false
  eNoRound_TooMany : PySem.W.exmOne K (.ref xNoRound.C) (.ref xTooMany.C) = some false
  eNoCrew_BadName : PySem.W.exmOne K (.ref xNoCrew.C) (.ref xBadName.C) = some false
  eNoCrew_InUse : PySem.W.exmOne K (.ref xNoCrew.C) (.ref xInUse.C) = some false
  eNoCrew_NoCrew : PySem.W.exmOne K (.ref xNoCrew.C) (.ref xNoCrew.C) = some true
  eNoCrew_NoDeed : PySem.W.exmOne K (.ref xNoCrew.C) (.ref xNoDeed.C) = some false
  eNoCrew_NoMore : PySem.W.exmOne K (.ref xNoCrew.C) (.ref xNoMore.C) = some false
  eNoCrew_NoRound : PySem.W.exmOne K (.ref xNoCrew.C) (.ref xNoRound.C) = some false
  eNoCrew_NoState : PySem.W.exmOne K (.ref xNoCrew.C) (.ref xNoState.C) = some false
  eNoCrew_Taken : PySem.W.exmOne K (.ref xNoCrew.C) (.ref xTaken.C) = some false
  eNoCrew_TooFar : PySem.W.exmOne K (.ref xNoCrew.C) (.ref xTooFar.C) = some false
  eNoCrew_TooMany : PySem.W.exmOne K (.ref xNoCrew.C) (.ref xTooMany.C) = some false
  eTaken_BadName : PySem.W.exmOne K (.ref xTaken.C) (.ref xBadName.C) = some false
  eTaken_InUse : PySem.W.exmOne K (.ref xTaken.C) (.ref xInUse.C) = some false
  eTaken_NoCrew : PySem.W.exmOne K (.ref xTaken.C) (.ref xNoCrew.C) = some false
  eTaken_NoDeed : PySem.W.exmOne K (.ref xTaken.C) (.ref xNoDeed.C) = some false
  eTaken_NoMore : PySem.W.exmOne K (.ref xTaken.C) (.ref xNoMore.C) = some false
  eTaken_NoRound : PySem.W.exmOne K (.ref xTaken.C) (.ref xNoRound.C) = some false
  eTaken_NoState : PySem.W.exmOne K (.ref xTaken.C) (.ref xNoState.C) = some false
  eTaken_Taken : PySem.W.exmOne K (.ref xTaken.C) (.ref xTaken.C) = some true
  eTaken_TooFar : PySem.W.exmOne K (.ref xTaken.C) (.ref xTooFar.C) = some false
  eTaken_TooMany : PySem.W.exmOne K (.ref xTaken.C) (.ref xTooMany.C) = some false
  eInUse_BadName : PySem.W.exmOne K (.ref xInUse.C) (.ref xBadName.C) = some false
  eInUse_InUse : PySem.W.exmOne K (.ref xInUse.C) (.ref xInUse.C) = some true
  eInUse_NoCrew : PySem.W.exmOne K (.ref xInUse.C) (.ref xNoCrew.C) = some false
  eInUse_NoDeed : PySem.W.exmOne K (.ref xInUse.C) (.ref xNoDeed.C) = some false
  eInUse_NoMore : PySem.W.exmOne K (.ref xInUse.C) (.ref xNoMore.C) = some false
  eInUse_NoRound : PySem.W.exmOne K (.ref xInUse.C) (.ref xNoRound.C) = some false
  eInUse_NoState : PySem.W.exmOne K (.ref xInUse.C) (.ref xNoState.C) = some false
  eInUse_Taken : PySem.W.exmOne K (.ref xInUse.C) (.ref xTaken.C) = some false
  eInUse_TooFar : PySem.W.exmOne K (.ref xInUse.C) (.ref xTooFar.C) = some false
  eInUse_TooMany : PySem.W.exmOne K (.ref xInUse.C) (.ref xTooMany.C) = some false
  eNoMore_BadName : PySem.W.exmOne K (.ref xNoMore.C) (.ref xBadName.C) = some false
  eNoMore_InUse : PySem.W.exmOne K (.ref xNoMore.C) (.ref xInUse.C) = some false
  eNoMore_NoCrew : PySem.W.exmOne K (.ref xNoMore.C) (.ref xNoCrew.C) = some false
  eNoMore_NoDeed : PySem.W.exmOne K (.ref xNoMore.C) (.ref xNoDeed.C) = some false
  eNoMore_NoMore : PySem.W.exmOne K (.ref xNoMore.C) (.ref xNoMore.C) = some true
  eNoMore_NoRound : PySem.W.exmOne K (.ref xNoMore.C) (.ref xNoRound.C) = some false
  eNoMore_NoState : PySem.W.exmOne K (.ref xNoMore.C) (.ref xNoState.C) = some false
  eNoMore_Taken : PySem.W.exmOne K (.ref xNoMore.C) (.ref xTaken.C) = some false
  eNoMore_TooFar : PySem.W.exmOne K (.ref xNoMore.C) (.ref xTooFar.C) = some false
  eNoMore_TooMany : PySem.W.exmOne K (.ref xNoMore.C) (.ref xTooMany.C) = some false
  eNoState_BadName : PySem.W.exmOne K (.ref xNoState.C) (.ref xBadName.C) = some false
  eNoState_InUse : PySem.W.exmOne K (.ref xNoState.C) (.ref xInUse.C) = some false
  eNoState_NoCrew : PySem.W.exmOne K (.ref xNoState.C) (.ref xNoCrew.C) = some false
  eNoState_NoDeed : PySem.W.exmOne K (.ref xNoState.C) (.ref xNoDeed.C) = some false
  eNoState_NoMore : PySem.W.exmOne K (.ref xNoState.C) (.ref xNoMore.C) = some false
  eNoState_NoRound : PySem.W.exmOne K (.ref xNoState.C) (.ref xNoRound.C) = some false
  eNoState_NoState : PySem.W.exmOne K (.ref xNoState.C) (.ref xNoState.C) = some true
  eNoState_Taken : PySem.W.exmOne K (.ref xNoState.C) (.ref xTaken.C) = some false
  eNoState_TooFar : PySem.W.exmOne K (.ref xNoState.C) (.ref xTooFar.C) = some false
  eNoState_TooMany : PySem.W.exmOne K (.ref xNoState.C) (.ref xTooMany.C) = some false
  kA : CStr mg "LETTERS" "abcdefghijklmnopqrstuvwxyz"
  kF : CInt mg "FARTHEST" 200
  kM : CInt mg "MOST_MEMBERS" 6
  kE : CInt mg "FARTHEST_END" 8
  kL : CInt mg "FARTHEST_LAMP" 24
  kT : KTup K mg "SETTINGS" [.int 2, .int 3, .int 5, .int 7]
def erC {K : Fg} {mg : Str → Option Value} (T : Txt K mg) : Dk.Cls2
  | .badName => .ref T.xBadName.C
  | .noDeed => .ref T.xNoDeed.C
  | .noRound => .ref T.xNoRound.C
  | .noCrew => .ref T.xNoCrew.C
  | .taken => .ref T.xTaken.C
  | .inUse => .ref T.xInUse.C
  | .tooMany => .ref T.xTooMany.C
  | .tooFar => .ref T.xTooFar.C
  | .noMore => .ref T.xNoMore.C
  | .noState => .ref T.xNoState.C
end Law
namespace Law
open PySem PySem.Spec PyProof.Rows L2 Dk
section
variable {P : Program} {w : World} {K : Fg} {mg : Str → Option Value} {base : Heap}
set_option maxHeartbeats 4000000 in
theorem ok_tidy (T : Txt K mg) : FnOk P w K mg base CX0 1 T.tidy.f T.tidy.fd ["p", "pairs"] (PureSp K cTidy) := by
  refine pure_ok T.tidy.F scTidy (fun ds Qd h => by obtain ⟨p, xs, rfl, _⟩ := h; rfl) fun cdv A outer s H E hr => ?_
  refine ⟨_, (pss_cons (ps_set (i := 2) scTidy.nd rfl (.inr rfl) pe_dnewK)
        (pss_cons (ps_for PassesOwn.never rfl (kpil K (pv 1)) (kpg K 2 rfl (pgs_cons (pg_name (i := 3) scTidy.nd rfl (.inl rfl)) (pgs_cons (pg_name (i := 4) scTidy.nd rfl (.inl rfl)) pgs_nil))) (pss_one (ps_dput (hu_of hr) (pv 2) (pv 3) (pe_op op_mod (pe_op op_add (pe_dget2 (hu_of hr) (pv 2) (pv 3) pe_int ⟨rfl, rfl, rfl, rfl⟩) (pv 4)) (pv 0)) rfl)))
        (pss_one (ps_ret (pe_callTy (ktuple K) (by rfl) T.ztuple (by decide +kernel) (pa_cons (pe_lc (own := [("place", 3)]) rfl scTidy.nd (kpil K (pe_callB (b_sortDI rfl) (by rfl) T.zsorted (by decide +kernel) (pa_cons (pv 2) pa_nil))) (blkOk_by (own := [("place", 3)]) (N := nTidy) (sc := defScope sTidy) (by decide +kernel)) (fun _ _ _ _ _ => (pg_name (i := 3) scTidy.nd rfl (.inl rfl) (.inr rfl))) (fun _ _ _ _ _ => pts_one (pt_cmpR op_ne (pe_dget (hu_of hr) (pv 2) (pv 3) (fun _ _ => rfl)) pe_int (nomark _))) (fun _ _ _ _ _ => (pe_tup (pa_cons (pv 3) (pa_cons (pe_dget (hu_of hr) (pv 2) (pv 3) (fun _ _ => rfl)) pa_nil))))) pa_nil)))))), ?_⟩
  walk_at "ss"
  rintro ds Qd ⟨p, xs, rfl, hp, hk, q⟩
  refine ⟨[.sh (.int p), .ar (ePairs xs)], .cons (.inr ⟨rfl, rfl⟩) (.cons (.inl rfl) .nil), ?_⟩
  -- the loop
  refine ⟨_, rfl, _, _, rfl, for_pre (f := ePair) (fun pre Γ => ∃ y3 y4, Γ = [.sh (.int p), .ar (ePairs xs), .ow (.dK (sumsD p pre)), y3, y4] ∧ y3.own? = none) ⟨.no, .no, rfl, rfl⟩ ?_ ?_⟩
  · rintro pre x post Γ e ⟨y3, y4, rfl, _⟩
    have hl : (sumsD p pre).length < sizeLine := by
      have h2 := Pt.keys_mono pre (x :: post)
      rw [← e] at h2
      unfold sumsD
      rw [List.length_map]
      exact small100000 (by omega)
    have hv := valD_map (Pt.keys pre) (fun k => .int (Pt.sumAt pre k % p)) x.1
    have ht := sums_turn (p := p) pre x
    refine ⟨_, rfl, rfl, _, _, rfl, ⟨_, rfl, _, _, rfl, ⟨_, rfl, rfl, ?_⟩⟩⟩
    refine ⟨rfl, _, rfl, _, _, rfl, rfl, fun h0 => ?_, fun d h0 => ?_⟩
    · replace h0 := hv.symm.trans h0
      have hm : x.1 ∉ Pt.keys pre := fun z => by rw [if_pos z] at h0; cases h0
      rw [if_neg hm] at ht
      refine ⟨_, rfl, _, _, rfl, rfl, _, rfl, _, _, rfl, rfl, hp, rfl, _, rfl, _, _, _, _, rfl, rfl, rfl, hl, ?_⟩
      exact ⟨.ar (.int x.1), .ar (.int x.2), congrArg (fun z => [Sl.sh (.int p), .ar (ePairs xs), .ow (.dK z), .ar (.int x.1), .ar (.int x.2)]) ht, rfl⟩
    · replace h0 := hv.symm.trans h0
      by_cases hm : x.1 ∈ Pt.keys pre
      · rw [if_pos hm] at h0 ht
        cases h0
        refine ⟨_, rfl, _, _, rfl, rfl, _, rfl, _, _, rfl, rfl, hp, rfl, _, rfl, _, _, _, _, rfl, rfl, rfl, hl, ?_⟩
        exact ⟨.ar (.int x.1), .ar (.int x.2), congrArg (fun z => [Sl.sh (.int p), .ar (ePairs xs), .ow (.dK z), .ar (.int x.1), .ar (.int x.2)]) ht, rfl⟩
      · rw [if_neg hm] at h0
        cases h0
  · rintro Γ ⟨y3, y4, rfl, h3⟩
    -- tuple([.. for place in sorted(sums) ..])
    refine ⟨Pt.keys xs, by show some ((sumsD p xs).map _) = _; unfold sumsD; rw [List.map_map]; rfl, Nat.le_of_lt (small100000 hk), fun ys hperm hs => ⟨_, rfl, _, _, rfl, ?_, rfl, ?_, lc_map (f := PyData.int) (fun k => (Pt.pick p xs k).map ePair) (fun k hk2 P hP => ?_) ?_⟩⟩
    · simp [ownFree, h3]
    · rw [List.length_map, hperm.length_eq]
      exact Nat.le_of_lt (small100000 (by omega))
    · have hv := valD_map (Pt.keys xs) (fun k => .int (Pt.sumAt xs k % p)) k
      rw [if_pos (hperm.mem_iff.mp hk2)] at hv
      refine ⟨_, rfl, rfl, _, rfl, _, _, rfl, congrArg some hv, _, _, _, rfl, rfl, rfl, _, rfl, ?_⟩
      unfold Pt.pick at hP
      by_cases e0 : Pt.sumAt xs k % p = 0
      · rw [if_neg (by simp [e0])] at hP
        refine ite2 (fun z => by simp [e0] at z) fun _ => hP
      · rw [if_pos e0] at hP
        refine ite2 (fun _ => ?_) fun z => by simp [e0] at z
        exact ⟨_, rfl, rfl, _, rfl, _, _, rfl, congrArg some hv, _, rfl, Nat.le_of_ble_eq_true rfl, _, rfl, hP⟩
    · refine ⟨_, rfl, _, rfl, trivial, _, rfl, ?_⟩
      rw [ePair_pick, Pt.pick_pat hp hperm hs]
      exact q

end
end Law
namespace Law
open PySem PySem.Spec PyProof.Rows L2 Dk
section
variable {P : Program} {w : World} {K : Fg} {mg : Str → Option Value} {base : Heap}
set_option maxHeartbeats 4000000 in
theorem ok_moved (T : Txt K mg) : FnOk P w K mg base CX0 1 T.moved.f T.moved.fd ["pattern", "by"] (PureSp K cMoved) := by
  refine pure_ok T.moved.F scMoved (fun ds Qd h => by obtain ⟨xs, b, rfl, _⟩ := h; rfl) fun cdv A outer s H E hr => ?_
  refine ⟨_, (pss_one (ps_ret (pe_callTy (ktuple K) (by rfl) T.ztuple (by decide +kernel) (pa_cons (pe_lc (own := [("place", 2), ("setting", 3)]) rfl scMoved.nd (kpit K (pv 0)) (blkOk_by (own := [("place", 2), ("setting", 3)]) (N := nMoved) (sc := defScope sMoved) (by decide +kernel)) (fun _ _ _ _ _ => (kpg K 2 rfl (pgs_cons (pg_name (i := 2) scMoved.nd rfl (.inl rfl) (.inr rfl)) (pgs_cons (pg_name (i := 3) scMoved.nd rfl (.inl rfl) (.inr rfl)) pgs_nil)))) (fun _ _ _ _ _ => pts_nil) (fun _ _ _ _ _ => (pe_tup (pa_cons (pe_op op_add (pv 2) (pv 1)) (pa_cons (pv 3) pa_nil))))) pa_nil)))), ?_⟩
  walk_at "ss"
  rintro ds Qd ⟨xs, b, rfl, hl, q⟩
  refine ⟨[.sh (ePat xs), .sh (.int b)], .cons (.inr ⟨rfl, ePat_tupO xs⟩) (.cons (.inr ⟨rfl, rfl⟩) .nil), ?_⟩
  refine ⟨_, rfl, _, _, rfl, rfl, rfl, by rw [List.length_map]; exact Nat.le_of_lt (small100000 hl), lc_map (f := ePair) (fun x => some (ePair (x.1 + b, x.2))) (fun x hx P hP => ?_) ?_⟩
  · exact ⟨_, rfl, rfl, _, _, rfl, ⟨_, rfl, _, _, rfl, ⟨_, rfl, rfl, _, rfl, _, rfl, _, _, rfl, rfl, _, rfl, _, rfl, Nat.le_of_ble_eq_true rfl, _, rfl, hP⟩⟩⟩
  · refine ⟨_, rfl, _, rfl, trivial, _, rfl, ?_⟩
    rw [fm_map]
    have e : ePat (Pt.moved xs b) = .tuple (xs.map fun x => ePair (x.1 + b, x.2)) := by
      unfold ePat Pt.moved
      rw [List.map_map]
      rfl
    rw [e] at q
    exact q

end
end Law
namespace Law
open PySem PySem.Spec PyProof.Rows L2 Dk
section
variable {P : Program} {w : World} {K : Fg} {mg : Str → Option Value} {base : Heap}
set_option maxHeartbeats 2000000 in
theorem ok_near (T : Txt K mg) : FnOk P w K mg base CX0 1 T.near.f T.near.fd ["one"] (PureSp K (cOk 8 24)) := by
  refine pure_ok T.near.F scNear (fun ds Qd h => by obtain ⟨a, rfl, _⟩ := h; rfl) fun cdv A outer s H E hr => ?_
  refine ⟨_, (pss_cons (ps_if (pt_cmpR op_gt (pe_callB b_abs (by rfl) T.zabs (by decide +kernel) (pa_cons (pe_ix (kixT K) (pv 0) pe_int (fun _ _ => rfl)) pa_nil)) (pe_glob (v := .int 8) (by rfl) T.kE.g T.kE.r) (nomark _)) (pss_one (ps_ret pe_bl)) pss_nil)
        (pss_one (ps_ret (pe_callB (kall K rfl) (by rfl) T.zall (by decide +kernel) (pa_cons (pe_lc (own := [("place", 1), ("setting", 2)]) rfl scNear.nd (kpit K (pe_ix (kixT K) (pv 0) pe_int (fun _ _ => rfl))) (blkOk_by (own := [("place", 1), ("setting", 2)]) (N := nNear) (sc := defScope sNear) (by decide +kernel)) (fun _ _ _ _ _ => (kpg K 2 rfl (pgs_cons (pg_name (i := 1) scNear.nd rfl (.inl rfl) (.inr rfl)) (pgs_cons (pg_name (i := 2) scNear.nd rfl (.inl rfl) (.inr rfl)) pgs_nil)))) (fun _ _ _ _ _ => pts_nil) (fun _ _ _ _ _ => (pe_cmpR op_le (pe_callB b_abs (by rfl) T.zabs (by decide +kernel) (pa_cons (pv 1) pa_nil)) (pe_glob (v := .int 24) (by rfl) T.kL.g T.kL.r) (nomark _)))) pa_nil))))), ?_⟩
  walk_at "ss"
  rintro ds Qd ⟨a, rfl, ha, q⟩
  refine ⟨[.sh (eRound a)], .cons (.inr ⟨rfl, eRound_tupO _⟩) .nil, ?_⟩
  walk_at "g"
  by_cases c : 8 < absI a.1
  · refine iteTb (decide_eq_true c) ?_
    rw [Bk.okB_f c] at q
    walk_at "g"
    exact q
  · refine iteFb (decide_eq_false c) ?_
    rw [Bk.okB_t c] at q
    walk_at "g"
    refine lc_map (f := ePair) (xs := a.2) (fun x => some (.bool (decide (absI x.1 ≤ 24)))) (fun x hx P hP => ?_) ?_
    · walk_at "g"
      exact hP
    · rw [fm_map]
      walk_at "g"
      refine ⟨a.2.map fun x => decide (absI x.1 ≤ 24), by rw [List.map_map]; rfl, ?_⟩
      walk_at "g"
      show Qd (.bool ((a.2.map fun x => decide (absI x.1 ≤ 24)).all id))
      rw [List.all_map]
      exact q

end
end Law
namespace Law
open PySem PySem.Spec PyProof.Rows L2 Dk
section
variable {P : Program} {w : World} {K : Fg} {mg : Str → Option Value} {base : Heap}
set_option maxHeartbeats 2000000 in
theorem ok_good_name (T : Txt K mg) : FnOk P w K mg base CX0 1 T.good_name.f T.good_name.fd ["name"] (PureSp K cName) := by
  refine pure_ok T.good_name.F scGood_name (fun ds Qd h => by obtain ⟨a, rfl, _⟩ := h; rfl) fun cdv A outer s H E hr => ?_
  refine ⟨_, (pss_one (ps_ret (pe_and (pe_chain op_le op_le pe_int (pe_callB b_lenS (by rfl) T.zlen (by decide +kernel) (pa_cons (pv 0) pa_nil)) pe_int) (pe_one (pe_callB (kall K rfl) (by rfl) T.zall (by decide +kernel) (pa_cons (pe_lc (own := [("sign", 1)]) rfl scGood_name.nd (pi_str (pv 0)) (blkOk_by (own := [("sign", 1)]) (N := nGood_name) (sc := defScope sGood_name) (by decide +kernel)) (fun _ _ _ _ _ => (pg_name (i := 1) scGood_name.nd rfl (.inl rfl) (.inr rfl))) (fun _ _ _ _ _ => pts_nil) (fun _ _ _ _ _ => (pe_cmpR o_inC (pv 1) (pe_glob (v := .str "abcdefghijklmnopqrstuvwxyz") (by rfl) T.kA.g T.kA.r) (by rfl)))) pa_nil)))))), ?_⟩
  walk_at "ss"
  rintro ds Qd ⟨z, rfl, hz, q⟩
  refine ⟨[.sh (.str z)], .cons (.inr ⟨rfl, rfl⟩) .nil, ?_⟩
  walk_at "g"
  constructor
  · intro c1
    walk_at "g"
    have g1 : 1 ≤ z.length := by simp at c1; omega
    by_cases c2 : z.length ≤ 12
    · refine iteTb (decide_eq_true (by omega)) ?_
      have e : Bk.nameB z = z.cps.toList.all fun c => decide (c ∈ Bk.letters.cps.toList) := by
        unfold Bk.nameB
        rw [decide_eq_true g1, decide_eq_true c2, Bool.true_and, Bool.true_and]
      rw [e] at q
      walk_at "g"
      refine lcS_map (fun c => some (.bool (decide (c ∈ Bk.letters.cps.toList)))) (fun c hc P hP => ?_) ?_
      · walk_at "g"
        exact hP
      · rw [fm_map]
        refine ⟨_, rfl, z.cps.toList.map fun c => decide (c ∈ Bk.letters.cps.toList), by rw [List.map_map]; rfl, ?_⟩
        walk_at "g"
        show Qd (.bool ((z.cps.toList.map fun c => decide (c ∈ Bk.letters.cps.toList)).all id))
        rw [List.all_map]
        exact q
    · refine iteFb (decide_eq_false (by omega)) ?_
      have e : Bk.nameB z = false := by
        unfold Bk.nameB
        rw [decide_eq_false c2, Bool.and_false, Bool.false_and]
      rw [e] at q
      walk_at "g"
      exact q
  · intro c1
    have c2 : Bk.nameB z = false := by
      unfold Bk.nameB
      have : ¬ 1 ≤ z.length := fun h => by simp at c1; omega
      rw [decide_eq_false this]
      rfl
    rw [c2] at q
    walk_at "g"
    exact q

end
end Law
namespace Law
open PySem PySem.Spec PyProof.Rows L2 Dk
section
variable {P : Program} {w : World} {K : Fg} {mg : Str → Option Value} {base : Heap}
set_option maxHeartbeats 2000000 in
theorem ok_within_bounds (T : Txt K mg) : FnOk P w K mg base CX0 1 T.within_bounds.f T.within_bounds.fd ["one"] (PureSp K (cOk 200 200)) := by
  refine pure_ok T.within_bounds.F scWithin_bounds (fun ds Qd h => by obtain ⟨a, rfl, _⟩ := h; rfl) fun cdv A outer s H E hr => ?_
  refine ⟨_, (pss_cons (ps_if (pt_cmpR op_gt (pe_callB b_abs (by rfl) T.zabs (by decide +kernel) (pa_cons (pe_ix (kixT K) (pv 0) pe_int (fun _ _ => rfl)) pa_nil)) (pe_glob (v := .int 200) (by rfl) T.kF.g T.kF.r) (nomark _)) (pss_one (ps_ret pe_bl)) pss_nil)
        (pss_one (ps_ret (pe_callB (kall K rfl) (by rfl) T.zall (by decide +kernel) (pa_cons (pe_lc (own := [("place", 1), ("setting", 2)]) rfl scWithin_bounds.nd (kpit K (pe_ix (kixT K) (pv 0) pe_int (fun _ _ => rfl))) (blkOk_by (own := [("place", 1), ("setting", 2)]) (N := nWithin_bounds) (sc := defScope sWithin_bounds) (by decide +kernel)) (fun _ _ _ _ _ => (kpg K 2 rfl (pgs_cons (pg_name (i := 1) scWithin_bounds.nd rfl (.inl rfl) (.inr rfl)) (pgs_cons (pg_name (i := 2) scWithin_bounds.nd rfl (.inl rfl) (.inr rfl)) pgs_nil)))) (fun _ _ _ _ _ => pts_nil) (fun _ _ _ _ _ => (pe_cmpR op_le (pe_callB b_abs (by rfl) T.zabs (by decide +kernel) (pa_cons (pv 1) pa_nil)) (pe_glob (v := .int 200) (by rfl) T.kF.g T.kF.r) (nomark _)))) pa_nil))))), ?_⟩
  walk_at "ss"
  rintro ds Qd ⟨a, rfl, ha, q⟩
  refine ⟨[.sh (eRound a)], .cons (.inr ⟨rfl, eRound_tupO _⟩) .nil, ?_⟩
  walk_at "g"
  by_cases c : 200 < absI a.1
  · refine iteTb (decide_eq_true c) ?_
    rw [Bk.okB_f c] at q
    walk_at "g"
    exact q
  · refine iteFb (decide_eq_false c) ?_
    rw [Bk.okB_t c] at q
    walk_at "g"
    refine lc_map (f := ePair) (xs := a.2) (fun x => some (.bool (decide (absI x.1 ≤ 200)))) (fun x hx P hP => ?_) ?_
    · walk_at "g"
      exact hP
    · rw [fm_map]
      walk_at "g"
      refine ⟨a.2.map fun x => decide (absI x.1 ≤ 200), by rw [List.map_map]; rfl, ?_⟩
      walk_at "g"
      show Qd (.bool ((a.2.map fun x => decide (absI x.1 ≤ 200)).all id))
      rw [List.all_map]
      exact q

end
end Law
namespace Law
open PySem PySem.Spec PyProof.Rows L2 Dk
section
variable {P : Program} {w : World} {K : Fg} {mg : Str → Option Value} {base : Heap}
set_option maxHeartbeats 4000000 in
theorem ok_shown (T : Txt K mg) : FnOk P w K mg base CX0 1 T.shown.f T.shown.fd ["one"] (PureSp K cShown) := by
  refine pure_ok T.shown.F scShown (fun ds Qd h => by obtain ⟨a, rfl, _⟩ := h; rfl) fun cdv A outer s H E hr => ?_
  refine ⟨_, (pss_cons (ps_set (i := 1) scShown.nd rfl (.inl rfl) (pe_lst (pa_cons (pe_op o_addS (pe_callTy b_str (by rfl) T.zstr (by decide +kernel) (pa_cons (pe_ix (kixT K) (pv 0) pe_int (fun _ _ => rfl)) pa_nil)) pe_str) pa_nil)))
        (pss_cons (ps_for PassesOwn.never rfl (kpit K (pe_ix (kixT K) (pv 0) pe_int (fun _ _ => rfl))) (kpg K 2 rfl (pgs_cons (pg_name (i := 2) scShown.nd rfl (.inl rfl)) (pgs_cons (pg_name (i := 3) scShown.nd rfl (.inl rfl)) pgs_nil))) (pss_one (ps_expr (kbm K PySem.F.plainAttrs_list PySem.F.slot_list_append PySem.F.type_list_append mt_append (pv 1) (pa_cons (pe_op o_addS (pe_op o_addS (pe_callTy b_str (by rfl) T.zstr (by decide +kernel) (pa_cons (pv 2) pa_nil)) pe_str) (pe_callTy b_str (by rfl) T.zstr (by decide +kernel) (pa_cons (pv 3) pa_nil))) pa_nil)))))
        (pss_one (ps_ret (kjoin K pe_str (pv 1)))))), ?_⟩
  walk_at "ss"
  rintro ds Qd ⟨⟨a, xs⟩, rfl, hp, hl, q⟩
  refine ⟨[.sh (eRound (a, xs))], .cons (.inr ⟨rfl, eRound_tupO _⟩) .nil, ?_⟩
  simp only at hl
  have f0 : a.natAbs.log2 < 1920 := log_small hp.1
  have f1 : (numS a).length ≤ 31 := numS_len hp.1
  have f2 : (numS a).length + (":" : Str).length ≤ sizeLine := by rw [lit2]; exact Nat.le_of_lt (small100000 (by omega))
  walk_at "h"
  refine for_pre (f := ePair) (fun pre Γ => ∃ y3 y4 : Sl, Γ = [.sh (eRound (a, xs)), .ow (.lst ((wordsS a pre).map .str)), y3, y4]) ⟨.no, .no, rfl⟩ ?_ ?_
  · rintro pre x post Γ e ⟨y3, y4, rfl⟩
    have hx := hp.2 x (by rw [e]; simp)
    have g1 := log_small hx.1
    have g2 := log_small hx.2
    have g3 := numS_len hx.1
    have g4 := numS_len hx.2
    have g5 : (numS x.1).length + ("=" : Str).length ≤ sizeLine := by rw [lit1]; exact Nat.le_of_lt (small100000 (by omega))
    have g6 : (numS x.1 ++ "=").length + (numS x.2).length ≤ sizeLine := by rw [app_len, lit1]; exact Nat.le_of_lt (small100000 (by omega))
    have el := congrArg List.length e
    have g7 : ((wordsS a pre).map PyData.str).length < sizeLine := by
      rw [List.length_map]
      unfold wordsS
      simp only [List.length_append, List.length_cons, List.length_map] at el ⊢
      exact small100000 (by omega)
    walk_at "h"
    refine ⟨.sh (.int x.1), .sh (.int x.2), ?_⟩
    unfold wordsS
    rw [List.map_append]
    simp only [List.map_cons, List.map_append]
    rfl
  · rintro Γ ⟨y3, y4, rfl⟩
    have hf := words_fit hp hl
    walk_at "h"
    exact q

end
end Law
namespace Law
open PySem PySem.Spec PyProof.Rows L2 Dk
section
variable {P : Program} {w : World} {K : Fg} {mg : Str → Option Value} {base : Heap}
set_option maxHeartbeats 4000000 in
theorem ok_l_begin (T : Txt K mg) : FnOk P w K mg base CX0 1 T.l_begin.f T.l_begin.fd ["_law_script"] (spBegin K) := by
  refine T.l_begin.F.ok scL_begin (fun vs H Q E h => ?_) (fun cdv A outer s H vs Q E hr h => ?_)
  · obtain ⟨a, ns, rfl, _⟩ := h
    rfl
  · obtain ⟨a, ns, rfl, hS, q⟩ := h
    refine ⟨_, (pss_one (ps_ret (pe_lst (pa_cons (pe_callTy (klist K) (by rfl) T.zlist (by decide +kernel) (pa_cons (pe_slice (kslL K) (pv 0) po_none (po_some pe_int)) pa_nil)) (pa_cons pe_int (pa_cons pe_int (pa_cons pe_int pa_nil))))))), ?_⟩
    refine ⟨.ref a, rfl, 63, rfl, a, _, rfl, hS, fun c nc => ?_⟩
    have s1 : Same H (upd H c (.lst (cutV (ns.map V.int) none (some 63)))) := same_new nc
    refine ⟨c, _, rfl, .inl (SqL.of upd_same), fun l nl => ?_⟩
    have s2 := s1.trans (same_new (o := .lst (cutV (ns.map V.int) none (some 63))) nl)
    refine ⟨by show 4 ≤ sizeLine; decide, fun p np => ?_⟩
    have s3 := s2.trans (same_new (o := .lst [.ref l, .int 0, .int 0, .int 11]) np)
    have npl : p ≠ l := fun z => by
      rw [z, upd_same] at np
      cases np
    refine q p [p, l] _ s3 (fun x hx => ?_) ⟨l, (ns.map fun n => n).take 63, 0, 0, 11, rfl, npl, upd_same, ?_, by decide, by decide⟩
    · simp only [List.mem_cons, List.not_mem_nil, or_false] at hx
      rcases hx with rfl | rfl
      · exact s2.free np
      · exact s1.free nl
    · rw [upd_ne npl.symm, upd_same]
      congr 2
      unfold cutV
      rw [HT.sIx_none, show HT.sIx (ns.map V.int).length (ns.map V.int).length (some 63) = min 63 (ns.map V.int).length from HT.sIx_nat _ _ 63]
      simp [List.map_take]

end
end Law
namespace Law
open PySem PySem.Spec PyProof.Rows L2 Dk
section
variable {P : Program} {w : World} {K : Fg} {mg : Str → Option Value} {base : Heap}
set_option maxHeartbeats 4000000 in
theorem ok_l_take (T : Txt K mg) : FnOk P w K mg base CX0 1 T.l_take.f T.l_take.fd ["_law_draw", "_law_many"] (RefSp K IsDraw cTake) := by
  refine T.l_take.F.ok scL_take (fun vs H Q E h => ?_) (fun cdv A outer s H vs Q E hr h => ?_)
  · obtain ⟨p, f, us, ds, Qd, rfl, _, h1, ⟨m, rfl, _⟩, _⟩ := h
    rw [List.length_cons, h1.length]
    rfl
  · obtain ⟨p, f, us, ds, Qd, rfl, hI, h1, ⟨m, rfl, m0, m1, q⟩, k⟩ := h
    obtain rfl := ints1 h1
    obtain ⟨l, ns, pos, left, seed, rfl, ne, hp, hl, b1, b2⟩ := hI
    have fin : ∀ (pos left seed r : Int) (H' : Hp), 0 ≤ pos → 0 ≤ left → 0 ≤ r → r < m → (∀ a o, a ∉ [p, l] → H a = some o → H' a = some o) → H' p = some (.lst [.ref l, .int pos, .int left, .int seed]) → H' l = some (.lst (ns.map V.int)) → Q (.int r) H' := fun pos left seed r H' c1 c2 c3 c4 fr g1 g2 =>
      k (.int r) H' (.int r) fr ⟨l, ns, pos, left, seed, rfl, ne, g1, g2, c1, c2⟩ (.int r) (q r c3 c4)
    have put : ∀ {H' : Hp} {o : HO}, (∀ a o, a ∉ [p, l] → H a = some o → H' a = some o) → ∀ a u, a ∉ [p, l] → H a = some u → (upd H' p o) a = some u := fun {H' o} fr a u na e => by
      rw [upd_ne (fun z => na (by simp [z]))]
      exact fr a u na e
    have putl : ∀ {H' : Hp} {o : HO}, H' l = some (.lst (ns.map V.int)) → (upd H' p o) l = some (.lst (ns.map V.int)) := fun {H' o} e => by
      rw [upd_ne ne.symm]
      exact e
    obtain ⟨t2, ht2, tail⟩ : ∃ t2, PSs (cxOf CX0 P w K mg base nL_take "_law_take" (defScope sL_take) T.l_take.f cdv A outer s H E).nox (defBody sL_take).tail t2 ∧ ∀ (y2 y3 : Option V) (pos left seed : Int) (H' : Hp), 0 ≤ pos → 0 ≤ left → (∀ a o, a ∉ [p, l] → H a = some o → H' a = some o) → H' p = some (.lst [.ref l, .int pos, .int left, .int seed]) → H' l = some (.lst (ns.map V.int)) →
        t2 { nx := fun _ H' => Q .non H', rt := Q } [some (.ref p), some (.int m), y2, y3] H' := by
      refine ⟨_, (pss_cons (ps_if (pt_cmpR op_ge (pe_ix (kixL K) (pv 0) pe_int (fun _ _ => rfl)) (pv 1) (nomark _)) (pss_cons (ps_set (i := 3) scL_take.nd rfl (.inl rfl) (pe_op op_mod (pe_ix (kixL K) (pv 0) pe_int (fun _ _ => rfl)) (pv 1)))
        (pss_cons (ps_asg (pe_op op_fdiv (pe_ix (kixL K) (pv 0) pe_int (fun _ _ => rfl)) (pv 1)) (pg_sub (pv 0) pe_int set_list))
        (pss_one (ps_ret (pv 3))))) pss_nil)
        (pss_cons (ps_asg (pe_op op_mod (pe_op op_add (pe_op op_mul (pe_ix (kixL K) (pv 0) pe_int (fun _ _ => rfl)) pe_int) pe_int) pe_int) (pg_sub (pv 0) pe_int set_list))
        (pss_one (ps_ret (pe_op op_mod (pe_op op_fdiv (pe_ix (kixL K) (pv 0) pe_int (fun _ _ => rfl)) pe_int) (pv 1)))))), fun y2 y3 pos left seed H' c1 c2 fr g1 g2 => ?_⟩
      refine ⟨_, rfl, p, _, 2, _, rfl, rfl, SqL.of g1, rfl, _, rfl, _, _, rfl, rfl, _, rfl, ite2 (fun e1 => ?_) fun e1 => ?_⟩
      · refine ⟨_, rfl, p, _, 2, _, rfl, rfl, SqL.of g1, rfl, _, rfl, _, _, rfl, rfl, m0, ?_⟩
        refine ⟨_, rfl, p, _, 2, _, rfl, rfl, SqL.of g1, rfl, _, rfl, _, _, rfl, rfl, ⟨m0, m1⟩, _, rfl, p, _, 2, 2, rfl, rfl, g1, rfl, ?_⟩
        refine ⟨_, rfl, ?_⟩
        exact fin pos (left / m) seed _ _ c1 (Int.ediv_nonneg c2 (Int.le_of_lt m0)) (Int.emod_nonneg _ (by omega)) (Int.emod_lt_of_pos _ m0) (put fr) upd_same (putl g2)
      · refine ⟨_, rfl, p, _, 3, _, rfl, rfl, SqL.of g1, rfl, _, _, rfl, rfl, .inr ⟨by decide, by decide⟩, _, _, rfl, rfl, _, _, rfl, rfl, (by show (0 : Int) < 2147483647; decide), _, rfl, p, _, 3, 3, rfl, rfl, g1, rfl, ?_⟩
        refine ⟨_, rfl, p, _, 3, _, rfl, rfl, SqL.of upd_same, rfl, _, _, rfl, rfl, ⟨by decide, by decide⟩, _, rfl, _, _, rfl, rfl, m0, ?_⟩
        exact fin pos left _ _ _ c1 c2 (Int.emod_nonneg _ (by omega)) (Int.emod_lt_of_pos _ m0) (put fr) upd_same (putl g2)
    refine ⟨_, pss_cons (ps_if (PW.pt (pw_and (pt_cmpR op_lt (pe_ix (kixL K) (pv 0) pe_int (fun _ _ => rfl)) (pv 1) (nomark _)) (pw_and1 (pt_cmpR op_lt (pe_ix (kixL K) (pv 0) pe_int (fun _ _ => rfl)) (pe_callB (klen K) (by rfl) T.zlen (by decide +kernel) (pa_cons (pe_ix (kixL K) (pv 0) pe_int (fun _ _ => rfl)) pa_nil)) (nomark _))))) (pss_cons (ps_set (i := 2) scL_take.nd rfl (.inl rfl) (pe_ix (kixL K) (pe_ix (kixL K) (pv 0) pe_int (fun _ _ => rfl)) (pe_ix (kixL K) (pv 0) pe_int (fun _ _ => rfl)) (fun _ _ => rfl)))
        (pss_cons (ps_asg (pe_op op_add (pe_ix (kixL K) (pv 0) pe_int (fun _ _ => rfl)) pe_int) (pg_sub (pv 0) pe_int set_list))
        (pss_cons (ps_asg pe_int (pg_sub (pv 0) pe_int set_list))
        (pss_one (ps_if (pt_cmpR op_ge (pe_callB b_abs (by rfl) T.zabs (by decide +kernel) (pa_cons (pv 2) pa_nil)) (pe_op op_pow pe_int pe_int) (nomark _)) (pss_one (ps_asg (pe_callB b_abs (by rfl) T.zabs (by decide +kernel) (pa_cons (pv 2) pa_nil)) (pg_sub (pv 0) pe_int set_list))) (pss_one (ps_asg (pe_op op_mod (pe_op op_add (pe_op op_add (pe_op op_mul (pe_ix (kixL K) (pv 0) pe_int (fun _ _ => rfl)) pe_int) (pe_op op_mul (pe_op op_mod (pv 2) pe_int) pe_int)) pe_int) pe_int) (pg_sub (pv 0) pe_int set_list)))))))) pss_nil) ht2, ?_⟩
    have fr0 : ∀ a o, a ∉ [p, l] → H a = some o → H a = some o := fun _ _ _ e => e
    refine ⟨_, rfl, p, _, 2, _, rfl, rfl, SqL.of hp, rfl, _, rfl, _, _, rfl, rfl, _, rfl, ite2 (fun e1 => ?_) fun e1 => ?_⟩
    · refine ⟨_, rfl, p, _, 1, _, rfl, rfl, SqL.of hp, rfl, _, rfl, p, _, 0, _, rfl, rfl, SqL.of hp, rfl, l, _, rfl, .inl (SqL.of hl), _, _, rfl, rfl, _, rfl, ite2 (fun e2 => ?_) fun e2 => ?_⟩
      · have hlt : pos.toNat < ns.length := by
          have := of_decide_eq_true e2
          rw [List.length_map] at this
          omega
        obtain ⟨z, hat⟩ : ∃ z, atI (ns.map V.int) pos = some (.int z) := by
          have e : pos = (pos.toNat : Int) := by omega
          refine ⟨ns[pos.toNat], ?_⟩
          generalize pos.toNat = j at e hlt ⊢
          subst e
          exact atI_nat (by rw [List.getElem?_map, List.getElem?_eq_getElem hlt]; rfl)
        refine ⟨_, rfl, p, _, 0, _, rfl, rfl, SqL.of hp, rfl, _, rfl, p, _, 1, _, rfl, rfl, SqL.of hp, rfl, l, _, _, _, rfl, rfl, SqL.of hl, hat, ?_⟩
        refine ⟨_, rfl, p, _, 1, _, rfl, rfl, SqL.of hp, rfl, _, _, rfl, rfl, _, rfl, p, _, 1, 1, rfl, rfl, hp, rfl, ?_⟩
        refine ⟨_, rfl, p, _, 2, 2, rfl, rfl, upd_same, rfl, ?_⟩
        refine ⟨_, rfl, _, rfl, _, _, rfl, rfl, ⟨by decide, by decide, by decide⟩, _, _, rfl, rfl, _, rfl, ite2 (fun e3 => ?_) fun e3 => ?_⟩
        · refine ⟨_, rfl, _, rfl, _, rfl, p, _, 2, 2, rfl, rfl, upd_same, rfl, ?_⟩
          refine tail _ _ (pos + 1) _ seed _ (by omega) ?_ (put (put (put fr0))) upd_same (putl (putl (putl hl)))
          split <;> omega
        · refine ⟨_, rfl, p, _, 3, _, rfl, rfl, SqL.of upd_same, rfl, _, _, rfl, rfl, .inr ⟨by decide, by decide⟩, _, rfl, _, _, rfl, rfl, (by show (0 : Int) < 2147483629; decide), _, _, rfl, rfl, .inr ⟨by decide, by decide⟩, _, _, rfl, rfl, _, _, rfl, rfl, _, _, rfl, rfl, (by show (0 : Int) < 2147483647; decide), _, rfl, p, _, 3, 3, rfl, rfl, upd_same, rfl, ?_⟩
          exact tail _ _ (pos + 1) 0 _ _ (by omega) (by omega) (put (put (put fr0))) upd_same (putl (putl (putl hl)))
      · exact tail _ _ pos left seed H b1 b2 fr0 hp hl
    · exact tail _ _ pos left seed H b1 b2 fr0 hp hl

end
end Law
namespace Law
open PySem PySem.Spec PyProof.Rows L2 Dk
section
variable {P : Program} {w : World} {K : Fg} {mg : Str → Option Value} {base : Heap}
set_option maxHeartbeats 4000000 in
theorem ok_l_tidy (T : Txt K mg) : FnOk P w K mg base CX0 1 T.l_tidy.f T.l_tidy.fd ["_law_p_here", "_law_pairs"] (PureSp K cTidy) := by
  refine pure_ok T.l_tidy.F scL_tidy (fun ds Qd h => by obtain ⟨p, xs, rfl, _⟩ := h; rfl) fun cdv A outer s H E hr => ?_
  refine ⟨_, (pss_cons (ps_set (i := 2) scL_tidy.nd rfl (.inr rfl) pe_dnewK)
        (pss_cons (ps_for PassesOwn.never rfl (kpil K (pv 1)) (kpg K 2 rfl (pgs_cons (pg_name (i := 3) scL_tidy.nd rfl (.inl rfl)) (pgs_cons (pg_name (i := 4) scL_tidy.nd rfl (.inl rfl)) pgs_nil))) (pss_one (ps_dput (hu_of hr) (pv 2) (pv 3) (pe_op op_mod (pe_op op_add (pe_dget2 (hu_of hr) (pv 2) (pv 3) pe_int ⟨rfl, rfl, rfl, rfl⟩) (pv 4)) (pv 0)) rfl)))
        (pss_one (ps_ret (pe_callTy (ktuple K) (by rfl) T.ztuple (by decide +kernel) (pa_cons (pe_lc (own := [("_law_place", 3)]) rfl scL_tidy.nd (kpil K (pe_callB (b_sortDI rfl) (by rfl) T.zsorted (by decide +kernel) (pa_cons (pv 2) pa_nil))) (blkOk_by (own := [("_law_place", 3)]) (N := nL_tidy) (sc := defScope sL_tidy) (by decide +kernel)) (fun _ _ _ _ _ => (pg_name (i := 3) scL_tidy.nd rfl (.inl rfl) (.inr rfl))) (fun _ _ _ _ _ => pts_one (pt_cmpR op_gt (pe_dget (hu_of hr) (pv 2) (pv 3) (fun _ _ => rfl)) pe_int (nomark _))) (fun _ _ _ _ _ => (pe_tup (pa_cons (pv 3) (pa_cons (pe_dget (hu_of hr) (pv 2) (pv 3) (fun _ _ => rfl)) pa_nil))))) pa_nil)))))), ?_⟩
  walk_at "ss"
  rintro ds Qd ⟨p, xs, rfl, hp, hk, q⟩
  refine ⟨[.sh (.int p), .ar (ePairs xs)], .cons (.inr ⟨rfl, rfl⟩) (.cons (.inl rfl) .nil), ?_⟩
  -- the loop
  refine ⟨_, rfl, _, _, rfl, for_pre (f := ePair) (fun pre Γ => ∃ y3 y4, Γ = [.sh (.int p), .ar (ePairs xs), .ow (.dK (sumsD p pre)), y3, y4] ∧ y3.own? = none) ⟨.no, .no, rfl, rfl⟩ ?_ ?_⟩
  · rintro pre x post Γ e ⟨y3, y4, rfl, _⟩
    have hl : (sumsD p pre).length < sizeLine := by
      have h2 := Pt.keys_mono pre (x :: post)
      rw [← e] at h2
      unfold sumsD
      rw [List.length_map]
      exact small100000 (by omega)
    have hv := valD_map (Pt.keys pre) (fun k => .int (Pt.sumAt pre k % p)) x.1
    have ht := sums_turn (p := p) pre x
    refine ⟨_, rfl, rfl, _, _, rfl, ⟨_, rfl, _, _, rfl, ⟨_, rfl, rfl, ?_⟩⟩⟩
    refine ⟨rfl, _, rfl, _, _, rfl, rfl, fun h0 => ?_, fun d h0 => ?_⟩
    · replace h0 := hv.symm.trans h0
      have hm : x.1 ∉ Pt.keys pre := fun z => by rw [if_pos z] at h0; cases h0
      rw [if_neg hm] at ht
      refine ⟨_, rfl, _, _, rfl, rfl, _, rfl, _, _, rfl, rfl, hp, rfl, _, rfl, _, _, _, _, rfl, rfl, rfl, hl, ?_⟩
      exact ⟨.ar (.int x.1), .ar (.int x.2), congrArg (fun z => [Sl.sh (.int p), .ar (ePairs xs), .ow (.dK z), .ar (.int x.1), .ar (.int x.2)]) ht, rfl⟩
    · replace h0 := hv.symm.trans h0
      by_cases hm : x.1 ∈ Pt.keys pre
      · rw [if_pos hm] at h0 ht
        cases h0
        refine ⟨_, rfl, _, _, rfl, rfl, _, rfl, _, _, rfl, rfl, hp, rfl, _, rfl, _, _, _, _, rfl, rfl, rfl, hl, ?_⟩
        exact ⟨.ar (.int x.1), .ar (.int x.2), congrArg (fun z => [Sl.sh (.int p), .ar (ePairs xs), .ow (.dK z), .ar (.int x.1), .ar (.int x.2)]) ht, rfl⟩
      · rw [if_neg hm] at h0
        cases h0
  · rintro Γ ⟨y3, y4, rfl, h3⟩
    -- tuple([.. for place in sorted(sums) ..])
    refine ⟨Pt.keys xs, by show some ((sumsD p xs).map _) = _; unfold sumsD; rw [List.map_map]; rfl, Nat.le_of_lt (small100000 hk), fun ys hperm hs => ⟨_, rfl, _, _, rfl, ?_, rfl, ?_, lc_map (f := PyData.int) (fun k => (Pt.pick p xs k).map ePair) (fun k hk2 P hP => ?_) ?_⟩⟩
    · simp [ownFree, h3]
    · rw [List.length_map, hperm.length_eq]
      exact Nat.le_of_lt (small100000 (by omega))
    · have hv := valD_map (Pt.keys xs) (fun k => .int (Pt.sumAt xs k % p)) k
      rw [if_pos (hperm.mem_iff.mp hk2)] at hv
      refine ⟨_, rfl, rfl, _, rfl, _, _, rfl, congrArg some hv, _, _, rfl, rfl, _, rfl, ?_⟩
      unfold Pt.pick at hP
      by_cases e0 : Pt.sumAt xs k % p = 0
      · rw [if_neg (by simp [e0])] at hP
        exact iteFb (by rw [e0]; rfl) hP
      · rw [if_pos e0] at hP
        have m1 := Int.emod_nonneg (Pt.sumAt xs k) (show p ≠ 0 by omega)
        exact iteTb (decide_eq_true (by omega)) ⟨_, rfl, rfl, _, rfl, _, _, rfl, congrArg some hv, _, rfl, Nat.le_of_ble_eq_true rfl, _, rfl, hP⟩
    · refine ⟨_, rfl, _, rfl, trivial, _, rfl, ?_⟩
      rw [ePair_pick, Pt.pick_pat hp hperm hs]
      exact q

end
end Law
namespace Law
open PySem PySem.Spec PyProof.Rows L2 Dk
section
variable {P : Program} {w : World} {K : Fg} {mg : Str → Option Value} {base : Heap}
set_option maxHeartbeats 4000000 in
theorem ok_l_is_name (T : Txt K mg) : FnOk P w K mg base CX0 1 T.l_is_name.f T.l_is_name.fd ["_law_name"] (PureSp K cName) := by
  refine pure_ok T.l_is_name.F scL_is_name (fun ds Qd h => by obtain ⟨a, rfl, _⟩ := h; rfl) fun cdv A outer s H E hr => ?_
  refine ⟨_, (pss_cons (ps_set (i := 1) scL_is_name.nd rfl (.inl rfl) (pe_callB (kall K rfl) (by rfl) T.zall (by decide +kernel) (pa_cons (pe_lc (own := [("_law_sign", 2)]) rfl scL_is_name.nd (pi_str (pv 0)) (blkOk_by (own := [("_law_sign", 2)]) (N := nL_is_name) (sc := defScope sL_is_name) (by decide +kernel)) (fun _ _ _ _ _ => (pg_name (i := 2) scL_is_name.nd rfl (.inl rfl) (.inr rfl))) (fun _ _ _ _ _ => pts_nil) (fun _ _ _ _ _ => (pe_cmpR o_inC (pv 2) pe_str (by rfl)))) pa_nil)))
        (pss_one (ps_ret (pe_and (pv 1) (pe_one (pe_chain op_le op_le pe_int (pe_callB b_lenS (by rfl) T.zlen (by decide +kernel) (pa_cons (pv 0) pa_nil)) pe_int)))))), ?_⟩
  walk_at "ss"
  rintro ds Qd ⟨z, rfl, hz, q⟩
  refine ⟨[.sh (.str z)], .cons (.inr ⟨rfl, rfl⟩) .nil, ?_⟩
  walk_at "g"
  refine lcS_map (fun c => some (.bool (decide (c ∈ Bk.letters.cps.toList)))) (fun c hc P hP => ?_) ?_
  · walk_at "g"
    exact hP
  rw [fm_map]
  refine ⟨_, rfl, z.cps.toList.map fun c => decide (c ∈ Bk.letters.cps.toList), by rw [List.map_map]; rfl, ?_⟩
  walk_at "g"
  have e : ((z.cps.toList.map fun c => decide (c ∈ Bk.letters.cps.toList)).all id) = z.cps.toList.all fun c => decide (c ∈ Bk.letters.cps.toList) := by rw [List.all_map]; rfl
  refine ite2b (fun h1 => ?_) fun h1 => ?_
  · replace h1 : ((z.cps.toList.map fun c => decide (c ∈ Bk.letters.cps.toList)).all id) = true := h1
    rw [e] at h1
    walk_at "g"
    constructor
    · intro c1
      walk_at "g"
      have g1 : 1 ≤ z.length := by simp at c1; omega
      have e2 : Bk.nameB z = decide ((z.length : Int) ≤ 12) := by
        unfold Bk.nameB
        rw [decide_eq_true g1, h1, Bool.true_and, Bool.and_true]
        exact decide_eq_decide.mpr (by omega)
      rw [e2] at q
      exact q
    · intro c1
      have c2 : Bk.nameB z = false := by
        unfold Bk.nameB
        have : ¬ 1 ≤ z.length := fun h => by simp at c1; omega
        rw [decide_eq_false this]
        rfl
      rw [c2] at q
      walk_at "g"
      exact q
  · replace h1 : ((z.cps.toList.map fun c => decide (c ∈ Bk.letters.cps.toList)).all id) = false := h1
    rw [e] at h1
    have c2 : Bk.nameB z = false := by
      unfold Bk.nameB
      rw [h1, Bool.and_false]
    rw [c2] at q
    walk_at "g"
    exact q

end
end Law
namespace Law
open PySem PySem.Spec PyProof.Rows L2 Dk
section
variable {P : Program} {w : World} {K : Fg} {mg : Str → Option Value} {base : Heap}
set_option maxHeartbeats 2000000 in
theorem ok_l_far (T : Txt K mg) : FnOk P w K mg base CX0 1 T.l_far.f T.l_far.fd ["_law_one", "_law_most", "_law_reach"] (PureSp K cFarL) := by
  refine pure_ok T.l_far.F scL_far (fun ds Qd h => by obtain ⟨a, m, r, rfl, _⟩ := h; rfl) fun cdv A outer s H E hr => ?_
  refine ⟨_, (pss_one (ps_ret (pe_or (pe_cmpR op_gt (pe_callB b_abs (by rfl) T.zabs (by decide +kernel) (pa_cons (pe_ix (kixT K) (pv 0) pe_int (fun _ _ => rfl)) pa_nil)) (pv 1) (nomark _)) (pe_one (pe_not (pe_callB (kall K rfl) (by rfl) T.zall (by decide +kernel) (pa_cons (pe_lc (own := [("_law_place", 3), ("_law_setting", 4)]) rfl scL_far.nd (kpit K (pe_ix (kixT K) (pv 0) pe_int (fun _ _ => rfl))) (blkOk_by (own := [("_law_place", 3), ("_law_setting", 4)]) (N := nL_far) (sc := defScope sL_far) (by decide +kernel)) (fun _ _ _ _ _ => (kpg K 2 rfl (pgs_cons (pg_name (i := 3) scL_far.nd rfl (.inl rfl) (.inr rfl)) (pgs_cons (pg_name (i := 4) scL_far.nd rfl (.inl rfl) (.inr rfl)) pgs_nil)))) (fun _ _ _ _ _ => pts_nil) (fun _ _ _ _ _ => (pe_cmpR op_le (pe_callB b_abs (by rfl) T.zabs (by decide +kernel) (pa_cons (pv 3) pa_nil)) (pv 2) (nomark _)))) pa_nil))))))), ?_⟩
  walk_at "ss"
  rintro ds Qd ⟨a, m, r, rfl, ha, q⟩
  refine ⟨[.sh (eRound a), .sh (.int m), .sh (.int r)], .cons (.inr ⟨rfl, eRound_tupO _⟩) (.cons (.inr ⟨rfl, rfl⟩) (.cons (.inr ⟨rfl, rfl⟩) .nil)), ?_⟩
  walk_at "g"
  by_cases c : m < absI a.1
  · refine iteTb (decide_eq_true c) ?_
    rw [Bk.okB_f c] at q
    walk_at "g"
    exact q
  · refine iteFb (decide_eq_false c) ?_
    rw [Bk.okB_t c] at q
    walk_at "g"
    refine lc_map (f := ePair) (xs := a.2) (fun x => some (.bool (decide (absI x.1 ≤ r)))) (fun x hx P hP => ?_) ?_
    · walk_at "g"
      exact hP
    · rw [fm_map]
      walk_at "g"
      refine ⟨a.2.map fun x => decide (absI x.1 ≤ r), by rw [List.map_map]; rfl, ?_⟩
      walk_at "g"
      show Qd (.bool (!((a.2.map fun x => decide (absI x.1 ≤ r)).all id)))
      rw [List.all_map]
      exact q

end
end Law
namespace Law
open PySem PySem.Spec PyProof.Rows L2 Dk
section
variable {P : Program} {w : World} {K : Fg} {mg : Str → Option Value} {base : Heap}
set_option maxHeartbeats 4000000 in
theorem ok_l_int (T : Txt K mg) : FnOk P w K mg base CX0 1 T.l_int.f T.l_int.fd ["_law_thing"] (PureSp K cInt) := by
  refine pure_ok T.l_int.F scL_int (fun ds Qd h => by obtain ⟨d, rfl, _⟩ := h; rfl) fun cdv A outer s H E hr => ?_
  refine ⟨_, (pss_one (ps_ret (pe_and (pe_callB (kisi K) (by rfl) T.zisinstance (by decide +kernel) (pa_cons (pv 0) (pa_cons (pe_bltn (v := .ty "int") (by rfl) T.zint (by decide +kernel) rfl) pa_nil))) (pe_one (pe_not (pe_callB (kisi K) (by rfl) T.zisinstance (by decide +kernel) (pa_cons (pv 0) (pa_cons (pe_bltn (v := .ty "bool") (by rfl) T.zbool (by decide +kernel) rfl) pa_nil)))))))), ?_⟩
  walk_at "ss"
  rintro ds Qd ⟨d, rfl, nd, q⟩
  refine ⟨[.ar d], .cons (.inl rfl) .nil, ?_⟩
  cases d with
  | int i => exact ⟨_, rfl, _, true, rfl, kb_int_int, _, rfl, iteT ⟨_, rfl, _, false, rfl, kb_int_bool, _, rfl, _, rfl, q⟩⟩
  | bool i => exact ⟨_, rfl, _, true, rfl, kb_bool_int, _, rfl, iteT ⟨_, rfl, _, true, rfl, kb_bool_bool, _, rfl, _, rfl, q⟩⟩
  | none => exact ⟨_, rfl, _, false, rfl, kb_NoneType_int, _, rfl, iteF ⟨_, rfl, q⟩⟩
  | str i => exact ⟨_, rfl, _, false, rfl, kb_str_int, _, rfl, iteF ⟨_, rfl, q⟩⟩
  | list i => exact ⟨_, rfl, _, false, rfl, kb_list_int, _, rfl, iteF ⟨_, rfl, q⟩⟩
  | tuple i => exact ⟨_, rfl, _, false, rfl, kb_tuple_int, _, rfl, iteF ⟨_, rfl, q⟩⟩
  | dict kvs => exact absurd rfl (nd kvs)

end
end Law
namespace Law
open PySem PySem.Spec PyProof.Rows L2 Dk
section
variable {P : Program} {w : World} {K : Fg} {mg : Str → Option Value} {base : Heap}
set_option maxHeartbeats 4000000 in
theorem ok_l_shown (T : Txt K mg) : FnOk P w K mg base CX0 1 T.l_shown.f T.l_shown.fd ["_law_one"] (PureSp K cShown) := by
  refine pure_ok T.l_shown.F scL_shown (fun ds Qd h => by obtain ⟨a, rfl, _⟩ := h; rfl) fun cdv A outer s H E hr => ?_
  refine ⟨_, (pss_cons (ps_set (i := 1) scL_shown.nd rfl (.inl rfl) (pe_lst (pa_cons (pe_op o_addS (pe_callTy b_str (by rfl) T.zstr (by decide +kernel) (pa_cons (pe_ix (kixT K) (pv 0) pe_int (fun _ _ => rfl)) pa_nil)) pe_str) pa_nil)))
        (pss_cons (ps_expr (kbm K PySem.F.plainAttrs_list PySem.F.slot_list_extend PySem.F.type_list_extend mt_extend (pv 1) (pa_cons (pe_lc (own := [("_law_place", 2), ("_law_setting", 3)]) rfl scL_shown.nd (kpit K (pe_ix (kixT K) (pv 0) pe_int (fun _ _ => rfl))) (blkOk_by (own := [("_law_place", 2), ("_law_setting", 3)]) (N := nL_shown) (sc := defScope sL_shown) (by decide +kernel)) (fun _ _ _ _ _ => (kpg K 2 rfl (pgs_cons (pg_name (i := 2) scL_shown.nd rfl (.inl rfl) (.inr rfl)) (pgs_cons (pg_name (i := 3) scL_shown.nd rfl (.inl rfl) (.inr rfl)) pgs_nil)))) (fun _ _ _ _ _ => pts_nil) (fun _ _ _ _ _ => (pe_op o_addS (pe_op o_addS (pe_callTy b_str (by rfl) T.zstr (by decide +kernel) (pa_cons (pv 2) pa_nil)) pe_str) (pe_callTy b_str (by rfl) T.zstr (by decide +kernel) (pa_cons (pv 3) pa_nil))))) pa_nil)))
        (pss_one (ps_ret (kjoin K pe_str (pv 1)))))), ?_⟩
  walk_at "ss"
  rintro ds Qd ⟨⟨a, xs⟩, rfl, hp, hl, q⟩
  refine ⟨[.sh (eRound (a, xs))], .cons (.inr ⟨rfl, eRound_tupO _⟩) .nil, ?_⟩
  simp only at hl
  have f0 : a.natAbs.log2 < 1920 := log_small hp.1
  have f1 : (numS a).length ≤ 31 := numS_len hp.1
  have f2 : (numS a).length + (":" : Str).length ≤ sizeLine := by rw [lit2]; exact Nat.le_of_lt (small100000 (by omega))
  walk_at "h"
  refine lc_map (f := ePair) (fun x => some (.str (wordS x))) (fun x hx P hP => ?_) ?_
  · have hx := hp.2 x hx
    have g1 := log_small hx.1
    have g2 := log_small hx.2
    have g3 := numS_len hx.1
    have g4 := numS_len hx.2
    have g5 : (numS x.1).length + ("=" : Str).length ≤ sizeLine := by rw [lit1]; exact Nat.le_of_lt (small100000 (by omega))
    have g6 : (numS x.1 ++ "=").length + (numS x.2).length ≤ sizeLine := by rw [app_len, lit1]; exact Nat.le_of_lt (small100000 (by omega))
    walk_at "h"
    exact hP
  · rw [fm_map]
    have hf := words_fit hp hl
    walk_at "h"
    refine ⟨wordsS a xs, by unfold wordsS; rw [List.map_cons, List.map_map]; rfl, hf, ?_⟩
    walk_at "h"
    exact q

end
end Law
namespace Law
open PySem PySem.Spec PyProof.Rows L2 Dk
section
variable {P : Program} {w : World} {K : Fg} {mg : Str → Option Value} {base : Heap}
set_option maxHeartbeats 4000000 in
theorem ok_Book_init (T : Txt K mg) : FnOk P w K mg base (L2.CX P w) 1 T.Book_init.f T.Book_init.fd ["self", "p"] (GSp K true (cBkInit T.cBook.C)) := by
  refine genX_ok T.Book_init.F scBook_init (fun as Qd Qx h => by obtain ⟨p, z, rfl, _⟩ := h; rfl) fun cdv A outer s H E hr => ?_
  have hLink := T.kT.l
  refine ⟨_, (pss_cons (ps_if (pt_cmpR (knotin K) (pv 1) (pe_glob (v := .ref T.kT.a) (by rfl) T.kT.g rfl) (by rfl)) (pss_one (ps_raiseD T.xBadCount rfl (takes_of rfl rfl rfl rfl) (by rfl) rfl)) pss_nil)
        (pss_cons (ps_fld (pv 0) (pv 1) rfl)
        (pss_cons (ps_fld (pv 0) (pe_tup (pa_cons pe_dnewK (pa_cons pe_dnewK pa_nil))) rfl)
        (pss_cons (ps_fld (pv 0) (pe_lst pa_nil) rfl)
        (pss_cons (ps_fld (pv 0) (pe_lst pa_nil) rfl)
        (pss_cons (ps_fld (pv 0) (pe_lst pa_nil) rfl)
        (pss_one (ps_fld (pv 0) pe_dnewK rfl)))))))), ?_⟩
  walk_at "ss"
  rintro as Qd Qx ⟨p, z, rfl, hp, q⟩
  refine ⟨[.rf (.ins T.cBook.C .nil), .sh (.int p)], .cons rfl (.cons (.inl ⟨rfl, .inr rfl⟩) .nil), ?_⟩
  have n1 := T.nBook_p
  have n2 := T.nBook_kept
  have n3 := T.nBook_past
  have n4 := T.nBook_ahead
  have n5 := T.nBook_held
  have n6 := T.nBook_known
  rcases hp with rfl | rfl | rfl | rfl <;> (walk_at "g"; refine ⟨_, _, _, _, rfl, rfl, rfl, rfl, ?_⟩; walk_at "g"; exact q)

end
end Law
namespace Law
open PySem PySem.Spec PyProof.Rows L2 Dk
section
variable {P : Program} {w : World} {K : Fg} {mg : Str → Option Value} {base : Heap}
set_option maxHeartbeats 4000000 in
theorem ok_Book_settings (T : Txt K mg) : FnOk P w K mg base CX0 1 T.Book_settings.f T.Book_settings.fd ["self"] (GSp K false (cSettings T.cBook.C)) := by
  refine gen_ok T.Book_settings.F scBook_settings (fun as Qd Qx h => by obtain ⟨p, b, rfl, _⟩ := h; rfl) fun cdv A outer s H E hr => ?_
  refine ⟨_, (pss_one (ps_ret (kfld K (pv 0) rfl))), ?_⟩
  walk_at "ss"
  rintro as Qd Qx ⟨p, b, rfl, q⟩
  refine ⟨[.ro (bookO T.cBook.C p b)], .cons rfl .nil, ?_⟩
  walk_at "g"
  exact q

end
end Law
namespace Law
open PySem PySem.Spec PyProof.Rows L2 Dk
section
variable {P : Program} {w : World} {K : Fg} {mg : Str → Option Value} {base : Heap}
set_option maxHeartbeats 4000000 in
theorem ok_Book_done (T : Txt K mg) : FnOk P w K mg base CX0 1 T.Book_done.f T.Book_done.fd ["self", "rounds", "crews"] (GSp K true (cDone T.cBook.C)) := by
  refine gen_ok T.Book_done.F scBook_done (fun as Qd Qx h => by obtain ⟨p, b, s, rfl, _⟩ := h; rfl) fun cdv A outer s H E hr => ?_
  refine ⟨_, (pss_cons (ps_expr (kbm K PySem.F.plainAttrs_list PySem.F.slot_list_append PySem.F.type_list_append mt_append (kfld K (pv 0) rfl) (pa_cons (kfld K (pv 0) rfl) pa_nil)))
        (pss_cons (ps_fld (pv 0) (pe_lst pa_nil) rfl)
        (pss_one (ps_fld (pv 0) (pe_tup (pa_cons (pv 1) (pa_cons (pv 2) pa_nil))) rfl)))), ?_⟩
  walk_at "ss"
  rintro as Qd Qx ⟨p, b, s, rfl, hl, q⟩
  refine ⟨[.rf (bookO T.cBook.C p b), .sh (eRs s.rs), .sh (eCs s.cs)], .cons rfl (.cons (.inl ⟨rfl, .inl rfl⟩) (.cons (.inl ⟨rfl, .inl rfl⟩) .nil)), ?_⟩
  have s1 : (b.past.map eSt).length < sizeLine := small100000 (by rw [List.length_map]; omega)
  simp only [bookO, bookF, Bk.B.stand, List.map_append, List.map_cons, List.map_nil] at q
  walk_at "g"
  exact q

end
end Law
namespace Law
open PySem PySem.Spec PyProof.Rows L2 Dk
section
variable {P : Program} {w : World} {K : Fg} {mg : Str → Option Value} {base : Heap}
set_option maxHeartbeats 4000000 in
theorem ok_Book_named (T : Txt K mg) : FnOk P w K mg base (L2.CX P w) 1 T.Book_named.f T.Book_named.fd ["self", "name"] (GSp K false (cNamed T.cBook.C (erC T))) := by
  refine genX_ok T.Book_named.F scBook_named (fun as Qd Qx h => by obtain ⟨p, b, n, z, rfl, _⟩ := h; rfl) fun cdv A outer s H E hr => ?_
  refine ⟨_, (pss_cons (ps_if (pt_cmp (pc_dnotin (hu_of hr) (pv 1) (pe_ix (kixT K) (kfld K (pv 0) rfl) pe_int (fun _ _ => rfl)))) (pss_one (ps_raiseD T.xNoRound rfl (takes_of rfl rfl rfl rfl) (by rfl) rfl)) pss_nil)
        (pss_one (ps_ret (pe_dget (hu_of hr) (pe_ix (kixT K) (kfld K (pv 0) rfl) pe_int (fun _ _ => rfl)) (pv 1) (fun _ _ => rfl))))), ?_⟩
  walk_at "ss"
  rintro as Qd Qx ⟨p, b, n, z, rfl, q1, q2⟩
  refine ⟨[.ro (bookO T.cBook.C p b), .sh (.str n)], .cons rfl (.cons (.inl ⟨rfl, .inr rfl⟩) .nil), ?_⟩
  have e := valP_kv (f := eRound) b.st.rs n
  walk_at "g"
  rw [e]
  cases h : Bk.get b.st.rs n with
  | none =>
    refine iteTb rfl ?_
    exact ⟨rfl, q2 h⟩
  | some r =>
    refine iteFb rfl ?_
    walk_at "g"
    rw [h] at e
    refine ⟨_, _, _, _, rfl, rfl, rfl, e, ?_⟩
    walk_at "g"
    exact q1 r h

end
end Law
namespace Law
open PySem PySem.Spec PyProof.Rows L2 Dk
section
variable {P : Program} {w : World} {K : Fg} {mg : Str → Option Value} {base : Heap}
set_option maxHeartbeats 4000000 in
theorem ok_Book_crew_names (T : Txt K mg) : FnOk P w K mg base (L2.CX P w) 1 T.Book_crew_names.f T.Book_crew_names.fd ["self", "crew"] (GSp K false (cCrewNames T.cBook.C (erC T))) := by
  refine genX_ok T.Book_crew_names.F scBook_crew_names (fun as Qd Qx h => by obtain ⟨p, b, n, z, rfl, _⟩ := h; rfl) fun cdv A outer s H E hr => ?_
  refine ⟨_, (pss_cons (ps_if (pt_cmp (pc_dnotin (hu_of hr) (pv 1) (pe_ix (kixT K) (kfld K (pv 0) rfl) pe_int (fun _ _ => rfl)))) (pss_one (ps_raiseD T.xNoCrew rfl (takes_of rfl rfl rfl rfl) (by rfl) rfl)) pss_nil)
        (pss_one (ps_ret (pe_dget (hu_of hr) (pe_ix (kixT K) (kfld K (pv 0) rfl) pe_int (fun _ _ => rfl)) (pv 1) (fun _ _ => rfl))))), ?_⟩
  walk_at "ss"
  rintro as Qd Qx ⟨p, b, n, z, rfl, q1, q2⟩
  refine ⟨[.ro (bookO T.cBook.C p b), .sh (.str n)], .cons rfl (.cons (.inl ⟨rfl, .inr rfl⟩) .nil), ?_⟩
  have e := valP_kv (f := eNames) b.st.cs n
  walk_at "g"
  rw [e]
  cases h : Bk.get b.st.cs n with
  | none =>
    refine iteTb rfl ?_
    exact ⟨rfl, q2 h⟩
  | some r =>
    refine iteFb rfl ?_
    walk_at "g"
    rw [h] at e
    refine ⟨_, _, _, _, rfl, rfl, rfl, e, ?_⟩
    walk_at "g"
    exact q1 r h

end
end Law
namespace Law
open PySem PySem.Spec PyProof.Rows L2 Dk
section
variable {P : Program} {w : World} {K : Fg} {mg : Str → Option Value} {base : Heap}
set_option maxHeartbeats 4000000 in
theorem ok_Book_in_use (T : Txt K mg) : FnOk P w K mg base CX0 1 T.Book_in_use.f T.Book_in_use.fd ["self", "name"] (GSp K false (cInUse T.cBook.C)) := by
  refine gen_ok T.Book_in_use.F scBook_in_use (fun as Qd Qx h => by obtain ⟨p, b, n, z, rfl, _⟩ := h; rfl) fun cdv A outer s H E hr => ?_
  refine ⟨_, (pss_one (ps_ret (pe_callB (kany K rfl) (by rfl) T.zany (by decide +kernel) (pa_cons (pe_lcK (own := [("crew", 2)]) rfl scBook_in_use.nd (pe_ix (kixT K) (kfld K (pv 0) rfl) pe_int (fun _ _ => rfl)) (blkOk_by (own := [("crew", 2)]) (N := nBook_in_use) (sc := defScope sBook_in_use) (by decide +kernel)) (fun _ _ _ _ _ => (pg_name (i := 2) scBook_in_use.nd rfl (.inl rfl) (.inr rfl))) (fun _ _ _ _ _ => pts_nil) (fun _ _ _ _ _ => (pe_cmpR (kin K) (pv 1) (pe_dget (hu_of hr) (pe_ix (kixT K) (kfld K (pv 0) rfl) pe_int (fun _ _ => rfl)) (pv 2) (fun _ _ => rfl)) (by rfl)))) pa_nil)))), ?_⟩
  walk_at "ss"
  rintro as Qd Qx ⟨p, b, n, z, rfl, hl, hg, q⟩
  refine ⟨[.ro (bookO T.cBook.C p b), .sh (.str n)], .cons rfl (.cons (.inl ⟨rfl, .inr rfl⟩) .nil), ?_⟩
  walk_at "g"
  refine lcK_map (f := eNames) (fun e => some (.bool (decide (n ∈ (Bk.get b.st.cs e.1).getD [])))) hl (fun e he P hP => ?_) ⟨rfl, ?_⟩
  · obtain ⟨ns, hns⟩ := Option.isSome_iff_exists.mp (hg e he)
    have e2 := valP_kv (f := eNames) b.st.cs e.1
    rw [hns] at e2 hP
    walk_at "g"
    refine ⟨_, _, _, _, rfl, rfl, rfl, e2, ?_⟩
    refine ⟨_, _, _, _, rfl, rfl, rfl, scVs_strs _, ?_⟩
    walk_at "g"
    show P (some (.bool (inV (V.str n) (List.map V.str ns)))) _
    rw [inV_strs]
    exact hP
  · rw [fm_map]
    walk_at "g"
    refine ⟨Bk.usedL b.st n, by unfold Bk.usedL; rw [List.map_map]; rfl, ?_⟩
    walk_at "g"
    exact q

end
end Law
namespace Law
open PySem PySem.Spec PyProof.Rows L2 Dk
section
variable {P : Program} {w : World} {K : Fg} {mg : Str → Option Value} {base : Heap}
set_option maxHeartbeats 4000000 in
theorem ok_Book_undo (T : Txt K mg) : FnOk P w K mg base (L2.CX P w) 1 T.Book_undo.f T.Book_undo.fd ["self"] (GSp K true (cUndo T.cBook.C (erC T) .undo)) := by
  refine genX_ok T.Book_undo.F scBook_undo (fun as Qd Qx h => by obtain ⟨p, b, m, rfl, _⟩ := h; rfl) fun cdv A outer s H E hr => ?_
  refine ⟨_, (pss_cons (ps_if (pt_cmpR op_eq (pe_callB (klen K) (by rfl) T.zlen (by decide +kernel) (pa_cons (kfld K (pv 0) rfl) pa_nil)) pe_int (nomark _)) (pss_one (ps_raiseD T.xNoMore rfl (takes_of rfl rfl rfl rfl) (by rfl) rfl)) pss_nil)
        (pss_cons (ps_expr (kbm K PySem.F.plainAttrs_list PySem.F.slot_list_append PySem.F.type_list_append mt_append (kfld K (pv 0) rfl) (pa_cons (kfld K (pv 0) rfl) pa_nil)))
        (pss_one (ps_fld (pv 0) (kbm0 K PySem.F.plainAttrs_list PySem.F.slot_list_pop PySem.F.type_list_pop mt_pop (kfld K (pv 0) rfl)) rfl)))), ?_⟩
  walk_at "ss"
  rintro as Qd Qx ⟨p, b, m, rfl, hb, hm, q1, q2⟩
  refine ⟨[.rf (bookO T.cBook.C p b)], .cons rfl .nil, ?_⟩
  have l1 : (b.ahead.map eSt).length < sizeLine := small100000 (by have := hb.pl; rw [List.length_map]; omega)
  walk_at "g"
  refine ite2b (fun h2 => ?_) fun h2 => ?_
  · have e := of_decide_eq_true h2
    have e2 : b.past.getLast? = none := by
      rw [List.length_map] at e
      rw [List.getLast?_eq_none_iff]
      exact List.length_eq_zero_iff.mp (by omega)
    exact ⟨rfl, q2 .noMore (by simp only [Bk.doB, e2])⟩
  · have e := of_decide_eq_false h2
    cases e2 : b.past.getLast? with
    | none =>
      rw [List.getLast?_eq_none_iff] at e2
      rw [e2] at e
      exact (e rfl).elim
    | some s =>
      have q := q1 none ⟨s, b.past.dropLast, b.ahead ++ [b.st], b.held⟩ (by simp only [Bk.doB, e2])
      simp only [bookO, bookF, List.map_append, List.map_cons, List.map_nil, List.map_dropLast] at q
      have hat := last_at eSt e2
      walk_at "g"
      refine ⟨_, _, _, _, rfl, hat, ?_⟩
      walk_at "g"
      exact q

end
end Law
namespace Law
open PySem PySem.Spec PyProof.Rows L2 Dk
section
variable {P : Program} {w : World} {K : Fg} {mg : Str → Option Value} {base : Heap}
set_option maxHeartbeats 4000000 in
theorem ok_Book_redo (T : Txt K mg) : FnOk P w K mg base (L2.CX P w) 1 T.Book_redo.f T.Book_redo.fd ["self"] (GSp K true (cUndo T.cBook.C (erC T) .redo)) := by
  refine genX_ok T.Book_redo.F scBook_redo (fun as Qd Qx h => by obtain ⟨p, b, m, rfl, _⟩ := h; rfl) fun cdv A outer s H E hr => ?_
  refine ⟨_, (pss_cons (ps_if (pt_cmpR op_eq (pe_callB (klen K) (by rfl) T.zlen (by decide +kernel) (pa_cons (kfld K (pv 0) rfl) pa_nil)) pe_int (nomark _)) (pss_one (ps_raiseD T.xNoMore rfl (takes_of rfl rfl rfl rfl) (by rfl) rfl)) pss_nil)
        (pss_cons (ps_expr (kbm K PySem.F.plainAttrs_list PySem.F.slot_list_append PySem.F.type_list_append mt_append (kfld K (pv 0) rfl) (pa_cons (kfld K (pv 0) rfl) pa_nil)))
        (pss_one (ps_fld (pv 0) (kbm0 K PySem.F.plainAttrs_list PySem.F.slot_list_pop PySem.F.type_list_pop mt_pop (kfld K (pv 0) rfl)) rfl)))), ?_⟩
  walk_at "ss"
  rintro as Qd Qx ⟨p, b, m, rfl, hb, hm, q1, q2⟩
  refine ⟨[.rf (bookO T.cBook.C p b)], .cons rfl .nil, ?_⟩
  have l1 : (b.past.map eSt).length < sizeLine := small100000 (by have := hb.pl; rw [List.length_map]; omega)
  walk_at "g"
  refine ite2b (fun h2 => ?_) fun h2 => ?_
  · have e := of_decide_eq_true h2
    have e2 : b.ahead.getLast? = none := by
      rw [List.length_map] at e
      rw [List.getLast?_eq_none_iff]
      exact List.length_eq_zero_iff.mp (by omega)
    exact ⟨rfl, q2 .noMore (by simp only [Bk.doB, e2])⟩
  · have e := of_decide_eq_false h2
    cases e2 : b.ahead.getLast? with
    | none =>
      rw [List.getLast?_eq_none_iff] at e2
      rw [e2] at e
      exact (e rfl).elim
    | some s =>
      have q := q1 none ⟨s, b.past ++ [b.st], b.ahead.dropLast, b.held⟩ (by simp only [Bk.doB, e2])
      simp only [bookO, bookF, List.map_append, List.map_cons, List.map_nil, List.map_dropLast] at q
      have hat := last_at eSt e2
      walk_at "g"
      refine ⟨_, _, _, _, rfl, hat, ?_⟩
      walk_at "g"
      exact q

end
end Law
namespace Law
open PySem PySem.Spec PyProof.Rows L2 Dk
section
variable {P : Program} {w : World} {K : Fg} {mg : Str → Option Value} {base : Heap}
set_option maxHeartbeats 4000000 in
theorem ok_Book_hold (T : Txt K mg) : FnOk P w K mg base CX0 1 T.Book_hold.f T.Book_hold.fd ["self"] (GSp K true (cUndo T.cBook.C (fun _ => .none) .hold)) := by
  refine gen_ok T.Book_hold.F scBook_hold (fun as Qd Qx h => by obtain ⟨p, b, m, rfl, _⟩ := h; rfl) fun cdv A outer s H E hr => ?_
  refine ⟨_, (pss_cons (ps_expr (kbm K PySem.F.plainAttrs_list PySem.F.slot_list_append PySem.F.type_list_append mt_append (kfld K (pv 0) rfl) (pa_cons (kfld K (pv 0) rfl) pa_nil)))
        (pss_one (ps_ret (pe_op op_sub (pe_callB (klen K) (by rfl) T.zlen (by decide +kernel) (pa_cons (kfld K (pv 0) rfl) pa_nil)) pe_int)))), ?_⟩
  walk_at "ss"
  rintro as Qd Qx ⟨p, b, m, rfl, hb, hm, q1, q2⟩
  refine ⟨[.rf (bookO T.cBook.C p b)], .cons rfl .nil, ?_⟩
  have l1 : (b.held.map eSt).length < sizeLine := small100000 (by have := hb.pl; rw [List.length_map]; omega)
  have q := q1 (some b.held.length) { b with held := b.held ++ [b.st] } rfl
  simp only [bookO, bookF, List.map_append, List.map_cons, List.map_nil] at q
  walk_at "g"
  have e1 : ((List.map eSt b.held ++ [eSt b.st]).length : Int) - 1 = b.held.length := by simp
  show Qd (.d (.int (((List.map eSt b.held ++ [eSt b.st]).length : Int) - 1))) _
  rw [e1]
  exact q

end
end Law
namespace Law
open PySem PySem.Spec PyProof.Rows L2 Dk
section
variable {P : Program} {w : World} {K : Fg} {mg : Str → Option Value} {base : Heap}
set_option maxHeartbeats 4000000 in
theorem ok_Book_names (T : Txt K mg) : FnOk P w K mg base CX0 1 T.Book_names.f T.Book_names.fd ["self"] (GSp K false (cNames T.cBook.C)) := by
  refine gen_ok T.Book_names.F scBook_names (fun as Qd Qx h => by obtain ⟨p, b, rfl, _⟩ := h; rfl) fun cdv A outer s H E hr => ?_
  refine ⟨_, (pss_one (ps_ret (pe_callB (b_sortDS rfl) (by rfl) T.zsorted (by decide +kernel) (pa_cons (pe_ix (kixT K) (kfld K (pv 0) rfl) pe_int (fun _ _ => rfl)) pa_nil)))), ?_⟩
  walk_at "ss"
  rintro as Qd Qx ⟨p, b, rfl, hl, q⟩
  refine ⟨[.ro (bookO T.cBook.C p b)], .cons rfl .nil, ?_⟩
  walk_at "g"
  refine ⟨_, _, b.st.rs.map (·.1), rfl, kvsOf_kv _, kvK_keys _, by rw [List.length_map]; exact hl, fun ys y1 y2 => ?_⟩
  walk_at "g"
  exact q ys y1 y2

end
end Law
namespace Law
open PySem PySem.Spec PyProof.Rows L2 Dk
section
variable {P : Program} {w : World} {K : Fg} {mg : Str → Option Value} {base : Heap}
set_option maxHeartbeats 4000000 in
theorem ok_Book_crews (T : Txt K mg) : FnOk P w K mg base CX0 1 T.Book_crews.f T.Book_crews.fd ["self"] (GSp K false (cCrews T.cBook.C)) := by
  refine gen_ok T.Book_crews.F scBook_crews (fun as Qd Qx h => by obtain ⟨p, b, rfl, _⟩ := h; rfl) fun cdv A outer s H E hr => ?_
  refine ⟨_, (pss_one (ps_ret (pe_callB (b_sortDS rfl) (by rfl) T.zsorted (by decide +kernel) (pa_cons (pe_ix (kixT K) (kfld K (pv 0) rfl) pe_int (fun _ _ => rfl)) pa_nil)))), ?_⟩
  walk_at "ss"
  rintro as Qd Qx ⟨p, b, rfl, hl, q⟩
  refine ⟨[.ro (bookO T.cBook.C p b)], .cons rfl .nil, ?_⟩
  walk_at "g"
  refine ⟨_, _, b.st.cs.map (·.1), rfl, kvsOf_kv _, kvK_keys _, by rw [List.length_map]; exact hl, fun ys y1 y2 => ?_⟩
  walk_at "g"
  exact q ys y1 y2

end
end Law
namespace Law
open PySem PySem.Spec PyProof.Rows L2 Dk
section
variable {P : Program} {w : World} {K : Fg} {mg : Str → Option Value} {base : Heap}
set_option maxHeartbeats 4000000 in
theorem ok_added (T : Txt K mg) : FnOk P w K mg base CX0 2 T.added.f T.added.fd ["p", "one", "other"] (PureSp K cAdded) := by
  refine pure_ok T.added.F scAdded (fun ds Qd h => by obtain ⟨p, xs, ys, rfl, _⟩ := h; rfl) fun cdv A outer s H E hr => ?_
  refine ⟨_, (pss_one (ps_ret (pe_call (ok_tidy T) (hr.mono (by decide)) (by rfl) T.tidy.m T.tidy.F.kp T.tidy.b .nil pass0 (pa_cons (pv 0) (pa_cons (pe_op op_cat (pe_callTy (klist K) (by rfl) T.zlist (by decide +kernel) (pa_cons (pv 1) pa_nil)) (pe_callTy (klist K) (by rfl) T.zlist (by decide +kernel) (pa_cons (pv 2) pa_nil))) pa_nil))))), ?_⟩
  walk_at "ss"
  rintro ds Qd ⟨p, xs, ys, rfl, hp, hx, hy, q⟩
  refine ⟨[.sh (.int p), .sh (ePat xs), .sh (ePat ys)], .cons (.inr ⟨rfl, rfl⟩) (.cons (.inr ⟨rfl, ePat_tupO _⟩) (.cons (.inr ⟨rfl, ePat_tupO _⟩) .nil)), ?_⟩
  walk_at "g"
  have hk := Pt.keys_len (xs ++ ys)
  rw [List.length_append] at hk
  exact ⟨p, xs ++ ys, by rw [← List.map_append]; rfl, hp, by omega, _, rfl, q⟩

end
end Law
namespace Law
open PySem PySem.Spec PyProof.Rows L2 Dk
section
variable {P : Program} {w : World} {K : Fg} {mg : Str → Option Value} {base : Heap}
set_option maxHeartbeats 4000000 in
theorem ok_timed (T : Txt K mg) : FnOk P w K mg base CX0 2 T.timed.f T.timed.fd ["p", "pattern", "n"] (PureSp K cTimed) := by
  refine pure_ok T.timed.F scTimed (fun ds Qd h => by obtain ⟨p, xs, n, rfl, _⟩ := h; rfl) fun cdv A outer s H E hr => ?_
  refine ⟨_, (pss_one (ps_ret (pe_call (ok_tidy T) (hr.mono (by decide)) (by rfl) T.tidy.m T.tidy.F.kp T.tidy.b .nil pass0 (pa_cons (pv 0) (pa_cons (pe_lc (own := [("place", 3), ("setting", 4)]) rfl scTimed.nd (kpit K (pv 1)) (blkOk_by (own := [("place", 3), ("setting", 4)]) (N := nTimed) (sc := defScope sTimed) (by decide +kernel)) (fun _ _ _ _ _ => (kpg K 2 rfl (pgs_cons (pg_name (i := 3) scTimed.nd rfl (.inl rfl) (.inr rfl)) (pgs_cons (pg_name (i := 4) scTimed.nd rfl (.inl rfl) (.inr rfl)) pgs_nil)))) (fun _ _ _ _ _ => pts_nil) (fun _ _ _ _ _ => (pe_tup (pa_cons (pv 3) (pa_cons (pe_op op_mul (pv 4) (pv 2)) pa_nil))))) pa_nil))))), ?_⟩
  walk_at "ss"
  rintro ds Qd ⟨p, xs, n, rfl, hp, hx, hm, q⟩
  refine ⟨[.sh (.int p), .sh (ePat xs), .sh (.int n)], .cons (.inr ⟨rfl, rfl⟩) (.cons (.inr ⟨rfl, ePat_tupO _⟩) (.cons (.inr ⟨rfl, rfl⟩) .nil)), ?_⟩
  walk_at "g"
  refine lc_map (f := ePair) (fun x => some (ePair (x.1, x.2 * n))) (fun x hx P hP => ?_) ?_
  · have := hm x hx
    walk_at "g"
    exact hP
  · rw [fm_map]
    walk_at "g"
    have hk := Pt.keys_len (xs.map fun x => (x.1, x.2 * n))
    rw [List.length_map] at hk
    refine ⟨p, xs.map fun x : Int × Int => (x.1, x.2 * n), by unfold ePairs; rw [List.map_map]; rfl, hp, by omega, _, rfl, ?_⟩
    exact q

end
end Law
namespace Law
open PySem PySem.Spec PyProof.Rows L2 Dk
section
variable {P : Program} {w : World} {K : Fg} {mg : Str → Option Value} {base : Heap}
set_option maxHeartbeats 4000000 in
theorem ok_gone (T : Txt K mg) : FnOk P w K mg base (L2.CX P w) 2 T.gone.f T.gone.fd ["p", "deeds"] (PureXSp K (cGoneX (.ref T.xNoDeed.C))) := by
  refine pureX_ok T.gone.F scGone (fun ds Qd Qx h => by obtain ⟨p, xs, rfl, _⟩ := h; rfl) fun cdv A outer s H E hr => ?_
  refine ⟨_, (pss_cons (ps_set (i := 2) scGone.nd rfl (.inl rfl) pe_int)
        (pss_cons (ps_set (i := 3) scGone.nd rfl (.inl rfl) (pe_lst pa_nil))
        (pss_cons (ps_for (passes_of rfl) rfl (kpil K (pv 1)) (kpg K 2 rfl (pgs_cons (pg_name (i := 4) scGone.nd rfl (.inl rfl)) (pgs_cons (pg_name (i := 5) scGone.nd rfl (.inl rfl)) pgs_nil))) (pss_one (ps_if (pt_cmpR op_eq (pv 4) pe_str (nomark _)) (pss_one (ps_aug (i := 2) scGone.nd rfl (.inl rfl) (pv 5) ip_add)) (pss_one (ps_if (pt_cmpR op_eq (pv 4) pe_str (nomark _)) (pss_one (ps_expr (kbm K PySem.F.plainAttrs_list PySem.F.slot_list_append PySem.F.type_list_append mt_append (pv 3) (pa_cons (pe_tup (pa_cons (pv 2) (pa_cons (pv 5) pa_nil))) pa_nil)))) (pss_one (ps_raiseD T.xNoDeed rfl (takes_of rfl rfl rfl rfl) (by rfl) rfl)))))))
        (pss_one (ps_ret (pe_tup (pa_cons (pv 2) (pa_cons (pe_call (ok_tidy T) (hr.mono (by decide)) (by rfl) T.tidy.m T.tidy.F.kp T.tidy.b .nil pass0 (pa_cons (pv 0) (pa_cons (pv 3) pa_nil))) pa_nil)))))))), ?_⟩
  walk_at "ss"
  rintro ds Qd Qx ⟨p, xs, rfl, hp, hl, q, qx⟩
  refine ⟨[.sh (.int p), .ar (.list (xs.map eWd))], .cons (.inr ⟨rfl, rfl⟩) (.cons (.inl rfl) .nil), ?_⟩
  walk_at "h"
  refine for_pre (f := eWd) (fun pre Γ => ∃ (zs : List Rd.Deed) (y4 y5 : Sl), pre = zs.map wdOf ∧ Γ = [.sh (.int p), .ar (.list (xs.map eWd)), .sh (.int (Rd.walkFrom (0, []) zs).1), .ow (.lst ((Rd.walkFrom (0, []) zs).2.map ePair)), y4, y5]) ⟨[], .no, .no, rfl, rfl⟩ ?_ ?_
  · rintro pre ⟨wd, n⟩ post Γ e ⟨zs, y4, y5, rfl, rfl⟩
    have wl := Rd.walk_len zs (0, [])
    have el := congrArg List.length e
    simp only [List.length_append, List.length_cons, List.length_nil, List.length_map] at el wl
    walk_at "g"
    refine ite2b (fun hz => ?_) fun hz => ?_
    · have hw : wd = "go" := of_decide_eq_true hz
      subst hw
      have ew := walk_snoc zs (true, n)
      walk_at "g"
      refine ⟨zs ++ [(true, n)], .ar (.str "go"), .ar (.int n), by rw [List.map_append]; rfl, ?_⟩
      rw [ew]
      rfl
    · have hg : ¬ wd = "go" := of_decide_eq_false hz
      walk_at "g"
      refine ite2b (fun hz => ?_) fun hz => ?_
      · have hw : wd = "turn" := of_decide_eq_true hz
        subst hw
        have ew := walk_snoc zs (false, n)
        walk_at "g"
        refine ⟨zs ++ [(false, n)], .ar (.str "turn"), .ar (.int n), by rw [List.map_append]; rfl, ?_⟩
        rw [ew]
        simp only [Rd.stepW, Bool.false_eq_true, if_false, List.map_append]
        rfl
      · have ht : ¬ wd = "turn" := of_decide_eq_false hz
        exact qx ⟨(wd, n), by rw [e]; simp, hg, ht⟩
  · rintro Γ ⟨zs, y4, y5, e, rfl⟩
    have wl := Rd.walk_len zs (0, [])
    have kl := Pt.keys_len (Rd.walkFrom (0, []) zs).2
    have el := congrArg List.length e
    simp only [List.length_nil, Nat.zero_add, List.length_map] at wl el
    walk_at "g"
    exact q zs e

end
end Law
namespace Law
open PySem PySem.Spec PyProof.Rows L2 Dk
section
variable {P : Program} {w : World} {K : Fg} {mg : Str → Option Value} {base : Heap}
set_option maxHeartbeats 4000000 in
theorem ok_l_p (T : Txt K mg) : FnOk P w K mg base CX0 2 T.l_p.f T.l_p.fd ["_law_draw"] (RefSp K IsDraw cP) := by
  refine ref_ok T.l_p.F scL_p (fun ds Qd h => by obtain ⟨rfl, _⟩ := h; rfl) fun cdv A outer s H E hr => ?_
  refine ⟨_, (pss_one (ps_ret (pe_ix (kixT K) (pe_tup (pa_cons pe_int (pa_cons pe_int (pa_cons pe_int (pa_cons pe_int pa_nil))))) (pe_call (ok_l_take T) (hr.mono (by decide)) (by rfl) T.l_take.m T.l_take.F.kp T.l_take.b .nil pass0 (pa_cons (pv 0) (pa_cons pe_int pa_nil))) (fun _ _ => rfl)))), ?_⟩
  walk_at "ss"
  rintro ds Qd ⟨rfl, q⟩
  refine ⟨[], .nil, ?_⟩
  refine ⟨_, rfl, Nat.le_of_ble_eq_true rfl, .inr rfl, _, .inr rfl, rfl, 4, rfl, by decide, by decide, fun r h0 h1 => ?_⟩
  have hr : r = 0 ∨ r = 1 ∨ r = 2 ∨ r = 3 := by omega
  rcases hr with rfl | rfl | rfl | rfl
  · exact ⟨_, _, _, rfl, rfl, rfl, rfl, _, rfl, q 2 (.inl rfl)⟩
  · exact ⟨_, _, _, rfl, rfl, rfl, rfl, _, rfl, q 3 (.inr (.inl rfl))⟩
  · exact ⟨_, _, _, rfl, rfl, rfl, rfl, _, rfl, q 5 (.inr (.inr (.inl rfl)))⟩
  · exact ⟨_, _, _, rfl, rfl, rfl, rfl, _, rfl, q 7 (.inr (.inr (.inr rfl)))⟩

end
end Law
namespace Law
open PySem PySem.Spec PyProof.Rows L2 Dk
section
variable {P : Program} {w : World} {K : Fg} {mg : Str → Option Value} {base : Heap}
set_option maxHeartbeats 4000000 in
theorem ok_l_names (T : Txt K mg) : FnOk P w K mg base CX0 2 T.l_names.f T.l_names.fd ["_law_draw", "_law_many"] (RefFreshSp K IsDraw cNamesD) := by
  refine refFresh_ok T.l_names.F scL_names (fun ds Qd h => by obtain ⟨m, rfl, _⟩ := h; rfl) fun cdv A outer s H E hr => ?_
  refine ⟨_, (pss_cons (ps_set (i := 2) scL_names.nd rfl (.inr rfl) pe_str)
        (pss_cons (ps_set (i := 3) scL_names.nd rfl (.inl rfl) (kjoin K pe_str (pe_lc (own := [("_law_k", 7)]) rfl scL_names.nd (pi_range1 rfl T.zrange (pa_cons (pe_call (ok_l_take T) (hr.mono (by decide)) (by rfl) T.l_take.m T.l_take.F.kp T.l_take.b .nil pass0 (pa_cons (pv 0) (pa_cons pe_int pa_nil))) pa_nil)) (blkOk_by (own := [("_law_k", 7)]) (N := nL_names) (sc := defScope sL_names) (by decide +kernel)) (fun _ _ _ _ _ => (pg_name (i := 7) scL_names.nd rfl (.inl rfl) (.inr rfl))) (fun _ _ _ _ _ => pts_nil) (fun _ _ _ _ _ => (pe_ix ix_str (pv 2) (pe_call (ok_l_take T) (hr.mono (by decide)) (by rfl) T.l_take.m T.l_take.F.kp T.l_take.b .nil pass0 (pa_cons (pv 0) (pa_cons pe_int pa_nil))) (fun _ _ => rfl))))))
        (pss_cons (ps_set (i := 4) scL_names.nd rfl (.inl rfl) (pe_call (ok_l_take T) (hr.mono (by decide)) (by rfl) T.l_take.m T.l_take.F.kp T.l_take.b .nil pass0 (pa_cons (pv 0) (pa_cons (pe_op op_add (pe_callB b_lenS (by rfl) T.zlen (by decide +kernel) (pa_cons (pv 3) pa_nil)) pe_int) pa_nil))))
        (pss_cons (ps_set (i := 5) scL_names.nd rfl (.inl rfl) (pe_call (ok_l_take T) (hr.mono (by decide)) (by rfl) T.l_take.m T.l_take.F.kp T.l_take.b .nil pass0 (pa_cons (pv 0) (pa_cons pe_int pa_nil))))
        (pss_cons (ps_set (i := 6) scL_names.nd rfl (.inl rfl) (pe_lst pa_nil))
        (pss_cons (ps_for PassesOwn.never rfl (pi_range1 rfl T.zrange (pa_cons (pv 1) pa_nil)) (pg_name (i := 7) scL_names.nd rfl (.inl rfl)) (pss_cons (ps_set (i := 8) scL_names.nd rfl (.inl rfl) (pe_op o_mulS (pe_ix ix_str (pv 2) (pe_op op_mod (pe_op op_add (pv 5) (pe_op op_mul pe_int (pv 7))) pe_int) (fun _ _ => rfl)) (pe_op op_add pe_int (pe_call (ok_l_take T) (hr.mono (by decide)) (by rfl) T.l_take.m T.l_take.F.kp T.l_take.b .nil pass0 (pa_cons (pv 0) (pa_cons pe_int pa_nil))))))
        (pss_one (ps_expr (kbm K PySem.F.plainAttrs_list PySem.F.slot_list_append PySem.F.type_list_append mt_append (pv 6) (pa_cons (pe_op o_addS (pe_op o_addS (pe_slice sl_str (pv 3) po_none (po_some (pv 4))) (pv 8)) (pe_slice sl_str (pv 3) (po_some (pv 4)) po_none)) pa_nil))))))
        (pss_one (ps_ret (pv 6))))))))), ?_⟩
  walk_at "ss"
  rintro ds Qd ⟨m, rfl, m0, m1, q⟩
  refine ⟨[.sh (.int m)], .cons (.inr ⟨rfl, rfl⟩) .nil, ?_⟩
  walk_at "h"
  intro L L0 L1
  refine ⟨_, _, _, rfl, ⟨L, rfl, by omega, by omega, rfl, rfl⟩, rfl, rfl, Nat.le_of_lt (small100000 (by omega)), fun k acc Γ => ∃ cs : List Nat, acc = cs.map (fun c => PyData.str ⟨#[c]⟩) ∧ cs.length = k ∧ (∀ c ∈ cs, c ∈ Bk.letters.cps.toList) ∧ Γ = [.rf (.ab IsDraw), .sh (.int m), .sh (.str Bk.letters), .no, .no, .no, .no, .no, .no], ⟨[], rfl, rfl, (fun _ h => nomatch h), rfl⟩, ?_, ?_⟩
  · rintro k acc Γ hk ⟨cs, rfl, hl, hc, rfl⟩
    walk_at "h"
    intro r r0 r1
    obtain ⟨c, hc1, hc2⟩ := letter_at r0 r1
    walk_at "h"
    refine ⟨_, _, _, rfl, rfl, by decide +kernel, hc2, ?_⟩
    walk_at "h"
    refine ⟨cs ++ [c], by rw [List.map_append]; rfl, by simp [hl], fun x hx => ?_, rfl⟩
    rcases List.mem_append.mp hx with z | z
    · exact hc x z
    · simp at z; rw [z]; exact hc1
  rintro acc Γ ⟨cs, rfl, hl, hc, rfl⟩
  have hl2 : cs.length ≤ 10 := by omega
  clear hl L0 L1 L
  have hb := lets_join hc
  have hbl := join_len cs
  refine ⟨_, rfl, cs.map fun c => (⟨#[c]⟩ : Str), by rw [List.map_map]; rfl, ?_, ?_⟩
  · rw [List.map_map, List.length_map]
    have : ((List.map ((fun x : Str => x.length) ∘ fun c => (⟨#[c]⟩ : Str)) cs)).sum = cs.length := by
      rw [show ((fun x : Str => x.length) ∘ fun c => (⟨#[c]⟩ : Str)) = fun _ => 1 from rfl]
      exact sum_ones cs
    rw [this, show (Str.ofString "").length = 0 from by decide +kernel]
    omega
  generalize Txt.join (Str.ofString "") (cs.map fun c => (⟨#[c]⟩ : Str)) = body at hb hbl
  have hb2 : body.length ≤ 10 := by omega
  have hb3 : body.length ≤ sizeLine := Nat.le_of_lt (small100000 (by omega))
  clear hbl hl2 hc cs
  have c1 : (0 : Int) < (body.length : Int) + 1 := by omega
  have c2 : (body.length : Int) + 1 < 1073741824 := by omega
  iterate 4 walk_at "h1"
  refine ⟨hb3, _, _, rfl, rfl, _, .inr rfl, rfl, _, rfl, c1, c2, fun t t0 t1 => ?_⟩
  clear c1 c2
  walk_at "h"
  intro u u0 u1
  walk_at "h"
  refine ⟨_, _, _, rfl, ⟨m, rfl, by omega, by omega, rfl, rfl⟩, fun k Γ => ∃ (ns : List Str) (y7 y8 : Sl), ns.length = k ∧ (∀ n ∈ ns, nameOk n) ∧ Γ = [.rf (.ab IsDraw), .sh (.int m), .sh (.str Bk.letters), .sh (.str body), .sh (.int t), .sh (.int u), .ow (.lst (ns.map .str)), y7, y8], ⟨[], .no, .no, rfl, (fun _ h => nomatch h), rfl⟩, ?_, ?_⟩
  · rintro k Γ hk ⟨ns, y7, y8, hl, hn, rfl⟩
    walk_at "h"
    have r0 : 0 ≤ (u + 7 * (0 + (k : Int))) % 26 := Int.emod_nonneg _ (by decide)
    have r1 : (u + 7 * (0 + (k : Int))) % 26 < 26 := Int.emod_lt_of_pos _ (by decide)
    obtain ⟨c, hc1, hc2⟩ := letter_at r0 r1
    refine ⟨_, _, _, rfl, rfl, by decide +kernel, hc2, ?_⟩
    walk_at "h"
    intro e e0 e1
    have n1 : 1 ≤ 1 + e := by omega
    have n2 : 1 + e < 2 ^ 31 := by omega
    have n3 : (⟨#[c]⟩ : Str).length * (1 + e).toNat ≤ sizeLine := Nat.le_of_lt (small100000 (by show 1 * _ ≤ _; omega))
    have hs := lets_rep (lets_one hc1) (1 + e).toNat
    have hsl := rep_len ⟨#[c]⟩ (1 + e).toNat
    refine ⟨_, _, rfl, rfl, _, _, rfl, rfl, n1, n2, n3, ?_⟩
    generalize repS ⟨#[c]⟩ (1 + e).toNat = sg at hs hsl
    have hsg : sg.length ≤ 2 := by rw [hsl]; show _ * 1 ≤ _; omega
    clear hsl n1 n2 n3 e0 e1 e hc1 hc2 r0 r1 c
    have p1 := cut_len body none (some t)
    have p2 := cut_len body (some t) none
    have p3 := lets_cut hb none (some t)
    have p4 := lets_cut hb (some t) none
    have p5 := app_len (cutS body none (some t)) sg
    have p6 := app_len (cutS body none (some t) ++ sg) (cutS body (some t) none)
    have p7 : (cutS body none (some t) ++ sg).length + (cutS body (some t) none).length ≤ sizeLine := Nat.le_of_lt (small100000 (by omega))
    have p8 : (cutS body none (some t)).length + sg.length ≤ sizeLine := Nat.le_of_lt (small100000 (by omega))
    have p9 : nameOk (cutS body none (some t) ++ sg ++ cutS body (some t) none) := ⟨by omega, lets_ok (lets_app (lets_app p3 hs) p4)⟩
    have hns : (ns.map PyData.str).length < sizeLine := small100000 (by rw [List.length_map]; omega)
    walk_at "h"
    refine ⟨ns ++ [cutS body none (some t) ++ sg ++ cutS body (some t) none], .sh (.int (0 + (k : Int))), .sh (.str sg), by simp [hl], fun n h => ?_, by rw [List.map_append]; rfl⟩
    rcases List.mem_append.mp h with h | h
    · exact hn n h
    · simp at h; rw [h]; exact p9
  rintro Γ ⟨ns, y7, y8, hl, hn, rfl⟩
  walk_at "h"
  exact q ns (by omega) hn

end
end Law
namespace Law
open PySem PySem.Spec PyProof.Rows L2 Dk
section
variable {P : Program} {w : World} {K : Fg} {mg : Str → Option Value} {base : Heap}
set_option maxHeartbeats 4000000 in
theorem ok_l_sum (T : Txt K mg) : FnOk P w K mg base CX0 2 T.l_sum.f T.l_sum.fd ["_law_p_here", "_law_one", "_law_other", "_law_by", "_law_many"] (PureSp K cSum) := by
  refine pure_ok T.l_sum.F scL_sum (fun ds Qd h => by obtain ⟨p, xs, ys, b, n, rfl, _⟩ := h; rfl) fun cdv A outer s H E hr => ?_
  refine ⟨_, (pss_one (ps_ret (pe_call (ok_l_tidy T) (hr.mono (by decide)) (by rfl) T.l_tidy.m T.l_tidy.F.kp T.l_tidy.b .nil pass0 (pa_cons (pv 0) (pa_cons (pe_op op_cat (pe_callTy (klist K) (by rfl) T.zlist (by decide +kernel) (pa_cons (pv 1) pa_nil)) (pe_lc (own := [("_law_place", 5), ("_law_setting", 6)]) rfl scL_sum.nd (kpit K (pv 2)) (blkOk_by (own := [("_law_place", 5), ("_law_setting", 6)]) (N := nL_sum) (sc := defScope sL_sum) (by decide +kernel)) (fun _ _ _ _ _ => (kpg K 2 rfl (pgs_cons (pg_name (i := 5) scL_sum.nd rfl (.inl rfl) (.inr rfl)) (pgs_cons (pg_name (i := 6) scL_sum.nd rfl (.inl rfl) (.inr rfl)) pgs_nil)))) (fun _ _ _ _ _ => pts_nil) (fun _ _ _ _ _ => (pe_tup (pa_cons (pe_op op_add (pv 5) (pv 3)) (pa_cons (pe_op op_mul (pv 6) (pv 4)) pa_nil)))))) pa_nil))))), ?_⟩
  walk_at "ss"
  rintro ds Qd ⟨p, xs, ys, b, n, rfl, hp, hx, hy, hm, q⟩
  refine ⟨[.sh (.int p), .sh (ePat xs), .sh (ePat ys), .sh (.int b), .sh (.int n)], .cons (.inr ⟨rfl, rfl⟩) (.cons (.inr ⟨rfl, ePat_tupO _⟩) (.cons (.inr ⟨rfl, ePat_tupO _⟩) (.cons (.inr ⟨rfl, rfl⟩) (.cons (.inr ⟨rfl, rfl⟩) .nil)))), ?_⟩
  walk_at "g"
  refine lc_map (f := ePair) (fun x => some (ePair (x.1 + b, x.2 * n))) (fun x hx P hP => ?_) ?_
  · have := hm x hx
    walk_at "g"
    exact hP
  · rw [fm_map]
    walk_at "g"
    have hk := Pt.keys_len (xs ++ ys.map fun x => (x.1 + b, x.2 * n))
    rw [List.length_append, List.length_map] at hk
    refine ⟨p, xs ++ ys.map fun x : Int × Int => (x.1 + b, x.2 * n), by unfold ePairs; rw [List.map_append, List.map_map]; rfl, hp, by omega, _, rfl, ?_⟩
    exact q

end
end Law
namespace Law
open PySem PySem.Spec PyProof.Rows L2 Dk
section
variable {P : Program} {w : World} {K : Fg} {mg : Str → Option Value} {base : Heap}
set_option maxHeartbeats 4000000 in
theorem ok_l_walk (T : Txt K mg) : FnOk P w K mg base CX0 2 T.l_walk.f T.l_walk.fd ["_law_p_here", "_law_deeds"] (PureSp K cGone) := by
  refine pure_ok T.l_walk.F scL_walk (fun ds Qd h => by obtain ⟨p, xs, rfl, _⟩ := h; rfl) fun cdv A outer s H E hr => ?_
  refine ⟨_, (pss_cons (ps_set (i := 2) scL_walk.nd rfl (.inl rfl) pe_int)
        (pss_cons (ps_set (i := 3) scL_walk.nd rfl (.inl rfl) (pe_lst pa_nil))
        (pss_cons (ps_for PassesOwn.never rfl (kpil K (pv 1)) (kpg K 2 rfl (pgs_cons (pg_name (i := 4) scL_walk.nd rfl (.inl rfl)) (pgs_cons (pg_name (i := 5) scL_walk.nd rfl (.inl rfl)) pgs_nil))) (pss_one (ps_if (pt_cmpR op_eq (pv 4) pe_str (nomark _)) (pss_one (ps_set (i := 2) scL_walk.nd rfl (.inl rfl) (pe_op op_add (pv 2) (pv 5)))) (pss_one (ps_expr (kbm K PySem.F.plainAttrs_list PySem.F.slot_list_append PySem.F.type_list_append mt_append (pv 3) (pa_cons (pe_tup (pa_cons (pv 2) (pa_cons (pv 5) pa_nil))) pa_nil)))))))
        (pss_one (ps_ret (pe_tup (pa_cons (pv 2) (pa_cons (pe_call (ok_l_tidy T) (hr.mono (by decide)) (by rfl) T.l_tidy.m T.l_tidy.F.kp T.l_tidy.b .nil pass0 (pa_cons (pv 0) (pa_cons (pv 3) pa_nil))) pa_nil)))))))), ?_⟩
  walk_at "ss"
  rintro ds Qd ⟨p, xs, rfl, hp, hl, q⟩
  refine ⟨[.sh (.int p), .ar (eDeeds xs)], .cons (.inr ⟨rfl, rfl⟩) (.cons (.inl rfl) .nil), ?_⟩
  walk_at "h"
  refine for_pre (f := eDeed) (fun pre Γ => ∃ y4 y5 : Sl, Γ = [.sh (.int p), .ar (eDeeds xs), .sh (.int (Rd.walkFrom (0, []) pre).1), .ow (.lst ((Rd.walkFrom (0, []) pre).2.map ePair)), y4, y5]) ⟨.no, .no, rfl⟩ ?_ ?_
  · rintro pre ⟨b, n⟩ post Γ e ⟨y4, y5, rfl⟩
    have ew := walk_snoc pre (b, n)
    have wl := Rd.walk_len pre (0, [])
    have el := congrArg List.length e
    simp only [List.length_append, List.length_cons, List.length_nil] at el wl
    cases b with
    | true =>
      walk_at "g"
      refine ⟨.ar (.str "go"), .ar (.int n), ?_⟩
      rw [ew]
      rfl
    | false =>
      walk_at "g"
      refine ⟨.ar (.str "turn"), .ar (.int n), ?_⟩
      rw [ew]
      simp only [Rd.stepW, Bool.false_eq_true, if_false, List.map_append]
      rfl
  · rintro Γ ⟨y4, y5, rfl⟩
    have wl := Rd.walk_len xs (0, [])
    have kl := Pt.keys_len (Rd.walkFrom (0, []) xs).2
    simp only [List.length_nil, Nat.zero_add] at wl
    walk_at "g"
    exact q

end
end Law
namespace Law
open PySem PySem.Spec PyProof.Rows L2 Dk
section
variable {P : Program} {w : World} {K : Fg} {mg : Str → Option Value} {base : Heap}
set_option maxHeartbeats 4000000 in
theorem ok_l_due_member (T : Txt K mg) : FnOk P w K mg base CX0 2 T.l_due_member.f T.l_due_member.fd ["_law_stand", "_law_deed"] (GSp K false cDueM) := by
  refine gen_ok T.l_due_member.F scL_due_member (fun as Qd Qx h => by obtain ⟨p, m, s, d, ns, rfl, _⟩ := h; rfl) fun cdv A outer s H E hr => ?_
  refine ⟨_, (pss_cons (ps_set (i := 2) scL_due_member.nd rfl (.inl rfl) (pe_dget (hu_of hr) (pe_ix (kixT K) (pv 0) pe_int (fun _ _ => rfl)) (pe_ix (kixT K) (pv 1) pe_int (fun _ _ => rfl)) (fun _ _ => rfl)))
        (pss_cons (ps_if (pt_cmpR op_eq (pe_ix (kixT K) (pv 1) pe_int (fun _ _ => rfl)) pe_str (nomark _)) (pss_cons (ps_if (pt_cmpR (knotin K) (pe_ix (kixT K) (pv 1) pe_int (fun _ _ => rfl)) (pv 2) (by rfl)) (pss_one (ps_ret (pe_tup (pa_cons pe_str (pa_cons (pe_tup pa_nil) pa_nil))))) pss_nil)
        (pss_one (ps_ret (pe_tup (pa_cons pe_str (pa_cons (pe_callTy (ktuple K) (by rfl) T.ztuple (by decide +kernel) (pa_cons (pe_lc (own := [("_law_name", 3)]) rfl scL_due_member.nd (kpit K (pv 2)) (blkOk_by (own := [("_law_name", 3)]) (N := nL_due_member) (sc := defScope sL_due_member) (by decide +kernel)) (fun _ _ _ _ _ => (pg_name (i := 3) scL_due_member.nd rfl (.inl rfl) (.inr rfl))) (fun _ _ _ _ _ => pts_one (pt_cmpR op_ne (pv 3) (pe_ix (kixT K) (pv 1) pe_int (fun _ _ => rfl)) (nomark _))) (fun _ _ _ _ _ => (pv 3))) pa_nil)) pa_nil)))))) pss_nil)
        (pss_cons (ps_if (pt_cmp (pc_dnotin (hu_of hr) (pe_ix (kixT K) (pv 1) pe_int (fun _ _ => rfl)) (pe_ix (kixT K) (pv 0) pe_int (fun _ _ => rfl)))) (pss_one (ps_ret (pe_tup (pa_cons pe_str (pa_cons (pe_tup pa_nil) pa_nil))))) pss_nil)
        (pss_cons (ps_if (pt_cmpR (kin K) (pe_ix (kixT K) (pv 1) pe_int (fun _ _ => rfl)) (pv 2) (by rfl)) (pss_one (ps_ret (pe_tup (pa_cons pe_str (pa_cons (pe_tup pa_nil) pa_nil))))) pss_nil)
        (pss_cons (ps_if (pt_cmpR op_ge (pe_callB (klen K) (by rfl) T.zlen (by decide +kernel) (pa_cons (pv 2) pa_nil)) pe_int (nomark _)) (pss_one (ps_ret (pe_tup (pa_cons pe_str (pa_cons (pe_tup pa_nil) pa_nil))))) pss_nil)
        (pss_cons (ps_if (pt_val (pe_call (ok_l_far T) (hr.mono (by decide)) (by rfl) T.l_far.m T.l_far.F.kp T.l_far.b .nil pass0 (pa_cons (pe_dget (hu_of hr) (pe_ix (kixT K) (pv 0) pe_int (fun _ _ => rfl)) (pe_ix (kixT K) (pv 1) pe_int (fun _ _ => rfl)) (fun _ _ => rfl)) (pa_cons pe_int (pa_cons pe_int pa_nil))))) (pss_one (ps_ret (pe_tup (pa_cons pe_str (pa_cons (pe_tup pa_nil) pa_nil))))) pss_nil)
        (pss_one (ps_ret (pe_tup (pa_cons pe_str (pa_cons (pe_op (kcatA K) (pv 2) (pe_tup (pa_cons (pe_ix (kixT K) (pv 1) pe_int (fun _ _ => rfl)) pa_nil))) pa_nil))))))))))), ?_⟩
  walk_at "ss"
  rintro as Qd Qx ⟨p, m, s, d, ns, rfl, hs, hd, hM, hns, q⟩
  refine ⟨[.sh (eSt s), .sh (eDeedB d)], .cons (.inl ⟨rfl, .inl rfl⟩) (.cons (.inl ⟨rfl, .inl rfl⟩) .nil), ?_⟩
  have ev := valP_kv (f := eNames) s.cs (nameS d)
  rw [hns] at ev
  have l3 := (hs.cr _ (Bk.get_mem hns)).1
  simp only at l3
  cases d with
  | dismiss c n =>
    walk_at "h"
    refine ⟨_, _, _, _, rfl, rfl, rfl, ev, ?_⟩
    walk_at "h"
    refine ⟨fun Γ => False, fun _ z => z.elim, ?_⟩
    walk_at "h"
    refine ⟨fun Γ => n ∈ ns ∧ Γ = [.sh (eSt s), .sh (eDeedB (.dismiss c n)), .sh (eNames ns), .no], ?_, ?_⟩
    rotate_left
    · walk_at "h"
      refine ⟨_, _, _, _, rfl, rfl, rfl, scVs_strs _, ?_⟩
      walk_at "h"
      refine iteNotIn (inV_strs n ns) (fun h1 => ?_) fun h1 => ?_
      · simp only [memM, Bk.dismissM, if_neg h1, tellM, Bk.Er.txt] at q
        walk_at "h"
        exact q
      · exact ⟨h1, rfl⟩
    rintro _ ⟨h1, rfl⟩
    simp only [memM, Bk.dismissM, if_pos h1, tellM] at q
    walk_at "h"
    refine lc_map (f := PyData.str) (fun x => if x ≠ n then some (.str x) else none) (fun x hx P hP => ?_) ?_
    · walk_at "h"
      refine ite2b (fun h4 => ?_) fun h4 => ?_
      · walk_at "h"
        rw [if_pos (by simpa using h4)] at hP
        exact hP
      · rw [if_neg (by simpa using h4)] at hP
        exact hP
    · rw [fm_names]
      walk_at "h"
      exact q
  | enlist c n =>
    walk_at "h"
    refine ⟨_, _, _, _, rfl, rfl, rfl, ev, ?_⟩
    walk_at "h"
    refine ⟨fun Γ => Γ = [.sh (eSt s), .sh (eDeedB (.enlist c n)), .sh (eNames ns), .no], ?_, ?_⟩
    rotate_left
    · walk_at "h"
      rfl
    rintro _ rfl
    have er := valP_kv (f := eRound) s.rs n
    walk_at "h"
    refine ⟨fun Γ => (∃ r, Bk.get s.rs n = some r) ∧ Γ = [.sh (eSt s), .sh (eDeedB (.enlist c n)), .sh (eNames ns), .no], ?_, ?_⟩
    rotate_left
    · walk_at "h"
      rw [er]
      cases h : Bk.get s.rs n with
      | none =>
        refine iteTb rfl ?_
        simp only [memM, Bk.enlistM, h, tellM, Bk.Er.txt] at q
        walk_at "h"
        exact q
      | some r =>
        refine iteFb rfl ?_
        exact ⟨⟨r, rfl⟩, rfl⟩
    rintro _ ⟨⟨r, h⟩, rfl⟩
    rw [h] at er
    have b1 := hs.rd _ (Bk.get_mem h)
    have l1 := Bk.ok_len b1.1 b1.2.1
    simp only at l1
    have l2 : r.2.length ≤ 100000 := by omega
    walk_at "h"
    refine ⟨fun Γ => ¬ n ∈ ns ∧ Γ = [.sh (eSt s), .sh (eDeedB (.enlist c n)), .sh (eNames ns), .no], ?_, ?_⟩
    rotate_left
    · walk_at "h"
      refine ⟨_, _, _, _, rfl, rfl, rfl, scVs_strs _, ?_⟩
      walk_at "h"
      refine iteIn (inV_strs n ns) (fun h1 => ?_) fun h1 => ?_
      · simp only [memM, Bk.enlistM, h, if_pos h1, tellM, Bk.Er.txt] at q
        walk_at "h"
        exact q
      · exact ⟨h1, rfl⟩
    rintro _ ⟨h1, rfl⟩
    walk_at "h"
    refine ⟨fun Γ => ¬ 6 ≤ ns.length ∧ Γ = [.sh (eSt s), .sh (eDeedB (.enlist c n)), .sh (eNames ns), .no], ?_, ?_⟩
    rotate_left
    · walk_at "h"
      refine ite2b (fun h2 => ?_) fun h2 => ?_
      · have h3 : 6 ≤ ns.length := by have := of_decide_eq_true h2; rw [List.length_map] at this; omega
        simp only [memM, Bk.enlistM, h, if_neg h1, if_pos h3, tellM, Bk.Er.txt] at q
        walk_at "h"
        exact q
      · exact ⟨by have := of_decide_eq_false h2; rw [List.length_map] at this; omega, rfl⟩
    rintro _ ⟨h3, rfl⟩
    walk_at "h"
    refine ⟨fun Γ => Bk.okB 8 24 r = true ∧ Γ = [.sh (eSt s), .sh (eDeedB (.enlist c n)), .sh (eNames ns), .no], ?_, ?_⟩
    rotate_left
    · walk_at "h"
      refine ⟨_, _, _, _, rfl, rfl, rfl, er, ?_⟩
      walk_at "h"
      refine ite2b (fun h2 => ?_) fun h2 => ?_
      · have h4 : ¬ Bk.okB 8 24 r = true := by simpa using h2
        simp only [memM, Bk.enlistM, h, if_neg h1, if_neg h3, if_neg h4, tellM, Bk.Er.txt] at q
        walk_at "h"
        exact q
      · exact ⟨by simpa using h2, rfl⟩
    rintro _ ⟨h4, rfl⟩
    simp only [memM, Bk.enlistM, h, if_neg h1, if_neg h3, if_pos h4, tellM] at q
    walk_at "h"
    rw [eNames, List.map_append] at q
    exact q
  | _ => cases hM

end
end Law
namespace Law
open PySem PySem.Spec PyProof.Rows L2 Dk
section
variable {P : Program} {w : World} {K : Fg} {mg : Str → Option Value} {base : Heap}
set_option maxHeartbeats 4000000 in
theorem ok_l_draw_deeds (T : Txt K mg) : FnOk P w K mg base CX0 2 T.l_draw_deeds.f T.l_draw_deeds.fd ["_law_draw"] (RefFreshSp K IsDraw cDrawDeeds) := by
  refine refFresh_ok T.l_draw_deeds.F scL_draw_deeds (fun ds Qd h => by obtain ⟨rfl, _⟩ := h; rfl) fun cdv A outer s H E hr => ?_
  refine ⟨_, (pss_cons (ps_set (i := 1) scL_draw_deeds.nd rfl (.inl rfl) (pe_lst pa_nil))
        (pss_cons (ps_for PassesOwn.never rfl (pi_range1 rfl T.zrange (pa_cons (pe_call (ok_l_take T) (hr.mono (by decide)) (by rfl) T.l_take.m T.l_take.F.kp T.l_take.b .nil pass0 (pa_cons (pv 0) (pa_cons pe_int pa_nil))) pa_nil)) (pg_name (i := 2) scL_draw_deeds.nd rfl (.inl rfl)) (pss_cons (ps_set (i := 3) scL_draw_deeds.nd rfl (.inl rfl) (pe_ix (kixT K) (pe_tup (pa_cons pe_str (pa_cons pe_str (pa_cons pe_str pa_nil)))) (pe_call (ok_l_take T) (hr.mono (by decide)) (by rfl) T.l_take.m T.l_take.F.kp T.l_take.b .nil pass0 (pa_cons (pv 0) (pa_cons pe_int pa_nil))) (fun _ _ => rfl)))
        (pss_one (ps_expr (kbm K PySem.F.plainAttrs_list PySem.F.slot_list_append PySem.F.type_list_append mt_append (pv 1) (pa_cons (pe_tup (pa_cons (pv 3) (pa_cons (pe_op op_sub (pe_call (ok_l_take T) (hr.mono (by decide)) (by rfl) T.l_take.m T.l_take.F.kp T.l_take.b .nil pass0 (pa_cons (pv 0) (pa_cons pe_int pa_nil))) pe_int) pa_nil))) pa_nil))))))
        (pss_cons (ps_set (i := 4) scL_draw_deeds.nd rfl (.inl rfl) (pe_call (ok_l_take T) (hr.mono (by decide)) (by rfl) T.l_take.m T.l_take.F.kp T.l_take.b .nil pass0 (pa_cons (pv 0) (pa_cons pe_int pa_nil))))
        (pss_cons (ps_if (pt_cmpR op_eq (pv 4) pe_int (nomark _)) (pss_cons (ps_expr (kbm K PySem.F.plainAttrs_list PySem.F.slot_list_append PySem.F.type_list_append mt_append (pv 1) (pa_cons (pe_tup (pa_cons pe_str (pa_cons (pe_ix (kixT K) (pe_tup (pa_cons pe_int (pa_cons pe_int (pa_cons (pe_un un_neg pe_int) (pa_cons (pe_un un_neg pe_int) (pa_cons pe_int (pa_cons pe_int (pa_cons (pe_un un_neg pe_int) (pa_cons (pe_un un_neg pe_int) (pa_cons pe_int (pa_cons pe_int (pa_cons (pe_un un_neg pe_int) (pa_cons (pe_un un_neg pe_int) pa_nil))))))))))))) (pe_call (ok_l_take T) (hr.mono (by decide)) (by rfl) T.l_take.m T.l_take.F.kp T.l_take.b .nil pass0 (pa_cons (pv 0) (pa_cons pe_int pa_nil))) (fun _ _ => rfl)) pa_nil))) pa_nil)))
        (pss_cons (ps_expr (kbm K PySem.F.plainAttrs_list PySem.F.slot_list_append PySem.F.type_list_append mt_append (pv 1) (pa_cons (pe_tup (pa_cons pe_str (pa_cons (pe_call (ok_l_take T) (hr.mono (by decide)) (by rfl) T.l_take.m T.l_take.F.kp T.l_take.b .nil pass0 (pa_cons (pv 0) (pa_cons pe_int pa_nil))) pa_nil))) pa_nil)))
        (pss_one (ps_expr (kbm K PySem.F.plainAttrs_list PySem.F.slot_list_append PySem.F.type_list_append mt_append (pv 1) (pa_cons (pe_tup (pa_cons pe_str (pa_cons (pe_ix (kixT K) (pe_tup (pa_cons pe_int (pa_cons (pe_un un_neg pe_int) (pa_cons pe_int (pa_cons (pe_un un_neg pe_int) (pa_cons pe_int pa_nil)))))) (pe_call (ok_l_take T) (hr.mono (by decide)) (by rfl) T.l_take.m T.l_take.F.kp T.l_take.b .nil pass0 (pa_cons (pv 0) (pa_cons pe_int pa_nil))) (fun _ _ => rfl)) pa_nil))) pa_nil)))))) pss_nil)
        (pss_cons (ps_if (pt_cmpR op_eq (pv 4) pe_int (nomark _)) (pss_one (ps_expr (kbm K PySem.F.plainAttrs_list PySem.F.slot_list_insert PySem.F.type_list_insert b_insert (pv 1) (pa_cons (pe_call (ok_l_take T) (hr.mono (by decide)) (by rfl) T.l_take.m T.l_take.F.kp T.l_take.b .nil pass0 (pa_cons (pv 0) (pa_cons (pe_op op_add (pe_callB (klen K) (by rfl) T.zlen (by decide +kernel) (pa_cons (pv 1) pa_nil)) pe_int) pa_nil))) (pa_cons (pe_tup (pa_cons (pe_ix (kixT K) (pe_tup (pa_cons pe_str (pa_cons pe_str (pa_cons pe_str pa_nil)))) (pe_call (ok_l_take T) (hr.mono (by decide)) (by rfl) T.l_take.m T.l_take.F.kp T.l_take.b .nil pass0 (pa_cons (pv 0) (pa_cons pe_int pa_nil))) (fun _ _ => rfl)) (pa_cons pe_int pa_nil))) pa_nil))))) pss_nil)
        (pss_one (ps_ret (pv 1)))))))), ?_⟩
  walk_at "ss"
  rintro ds Qd ⟨rfl, q⟩
  refine ⟨[], .nil, ?_⟩
  walk_at "h"
  intro m m0 m1
  walk_at "h"
  refine ⟨_, _, _, rfl, ⟨m, rfl, by omega, by omega, rfl, rfl⟩, fun k Γ => ∃ (xs : List Wd2) (y2 y3 y4 : Sl), xs.length = k ∧ (∀ x ∈ xs, PyData.strOk x.1 = true) ∧ Γ = [.rf (.ab IsDraw), .ow (.lst (xs.map eWd)), y2, y3, y4], ⟨[], .no, .no, .no, rfl, (fun _ h => nomatch h), rfl⟩, ?_, ?_⟩
  · rintro k Γ hk ⟨xs, y2, y3, y4, hl, hx, rfl⟩
    have hk2 : k ≤ 60 := by omega
    have s1 : (xs.map eWd).length < sizeLine := small100000 (by rw [List.length_map]; omega)
    walk_at "h"
    intro r r0 r1
    obtain ⟨w, hw, hb⟩ := strs_at (ws := ["go", "turn", "turn"]) r0 r1
    have hok : PyData.strOk w = true := by
      have : ∀ w ∈ (["go", "turn", "turn"] : List Str), PyData.strOk w = true := by decide +kernel
      exact this w hw
    refine ⟨_, _, _, rfl, rfl, hb, ?_⟩
    walk_at "h"
    intro n n0 n1
    walk_at "h"
    refine ⟨xs ++ [(w, n - 3)], .sh (.int (0 + (k : Int))), .sh (.str w), y4, by simp [hl], fun x h => ?_, ?_⟩
    · rcases List.mem_append.mp h with h | h
      · exact hx x h
      · simp at h; rw [h]; exact hok
    · rw [List.map_append]
      rfl
  rintro Γ ⟨xs, y2, y3, y4, hl, hx, rfl⟩
  have hl2 : xs.length ≤ 60 := by omega
  clear hl m0 m1 m
  walk_at "h"
  intro r r0 r1
  walk_at "h"
  refine ⟨fun Γ => ∃ (xs : List Wd2) (y2 y3 : Sl), xs.length ≤ 100 ∧ (∀ x ∈ xs, PyData.strOk x.1 = true) ∧ Γ = [.rf (.ab IsDraw), .ow (.lst (xs.map eWd)), y2, y3, .sh (.int r)], ?_, ?_⟩
  case refine_2 =>
    have s1 : (xs.map eWd).length < sizeLine := small100000 (by rw [List.length_map]; omega)
    walk_at "h"
    refine ite2b (fun hz => ?_) fun hz => ⟨xs, y2, y3, by omega, hx, rfl⟩
    walk_at "h"
    intro t t0 t1
    obtain ⟨v, hv⟩ : ∃ v : Int, atI [PyData.int 8, .int 9, .int (-8), .int (-9), .int 24, .int 25, .int (-24), .int (-25), .int 200, .int 201, .int (-200), .int (-201)] t = some (.int v) := by
      have : t = 0 ∨ t = 1 ∨ t = 2 ∨ t = 3 ∨ t = 4 ∨ t = 5 ∨ t = 6 ∨ t = 7 ∨ t = 8 ∨ t = 9 ∨ t = 10 ∨ t = 11 := by omega
      rcases this with rfl | rfl | rfl | rfl | rfl | rfl | rfl | rfl | rfl | rfl | rfl | rfl <;> exact ⟨_, rfl⟩
    refine ⟨_, _, _, rfl, rfl, hv, ?_⟩
    walk_at "h"
    intro t2 t20 t21
    have s2 : (xs.map eWd ++ [PyData.tuple [.str "go", .int v]]).length < sizeLine := small100000 (by rw [List.length_append, List.length_map]; simp; omega)
    walk_at "h"
    intro t3 t30 t31
    obtain ⟨v3, hv3⟩ : ∃ v : Int, atI [PyData.int 0, .int (-25), .int 25, .int (-200), .int 200] t3 = some (.int v) := by
      have : t3 = 0 ∨ t3 = 1 ∨ t3 = 2 ∨ t3 = 3 ∨ t3 = 4 := by omega
      rcases this with rfl | rfl | rfl | rfl | rfl <;> exact ⟨_, rfl⟩
    refine ⟨_, _, _, rfl, rfl, hv3, ?_⟩
    have s3 : (xs.map eWd ++ [PyData.tuple [.str "go", .int v]] ++ [PyData.tuple [.str "turn", .int t2]]).length < sizeLine := small100000 (by rw [List.length_append, List.length_append, List.length_map]; simp; omega)
    walk_at "h"
    refine ⟨xs ++ [(("go" : Str), v)] ++ [(("turn" : Str), t2)] ++ [(("go" : Str), v3)], y2, y3, by simp; omega, fun x h => ?_, by rw [List.map_append, List.map_append, List.map_append]; rfl⟩
    have g1 : PyData.strOk ("go" : Str) = true := by decide +kernel
    have g2 : PyData.strOk ("turn" : Str) = true := by decide +kernel
    simp only [List.mem_append, List.mem_cons, List.not_mem_nil, or_false] at h
    rcases h with ((h | h) | h) | h
    · exact hx x h
    · rw [h]; exact g1
    · rw [h]; exact g2
    · rw [h]; exact g1
  clear y2 y3 y4 hx hl2 xs
  rintro Γ ⟨xs, y2, y3, hl2, hx, rfl⟩
  refine ⟨fun Γ => ∃ (xs : List Wd2) (y2 y3 y4 : Sl), xs.length ≤ 1000 ∧ (∀ x ∈ xs, PyData.strOk x.1 = true) ∧ Γ = [.rf (.ab IsDraw), .ow (.lst (xs.map eWd)), y2, y3, y4], ?_, ?_⟩
  case refine_2 =>
    have s1 : (xs.map eWd).length < sizeLine := small100000 (by rw [List.length_map]; omega)
    walk_at "h"
    refine ite2b (fun hz => ?_) fun hz => ⟨xs, y2, y3, _, by omega, hx, rfl⟩
    have c1 : (0 : Int) < ((xs.map eWd).length : Int) + 1 := by omega
    have c2 : ((xs.map eWd).length : Int) + 1 < 1073741824 := by rw [List.length_map]; omega
    iterate 4 walk_at "h1"
    refine ⟨_, _, rfl, rfl, _, .inr rfl, rfl, _, rfl, c1, c2, fun t t0 t1 => ?_⟩
    clear c1 c2
    walk_at "h"
    intro r3 r30 r31
    obtain ⟨w, hw, hb⟩ := strs_at (ws := ["", "Go", "turned"]) r30 r31
    have hok : PyData.strOk w = true := by
      have : ∀ w ∈ (["", "Go", "turned"] : List Str), PyData.strOk w = true := by decide +kernel
      exact this w hw
    refine ⟨_, _, _, rfl, rfl, hb, ?_⟩
    have t63 : t < 2 ^ 63 := by rw [List.length_map] at t1; omega
    walk_at "h"
    refine ⟨xs.take t.toNat ++ [(w, 1)] ++ xs.drop t.toNat, y2, y3, _, ?_, fun x h => ?_, by rw [List.map_append, List.map_append, List.map_take, List.map_drop]; rfl⟩
    · simp only [List.length_append, List.length_take, List.length_drop, List.length_cons, List.length_nil]
      omega
    · rcases List.mem_append.mp h with h | h
      · rcases List.mem_append.mp h with h | h
        · exact hx x (List.mem_of_mem_take h)
        · simp at h; rw [h]; exact hok
      · exact hx x (List.mem_of_mem_drop h)
  clear y2 y3 hx hl2 xs
  rintro Γ ⟨xs, y2, y3, y4, hl2, hx, rfl⟩
  walk_at "h"
  exact q xs hl2 hx

end
end Law
namespace Law
open PySem PySem.Spec PyProof.Rows L2 Dk
section
variable {P : Program} {w : World} {K : Fg} {mg : Str → Option Value} {base : Heap}
set_option maxHeartbeats 4000000 in
theorem ok_l_target (T : Txt K mg) : FnOk P w K mg base CX0 2 T.l_target.f T.l_target.fd ["_law_draw", "_law_names_here"] (RefSp K IsDraw cTarget) := by
  refine ref_ok T.l_target.F scL_target (fun ds Qd h => by obtain ⟨ns, rfl, _⟩ := h; rfl) fun cdv A outer s H E hr => ?_
  refine ⟨_, (pss_cons (ps_if (pt_cmpR op_eq (pe_call (ok_l_take T) (hr.mono (by decide)) (by rfl) T.l_take.m T.l_take.F.kp T.l_take.b .nil pass0 (pa_cons (pv 0) (pa_cons pe_int pa_nil))) pe_int (nomark _)) (pss_one (ps_ret (pe_ix (kixT K) (pe_tup (pa_cons pe_str (pa_cons pe_str (pa_cons pe_str (pa_cons pe_str (pa_cons pe_str (pa_cons pe_str (pa_cons pe_str (pa_cons pe_str (pa_cons pe_str (pa_cons pe_str pa_nil))))))))))) (pe_call (ok_l_take T) (hr.mono (by decide)) (by rfl) T.l_take.m T.l_take.F.kp T.l_take.b .nil pass0 (pa_cons (pv 0) (pa_cons pe_int pa_nil))) (fun _ _ => rfl)))) pss_nil)
        (pss_one (ps_ret (pe_ix (kixL K) (pv 1) (pe_call (ok_l_take T) (hr.mono (by decide)) (by rfl) T.l_take.m T.l_take.F.kp T.l_take.b .nil pass0 (pa_cons (pv 0) (pa_cons (pe_callB (klen K) (by rfl) T.zlen (by decide +kernel) (pa_cons (pv 1) pa_nil)) pa_nil))) (fun _ _ => rfl))))), ?_⟩
  walk_at "ss"
  rintro ds Qd ⟨ns, rfl, h0, h1, hn, q⟩
  refine ⟨[.ar (.list (ns.map .str))], .cons (.inl rfl) .nil, ?_⟩
  walk_at "g"
  intro r r0 r1
  walk_at "g"
  refine ite2b (fun hz => ?_) fun hz => ?_
  · walk_at "g"
    intro t t0 t1
    obtain ⟨w, hw, hat⟩ := strs_at (ws := ["", "A", "ab1", "a b", "abcdefghijklm", "~", "`a", "a{", "-", "aB"]) t0 t1
    have hok : nameOk w := by
      have : ∀ w ∈ (["", "A", "ab1", "a b", "abcdefghijklm", "~", "`a", "a{", "-", "aB"] : List Str), w.length ≤ 1000 ∧ PyData.strOk w = true := by decide +kernel
      exact this w hw
    refine ⟨_, _, _, rfl, rfl, hat, ?_⟩
    walk_at "g"
    exact q w hok
  · iterate 4 walk_at "g1"
    have c1 : (0 : Int) < ((ns.map PyData.str).length : Int) := by rw [List.length_map]; omega
    have c2 : ((ns.map PyData.str).length : Int) < 1073741824 := by rw [List.length_map]; omega
    refine ⟨_, .inr rfl, rfl, _, rfl, c1, c2, fun t t0 t1 => ?_⟩
    clear c1 c2
    rw [List.length_map] at t1
    obtain ⟨w, hw, hat⟩ := strs_at t0 t1
    refine ⟨_, _, _, rfl, rfl, hat, ?_⟩
    walk_at "g"
    exact q w (hn w hw)

end
end Law
namespace Law
open PySem PySem.Spec PyProof.Rows L2 Dk
section
variable {P : Program} {w : World} {K : Fg} {mg : Str → Option Value} {base : Heap}
set_option maxHeartbeats 4000000 in
theorem ok_l_is_pattern (T : Txt K mg) : FnOk P w K mg base CX0 2 T.l_is_pattern.f T.l_is_pattern.fd ["_law_p_here", "_law_thing"] (PureSp K cIsPattern) := by
  refine pure_ok T.l_is_pattern.F scL_is_pattern (fun ds Qd h => by obtain ⟨p, xs, rfl, _⟩ := h; rfl) fun cdv A outer s H E hr => ?_
  refine ⟨_, (pss_cons (ps_if (pt_not (pt_val (pe_callB (kisi K) (by rfl) T.zisinstance (by decide +kernel) (pa_cons (pv 1) (pa_cons (pe_bltn (v := .ty "tuple") (by rfl) T.ztuple (by decide +kernel) rfl) pa_nil))))) (pss_one (ps_ret pe_bl)) pss_nil)
        (pss_cons (ps_for PassesOwn.never rfl (pi_range1 rfl T.zrange (pa_cons (pe_callB (klen K) (by rfl) T.zlen (by decide +kernel) (pa_cons (pv 1) pa_nil)) pa_nil)) (pg_name (i := 2) scL_is_pattern.nd rfl (.inl rfl)) (pss_cons (ps_set (i := 3) scL_is_pattern.nd rfl (.inl rfl) (pe_ix (kixT K) (pv 1) (pv 2) (fun _ _ => rfl)))
        (pss_cons (ps_if (PW.pt (pw_or (pt_not (pt_val (pe_callB (kisi K) (by rfl) T.zisinstance (by decide +kernel) (pa_cons (pv 3) (pa_cons (pe_bltn (v := .ty "tuple") (by rfl) T.ztuple (by decide +kernel) rfl) pa_nil))))) (pw_or1 (pt_cmpR op_ne (pe_callB (klen K) (by rfl) T.zlen (by decide +kernel) (pa_cons (pv 3) pa_nil)) pe_int (nomark _))))) (pss_one (ps_ret pe_bl)) pss_nil)
        (pss_cons (ps_if (PW.pt (pw_or (pt_not (pt_val (pe_call (ok_l_int T) (hr.mono (by decide)) (by rfl) T.l_int.m T.l_int.F.kp T.l_int.b .nil pass0 (pa_cons (pe_ix (kixT K) (pv 3) pe_int (fun _ _ => rfl)) pa_nil)))) (pw_or (pt_not (pt_val (pe_call (ok_l_int T) (hr.mono (by decide)) (by rfl) T.l_int.m T.l_int.F.kp T.l_int.b .nil pass0 (pa_cons (pe_ix (kixT K) (pv 3) pe_int (fun _ _ => rfl)) pa_nil)))) (pw_or1 (pt_not (pt_chain op_lt op_lt pe_int (pe_ix (kixT K) (pv 3) pe_int (fun _ _ => rfl)) (pv 0))))))) (pss_one (ps_ret pe_bl)) pss_nil)
        (pss_one (ps_if (PW.pt (pw_and (pt_cmpR op_gt (pv 2) pe_int (nomark _)) (pw_and1 (pt_cmpR op_ge (pe_ix (kixT K) (pe_ix (kixT K) (pv 1) (pe_op op_sub (pv 2) pe_int) (fun _ _ => rfl)) pe_int (fun _ _ => rfl)) (pe_ix (kixT K) (pv 3) pe_int (fun _ _ => rfl)) (nomark _))))) (pss_one (ps_ret pe_bl)) pss_nil))))))
        (pss_one (ps_ret pe_bl)))), ?_⟩
  walk_at "ss"
  rintro ds Qd ⟨p, xs, rfl, hx, hl, q⟩
  refine ⟨[.sh (.int p), .sh (ePat xs)], .cons (.inr ⟨rfl, rfl⟩) (.cons (.inr ⟨rfl, ePat_tupO xs⟩) .nil), ?_⟩
  refine ⟨_, fun _ h => h, _, rfl, _, true, rfl, kb_tuple_tuple, _, rfl, iteF ?_⟩
  refine ⟨_, rfl, _, rfl, _, _, _, rfl, ⟨_, rfl, ?_, ?_, rfl, rfl⟩, fun k Γ => ∃ y2 y3, Γ = [.sh (.int p), .sh (ePat xs), y2, y3], ⟨.no, .no, rfl⟩, ?_, ?_⟩
  · rw [List.length_map]; omega
  · rw [List.length_map]; omega
  · rintro k Γ hk ⟨y2, y3, rfl⟩
    have hk' : k < xs.length := by simpa using hk
    have hat : atI (xs.map ePair) (0 + (k : Int)) = some (ePair xs[k]) := by
      rw [Int.zero_add]
      exact atI_nat (by rw [List.getElem?_map, List.getElem?_eq_getElem hk']; rfl)
    have hr := hx.rng xs[k] (List.getElem_mem hk')
    refine ⟨_, rfl, _, rfl, _, rfl, _, _, _, rfl, rfl, hat, _, rfl, ?_⟩
    refine ⟨_, fun _ h => h, _, rfl, _, true, rfl, kb_tuple_tuple, _, rfl, iteF ⟨_, rfl, _, rfl, _, _, _, rfl, rfl, rfl, _, rfl, iteF ?_⟩⟩
    refine ⟨_, fun _ h => h, _, rfl, _, _, _, rfl, rfl, rfl, _, rfl, _, rfl, (fun _ z => by cases z), _, rfl, iteF ?_⟩
    refine ⟨_, rfl, _, _, _, rfl, rfl, rfl, _, rfl, _, rfl, (fun _ z => by cases z), _, rfl, iteF ?_⟩
    refine ⟨_, rfl, _, _, _, rfl, rfl, rfl, _, _, rfl, rfl, fun _ => ⟨_, rfl, _, rfl, _, rfl, ?_⟩, fun z => absurd hr.1 (of_decide_eq_false z)⟩
    refine iteFb (by show (!decide (xs[k].2 < p)) = false; rw [decide_eq_true hr.2]; rfl) ⟨_, fun _ h => h, _, rfl, _, _, rfl, rfl, _, rfl, ite2 (fun e1 => ?_) fun e1 => iteF ⟨_, _, rfl⟩⟩
    have k0 : 0 < k := by
      have := of_decide_eq_true e1
      omega
    have hat' : atI (xs.map ePair) (0 + (k : Int) - 1) = some (ePair xs[k - 1]) := by
      rw [show (0 + (k : Int) - 1) = ((k - 1 : Nat) : Int) by omega]
      exact atI_nat (by rw [List.getElem?_map, List.getElem?_eq_getElem (by omega)]; rfl)
    have hlt : xs[k - 1].1 < xs[k].1 := List.pairwise_iff_getElem.mp hx.srt (k - 1) k (by omega) hk' (by omega)
    refine ⟨_, rfl, _, rfl, _, _, rfl, rfl, _, _, _, rfl, rfl, hat', _, _, _, rfl, rfl, rfl, _, rfl, _, _, _, rfl, rfl, rfl, _, _, rfl, rfl, _, rfl, ?_⟩
    exact iteFb (decide_eq_false (by show ¬ xs[k].1 ≤ xs[k - 1].1; omega)) ⟨_, _, rfl⟩
  · rintro Γ ⟨y2, y3, rfl⟩
    exact ⟨_, rfl, q⟩

end
end Law
namespace Law
open PySem PySem.Spec PyProof.Rows L2 Dk
section
variable {P : Program} {w : World} {K : Fg} {mg : Str → Option Value} {base : Heap}
set_option maxHeartbeats 4000000 in
theorem ok_l_book_text (T : Txt K mg) : FnOk P w K mg base CX0 2 T.l_book_text.f T.l_book_text.fd ["_law_p_here", "_law_stand"] (PureSp K cLBookText) := by
  refine pure_ok T.l_book_text.F scL_book_text (fun ds Qd h => by obtain ⟨p, s, m, rfl, _⟩ := h; rfl) fun cdv A outer s0 H E hr => ?_
  refine ⟨_, (pss_cons (ps_set (i := 2) scL_book_text.nd rfl (.inl rfl) (pe_lst (pa_cons (pe_op o_addS pe_str (pe_callTy b_str (by rfl) T.zstr (by decide +kernel) (pa_cons (pv 0) pa_nil))) pa_nil)))
        (pss_cons (ps_for PassesOwn.never rfl (kpil K (pe_callB (b_sortDS rfl) (by rfl) T.zsorted (by decide +kernel) (pa_cons (pe_ix (kixT K) (pv 1) pe_int (fun _ _ => rfl)) pa_nil))) (pg_name (i := 3) scL_book_text.nd rfl (.inl rfl)) (pss_one (ps_expr (kbm K PySem.F.plainAttrs_list PySem.F.slot_list_append PySem.F.type_list_append mt_append (pv 2) (pa_cons (pe_op o_addS (pe_op o_addS (pe_op o_addS pe_str (pv 3)) pe_str) (pe_call (ok_l_shown T) (hr.mono (by decide)) (by rfl) T.l_shown.m T.l_shown.F.kp T.l_shown.b .nil pass0 (pa_cons (pe_dget (hu_of hr) (pe_ix (kixT K) (pv 1) pe_int (fun _ _ => rfl)) (pv 3) (fun _ _ => rfl)) pa_nil))) pa_nil)))))
        (pss_cons (ps_for PassesOwn.never rfl (kpil K (pe_callB (b_sortDS rfl) (by rfl) T.zsorted (by decide +kernel) (pa_cons (pe_ix (kixT K) (pv 1) pe_int (fun _ _ => rfl)) pa_nil))) (pg_name (i := 4) scL_book_text.nd rfl (.inl rfl)) (pss_one (ps_expr (kbm K PySem.F.plainAttrs_list PySem.F.slot_list_append PySem.F.type_list_append mt_append (pv 2) (pa_cons (kjoin K pe_str (pe_op op_cat (pe_lst (pa_cons pe_str (pa_cons (pv 4) pa_nil))) (pe_callTy (klist K) (by rfl) T.zlist (by decide +kernel) (pa_cons (pe_dget (hu_of hr) (pe_ix (kixT K) (pv 1) pe_int (fun _ _ => rfl)) (pv 4) (fun _ _ => rfl)) pa_nil)))) pa_nil)))))
        (pss_one (ps_ret (kjoin K pe_str (pv 2))))))), ?_⟩
  walk_at "ss"
  rintro ds Qd ⟨p, s, m, rfl, hp, hs, hm, q⟩
  refine ⟨[.sh (.int p), .ar (eSt s)], .cons (.inr ⟨rfl, rfl⟩) (.cons (.inl rfl) .nil), ?_⟩
  have f0 : p.natAbs.log2 < 1920 := log_small (by rcases hp with rfl | rfl | rfl | rfl <;> decide)
  have f2 : (Str.ofString "settings ").length + (numS p).length ≤ sizeLine := by rw [litS]; have := numP_len hp; exact Nat.le_of_lt (small100000 (by omega))
  have l1 : s.rs.length < 64 := by have := hs.rl; omega
  have l2 : s.cs.length < 64 := by have := hs.cl; omega
  walk_at "h"
  refine ⟨_, _, _, rfl, kvsOf_kv _, kvK_keys _, by rw [List.length_map]; exact l1, fun ys y1 y2 => ?_⟩
  have hy : YsOk s.rs ys := ⟨y1, y2⟩
  have hyl := hy.len
  walk_at "h"
  refine for_pre (f := PyData.str) (fun pre Γ => ∃ y3 : Sl, Γ = [.sh (.int p), .ar (eSt s), .ow (.lst ((headB p :: rowRs s pre).map .str)), y3, .no]) ⟨.no, rfl⟩ ?_ ?_
  · rintro pre n post Γ e ⟨y3, rfl⟩
    obtain ⟨r, hr⟩ := hy.get (n := n) (by rw [e]; simp)
    have b1 := hs.rd _ (Bk.get_mem hr)
    have b2 := Bk.ok_len b1.1 b1.2.1
    have b3 := okB_plain hp b1.1 b1.2.1
    have b4 := textS_len b3 (by omega)
    have b5 := (nameB_ok b1.2.2).1
    simp only at b2 b3 b4 b5
    have b6 : r.2.length ≤ 1000 := by omega
    have g1 : (Str.ofString "round ").length + n.length ≤ sizeLine := by rw [litR]; exact Nat.le_of_lt (small100000 (by omega))
    have g2 : (Str.ofString "round " ++ n).length + (Str.ofString " ").length ≤ sizeLine := by rw [app_len, litR, litW]; exact Nat.le_of_lt (small100000 (by omega))
    have g3 : (Str.ofString "round " ++ n ++ Str.ofString " ").length + (textS r).length ≤ sizeLine := by rw [app_len, app_len, litR, litW]; exact Nat.le_of_lt (small100000 (by omega))
    have el := congrArg List.length e
    have g7 : ((headB p :: rowRs s pre).map PyData.str).length < sizeLine := by
      simp only [List.length_append, List.length_cons, List.length_map, rowRs] at el ⊢
      exact small100000 (by omega)
    have ev := valP_kv (f := eRound) s.rs n
    rw [hr] at ev
    walk_at "h"
    refine ⟨_, _, _, _, rfl, rfl, rfl, ev, ?_⟩
    walk_at "h"
    refine ⟨.sh (.str n), ?_⟩
    simp only [rowRs, List.map_append, List.map_cons, List.map_nil, hr, Option.getD_some]
    rfl
  rintro Γ ⟨y3, rfl⟩
  walk_at "h"
  refine ⟨_, _, _, rfl, kvsOf_kv _, kvK_keys _, by rw [List.length_map]; exact l2, fun zs z1 z2 => ?_⟩
  have hz : YsOk s.cs zs := ⟨z1, z2⟩
  have hzl := hz.len
  walk_at "h"
  refine for_pre (f := PyData.str) (fun pre Γ => ∃ y4 : Sl, Γ = [.sh (.int p), .ar (eSt s), .ow (.lst ((headB p :: rowRs s ys ++ rowCs s pre).map .str)), y3, y4]) ⟨.no, by simp [rowCs]⟩ ?_ ?_
  · rintro pre n post Γ e ⟨y4, rfl⟩
    obtain ⟨r, hr⟩ := hz.get (n := n) (by rw [e]; simp)
    have b1 := hs.cr _ (Bk.get_mem hr)
    have b5 := (nameB_ok b1.2.1).1
    have b6 := rowC_fit b5 b1.1 (fun n hn => (nameB_ok (b1.2.2 n hn)).1)
    have b7 := b1.1
    simp only at b5 b6 b7
    have b8 : r.length ≤ 100000 := by omega
    have el := congrArg List.length e
    have g7 : ((headB p :: rowRs s ys ++ rowCs s pre).map PyData.str).length < sizeLine := by
      simp only [List.length_append, List.length_cons, List.length_map, rowRs, rowCs] at el ⊢
      exact small100000 (by omega)
    have g8 : [PyData.str "crew", PyData.str n].length + (r.map PyData.str).length ≤ sizeLine := by
      simp only [List.length_cons, List.length_nil, List.length_map]
      exact Nat.le_of_lt (small100000 (by omega))
    have kt : tupOs (r.map PyData.str) = true := map_tupO (fun _ => rfl) r
    have ev := valP_kv (f := eNames) s.cs n
    rw [hr] at ev
    walk_at "h"
    refine ⟨_, _, _, _, rfl, rfl, rfl, ev, ?_⟩
    walk_at "h"
    refine ⟨[Str.ofString "crew", n] ++ r, by rw [List.map_append]; rfl, by omega, ?_⟩
    walk_at "h"
    refine ⟨.sh (.str n), ?_⟩
    simp only [rowCs, List.map_append, List.map_cons, List.map_nil, hr, Option.getD_some, List.append_assoc, List.cons_append]
    rfl
  rintro Γ ⟨y4, rfl⟩
  have hf := rows_fit hp hs hm hy hz
  walk_at "h"
  exact q ys zs hy hz

end
end Law
namespace Law
open PySem PySem.Spec PyProof.Rows L2 Dk
section
variable {P : Program} {w : World} {K : Fg} {mg : Str → Option Value} {base : Heap}
set_option maxHeartbeats 4000000 in
theorem ok_Book_checked (T : Txt K mg) : FnOk P w K mg base (L2.CX P w) 2 T.Book_checked.f T.Book_checked.fd ["self", "name"] (GSp K false (cChecked T.cBook.C (erC T))) := by
  refine genX_ok T.Book_checked.F scBook_checked (fun as Qd Qx h => by obtain ⟨p, b, n, z, rfl, _⟩ := h; rfl) fun cdv A outer s H E hr => ?_
  refine ⟨_, (pss_one (ps_if (pt_not (pt_val (pe_call (ok_good_name T) (hr.mono (by decide)) (by rfl) T.good_name.m T.good_name.F.kp T.good_name.b .nil pass0 (pa_cons (pv 1) pa_nil)))) (pss_one (ps_raiseD T.xBadName rfl (takes_of rfl rfl rfl rfl) (by rfl) rfl)) pss_nil)), ?_⟩
  walk_at "ss"
  rintro as Qd Qx ⟨p, b, n, z, rfl, hl, q1, q2⟩
  refine ⟨[.ro (bookO T.cBook.C p b), .sh (.str n)], .cons rfl (.cons (.inl ⟨rfl, .inr rfl⟩) .nil), ?_⟩
  walk_at "g"
  cases h : Bk.nameB n with
  | true =>
    refine iteFb rfl ?_
    walk_at "g"
    exact q1 h
  | false =>
    refine iteTb rfl ?_
    exact ⟨rfl, q2 h⟩

end
end Law
namespace Law
open PySem PySem.Spec PyProof.Rows L2 Dk
section
variable {P : Program} {w : World} {K : Fg} {mg : Str → Option Value} {base : Heap}
set_option maxHeartbeats 4000000 in
theorem ok_Book_keep (T : Txt K mg) : FnOk P w K mg base (L2.CX P w) 2 T.Book_keep.f T.Book_keep.fd ["self", "name", "one"] (GSp K true (cKeep T.cBook.C (erC T))) := by
  refine genX_ok T.Book_keep.F scBook_keep (fun as Qd Qx h => by obtain ⟨p, b, m, n, r, z1, z2, rfl, _⟩ := h; rfl) fun cdv A outer s H E hr => ?_
  refine ⟨_, (pss_cons (ps_if (PW.pt (pw_or (pt_not (pt_val (pe_call (ok_within_bounds T) (hr.mono (by decide)) (by rfl) T.within_bounds.m T.within_bounds.F.kp T.within_bounds.b .nil pass0 (pa_cons (pv 2) pa_nil)))) (pw_or1 (PW.pt (pw_and (pt_val (pe_meth (pv 0) T.cBook.cl T.Book_in_use.me (ok_Book_in_use T) (hr.mono (by decide)) T.Book_in_use.b .nil pass0 (pa_cons (pv 1) pa_nil))) (pw_and1 (pt_not (pt_val (pe_call (ok_near T) (hr.mono (by decide)) (by rfl) T.near.m T.near.F.kp T.near.b .nil pass0 (pa_cons (pv 2) pa_nil)))))))))) (pss_one (ps_raiseD T.xTooFar rfl (takes_of rfl rfl rfl rfl) (by rfl) rfl)) pss_nil)
        (pss_cons (ps_set (i := 3) scBook_keep.nd rfl (.inl rfl) (pe_callTy b_dict (by rfl) T.zdict (by decide +kernel) (pa_cons (pe_ix (kixT K) (kfld K (pv 0) rfl) pe_int (fun _ _ => rfl)) pa_nil)))
        (pss_cons (ps_dput (hu_of hr) (pv 3) (pv 1) (pv 2) rfl)
        (pss_one (ps_expr (pe_meth (pv 0) T.cBook.cl T.Book_done.me (ok_Book_done T) (hr.mono (by decide)) T.Book_done.b .nil pass0 (pa_cons (pz 3) (pa_cons (pe_ix (kixT K) (kfld K (pv 0) rfl) pe_int (fun _ _ => rfl)) pa_nil)))))))), ?_⟩
  walk_at "ss"
  rintro as Qd Qx ⟨p, b, m, n, r, z1, z2, rfl, hb, hm, hr2, q1, q2⟩
  refine ⟨[.rf (bookO T.cBook.C p b), .sh (.str n), .sh (eRound r)], .cons rfl (.cons (.inl ⟨rfl, .inr rfl⟩) (.cons (.inl ⟨rfl, .inr (eRound_tupO r)⟩) .nil)), ?_⟩
  have hcl : b.st.cs.length ≤ 100000 := by have := hb.st.cl; omega
  have hrl := hb.st.rl
  have hpl : b.past.length ≤ 100000 := by have := hb.pl; omega
  have hget : ∀ e ∈ b.st.cs, (Bk.get b.st.cs e.1).isSome = true := fun e he => Bk.get_some he
  have bad : Bk.farB b.st n r = true → Qx (erC T .tooFar) [bookO T.cBook.C p b] := fun h => q2 _ (by unfold Bk.keepS; rw [if_pos h])
  refine ⟨fun Γ => Bk.farB b.st n r = false ∧ Γ = [.rf (bookO T.cBook.C p b), .sh (.str n), .sh (eRound r), .no], ?_, ?_⟩
  · rintro Γ ⟨hf, rfl⟩
    have q := q1 ⟨Bk.put b.st.rs n r, b.st.cs⟩ (by unfold Bk.keepS; rw [if_neg (by rw [hf]; decide)])
    walk_at "g"
    refine ⟨_, _, rfl, kvsOf_kv _, trivial, ?_⟩
    have hl : (kvK eRound b.st.rs).length < sizeLine := small100000 (by rw [kvK_len]; omega)
    walk_at "g"
    rw [putD_kv, kvD_of]
    refine ⟨p, b, ⟨Bk.put b.st.rs n r, b.st.cs⟩, rfl, hpl, ?_⟩
    exact ⟨rfl, q⟩
  · walk_at "g"
    refine ite2b (fun h1 => ?_) fun h1 => ?_
    · refine iteTb rfl ?_
      exact ⟨rfl, bad (by unfold Bk.farB; rw [h1]; rfl)⟩
    walk_at "g"
    refine ite2b (fun h2 => ?_) fun h2 => ?_
    · walk_at "g"
      refine ite2b (fun h3 => ?_) fun h3 => ?_
      · exact ⟨rfl, bad (by unfold Bk.farB; rw [h1, h2, h3]; rfl)⟩
      · exact ⟨by unfold Bk.farB; rw [h1, h2, h3]; rfl, rfl⟩
    · refine iteFb rfl ?_
      exact ⟨by unfold Bk.farB; rw [h1, h2]; rfl, rfl⟩

end
end Law
namespace Law
open PySem PySem.Spec PyProof.Rows L2 Dk
section
variable {P : Program} {w : World} {K : Fg} {mg : Str → Option Value} {base : Heap}
set_option maxHeartbeats 4000000 in
theorem ok_Book_drop (T : Txt K mg) : FnOk P w K mg base (L2.CX P w) 2 T.Book_drop.f T.Book_drop.fd ["self", "name"] (GSp K true (cDrop T.cBook.C (erC T))) := by
  refine genX_ok T.Book_drop.F scBook_drop (fun as Qd Qx h => by obtain ⟨p, b, m, n, z1, rfl, _⟩ := h; rfl) fun cdv A outer s H E hr => ?_
  refine ⟨_, (pss_cons (ps_expr (pe_methE (pv 0) T.cBook.cl T.Book_named.me (ok_Book_named T) (hr.mono (by decide)) T.Book_named.b (fun σ => passAt (takes_of rfl rfl rfl rfl) σ) (pa_cons (pv 1) pa_nil)))
        (pss_cons (ps_if (pt_val (pe_meth (pv 0) T.cBook.cl T.Book_in_use.me (ok_Book_in_use T) (hr.mono (by decide)) T.Book_in_use.b .nil pass0 (pa_cons (pv 1) pa_nil))) (pss_one (ps_raiseD T.xInUse rfl (takes_of rfl rfl rfl rfl) (by rfl) rfl)) pss_nil)
        (pss_cons (ps_set (i := 2) scBook_drop.nd rfl (.inl rfl) (pe_callTy b_dict (by rfl) T.zdict (by decide +kernel) (pa_cons (pe_ix (kixT K) (kfld K (pv 0) rfl) pe_int (fun _ _ => rfl)) pa_nil)))
        (pss_cons (ps_expr (pe_dpop1 (pv 2) (pv 1) ⟨rfl, rfl, rfl, rfl⟩))
        (pss_one (ps_expr (pe_meth (pv 0) T.cBook.cl T.Book_done.me (ok_Book_done T) (hr.mono (by decide)) T.Book_done.b .nil pass0 (pa_cons (pz 2) (pa_cons (pe_ix (kixT K) (kfld K (pv 0) rfl) pe_int (fun _ _ => rfl)) pa_nil))))))))), ?_⟩
  walk_at "ss"
  rintro as Qd Qx ⟨p, b, m, n, z1, rfl, hb, hm, q1, q2⟩
  refine ⟨[.rf (bookO T.cBook.C p b), .sh (.str n)], .cons rfl (.cons (.inl ⟨rfl, .inr rfl⟩) .nil), ?_⟩
  have hcl : b.st.cs.length ≤ 100000 := by have := hb.st.cl; omega
  have hrl := hb.st.rl
  have hpl : b.past.length ≤ 100000 := by have := hb.pl; omega
  have hget : ∀ e ∈ b.st.cs, (Bk.get b.st.cs e.1).isSome = true := fun e he => Bk.get_some he
  walk_at "g"
  refine ⟨fun r hr => ?_, fun h1 => ⟨rfl, q2 _ (by simp only [Bk.dropS, h1])⟩⟩
  walk_at "g"
  refine ite2b (fun h2 => ?_) fun h2 => ?_
  · exact ⟨rfl, q2 .inUse (by simp only [Bk.dropS, hr, h2, if_true])⟩
  have q := q1 ⟨Bk.del b.st.rs n, b.st.cs⟩ (by simp only [Bk.dropS, hr, h2]; rfl)
  walk_at "g"
  refine ⟨_, _, rfl, kvsOf_kv _, trivial, ?_⟩
  have hv := valD_kv (f := eRound) b.st.rs n
  rw [hr] at hv
  walk_at "g"
  refine ⟨_, _, _, _, _, rfl, rfl, rfl, hv, ?_⟩
  rw [dropD_kv]
  walk_at "g"
  rw [kvD_of]
  refine ⟨p, b, ⟨Bk.del b.st.rs n, b.st.cs⟩, rfl, hpl, ?_⟩
  exact ⟨rfl, q⟩

end
end Law
namespace Law
open PySem PySem.Spec PyProof.Rows L2 Dk
section
variable {P : Program} {w : World} {K : Fg} {mg : Str → Option Value} {base : Heap}
set_option maxHeartbeats 4000000 in
theorem ok_Book_manned (T : Txt K mg) : FnOk P w K mg base CX0 2 T.Book_manned.f T.Book_manned.fd ["self", "crew", "names"] (GSp K true (cManned T.cBook.C)) := by
  refine gen_ok T.Book_manned.F scBook_manned (fun as Qd Qx h => by obtain ⟨p, b, m, c, ns, z1, z2, rfl, _⟩ := h; rfl) fun cdv A outer s H E hr => ?_
  refine ⟨_, (pss_cons (ps_set (i := 3) scBook_manned.nd rfl (.inl rfl) (pe_callTy b_dict (by rfl) T.zdict (by decide +kernel) (pa_cons (pe_ix (kixT K) (kfld K (pv 0) rfl) pe_int (fun _ _ => rfl)) pa_nil)))
        (pss_cons (ps_dput (hu_of hr) (pv 3) (pv 1) (pv 2) rfl)
        (pss_one (ps_expr (pe_meth (pv 0) T.cBook.cl T.Book_done.me (ok_Book_done T) (hr.mono (by decide)) T.Book_done.b .nil pass0 (pa_cons (pe_ix (kixT K) (kfld K (pv 0) rfl) pe_int (fun _ _ => rfl)) (pa_cons (pz 3) pa_nil))))))), ?_⟩
  walk_at "ss"
  rintro as Qd Qx ⟨p, b, m, c, ns, z1, z2, rfl, hb, hm, q⟩
  refine ⟨[.rf (bookO T.cBook.C p b), .sh (.str c), .sh (eNames ns)], .cons rfl (.cons (.inl ⟨rfl, .inr rfl⟩) (.cons (.inl ⟨rfl, .inr (eNames_tupO ns)⟩) .nil)), ?_⟩
  have hcl := hb.st.cl
  have hpl : b.past.length ≤ 100000 := by have := hb.pl; omega
  walk_at "g"
  refine ⟨_, _, rfl, kvsOf_kv _, trivial, ?_⟩
  have hl : (kvK eNames b.st.cs).length < sizeLine := small100000 (by rw [kvK_len]; omega)
  walk_at "g"
  rw [putD_kv, kvD_of]
  refine ⟨p, b, ⟨b.st.rs, Bk.put b.st.cs c ns⟩, rfl, hpl, ?_⟩
  exact ⟨rfl, q⟩

end
end Law
namespace Law
open PySem PySem.Spec PyProof.Rows L2 Dk
section
variable {P : Program} {w : World} {K : Fg} {mg : Str → Option Value} {base : Heap}
set_option maxHeartbeats 4000000 in
theorem ok_Book_disband (T : Txt K mg) : FnOk P w K mg base (L2.CX P w) 2 T.Book_disband.f T.Book_disband.fd ["self", "crew"] (GSp K true (cDisband T.cBook.C (erC T))) := by
  refine genX_ok T.Book_disband.F scBook_disband (fun as Qd Qx h => by obtain ⟨p, b, m, n, z1, rfl, _⟩ := h; rfl) fun cdv A outer s H E hr => ?_
  refine ⟨_, (pss_cons (ps_expr (pe_methE (pv 0) T.cBook.cl T.Book_crew_names.me (ok_Book_crew_names T) (hr.mono (by decide)) T.Book_crew_names.b (fun σ => passAt (takes_of rfl rfl rfl rfl) σ) (pa_cons (pv 1) pa_nil)))
        (pss_cons (ps_set (i := 2) scBook_disband.nd rfl (.inl rfl) (pe_callTy b_dict (by rfl) T.zdict (by decide +kernel) (pa_cons (pe_ix (kixT K) (kfld K (pv 0) rfl) pe_int (fun _ _ => rfl)) pa_nil)))
        (pss_cons (ps_expr (pe_dpop1 (pv 2) (pv 1) ⟨rfl, rfl, rfl, rfl⟩))
        (pss_one (ps_expr (pe_meth (pv 0) T.cBook.cl T.Book_done.me (ok_Book_done T) (hr.mono (by decide)) T.Book_done.b .nil pass0 (pa_cons (pe_ix (kixT K) (kfld K (pv 0) rfl) pe_int (fun _ _ => rfl)) (pa_cons (pz 2) pa_nil)))))))), ?_⟩
  walk_at "ss"
  rintro as Qd Qx ⟨p, b, m, n, z1, rfl, hb, hm, q1, q2⟩
  refine ⟨[.rf (bookO T.cBook.C p b), .sh (.str n)], .cons rfl (.cons (.inl ⟨rfl, .inr rfl⟩) .nil), ?_⟩
  have hpl : b.past.length ≤ 100000 := by have := hb.pl; omega
  walk_at "g"
  refine ⟨fun r hr => ?_, fun h1 => ⟨rfl, q2 _ (by simp only [Bk.disbandS, h1])⟩⟩
  have q := q1 ⟨b.st.rs, Bk.del b.st.cs n⟩ (by simp only [Bk.disbandS, hr])
  walk_at "g"
  refine ⟨_, _, rfl, kvsOf_kv _, trivial, ?_⟩
  have hv := valD_kv (f := eNames) b.st.cs n
  rw [hr] at hv
  walk_at "g"
  refine ⟨_, _, _, _, _, rfl, rfl, rfl, hv, ?_⟩
  rw [dropD_kv]
  walk_at "g"
  rw [kvD_of]
  refine ⟨p, b, ⟨b.st.rs, Bk.del b.st.cs n⟩, rfl, hpl, ?_⟩
  exact ⟨rfl, q⟩

end
end Law
namespace Law
open PySem PySem.Spec PyProof.Rows L2 Dk
section
variable {P : Program} {w : World} {K : Fg} {mg : Str → Option Value} {base : Heap}
set_option maxHeartbeats 4000000 in
theorem ok_Book_return_to (T : Txt K mg) : FnOk P w K mg base (L2.CX P w) 2 T.Book_return_to.f T.Book_return_to.fd ["self", "k"] (GSp K true (cReturnTo T.cBook.C (erC T))) := by
  refine genX_ok T.Book_return_to.F scBook_return_to (fun as Qd Qx h => by obtain ⟨p, b, m, k, z, rfl, _⟩ := h; rfl) fun cdv A outer s H E hr => ?_
  refine ⟨_, (pss_cons (ps_if (PW.pt (pw_or (pt_cmpR op_lt (pv 1) pe_int (nomark _)) (pw_or1 (pt_cmpR op_ge (pv 1) (pe_callB (klen K) (by rfl) T.zlen (by decide +kernel) (pa_cons (kfld K (pv 0) rfl) pa_nil)) (nomark _))))) (pss_one (ps_raiseD T.xNoState rfl (takes_of rfl rfl rfl rfl) (by rfl) rfl)) pss_nil)
        (pss_one (ps_expr (pe_meth (pv 0) T.cBook.cl T.Book_done.me (ok_Book_done T) (hr.mono (by decide)) T.Book_done.b .nil pass0 (pa_cons (pe_ix (kixT K) (pe_ix (kixL K) (kfld K (pv 0) rfl) (pv 1) (fun _ _ => rfl)) pe_int (fun _ _ => rfl)) (pa_cons (pe_ix (kixT K) (pe_ix (kixL K) (kfld K (pv 0) rfl) (pv 1) (fun _ _ => rfl)) pe_int (fun _ _ => rfl)) pa_nil)))))), ?_⟩
  walk_at "ss"
  rintro as Qd Qx ⟨p, b, m, k, z, rfl, hb, hm, q1, q2⟩
  refine ⟨[.rf (bookO T.cBook.C p b), .sh (.int k)], .cons rfl (.cons (.inl ⟨rfl, .inr rfl⟩) .nil), ?_⟩
  have hpl : b.past.length ≤ 100000 := by have := hb.pl; omega
  walk_at "g"
  refine ite2b (fun h1 => ?_) fun h1 => ?_
  · refine iteTb rfl ?_
    exact ⟨rfl, q2 .noState (by simp only [Bk.doB]; rw [if_pos (of_decide_eq_true h1)])⟩
  have k0 : ¬ k < 0 := of_decide_eq_false h1
  walk_at "g"
  rw [List.length_map]
  refine ite2b (fun h2 => ?_) fun h2 => ?_
  · have e : b.held[k.toNat]? = none := List.getElem?_eq_none (by have := of_decide_eq_true h2; omega)
    exact ⟨rfl, q2 .noState (by simp only [Bk.doB]; rw [if_neg k0, e])⟩
  have k1 : k.toNat < b.held.length := by have := of_decide_eq_false h2; omega
  have e : b.held[k.toNat]? = some b.held[k.toNat] := List.getElem?_eq_getElem k1
  generalize b.held[k.toNat] = s at e
  have q := q1 none (b.stand s) (by simp only [Bk.doB]; rw [if_neg k0, e])
  have hat : atI (b.held.map eSt) k = some (eSt s) := by
    obtain ⟨j, rfl⟩ : ∃ j : Nat, k = (j : Int) := ⟨k.toNat, by omega⟩
    refine atI_nat ?_
    rw [List.getElem?_map]
    rw [Int.toNat_natCast] at e
    rw [e]
    rfl
  walk_at "g"
  refine ⟨_, _, _, rfl, rfl, hat, ?_⟩
  walk_at "g"
  refine ⟨_, _, _, rfl, rfl, hat, ?_⟩
  walk_at "g"
  exact q

end
end Law
namespace Law
open PySem PySem.Spec PyProof.Rows L2 Dk
section
variable {P : Program} {w : World} {K : Fg} {mg : Str → Option Value} {base : Heap}
set_option maxHeartbeats 4000000 in
theorem ok_Book_round_of (T : Txt K mg) : FnOk P w K mg base (L2.CX P w) 2 T.Book_round_of.f T.Book_round_of.fd ["self", "name"] (GSp K false (cNamed T.cBook.C (erC T))) := by
  refine genX_ok T.Book_round_of.F scBook_round_of (fun as Qd Qx h => by obtain ⟨p, b, n, z, rfl, _⟩ := h; rfl) fun cdv A outer s H E hr => ?_
  refine ⟨_, (pss_one (ps_ret (pe_methE (pv 0) T.cBook.cl T.Book_named.me (ok_Book_named T) (hr.mono (by decide)) T.Book_named.b (fun σ => passAt (takes_of rfl rfl rfl rfl) σ) (pa_cons (pv 1) pa_nil)))), ?_⟩
  walk_at "ss"
  rintro as Qd Qx ⟨p, b, n, z, rfl, q1, q2⟩
  refine ⟨[.ro (bookO T.cBook.C p b), .sh (.str n)], .cons rfl (.cons (.inl ⟨rfl, .inr rfl⟩) .nil), ?_⟩
  walk_at "g"
  refine ⟨fun r h => ?_, fun h => ?_⟩
  · walk_at "g"
    exact q1 r h
  · exact ⟨rfl, q2 h⟩

end
end Law
namespace Law
open PySem PySem.Spec PyProof.Rows L2 Dk
section
variable {P : Program} {w : World} {K : Fg} {mg : Str → Option Value} {base : Heap}
set_option maxHeartbeats 4000000 in
theorem ok_Book_members (T : Txt K mg) : FnOk P w K mg base (L2.CX P w) 2 T.Book_members.f T.Book_members.fd ["self", "crew"] (GSp K false (cMembers T.cBook.C (erC T))) := by
  refine genX_ok T.Book_members.F scBook_members (fun as Qd Qx h => by obtain ⟨p, b, n, z, rfl, _⟩ := h; rfl) fun cdv A outer s H E hr => ?_
  refine ⟨_, (pss_one (ps_ret (pe_callTy (klist K) (by rfl) T.zlist (by decide +kernel) (pa_cons (pe_methE (pv 0) T.cBook.cl T.Book_crew_names.me (ok_Book_crew_names T) (hr.mono (by decide)) T.Book_crew_names.b (fun σ => passAt (takes_of rfl rfl rfl rfl) σ) (pa_cons (pv 1) pa_nil)) pa_nil)))), ?_⟩
  walk_at "ss"
  rintro as Qd Qx ⟨p, b, n, z, rfl, q1, q2⟩
  refine ⟨[.ro (bookO T.cBook.C p b), .sh (.str n)], .cons rfl (.cons (.inl ⟨rfl, .inr rfl⟩) .nil), ?_⟩
  walk_at "g"
  refine ⟨fun r h => ?_, fun h => ?_⟩
  · walk_at "g"
    exact (q1 r h).2
  · exact ⟨rfl, q2 h⟩

end
end Law
namespace Law
open PySem PySem.Spec PyProof.Rows L2 Dk
section
variable {P : Program} {w : World} {K : Fg} {mg : Str → Option Value} {base : Heap}
set_option maxHeartbeats 4000000 in
theorem ok_joined (T : Txt K mg) : FnOk P w K mg base CX0 3 T.joined.f T.joined.fd ["p", "one", "other"] (PureSp K cJoin) := by
  refine pure_ok T.joined.F scJoined (fun ds Qd h => by obtain ⟨p, a, b, rfl, _⟩ := h; rfl) fun cdv A outer s H E hr => ?_
  refine ⟨_, (pss_one (ps_ret (pe_tup (pa_cons (pe_op op_add (pe_ix (kixT K) (pv 1) pe_int (fun _ _ => rfl)) (pe_ix (kixT K) (pv 2) pe_int (fun _ _ => rfl))) (pa_cons (pe_call (ok_added T) (hr.mono (by decide)) (by rfl) T.added.m T.added.F.kp T.added.b .nil pass0 (pa_cons (pv 0) (pa_cons (pe_ix (kixT K) (pv 1) pe_int (fun _ _ => rfl)) (pa_cons (pe_call (ok_moved T) (hr.mono (by decide)) (by rfl) T.moved.m T.moved.F.kp T.moved.b .nil pass0 (pa_cons (pe_ix (kixT K) (pv 2) pe_int (fun _ _ => rfl)) (pa_cons (pe_ix (kixT K) (pv 1) pe_int (fun _ _ => rfl)) pa_nil))) pa_nil)))) pa_nil))))), ?_⟩
  walk_at "ss"
  rintro ds Qd ⟨p, ⟨a, xs⟩, ⟨b, ys⟩, rfl, hp, hx, hy, q⟩
  refine ⟨[.sh (.int p), .sh (eRound (a, xs)), .sh (eRound (b, ys))], .cons (.inr ⟨rfl, rfl⟩) (.cons (.inr ⟨rfl, eRound_tupO _⟩) (.cons (.inr ⟨rfl, eRound_tupO _⟩) .nil)), ?_⟩
  simp only at hx hy
  have hl := Pt.moved_len ys a
  walk_at "g"
  exact q

end
end Law
namespace Law
open PySem PySem.Spec PyProof.Rows L2 Dk
section
variable {P : Program} {w : World} {K : Fg} {mg : Str → Option Value} {base : Heap}
set_option maxHeartbeats 4000000 in
theorem ok_backward (T : Txt K mg) : FnOk P w K mg base CX0 3 T.backward.f T.backward.fd ["p", "one"] (PureSp K cInv) := by
  refine pure_ok T.backward.F scBackward (fun ds Qd h => by obtain ⟨p, a, rfl, _⟩ := h; rfl) fun cdv A outer s H E hr => ?_
  refine ⟨_, (pss_one (ps_ret (pe_tup (pa_cons (pe_un un_neg (pe_ix (kixT K) (pv 1) pe_int (fun _ _ => rfl))) (pa_cons (pe_call (ok_timed T) (hr.mono (by decide)) (by rfl) T.timed.m T.timed.F.kp T.timed.b .nil pass0 (pa_cons (pv 0) (pa_cons (pe_call (ok_moved T) (hr.mono (by decide)) (by rfl) T.moved.m T.moved.F.kp T.moved.b .nil pass0 (pa_cons (pe_ix (kixT K) (pv 1) pe_int (fun _ _ => rfl)) (pa_cons (pe_un un_neg (pe_ix (kixT K) (pv 1) pe_int (fun _ _ => rfl))) pa_nil))) (pa_cons (pe_un un_neg pe_int) pa_nil)))) pa_nil))))), ?_⟩
  walk_at "ss"
  rintro ds Qd ⟨p, ⟨a, xs⟩, rfl, hp, hx, q⟩
  refine ⟨[.sh (.int p), .sh (eRound (a, xs))], .cons (.inr ⟨rfl, rfl⟩) (.cons (.inr ⟨rfl, eRound_tupO _⟩) .nil), ?_⟩
  simp only at hx
  have hl := Pt.moved_len xs (-a)
  have hm : ∀ x ∈ Pt.moved xs (-a), CMul x.2 (-1) := fun _ _ => .inr ⟨by decide, by decide⟩
  walk_at "g"
  exact q

end
end Law
namespace Law
open PySem PySem.Spec PyProof.Rows L2 Dk
section
variable {P : Program} {w : World} {K : Fg} {mg : Str → Option Value} {base : Heap}
set_option maxHeartbeats 4000000 in
theorem ok_book_text (T : Txt K mg) : FnOk P w K mg base CX0 3 T.book_text.f T.book_text.fd ["book"] (GSp K false (cBookText T.cBook.C)) := by
  refine gen_ok T.book_text.F scBook_text (fun as Qd Qx h => by obtain ⟨p, b, m, rfl, _⟩ := h; rfl) fun cdv A outer s H E hr => ?_
  refine ⟨_, (pss_cons (ps_set (i := 1) scBook_text.nd rfl (.inl rfl) (pe_lst (pa_cons (pe_op o_addS pe_str (pe_callTy b_str (by rfl) T.zstr (by decide +kernel) (pa_cons (pe_meth0 (pv 0) T.cBook.cl T.Book_settings.me (ok_Book_settings T) (hr.mono (by decide)) T.Book_settings.b .nil pass0) pa_nil))) pa_nil)))
        (pss_cons (ps_for PassesOwn.never rfl (kpil K (pe_meth0 (pv 0) T.cBook.cl T.Book_names.me (ok_Book_names T) (hr.mono (by decide)) T.Book_names.b .nil pass0)) (pg_name (i := 2) scBook_text.nd rfl (.inl rfl)) (pss_one (ps_expr (kbm K PySem.F.plainAttrs_list PySem.F.slot_list_append PySem.F.type_list_append mt_append (pv 1) (pa_cons (pe_op o_addS (pe_op o_addS (pe_op o_addS pe_str (pv 2)) pe_str) (pe_call (ok_shown T) (hr.mono (by decide)) (by rfl) T.shown.m T.shown.F.kp T.shown.b .nil pass0 (pa_cons (pe_meth (pv 0) T.cBook.cl T.Book_round_of.me (ok_Book_round_of T) (hr.mono (by decide)) T.Book_round_of.b .nil passL (pa_cons (pv 2) pa_nil)) pa_nil))) pa_nil)))))
        (pss_cons (ps_for PassesOwn.never rfl (kpil K (pe_meth0 (pv 0) T.cBook.cl T.Book_crews.me (ok_Book_crews T) (hr.mono (by decide)) T.Book_crews.b .nil pass0)) (pg_name (i := 2) scBook_text.nd rfl (.inl rfl)) (pss_one (ps_expr (kbm K PySem.F.plainAttrs_list PySem.F.slot_list_append PySem.F.type_list_append mt_append (pv 1) (pa_cons (kjoin K pe_str (pe_op op_cat (pe_lst (pa_cons pe_str (pa_cons (pv 2) pa_nil))) (pe_meth (pv 0) T.cBook.cl T.Book_members.me (ok_Book_members T) (hr.mono (by decide)) T.Book_members.b .nil passL (pa_cons (pv 2) pa_nil)))) pa_nil)))))
        (pss_one (ps_ret (kjoin K pe_str (pv 1))))))), ?_⟩
  walk_at "ss"
  rintro as Qd Qx ⟨p, b, m, rfl, hp, hs, hm, q⟩
  refine ⟨[.ro (bookO T.cBook.C p b)], .cons rfl .nil, ?_⟩
  have f0 : p.natAbs.log2 < 1920 := log_small (by rcases hp with rfl | rfl | rfl | rfl <;> decide)
  have f2 : (Str.ofString "settings ").length + (numS p).length ≤ sizeLine := by rw [litS]; have := numP_len hp; exact Nat.le_of_lt (small100000 (by omega))
  have l1 : b.st.rs.length < 64 := by have := hs.rl; omega
  have l2 : b.st.cs.length < 64 := by have := hs.cl; omega
  walk_at "h"
  intro ys y1 y2
  have hy : YsOk b.st.rs ys := ⟨y1, y2⟩
  have hyl := hy.len
  walk_at "h"
  refine for_pre (f := PyData.str) (fun pre Γ => ∃ y2 : Sl, Γ = [.ro (bookO T.cBook.C p b), .ow (.lst ((headB p :: rowRs b.st pre).map .str)), y2]) ⟨.no, rfl⟩ ?_ ?_
  · rintro pre n post Γ e ⟨y2, rfl⟩
    obtain ⟨r, hr⟩ := hy.get (n := n) (by rw [e]; simp)
    have b1 := hs.rd _ (Bk.get_mem hr)
    have b2 := Bk.ok_len b1.1 b1.2.1
    have b3 := okB_plain hp b1.1 b1.2.1
    have b4 := textS_len b3 (by omega)
    have b5 := (nameB_ok b1.2.2).1
    simp only at b2 b3 b4 b5
    have b6 : r.2.length ≤ 1000 := by omega
    have g1 : (Str.ofString "round ").length + n.length ≤ sizeLine := by rw [litR]; exact Nat.le_of_lt (small100000 (by omega))
    have g2 : (Str.ofString "round " ++ n).length + (Str.ofString " ").length ≤ sizeLine := by rw [app_len, litR, litW]; exact Nat.le_of_lt (small100000 (by omega))
    have g3 : (Str.ofString "round " ++ n ++ Str.ofString " ").length + (textS r).length ≤ sizeLine := by rw [app_len, app_len, litR, litW]; exact Nat.le_of_lt (small100000 (by omega))
    have el := congrArg List.length e
    have g7 : ((headB p :: rowRs b.st pre).map PyData.str).length < sizeLine := by
      simp only [List.length_append, List.length_cons, List.length_map, rowRs] at el ⊢
      exact small100000 (by omega)
    walk_at "h"
    refine ⟨fun r' hr' => ?_, fun hn => by rw [hr] at hn; cases hn⟩
    rw [hr] at hr'
    cases hr'
    walk_at "h"
    refine ⟨.sh (.str n), ?_⟩
    simp only [rowRs, List.map_append, List.map_cons, List.map_nil, hr, Option.getD_some]
    rfl
  rintro Γ ⟨y2, rfl⟩
  walk_at "h"
  intro zs z1 z2
  have hz : YsOk b.st.cs zs := ⟨z1, z2⟩
  have hzl := hz.len
  walk_at "h"
  refine for_pre (f := PyData.str) (fun pre Γ => ∃ y2 : Sl, Γ = [.ro (bookO T.cBook.C p b), .ow (.lst ((headB p :: rowRs b.st ys ++ rowCs b.st pre).map .str)), y2]) ⟨y2, by simp only [rowCs, List.map_nil, List.append_nil]; rfl⟩ ?_ ?_
  · rintro pre n post Γ e ⟨y2, rfl⟩
    obtain ⟨r, hr⟩ := hz.get (n := n) (by rw [e]; simp)
    have b1 := hs.cr _ (Bk.get_mem hr)
    have b5 := (nameB_ok b1.2.1).1
    have b6 := rowC_fit b5 b1.1 (fun n hn => (nameB_ok (b1.2.2 n hn)).1)
    have b7 := b1.1
    simp only at b5 b6 b7
    have b8 : r.length ≤ 100000 := by omega
    have el := congrArg List.length e
    have g7 : ((headB p :: rowRs b.st ys ++ rowCs b.st pre).map PyData.str).length < sizeLine := by
      simp only [List.length_append, List.length_cons, List.length_map, rowRs, rowCs] at el ⊢
      exact small100000 (by omega)
    have g8 : [PyData.str "crew", PyData.str n].length + (r.map PyData.str).length ≤ sizeLine := by
      simp only [List.length_cons, List.length_nil, List.length_map]
      exact Nat.le_of_lt (small100000 (by omega))
    walk_at "h"
    refine ⟨fun r' hr' => ?_, fun hn => by rw [hr] at hn; cases hn⟩
    rw [hr] at hr'
    cases hr'
    refine ⟨b8, ?_⟩
    walk_at "h"
    refine ⟨[Str.ofString "crew", n] ++ r, by rw [List.map_append]; rfl, by omega, ?_⟩
    walk_at "h"
    refine ⟨.sh (.str n), ?_⟩
    simp only [rowCs, List.map_append, List.map_cons, List.map_nil, hr, Option.getD_some, List.append_assoc, List.cons_append]
    rfl
  rintro Γ ⟨y2, rfl⟩
  have hf := rows_fit hp hs hm hy hz
  walk_at "h"
  exact q ys zs hy hz

end
end Law
namespace Law
open PySem PySem.Spec PyProof.Rows L2 Dk
section
variable {P : Program} {w : World} {K : Fg} {mg : Str → Option Value} {base : Heap}
set_option maxHeartbeats 4000000 in
theorem ok_l_join (T : Txt K mg) : FnOk P w K mg base CX0 3 T.l_join.f T.l_join.fd ["_law_p_here", "_law_one", "_law_other"] (PureSp K cJoin) := by
  refine pure_ok T.l_join.F scL_join (fun ds Qd h => by obtain ⟨p, a, b, rfl, _⟩ := h; rfl) fun cdv A outer s H E hr => ?_
  refine ⟨_, (pss_one (ps_ret (pe_tup (pa_cons (pe_op op_add (pe_ix (kixT K) (pv 1) pe_int (fun _ _ => rfl)) (pe_ix (kixT K) (pv 2) pe_int (fun _ _ => rfl))) (pa_cons (pe_call (ok_l_sum T) (hr.mono (by decide)) (by rfl) T.l_sum.m T.l_sum.F.kp T.l_sum.b .nil pass0 (pa_cons (pv 0) (pa_cons (pe_ix (kixT K) (pv 1) pe_int (fun _ _ => rfl)) (pa_cons (pe_ix (kixT K) (pv 2) pe_int (fun _ _ => rfl)) (pa_cons (pe_ix (kixT K) (pv 1) pe_int (fun _ _ => rfl)) (pa_cons pe_int pa_nil)))))) pa_nil))))), ?_⟩
  walk_at "ss"
  rintro ds Qd ⟨p, ⟨a, xs⟩, ⟨b, ys⟩, rfl, hp, hx, hy, q⟩
  refine ⟨[.sh (.int p), .sh (eRound (a, xs)), .sh (eRound (b, ys))], .cons (.inr ⟨rfl, rfl⟩) (.cons (.inr ⟨rfl, eRound_tupO _⟩) (.cons (.inr ⟨rfl, eRound_tupO _⟩) .nil)), ?_⟩
  simp only at hx hy
  have hm : ∀ x ∈ ys, CMul x.2 1 := fun _ _ => .inr ⟨by decide, by decide⟩
  have e : (ys.map fun y => (y.1 + a, y.2 * 1)) = Pt.moved ys a := by simp only [Int.mul_one]; rfl
  walk_at "g"
  rw [e]
  walk_at "g"
  exact q

end
end Law
namespace Law
open PySem PySem.Spec PyProof.Rows L2 Dk
section
variable {P : Program} {w : World} {K : Fg} {mg : Str → Option Value} {base : Heap}
set_option maxHeartbeats 4000000 in
theorem ok_l_back (T : Txt K mg) : FnOk P w K mg base CX0 3 T.l_back.f T.l_back.fd ["_law_p_here", "_law_one"] (PureSp K cInv) := by
  refine pure_ok T.l_back.F scL_back (fun ds Qd h => by obtain ⟨p, a, rfl, _⟩ := h; rfl) fun cdv A outer s H E hr => ?_
  refine ⟨_, (pss_one (ps_ret (pe_tup (pa_cons (pe_un un_neg (pe_ix (kixT K) (pv 1) pe_int (fun _ _ => rfl))) (pa_cons (pe_call (ok_l_sum T) (hr.mono (by decide)) (by rfl) T.l_sum.m T.l_sum.F.kp T.l_sum.b .nil pass0 (pa_cons (pv 0) (pa_cons (pe_tup pa_nil) (pa_cons (pe_ix (kixT K) (pv 1) pe_int (fun _ _ => rfl)) (pa_cons (pe_un un_neg (pe_ix (kixT K) (pv 1) pe_int (fun _ _ => rfl))) (pa_cons (pe_un un_neg pe_int) pa_nil)))))) pa_nil))))), ?_⟩
  walk_at "ss"
  rintro ds Qd ⟨p, ⟨a, xs⟩, rfl, hp, hx, q⟩
  refine ⟨[.sh (.int p), .sh (eRound (a, xs))], .cons (.inr ⟨rfl, rfl⟩) (.cons (.inr ⟨rfl, eRound_tupO _⟩) .nil), ?_⟩
  simp only at hx
  have hm : ∀ x ∈ xs, CMul x.2 (-1) := fun _ _ => .inr ⟨by decide, by decide⟩
  have e : Pt.tidy p ([] ++ xs.map fun y => (y.1 + -a, y.2 * -1)) = (Rd.inv p (a, xs)).2 := by
    simp only [Rd.inv, Pt.timed, Pt.moved, List.map_map, List.nil_append]
    rfl
  walk_at "g"
  refine ⟨p, [], xs, -a, -1, rfl, hp, by decide, by omega, hm, ?_⟩
  rw [e]
  walk_at "g"
  exact q

end
end Law
namespace Law
open PySem PySem.Spec PyProof.Rows L2 Dk
section
variable {P : Program} {w : World} {K : Fg} {mg : Str → Option Value} {base : Heap}
set_option maxHeartbeats 4000000 in
theorem ok_l_due_crew (T : Txt K mg) : FnOk P w K mg base CX0 3 T.l_due_crew.f T.l_due_crew.fd ["_law_stand", "_law_deed"] (GSp K false cDueC) := by
  refine gen_ok T.l_due_crew.F scL_due_crew (fun as Qd Qx h => by obtain ⟨p, m, s, d, rfl, _⟩ := h; rfl) fun cdv A outer s H E hr => ?_
  refine ⟨_, (pss_cons (ps_set (i := 2) scL_due_crew.nd rfl (.inl rfl) (pe_callTy b_dict (by rfl) T.zdict (by decide +kernel) (pa_cons (pe_ix (kixT K) (pv 0) pe_int (fun _ _ => rfl)) pa_nil)))
        (pss_cons (ps_if (pt_cmpR op_eq (pe_ix (kixT K) (pv 1) pe_int (fun _ _ => rfl)) pe_str (nomark _)) (pss_cons (ps_if (pt_not (pt_val (pe_call (ok_l_is_name T) (hr.mono (by decide)) (by rfl) T.l_is_name.m T.l_is_name.F.kp T.l_is_name.b .nil pass0 (pa_cons (pe_ix (kixT K) (pv 1) pe_int (fun _ _ => rfl)) pa_nil)))) (pss_one (ps_ret (pe_tup (pa_cons pe_str (pa_cons (pv 0) pa_nil))))) pss_nil)
        (pss_cons (ps_if (pt_cmp (pc_din (hu_of hr) (pe_ix (kixT K) (pv 1) pe_int (fun _ _ => rfl)) (pv 2))) (pss_one (ps_ret (pe_tup (pa_cons pe_str (pa_cons (pv 0) pa_nil))))) pss_nil)
        (pss_cons (ps_dput (hu_of hr) (pv 2) (pe_ix (kixT K) (pv 1) pe_int (fun _ _ => rfl)) (pe_tup pa_nil) rfl)
        (pss_one (ps_ret (pe_tup (pa_cons pe_str (pa_cons (pe_tup (pa_cons (pe_ix (kixT K) (pv 0) pe_int (fun _ _ => rfl)) (pa_cons (pz 2) pa_nil))) pa_nil)))))))) pss_nil)
        (pss_cons (ps_if (pt_cmp (pc_dnotin (hu_of hr) (pe_ix (kixT K) (pv 1) pe_int (fun _ _ => rfl)) (pv 2))) (pss_one (ps_ret (pe_tup (pa_cons pe_str (pa_cons (pv 0) pa_nil))))) pss_nil)
        (pss_cons (ps_if (pt_cmpR op_eq (pe_ix (kixT K) (pv 1) pe_int (fun _ _ => rfl)) pe_str (nomark _)) (pss_cons (ps_expr (pe_dpop1 (pv 2) (pe_ix (kixT K) (pv 1) pe_int (fun _ _ => rfl)) ⟨rfl, rfl, rfl, rfl⟩))
        (pss_one (ps_ret (pe_tup (pa_cons pe_str (pa_cons (pe_tup (pa_cons (pe_ix (kixT K) (pv 0) pe_int (fun _ _ => rfl)) (pa_cons (pz 2) pa_nil))) pa_nil)))))) pss_nil)
        (pss_cons (ps_set (i := 3) scL_due_crew.nd rfl (.inl rfl) (pe_call (ok_l_due_member T) (hr.mono (by decide)) (by rfl) T.l_due_member.m T.l_due_member.F.kp T.l_due_member.b .nil pass0 (pa_cons (pv 0) (pa_cons (pv 1) pa_nil))))
        (pss_cons (ps_if (pt_cmpR op_ne (pe_ix (kixT K) (pv 3) pe_int (fun _ _ => rfl)) pe_str (nomark _)) (pss_one (ps_ret (pe_tup (pa_cons (pe_ix (kixT K) (pv 3) pe_int (fun _ _ => rfl)) (pa_cons (pv 0) pa_nil))))) pss_nil)
        (pss_cons (ps_dput (hu_of hr) (pv 2) (pe_ix (kixT K) (pv 1) pe_int (fun _ _ => rfl)) (pe_ix (kixT K) (pv 3) pe_int (fun _ _ => rfl)) rfl)
        (pss_one (ps_ret (pe_tup (pa_cons pe_str (pa_cons (pe_tup (pa_cons (pe_ix (kixT K) (pv 0) pe_int (fun _ _ => rfl)) (pa_cons (pz 2) pa_nil))) pa_nil)))))))))))), ?_⟩
  walk_at "ss"
  rintro as Qd Qx ⟨p, m, s, d, rfl, hs, hm, hd, hC, q⟩
  refine ⟨[.sh (eSt s), .sh (eDeedB d)], .cons (.inl ⟨rfl, .inl rfl⟩) (.cons (.inl ⟨rfl, .inl rfl⟩) .nil), ?_⟩
  have hcl : (kvK eNames s.cs).length < sizeLine := small100000 (by rw [kvK_len]; have := hs.cl; omega)
  walk_at "h"
  refine ⟨_, _, rfl, kvsOf_kv _, trivial, ?_⟩
  cases d with
  | found c =>
    have hn : c.length ≤ 1000 := hd.1
    walk_at "h"
    refine ⟨fun Γ => False, fun _ z => z.elim, ?_⟩
    walk_at "h"
    refine ⟨fun Γ => Bk.nameB c = true ∧ Γ = [.sh (eSt s), .sh (eDeedB (.found c)), .ow (.dK (kvK eNames s.cs)), .no], ?_, ?_⟩
    rotate_left
    · walk_at "h"
      cases hB : Bk.nameB c with
      | false =>
        refine iteTb rfl ?_
        simp only [Bk.dueS, Bk.foundS, hB, tellR, Bk.Er.txt, Bool.false_eq_true, if_false] at q
        walk_at "h"
        exact q
      | true =>
        refine iteFb rfl ?_
        exact ⟨rfl, rfl⟩
    rintro _ ⟨hB, rfl⟩
    walk_at "h"
    have ev := valD_kv (f := eNames) s.cs c
    refine ⟨fun Γ => Bk.get s.cs c = none ∧ Γ = [.sh (eSt s), .sh (eDeedB (.found c)), .ow (.dK (kvK eNames s.cs)), .no], ?_, ?_⟩
    rotate_left
    · walk_at "h"
      refine ⟨_, _, rfl, rfl, congrArg some ev, ?_⟩
      rw [Option.isSome_map]
      cases h : Bk.get s.cs c with
      | some r =>
        simp only [Bk.dueS, Bk.foundS, hB, if_true, h, tellR, Bk.Er.txt] at q
        walk_at "h"
        exact q
      | none =>
        walk_at "h"
        rfl
    rintro _ ⟨h, rfl⟩
    simp only [Bk.dueS, Bk.foundS, hB, if_true, h, tellR] at q
    walk_at "h"
    rw [show PyData.tuple [] = eNames [] from rfl, putD_kv]
    walk_at "h"
    rw [kvD_of]
    walk_at "h"
    exact q
  | disband c =>
    walk_at "h"
    refine ⟨fun Γ => Γ = [.sh (eSt s), .sh (eDeedB (.disband c)), .ow (.dK (kvK eNames s.cs)), .no], ?_, ?_⟩
    rotate_left
    · walk_at "h"
      rfl
    rintro _ rfl
    walk_at "h"
    have ev := valD_kv (f := eNames) s.cs c
    refine ⟨fun Γ => (∃ ns, Bk.get s.cs c = some ns) ∧ Γ = [.sh (eSt s), .sh (eDeedB (.disband c)), .ow (.dK (kvK eNames s.cs)), .no], ?_, ?_⟩
    rotate_left
    · walk_at "h"
      refine ⟨_, _, rfl, rfl, congrArg some ev, ?_⟩
      rw [Option.isSome_map]
      cases h : Bk.get s.cs c with
      | none =>
        simp only [Bk.dueS, Bk.disbandS, h, tellR, Bk.Er.txt] at q
        walk_at "h"
        exact q
      | some ns =>
        walk_at "h"
        exact ⟨⟨ns, rfl⟩, rfl⟩
    rintro _ ⟨⟨ns, h⟩, rfl⟩
    rw [h] at ev
    walk_at "h"
    refine ⟨fun Γ => False, fun _ z => z.elim, ?_⟩
    simp only [Bk.dueS, Bk.disbandS, h, tellR] at q
    walk_at "h"
    refine ⟨_, _, _, _, _, rfl, rfl, rfl, ev, ?_⟩
    rw [dropD_kv]
    walk_at "h"
    rw [kvD_of]
    walk_at "h"
    exact q
  | enlist c n =>
    walk_at "h"
    refine ⟨fun Γ => Γ = [.sh (eSt s), .sh (eDeedB (.enlist c n)), .ow (.dK (kvK eNames s.cs)), .no], ?_, ?_⟩
    rotate_left
    · walk_at "h"
      rfl
    rintro _ rfl
    walk_at "h"
    have ev := valD_kv (f := eNames) s.cs c
    refine ⟨fun Γ => (∃ ns, Bk.get s.cs c = some ns) ∧ Γ = [.sh (eSt s), .sh (eDeedB (.enlist c n)), .ow (.dK (kvK eNames s.cs)), .no], ?_, ?_⟩
    rotate_left
    · walk_at "h"
      refine ⟨_, _, rfl, rfl, congrArg some ev, ?_⟩
      rw [Option.isSome_map]
      cases h : Bk.get s.cs c with
      | none =>
        simp only [Bk.dueS, Bk.mannedS, h, tellR, Bk.Er.txt] at q
        walk_at "h"
        exact q
      | some ns =>
        walk_at "h"
        exact ⟨⟨ns, rfl⟩, rfl⟩
    rintro _ ⟨⟨ns, h⟩, rfl⟩
    rw [h] at ev
    walk_at "h"
    refine ⟨fun Γ => Γ = [.sh (eSt s), .sh (eDeedB (.enlist c n)), .ow (.dK (kvK eNames s.cs)), .no], ?_, ?_⟩
    rotate_left
    · walk_at "h"
      rfl
    rintro _ rfl
    walk_at "h"
    refine ⟨p, m, s, _, ns, rfl, hs, hd, rfl, h, ?_⟩
    walk_at "h"
    simp only [Bk.dueS, Bk.mannedS, h] at q
    refine ⟨fun Γ => (∃ ms, Bk.enlistM s ns n = .ok ms) ∧ Γ = [.sh (eSt s), .sh (eDeedB (.enlist c n)), .ow (.dK (kvK eNames s.cs)), .sh (.tuple [.str (tellM (memM s ns (.enlist c n))).1, eNames (tellM (memM s ns (.enlist c n))).2])], ?_, ?_⟩
    rotate_left
    · cases e : Bk.enlistM s ns n with
      | error c2 =>
        have e2 : memM s ns (.enlist c n) = .error c2 := e
        rw [e] at q
        simp only [tellR] at q
        rw [e2]
        simp only [tellM]
        walk_at "h"
        refine iteTb (by show (!decide (c2.txt = _)) = true; rw [decide_eq_false (txt_ne c2)]; rfl) ?_
        walk_at "h"
        exact q
      | ok ms =>
        have e2 : memM s ns (.enlist c n) = .ok ms := e
        rw [e2]
        simp only [tellM]
        walk_at "h"
        exact ⟨⟨ms, rfl⟩, rfl⟩
    rintro _ ⟨⟨ms, e⟩, rfl⟩
    have e2 : memM s ns (.enlist c n) = .ok ms := e
    rw [e] at q
    rw [e2]
    simp only [tellR, tellM] at q ⊢
    walk_at "h"
    rw [putD_kv]
    walk_at "h"
    rw [kvD_of]
    walk_at "h"
    exact q
  | dismiss c n =>
    walk_at "h"
    refine ⟨fun Γ => Γ = [.sh (eSt s), .sh (eDeedB (.dismiss c n)), .ow (.dK (kvK eNames s.cs)), .no], ?_, ?_⟩
    rotate_left
    · walk_at "h"
      rfl
    rintro _ rfl
    walk_at "h"
    have ev := valD_kv (f := eNames) s.cs c
    refine ⟨fun Γ => (∃ ns, Bk.get s.cs c = some ns) ∧ Γ = [.sh (eSt s), .sh (eDeedB (.dismiss c n)), .ow (.dK (kvK eNames s.cs)), .no], ?_, ?_⟩
    rotate_left
    · walk_at "h"
      refine ⟨_, _, rfl, rfl, congrArg some ev, ?_⟩
      rw [Option.isSome_map]
      cases h : Bk.get s.cs c with
      | none =>
        simp only [Bk.dueS, Bk.mannedS, h, tellR, Bk.Er.txt] at q
        walk_at "h"
        exact q
      | some ns =>
        walk_at "h"
        exact ⟨⟨ns, rfl⟩, rfl⟩
    rintro _ ⟨⟨ns, h⟩, rfl⟩
    rw [h] at ev
    walk_at "h"
    refine ⟨fun Γ => Γ = [.sh (eSt s), .sh (eDeedB (.dismiss c n)), .ow (.dK (kvK eNames s.cs)), .no], ?_, ?_⟩
    rotate_left
    · walk_at "h"
      rfl
    rintro _ rfl
    walk_at "h"
    refine ⟨p, m, s, _, ns, rfl, hs, hd, rfl, h, ?_⟩
    walk_at "h"
    simp only [Bk.dueS, Bk.mannedS, h] at q
    refine ⟨fun Γ => (∃ ms, Bk.dismissM ns n = .ok ms) ∧ Γ = [.sh (eSt s), .sh (eDeedB (.dismiss c n)), .ow (.dK (kvK eNames s.cs)), .sh (.tuple [.str (tellM (memM s ns (.dismiss c n))).1, eNames (tellM (memM s ns (.dismiss c n))).2])], ?_, ?_⟩
    rotate_left
    · cases e : Bk.dismissM ns n with
      | error c2 =>
        have e2 : memM s ns (.dismiss c n) = .error c2 := e
        rw [e] at q
        simp only [tellR] at q
        rw [e2]
        simp only [tellM]
        walk_at "h"
        refine iteTb (by show (!decide (c2.txt = _)) = true; rw [decide_eq_false (txt_ne c2)]; rfl) ?_
        walk_at "h"
        exact q
      | ok ms =>
        have e2 : memM s ns (.dismiss c n) = .ok ms := e
        rw [e2]
        simp only [tellM]
        walk_at "h"
        exact ⟨⟨ms, rfl⟩, rfl⟩
    rintro _ ⟨⟨ms, e⟩, rfl⟩
    have e2 : memM s ns (.dismiss c n) = .ok ms := e
    rw [e] at q
    rw [e2]
    simp only [tellR, tellM] at q ⊢
    walk_at "h"
    rw [putD_kv]
    walk_at "h"
    rw [kvD_of]
    walk_at "h"
    exact q
  | _ => cases hC

end
end Law
namespace Law
open PySem PySem.Spec PyProof.Rows L2 Dk
section
variable {P : Program} {w : World} {K : Fg} {mg : Str → Option Value} {base : Heap}
set_option maxHeartbeats 4000000 in
theorem ok_l_round_deed (T : Txt K mg) : FnOk P w K mg base CX0 3 T.l_round_deed.f T.l_round_deed.fd ["_law_draw", "_law_names_here"] (RefSp K IsDraw cRoundDeed) := by
  refine ref_ok T.l_round_deed.F scL_round_deed (fun ds Qd h => by obtain ⟨ns, rfl, _⟩ := h; rfl) fun cdv A outer s H E hr => ?_
  refine ⟨_, (pss_cons (ps_set (i := 2) scL_round_deed.nd rfl (.inl rfl) (pe_call (ok_l_target T) (hr.mono (by decide)) (by rfl) T.l_target.m T.l_target.F.kp T.l_target.b .nil pass0 (pa_cons (pv 0) (pa_cons (pv 1) pa_nil))))
        (pss_cons (ps_set (i := 3) scL_round_deed.nd rfl (.inl rfl) (pe_call (ok_l_target T) (hr.mono (by decide)) (by rfl) T.l_target.m T.l_target.F.kp T.l_target.b .nil pass0 (pa_cons (pv 0) (pa_cons (pv 1) pa_nil))))
        (pss_cons (ps_set (i := 4) scL_round_deed.nd rfl (.inl rfl) (pe_call (ok_l_take T) (hr.mono (by decide)) (by rfl) T.l_take.m T.l_take.F.kp T.l_take.b .nil pass0 (pa_cons (pv 0) (pa_cons pe_int pa_nil))))
        (pss_cons (ps_if (pt_cmpR op_lt (pv 4) pe_int (nomark _)) (pss_one (ps_ret (pe_tup (pa_cons pe_str (pa_cons (pv 2) (pa_cons (pe_call (ok_l_draw_deeds T) (hr.mono (by decide)) (by rfl) T.l_draw_deeds.m T.l_draw_deeds.F.kp T.l_draw_deeds.b .nil pass0 (pa_cons (pv 0) pa_nil)) pa_nil)))))) pss_nil)
        (pss_cons (ps_if (pt_cmpR op_eq (pv 4) pe_int (nomark _)) (pss_one (ps_ret (pe_tup (pa_cons pe_str (pa_cons (pv 2) (pa_cons (pe_tup (pa_cons (pv 3) (pa_cons (pe_call (ok_l_target T) (hr.mono (by decide)) (by rfl) T.l_target.m T.l_target.F.kp T.l_target.b .nil pass0 (pa_cons (pv 0) (pa_cons (pv 1) pa_nil))) pa_nil))) pa_nil)))))) pss_nil)
        (pss_cons (ps_if (pt_cmpR op_eq (pv 4) pe_int (nomark _)) (pss_one (ps_ret (pe_tup (pa_cons pe_str (pa_cons (pv 2) (pa_cons (pe_tup (pa_cons (pv 3) pa_nil)) (pa_cons (pe_un un_neg pe_int) pa_nil))))))) pss_nil)
        (pss_cons (ps_if (pt_cmpR op_eq (pv 4) pe_int (nomark _)) (pss_one (ps_ret (pe_tup (pa_cons pe_str (pa_cons (pv 2) (pa_cons (pe_tup (pa_cons (pv 3) pa_nil)) (pa_cons (pe_ix (kixT K) (pe_tup (pa_cons (pe_op op_sub (pe_call (ok_l_take T) (hr.mono (by decide)) (by rfl) T.l_take.m T.l_take.F.kp T.l_take.b .nil pass0 (pa_cons (pv 0) (pa_cons pe_int pa_nil))) pe_int) (pa_cons (pe_op op_sub (pe_call (ok_l_take T) (hr.mono (by decide)) (by rfl) T.l_take.m T.l_take.F.kp T.l_take.b .nil pass0 (pa_cons (pv 0) (pa_cons pe_int pa_nil))) pe_int) pa_nil))) (pe_call (ok_l_take T) (hr.mono (by decide)) (by rfl) T.l_take.m T.l_take.F.kp T.l_take.b .nil pass0 (pa_cons (pv 0) (pa_cons pe_int pa_nil))) (fun _ _ => rfl)) pa_nil))))))) pss_nil)
        (pss_one (ps_ret (pe_tup (pa_cons pe_str (pa_cons (pv 2) pa_nil)))))))))))), ?_⟩
  walk_at "ss"
  rintro ds Qd ⟨ns, rfl, h0, h1, hn, q⟩
  refine ⟨[.ar (.list (ns.map .str))], .cons (.inl rfl) .nil, ?_⟩
  walk_at "g"
  intro n hnn
  walk_at "g"
  intro n1 hn1
  walk_at "g"
  intro r r0 r1
  walk_at "g"
  refine ite2b (fun hz => ?_) fun hz => ?_
  · walk_at "g"
    intro xs hxl hxs
    walk_at "g"
    exact q (.tell n xs) ⟨hnn, hxl, hxs⟩ rfl
  walk_at "g"
  refine ite2b (fun hz => ?_) fun hz => ?_
  · walk_at "g"
    intro n2 hn2
    walk_at "g"
    exact q (.join n n1 n2) ⟨hnn, hn1, hn2⟩ rfl
  walk_at "g"
  refine ite2b (fun hz => ?_) fun hz => ?_
  · walk_at "g"
    exact q (.back n n1) ⟨hnn, hn1⟩ rfl
  walk_at "g"
  refine ite2b (fun hz => ?_) fun hz => ?_
  · walk_at "g"
    intro a a0 a1
    walk_at "g"
    intro b b0 b1
    walk_at "g"
    intro c c0 c1
    have hc : c = 0 ∨ c = 1 := by omega
    rcases hc with rfl | rfl
    · refine ⟨_, _, _, rfl, rfl, rfl, ?_⟩
      walk_at "g"
      exact q (.times n n1 (a - 3)) ⟨hnn, hn1, by omega⟩ rfl
    · refine ⟨_, _, _, rfl, rfl, rfl, ?_⟩
      walk_at "g"
      exact q (.times n n1 (b - 50)) ⟨hnn, hn1, by omega⟩ rfl
  walk_at "g"
  exact q (.drop n) hnn rfl

end
end Law
namespace Law
open PySem PySem.Spec PyProof.Rows L2 Dk
section
variable {P : Program} {w : World} {K : Fg} {mg : Str → Option Value} {base : Heap}
set_option maxHeartbeats 4000000 in
theorem ok_l_crew_deed (T : Txt K mg) : FnOk P w K mg base CX0 3 T.l_crew_deed.f T.l_crew_deed.fd ["_law_draw", "_law_names_here"] (RefSp K IsDraw cCrewDeed) := by
  refine ref_ok T.l_crew_deed.F scL_crew_deed (fun ds Qd h => by obtain ⟨ns, rfl, _⟩ := h; rfl) fun cdv A outer s H E hr => ?_
  refine ⟨_, (pss_cons (ps_set (i := 2) scL_crew_deed.nd rfl (.inl rfl) (pe_ix (kixL K) (pv 1) (pe_call (ok_l_take T) (hr.mono (by decide)) (by rfl) T.l_take.m T.l_take.F.kp T.l_take.b .nil pass0 (pa_cons (pv 0) (pa_cons pe_int pa_nil))) (fun _ _ => rfl)))
        (pss_cons (ps_if (pt_cmpR op_eq (pe_call (ok_l_take T) (hr.mono (by decide)) (by rfl) T.l_take.m T.l_take.F.kp T.l_take.b .nil pass0 (pa_cons (pv 0) (pa_cons pe_int pa_nil))) pe_int (nomark _)) (pss_one (ps_set (i := 2) scL_crew_deed.nd rfl (.inl rfl) (pe_call (ok_l_target T) (hr.mono (by decide)) (by rfl) T.l_target.m T.l_target.F.kp T.l_target.b .nil pass0 (pa_cons (pv 0) (pa_cons (pv 1) pa_nil))))) pss_nil)
        (pss_cons (ps_set (i := 3) scL_crew_deed.nd rfl (.inl rfl) (pe_call (ok_l_target T) (hr.mono (by decide)) (by rfl) T.l_target.m T.l_target.F.kp T.l_target.b .nil pass0 (pa_cons (pv 0) (pa_cons (pv 1) pa_nil))))
        (pss_cons (ps_set (i := 4) scL_crew_deed.nd rfl (.inl rfl) (pe_call (ok_l_take T) (hr.mono (by decide)) (by rfl) T.l_take.m T.l_take.F.kp T.l_take.b .nil pass0 (pa_cons (pv 0) (pa_cons pe_int pa_nil))))
        (pss_cons (ps_if (pt_cmpR op_lt (pv 4) pe_int (nomark _)) (pss_one (ps_ret (pe_tup (pa_cons pe_str (pa_cons (pe_ix (kixT K) (pe_tup (pa_cons (pv 2) (pa_cons (pv 2) (pa_cons (pv 2) (pa_cons (pv 3) pa_nil))))) (pe_call (ok_l_take T) (hr.mono (by decide)) (by rfl) T.l_take.m T.l_take.F.kp T.l_take.b .nil pass0 (pa_cons (pv 0) (pa_cons pe_int pa_nil))) (fun _ _ => rfl)) pa_nil))))) pss_nil)
        (pss_cons (ps_if (pt_cmpR op_eq (pv 4) pe_int (nomark _)) (pss_one (ps_ret (pe_tup (pa_cons pe_str (pa_cons (pv 2) pa_nil))))) pss_nil)
        (pss_cons (ps_if (pt_cmpR op_lt (pv 4) pe_int (nomark _)) (pss_one (ps_ret (pe_tup (pa_cons pe_str (pa_cons (pv 2) (pa_cons (pv 3) pa_nil)))))) pss_nil)
        (pss_one (ps_ret (pe_tup (pa_cons pe_str (pa_cons (pv 2) (pa_cons (pv 3) pa_nil))))))))))))), ?_⟩
  walk_at "ss"
  rintro ds Qd ⟨ns, rfl, h0, h1, hn, q⟩
  refine ⟨[.ar (.list (ns.map .str))], .cons (.inl rfl) .nil, ?_⟩
  have n0 : 0 < ns.length := by omega
  have n2 : (ns.length : Int) = ns.length := rfl
  walk_at "h"
  intro r r0 r1
  obtain ⟨c, hc, hat⟩ := strs_at (ws := ns) r0 (by omega)
  have hcn := hn c hc
  refine ⟨_, _, _, rfl, rfl, hat, ?_⟩
  walk_at "h"
  refine ⟨fun Γ => ∃ (c : Str) (y : Sl), nameOk c ∧ (y = .sh (.str c) ∨ y = .ar (.str c)) ∧ Γ = [.rf (.ab IsDraw), .ar (.list (ns.map .str)), y, .no, .no], ?_, ?_⟩
  rotate_left
  · walk_at "h"
    intro t t0 t1
    walk_at "h"
    refine ite2b (fun hz => ?_) fun hz => ?_
    · walk_at "h"
      intro c2 hc2
      walk_at "h"
      exact ⟨c2, _, hc2, .inl rfl, rfl⟩
    · exact ⟨c, _, hcn, .inr rfl, rfl⟩
  clear hat hcn hc c r0 r1 r
  rintro _ ⟨c, y, hcn, hy, rfl⟩
  rcases hy with rfl | rfl
  all_goals
    walk_at "g"
    intro n hnn
    walk_at "g"
    intro w w0 w1
    walk_at "g"
    refine ite2b (fun hz => ?_) fun hz => ?_
    · walk_at "g"
      intro t t0 t1
      have ht : t = 3 ∨ t = 0 ∨ t = 1 ∨ t = 2 := by omega
      have hx : ∃ x, nameOk x ∧ atI [PyData.str c, .str c, .str c, .str n] t = some (.str x) := by
        rcases ht with rfl | rfl | rfl | rfl
        · exact ⟨n, hnn, rfl⟩
        · exact ⟨c, hcn, rfl⟩
        · exact ⟨c, hcn, rfl⟩
        · exact ⟨c, hcn, rfl⟩
      obtain ⟨x, hxn, hx⟩ := hx
      refine ⟨_, _, _, rfl, rfl, hx, ?_⟩
      walk_at "g"
      exact q (.found x) hxn rfl
    walk_at "g"
    refine ite2b (fun hz => ?_) fun hz => ?_
    · walk_at "g"
      exact q (.disband c) hcn rfl
    walk_at "g"
    refine ite2b (fun hz => ?_) fun hz => ?_
    · walk_at "g"
      exact q (.enlist c n) ⟨hcn, hnn⟩ rfl
    walk_at "g"
    exact q (.dismiss c n) ⟨hcn, hnn⟩ rfl

end
end Law
namespace Law
open PySem PySem.Spec PyProof.Rows L2 Dk
section
variable {P : Program} {w : World} {K : Fg} {mg : Str → Option Value} {base : Heap}
set_option maxHeartbeats 4000000 in
theorem ok_l_is_round (T : Txt K mg) : FnOk P w K mg base CX0 3 T.l_is_round.f T.l_is_round.fd ["_law_p_here", "_law_thing"] (PureSp K cIsRound) := by
  refine pure_ok T.l_is_round.F scL_is_round (fun ds Qd h => by obtain ⟨p, a, rfl, _⟩ := h; rfl) fun cdv A outer s H E hr => ?_
  refine ⟨_, (pss_cons (ps_if (PW.pt (pw_or (pt_not (pt_val (pe_callB (kisi K) (by rfl) T.zisinstance (by decide +kernel) (pa_cons (pv 1) (pa_cons (pe_bltn (v := .ty "tuple") (by rfl) T.ztuple (by decide +kernel) rfl) pa_nil))))) (pw_or1 (pt_cmpR op_ne (pe_callB (klen K) (by rfl) T.zlen (by decide +kernel) (pa_cons (pv 1) pa_nil)) pe_int (nomark _))))) (pss_one (ps_ret pe_bl)) pss_nil)
        (pss_one (ps_ret (pe_and (pe_call (ok_l_int T) (hr.mono (by decide)) (by rfl) T.l_int.m T.l_int.F.kp T.l_int.b .nil pass0 (pa_cons (pe_ix (kixT K) (pv 1) pe_int (fun _ _ => rfl)) pa_nil)) (pe_one (pe_call (ok_l_is_pattern T) (hr.mono (by decide)) (by rfl) T.l_is_pattern.m T.l_is_pattern.F.kp T.l_is_pattern.b .nil pass0 (pa_cons (pv 0) (pa_cons (pe_ix (kixT K) (pv 1) pe_int (fun _ _ => rfl)) pa_nil)))))))), ?_⟩
  walk_at "ss"
  rintro ds Qd ⟨p, ⟨a, xs⟩, rfl, hp, hx, q⟩
  refine ⟨[.sh (.int p), .sh (eRound (a, xs))], .cons (.inr ⟨rfl, rfl⟩) (.cons (.inr ⟨rfl, eRound_tupO _⟩) .nil), ?_⟩
  simp only at hx
  replace hp : Pt.IsPat p xs := hp
  walk_at "g"
  exact q

end
end Law
namespace Law
open PySem PySem.Spec PyProof.Rows L2 Dk
section
variable {P : Program} {w : World} {K : Fg} {mg : Str → Option Value} {base : Heap}
set_option maxHeartbeats 4000000 in
theorem ok_Book_tell (T : Txt K mg) : FnOk P w K mg base (L2.CX P w) 3 T.Book_tell.f T.Book_tell.fd ["self", "name", "deeds"] (GSp K true (cTell T.cBook.C (erC T))) := by
  refine genX_ok T.Book_tell.F scBook_tell (fun as Qd Qx h => by obtain ⟨p, b, m, n, ds, z1, z2, rfl, _⟩ := h; rfl) fun cdv A outer s H E hr => ?_
  refine ⟨_, (pss_cons (ps_expr (pe_methE (pv 0) T.cBook.cl T.Book_checked.me (ok_Book_checked T) (hr.mono (by decide)) T.Book_checked.b (fun σ => passAt (takes_of rfl rfl rfl rfl) σ) (pa_cons (pv 1) pa_nil)))
        (pss_one (ps_expr (pe_methE (pv 0) T.cBook.cl T.Book_keep.me (ok_Book_keep T) (hr.mono (by decide)) T.Book_keep.b (fun σ => passAt (takes_of rfl rfl rfl rfl) σ) (pa_cons (pv 1) (pa_cons (pe_callS (ok_gone T) (hr.mono (by decide)) (by rfl) T.gone.m T.gone.F.kp T.gone.b (fun σ => passAt (takes_of rfl rfl rfl rfl) σ) (pa_cons (kfld K (pv 0) rfl) (pa_cons (pv 2) pa_nil))) pa_nil)))))), ?_⟩
  walk_at "ss"
  rintro as Qd Qx ⟨p, b, m, n, ds, z1, z2, rfl, hp, hb, hm, hn, hd, q1, q2⟩
  refine ⟨[.rf (bookO T.cBook.C p b), .sh (.str n), .ar (.list (ds.map eWd))], .cons rfl (.cons (.inl ⟨rfl, .inr rfl⟩) (.cons (.inr rfl) .nil)), ?_⟩
  have hd2 : ds.length ≤ 50000 := by omega
  walk_at "g"
  refine ⟨fun h1 => ?_, fun h1 => ⟨rfl, q2 _ (by unfold Bk.tellS; rw [if_neg (by rw [h1]; decide)])⟩⟩
  walk_at "g"
  refine ⟨fun zs e => ?_, fun e => ⟨rfl, q2 .noDeed (by unfold Bk.tellS; rw [if_pos h1]; simp only [Bk.valR]; rw [if_neg (bad_word e)])⟩⟩
  have hz := gone_len p zs
  have hv : Bk.valR p b.st (.tell n ds) = .ok (Rd.gone p zs) := by
    simp only [Bk.valR]
    rw [e, if_pos (good_words zs), asDeed_wd]
  have hl : (Rd.gone p zs).2.length ≤ 100000 := by have := congrArg List.length e; rw [List.length_map] at this; omega
  have e1 : Bk.tellS p b.st n (.tell n ds) = Bk.keepS b.st n (Rd.gone p zs) := by unfold Bk.tellS; rw [if_pos h1, hv]
  rw [e1] at q1 q2
  walk_at "g"
  exact ⟨p, b, m, n, Rd.gone p zs, _, _, rfl, hb, hm, hl, fun s hs => ⟨rfl, q1 s hs⟩, fun c hc => ⟨rfl, q2 c hc⟩⟩

end
end Law
namespace Law
open PySem PySem.Spec PyProof.Rows L2 Dk
section
variable {P : Program} {w : World} {K : Fg} {mg : Str → Option Value} {base : Heap}
set_option maxHeartbeats 4000000 in
theorem ok_Book_found (T : Txt K mg) : FnOk P w K mg base (L2.CX P w) 3 T.Book_found.f T.Book_found.fd ["self", "crew"] (GSp K true (cFound T.cBook.C (erC T))) := by
  refine genX_ok T.Book_found.F scBook_found (fun as Qd Qx h => by obtain ⟨p, b, m, n, z1, rfl, _⟩ := h; rfl) fun cdv A outer s H E hr => ?_
  refine ⟨_, (pss_cons (ps_expr (pe_methE (pv 0) T.cBook.cl T.Book_checked.me (ok_Book_checked T) (hr.mono (by decide)) T.Book_checked.b (fun σ => passAt (takes_of rfl rfl rfl rfl) σ) (pa_cons (pv 1) pa_nil)))
        (pss_cons (ps_if (pt_cmp (pc_din (hu_of hr) (pv 1) (pe_ix (kixT K) (kfld K (pv 0) rfl) pe_int (fun _ _ => rfl)))) (pss_one (ps_raiseD T.xTaken rfl (takes_of rfl rfl rfl rfl) (by rfl) rfl)) pss_nil)
        (pss_one (ps_expr (pe_meth (pv 0) T.cBook.cl T.Book_manned.me (ok_Book_manned T) (hr.mono (by decide)) T.Book_manned.b .nil pass0 (pa_cons (pv 1) (pa_cons (pe_tup pa_nil) pa_nil))))))), ?_⟩
  walk_at "ss"
  rintro as Qd Qx ⟨p, b, m, n, z1, rfl, hb, hm, hn, q1, q2⟩
  refine ⟨[.rf (bookO T.cBook.C p b), .sh (.str n)], .cons rfl (.cons (.inl ⟨rfl, .inr rfl⟩) .nil), ?_⟩
  have e := valP_kv (f := eNames) b.st.cs n
  walk_at "g"
  refine ⟨fun h1 => ?_, fun h1 => ⟨rfl, q2 _ (by unfold Bk.foundS; rw [if_neg (by rw [h1]; decide)])⟩⟩
  walk_at "g"
  rw [e]
  cases h : Bk.get b.st.cs n with
  | some ns =>
    refine iteTb rfl ?_
    exact ⟨rfl, q2 .taken (by unfold Bk.foundS; rw [if_pos h1, h])⟩
  | none =>
    refine iteFb rfl ?_
    have q := q1 ⟨b.st.rs, Bk.put b.st.cs n []⟩ (by unfold Bk.foundS; rw [if_pos h1, h])
    walk_at "g"
    refine ⟨p, b, m, n, [], _, _, rfl, hb, hm, ?_⟩
    exact ⟨rfl, q⟩

end
end Law
namespace Law
open PySem PySem.Spec PyProof.Rows L2 Dk
section
variable {P : Program} {w : World} {K : Fg} {mg : Str → Option Value} {base : Heap}
set_option maxHeartbeats 4000000 in
theorem ok_Book_enlist (T : Txt K mg) : FnOk P w K mg base (L2.CX P w) 3 T.Book_enlist.f T.Book_enlist.fd ["self", "crew", "name"] (GSp K true (cEnlist T.cBook.C (erC T))) := by
  refine genX_ok T.Book_enlist.F scBook_enlist (fun as Qd Qx h => by obtain ⟨p, b, m, c, n, z1, z2, rfl, _⟩ := h; rfl) fun cdv A outer s H E hr => ?_
  refine ⟨_, (pss_cons (ps_set (i := 3) scBook_enlist.nd rfl (.inl rfl) (pe_methE (pv 0) T.cBook.cl T.Book_crew_names.me (ok_Book_crew_names T) (hr.mono (by decide)) T.Book_crew_names.b (fun σ => passAt (takes_of rfl rfl rfl rfl) σ) (pa_cons (pv 1) pa_nil)))
        (pss_cons (ps_set (i := 4) scBook_enlist.nd rfl (.inl rfl) (pe_methE (pv 0) T.cBook.cl T.Book_named.me (ok_Book_named T) (hr.mono (by decide)) T.Book_named.b (fun σ => passAt (takes_of rfl rfl rfl rfl) σ) (pa_cons (pv 2) pa_nil)))
        (pss_cons (ps_if (pt_cmpR (kin K) (pv 2) (pv 3) (by rfl)) (pss_one (ps_raiseD T.xTaken rfl (takes_of rfl rfl rfl rfl) (by rfl) rfl)) pss_nil)
        (pss_cons (ps_if (pt_cmpR op_ge (pe_callB (klen K) (by rfl) T.zlen (by decide +kernel) (pa_cons (pv 3) pa_nil)) (pe_glob (v := .int 6) (by rfl) T.kM.g T.kM.r) (nomark _)) (pss_one (ps_raiseD T.xTooMany rfl (takes_of rfl rfl rfl rfl) (by rfl) rfl)) pss_nil)
        (pss_cons (ps_if (pt_not (pt_val (pe_call (ok_near T) (hr.mono (by decide)) (by rfl) T.near.m T.near.F.kp T.near.b .nil pass0 (pa_cons (pv 4) pa_nil)))) (pss_one (ps_raiseD T.xTooFar rfl (takes_of rfl rfl rfl rfl) (by rfl) rfl)) pss_nil)
        (pss_one (ps_expr (pe_meth (pv 0) T.cBook.cl T.Book_manned.me (ok_Book_manned T) (hr.mono (by decide)) T.Book_manned.b .nil pass0 (pa_cons (pv 1) (pa_cons (pe_op (kcatA K) (pv 3) (pe_tup (pa_cons (pv 2) pa_nil))) pa_nil)))))))))), ?_⟩
  walk_at "ss"
  rintro as Qd Qx ⟨p, b, m, c, n, z1, z2, rfl, hb, hm, q1, q2⟩
  refine ⟨[.rf (bookO T.cBook.C p b), .sh (.str c), .sh (.str n)], .cons rfl (.cons (.inl ⟨rfl, .inr rfl⟩) (.cons (.inl ⟨rfl, .inr rfl⟩) .nil)), ?_⟩
  walk_at "g"
  refine ⟨fun ns hns => ?_, fun h1 => ⟨rfl, q2 _ (by simp only [Bk.mannedS, h1])⟩⟩
  walk_at "g"
  refine ⟨fun r hr => ?_, fun h1 => ⟨rfl, q2 _ (by simp only [Bk.mannedS, hns, Bk.enlistM, h1])⟩⟩
  have l1 := Bk.ok_len (hb.st.rd _ (Bk.get_mem hr)).1 (hb.st.rd _ (Bk.get_mem hr)).2.1
  simp only at l1
  have l2 : r.2.length ≤ 100000 := by omega
  have l3 := (hb.st.cr _ (Bk.get_mem hns)).1
  simp only at l3
  walk_at "g"
  refine ⟨_, _, _, _, rfl, rfl, rfl, scVs_strs _, ?_⟩
  walk_at "g"
  refine iteIn (inV_strs n ns) (fun h1 => ?_) fun h1 => ?_
  · exact ⟨rfl, q2 .taken (by simp only [Bk.mannedS, hns, Bk.enlistM, hr, h1, if_true])⟩
  walk_at "g"
  refine ite2b (fun h2 => ?_) fun h2 => ?_
  · have h3 : 6 ≤ ns.length := by have := of_decide_eq_true h2; rw [List.length_map] at this; omega
    exact ⟨rfl, q2 .tooMany (by simp only [Bk.mannedS, hns, Bk.enlistM, hr, if_neg h1, if_pos h3])⟩
  have h3 : ¬ 6 ≤ ns.length := by have := of_decide_eq_false h2; rw [List.length_map] at this; omega
  walk_at "g"
  refine ite2b (fun h4 => ?_) fun h4 => ?_
  · exact ⟨rfl, q2 .tooFar (by simp only [Bk.mannedS, hns, Bk.enlistM, hr, if_neg h1, if_neg h3]; rw [if_neg (by simpa using h4)])⟩
  have q := q1 ⟨b.st.rs, Bk.put b.st.cs c (ns ++ [n])⟩ (by simp only [Bk.mannedS, hns, Bk.enlistM, hr, if_neg h1, if_neg h3]; rw [if_pos (by simpa using h4)])
  walk_at "g"
  refine ⟨p, b, m, c, ns ++ [n], _, _, by rw [eNames, List.map_append]; rfl, hb, hm, ?_⟩
  exact ⟨rfl, q⟩

end
end Law
namespace Law
open PySem PySem.Spec PyProof.Rows L2 Dk
section
variable {P : Program} {w : World} {K : Fg} {mg : Str → Option Value} {base : Heap}
set_option maxHeartbeats 4000000 in
theorem ok_Book_dismiss (T : Txt K mg) : FnOk P w K mg base (L2.CX P w) 3 T.Book_dismiss.f T.Book_dismiss.fd ["self", "crew", "name"] (GSp K true (cDismiss T.cBook.C (erC T))) := by
  refine genX_ok T.Book_dismiss.F scBook_dismiss (fun as Qd Qx h => by obtain ⟨p, b, m, c, n, z1, z2, rfl, _⟩ := h; rfl) fun cdv A outer s H E hr => ?_
  refine ⟨_, (pss_cons (ps_set (i := 3) scBook_dismiss.nd rfl (.inl rfl) (pe_methE (pv 0) T.cBook.cl T.Book_crew_names.me (ok_Book_crew_names T) (hr.mono (by decide)) T.Book_crew_names.b (fun σ => passAt (takes_of rfl rfl rfl rfl) σ) (pa_cons (pv 1) pa_nil)))
        (pss_cons (ps_if (pt_cmpR (knotin K) (pv 2) (pv 3) (by rfl)) (pss_one (ps_raiseD T.xNoRound rfl (takes_of rfl rfl rfl rfl) (by rfl) rfl)) pss_nil)
        (pss_one (ps_expr (pe_meth (pv 0) T.cBook.cl T.Book_manned.me (ok_Book_manned T) (hr.mono (by decide)) T.Book_manned.b .nil pass0 (pa_cons (pv 1) (pa_cons (pe_callTy (ktuple K) (by rfl) T.ztuple (by decide +kernel) (pa_cons (pe_lc (own := [("one", 4)]) rfl scBook_dismiss.nd (kpit K (pv 3)) (blkOk_by (own := [("one", 4)]) (N := nBook_dismiss) (sc := defScope sBook_dismiss) (by decide +kernel)) (fun _ _ _ _ _ => (pg_name (i := 4) scBook_dismiss.nd rfl (.inl rfl) (.inr rfl))) (fun _ _ _ _ _ => pts_one (pt_cmpR op_ne (pv 4) (pv 2) (nomark _))) (fun _ _ _ _ _ => (pv 4))) pa_nil)) pa_nil))))))), ?_⟩
  walk_at "ss"
  rintro as Qd Qx ⟨p, b, m, c, n, z1, z2, rfl, hb, hm, q1, q2⟩
  refine ⟨[.rf (bookO T.cBook.C p b), .sh (.str c), .sh (.str n)], .cons rfl (.cons (.inl ⟨rfl, .inr rfl⟩) (.cons (.inl ⟨rfl, .inr rfl⟩) .nil)), ?_⟩
  walk_at "g"
  refine ⟨fun ns hns => ?_, fun h1 => ⟨rfl, q2 _ (by simp only [Bk.mannedS, h1])⟩⟩
  have l3 := (hb.st.cr _ (Bk.get_mem hns)).1
  simp only at l3
  walk_at "g"
  refine ⟨_, _, _, _, rfl, rfl, rfl, scVs_strs _, ?_⟩
  walk_at "g"
  refine iteNotIn (inV_strs n ns) (fun h1 => ?_) fun h1 => ?_
  · exact ⟨rfl, q2 .noRound (by simp only [Bk.mannedS, hns, Bk.dismissM, if_neg h1])⟩
  have q := q1 ⟨b.st.rs, Bk.put b.st.cs c (ns.filter fun x => decide (x ≠ n))⟩ (by simp only [Bk.mannedS, hns, Bk.dismissM, if_pos h1])
  walk_at "g"
  refine lc_map (f := PyData.str) (fun x => if x ≠ n then some (.str x) else none) (fun x hx P hP => ?_) ?_
  · walk_at "g"
    refine ite2b (fun h4 => ?_) fun h4 => ?_
    · walk_at "g"
      rw [if_pos (by simpa using h4)] at hP
      exact hP
    · rw [if_neg (by simpa using h4)] at hP
      exact hP
  · rw [fm_names]
    walk_at "g"
    refine ⟨p, b, m, c, ns.filter fun x => decide (x ≠ n), _, _, rfl, hb, hm, ?_⟩
    exact ⟨rfl, q⟩

end
end Law
namespace Law
open PySem PySem.Spec PyProof.Rows L2 Dk
section
variable {P : Program} {w : World} {K : Fg} {mg : Str → Option Value} {base : Heap}
set_option maxHeartbeats 4000000 in
theorem ok_repeated (T : Txt K mg) : FnOk P w K mg base CX0 4 T.repeated.f T.repeated.fd ["p", "one", "n"] (PureSp K cTimes) := by
  refine pure_ok T.repeated.F scRepeated (fun ds Qd h => by obtain ⟨p, a, n, rfl, _⟩ := h; rfl) fun cdv A outer s H E hr => ?_
  refine ⟨_, (pss_cons (ps_if (pt_cmpR op_eq (pe_ix (kixT K) (pv 1) pe_int (fun _ _ => rfl)) pe_int (nomark _)) (pss_one (ps_ret (pe_tup (pa_cons pe_int (pa_cons (pe_call (ok_timed T) (hr.mono (by decide)) (by rfl) T.timed.m T.timed.F.kp T.timed.b .nil pass0 (pa_cons (pv 0) (pa_cons (pe_ix (kixT K) (pv 1) pe_int (fun _ _ => rfl)) (pa_cons (pv 2) pa_nil)))) pa_nil))))) pss_nil)
        (pss_cons (ps_set (i := 3) scRepeated.nd rfl (.inl rfl) (pv 1))
        (pss_cons (ps_set (i := 4) scRepeated.nd rfl (.inl rfl) (pv 2))
        (pss_cons (ps_if (pt_cmpR op_lt (pv 2) pe_int (nomark _)) (pss_cons (ps_set (i := 3) scRepeated.nd rfl (.inl rfl) (pe_call (ok_backward T) (hr.mono (by decide)) (by rfl) T.backward.m T.backward.F.kp T.backward.b .nil pass0 (pa_cons (pv 0) (pa_cons (pv 1) pa_nil))))
        (pss_one (ps_set (i := 4) scRepeated.nd rfl (.inl rfl) (pe_un un_neg (pv 2))))) pss_nil)
        (pss_cons (ps_set (i := 5) scRepeated.nd rfl (.inl rfl) (pe_lst pa_nil))
        (pss_cons (ps_for PassesOwn.never rfl (pi_range1 rfl T.zrange (pa_cons (pv 4) pa_nil)) (pg_name (i := 6) scRepeated.nd rfl (.inl rfl)) (pss_one (ps_expr (kbm K PySem.F.plainAttrs_list PySem.F.slot_list_extend PySem.F.type_list_extend (kextT K) (pv 5) (pa_cons (pe_call (ok_moved T) (hr.mono (by decide)) (by rfl) T.moved.m T.moved.F.kp T.moved.b .nil pass0 (pa_cons (pe_ix (kixT K) (pv 3) pe_int (fun _ _ => rfl)) (pa_cons (pe_op op_mul (pv 6) (pe_ix (kixT K) (pv 3) pe_int (fun _ _ => rfl))) pa_nil))) pa_nil)))))
        (pss_one (ps_ret (pe_tup (pa_cons (pe_op op_mul (pe_ix (kixT K) (pv 3) pe_int (fun _ _ => rfl)) (pv 4)) (pa_cons (pe_call (ok_tidy T) (hr.mono (by decide)) (by rfl) T.tidy.m T.tidy.F.kp T.tidy.b .nil pass0 (pa_cons (pv 0) (pa_cons (pv 5) pa_nil))) pa_nil))))))))))), ?_⟩
  walk_at "ss"
  rintro ds Qd ⟨p, ⟨a, xs⟩, n, rfl, hp, hn, hl, hm, q⟩
  refine ⟨[.sh (.int p), .sh (eRound (a, xs)), .sh (.int n)], .cons (.inr ⟨rfl, rfl⟩) (.cons (.inr ⟨rfl, eRound_tupO _⟩) (.cons (.inr ⟨rfl, rfl⟩) .nil)), ?_⟩
  simp only at hl hm hn
  walk_at "g"
  unfold Rd.times at q
  by_cases h0 : a = 0
  · subst h0
    rw [if_pos rfl] at q
    refine iteTb (by simp) ?_
    walk_at "g"
    exact q
  rw [if_neg h0] at q
  obtain ⟨hn', hw⟩ := hn.resolve_left h0
  refine iteFb (by simp [h0]) ?_
  walk_at "h"
  refine ⟨fun Γ => Γ = [.sh (.int p), .sh (eRound (a, xs)), .sh (.int n), .sh (eRound (Rd.baseOf p (a, xs) n)), .sh (.int (n.natAbs : Int)), .no, .no], ?_, ?_⟩
  case refine_2 =>
    walk_at "h"
    unfold Rd.baseOf
    refine ite2b (fun hz => ?_) fun hz => ?_
    · have hz' : n < 0 := of_decide_eq_true hz
      rw [if_pos hz', show ((n.natAbs : Nat) : Int) = -n by omega]
      have : xs.length ≤ 50000 := by omega
      walk_at "h"
      rfl
    · have hz' : ¬ n < 0 := of_decide_eq_false hz
      rw [if_neg hz', show ((n.natAbs : Nat) : Int) = n by omega]
      rfl
  · rintro Γ rfl
    have hb0 : (Rd.baseOf p (a, xs) n).2.length ≤ xs.length := by
      unfold Rd.baseOf
      split
      · exact Rd.inv_len p (a, xs)
      · exact Nat.le_refl _
    have hb : (Rd.baseOf p (a, xs) n).2.length ≤ 50000 := Nat.le_trans hb0 hl
    have hbw : n.natAbs * (Rd.baseOf p (a, xs) n).2.length ≤ 90000 := Nat.le_trans (Nat.mul_le_mul_left _ hb0) hw
    generalize Rd.baseOf p (a, xs) n = b at hb hbw q ⊢
    have hg := Rd.goings_len b
    walk_at "h"
    refine ⟨_, _, _, rfl, ⟨(n.natAbs : Int), rfl, by omega, by omega, rfl, rfl⟩, fun k Γ => ∃ y6 : Sl, Γ = [.sh (.int p), .sh (eRound (a, xs)), .sh (.int n), .sh (eRound b), .sh (.int (n.natAbs : Int)), .ow (.lst ((Rd.goings b k).map ePair)), y6], ⟨.no, rfl⟩, ?_, ?_⟩
    · rintro k Γ hk ⟨y6, rfl⟩
      have k2 : (k + 1) * b.2.length ≤ 90000 := Nat.le_trans (Nat.mul_le_mul_right _ (by omega)) hbw
      rw [Nat.add_mul, Nat.one_mul] at k2
      have k3 := hg k
      have k4 := Pt.moved_len b.2 ((0 + (k : Int)) * b.1)
      walk_at "g"
      refine ⟨.sh (.int (0 + (k : Int))), ?_⟩
      rw [show Rd.goings b (k + 1) = Rd.goings b k ++ Pt.moved b.2 ((0 + (k : Int)) * b.1) by rw [Int.zero_add]; rfl, List.map_append]
      rfl
    · rintro Γ ⟨y6, rfl⟩
      rw [Int.toNat_natCast]
      have k2 : n.natAbs * b.2.length ≤ 90000 := hbw
      have k3 := hg n.natAbs
      have k4 := Pt.keys_len (Rd.goings b n.natAbs)
      walk_at "g"
      exact q

end
end Law
namespace Law
open PySem PySem.Spec PyProof.Rows L2 Dk
section
variable {P : Program} {w : World} {K : Fg} {mg : Str → Option Value} {base : Heap}
set_option maxHeartbeats 4000000 in
theorem ok_l_times (T : Txt K mg) : FnOk P w K mg base CX0 4 T.l_times.f T.l_times.fd ["_law_p_here", "_law_one", "_law_n"] (PureSp K cTimes) := by
  refine pure_ok T.l_times.F scL_times (fun ds Qd h => by obtain ⟨p, a, n, rfl, _⟩ := h; rfl) fun cdv A outer s H E hr => ?_
  refine ⟨_, (pss_cons (ps_if (pt_cmpR op_eq (pe_ix (kixT K) (pv 1) pe_int (fun _ _ => rfl)) pe_int (nomark _)) (pss_one (ps_ret (pe_tup (pa_cons pe_int (pa_cons (pe_call (ok_l_sum T) (hr.mono (by decide)) (by rfl) T.l_sum.m T.l_sum.F.kp T.l_sum.b .nil pass0 (pa_cons (pv 0) (pa_cons (pe_tup pa_nil) (pa_cons (pe_ix (kixT K) (pv 1) pe_int (fun _ _ => rfl)) (pa_cons pe_int (pa_cons (pv 2) pa_nil)))))) pa_nil))))) pss_nil)
        (pss_cons (ps_set (i := 3) scL_times.nd rfl (.inr rfl) (pv 1))
        (pss_cons (ps_if (pt_cmpR op_lt (pv 2) pe_int (nomark _)) (pss_one (ps_set (i := 3) scL_times.nd rfl (.inr rfl) (pe_call (ok_l_back T) (hr.mono (by decide)) (by rfl) T.l_back.m T.l_back.F.kp T.l_back.b .nil pass0 (pa_cons (pv 0) (pa_cons (pv 1) pa_nil))))) pss_nil)
        (pss_cons (ps_set (i := 4) scL_times.nd rfl (.inl rfl) (pe_lst pa_nil))
        (pss_cons (ps_for PassesOwn.never rfl (pi_range1 rfl T.zrange (pa_cons (pe_callB b_abs (by rfl) T.zabs (by decide +kernel) (pa_cons (pv 2) pa_nil)) pa_nil)) (pg_name (i := 5) scL_times.nd rfl (.inr rfl)) (pss_one (ps_expr (kbm K PySem.F.plainAttrs_list PySem.F.slot_list_extend PySem.F.type_list_extend mt_extend (pv 4) (pa_cons (pe_lc (own := [("_law_place", 6), ("_law_setting", 7)]) rfl scL_times.nd (kpit K (pe_ix (kixT K) (pv 3) pe_int (fun _ _ => rfl))) (blkOk_by (own := [("_law_place", 6), ("_law_setting", 7)]) (N := nL_times) (sc := defScope sL_times) (by decide +kernel)) (fun _ _ _ _ _ => (kpg K 2 rfl (pgs_cons (pg_name (i := 6) scL_times.nd rfl (.inl rfl) (.inr rfl)) (pgs_cons (pg_name (i := 7) scL_times.nd rfl (.inl rfl) (.inr rfl)) pgs_nil)))) (fun _ _ _ _ _ => pts_nil) (fun _ _ _ _ _ => (pe_tup (pa_cons (pe_op op_add (pv 6) (pe_op op_mul (pv 5) (pe_ix (kixT K) (pv 3) pe_int (fun _ _ => rfl)))) (pa_cons (pv 7) pa_nil))))) pa_nil)))))
        (pss_one (ps_ret (pe_tup (pa_cons (pe_op op_mul (pe_ix (kixT K) (pv 3) pe_int (fun _ _ => rfl)) (pe_callB b_abs (by rfl) T.zabs (by decide +kernel) (pa_cons (pv 2) pa_nil))) (pa_cons (pe_call (ok_l_tidy T) (hr.mono (by decide)) (by rfl) T.l_tidy.m T.l_tidy.F.kp T.l_tidy.b .nil pass0 (pa_cons (pv 0) (pa_cons (pv 4) pa_nil))) pa_nil)))))))))), ?_⟩
  walk_at "ss"
  rintro ds Qd ⟨p, ⟨a, xs⟩, n, rfl, hp, hn, hl, hm, q⟩
  refine ⟨[.sh (.int p), .sh (eRound (a, xs)), .sh (.int n)], .cons (.inr ⟨rfl, rfl⟩) (.cons (.inr ⟨rfl, eRound_tupO _⟩) (.cons (.inr ⟨rfl, rfl⟩) .nil)), ?_⟩
  simp only at hl hm hn
  walk_at "g"
  unfold Rd.times at q
  by_cases h0 : a = 0
  · subst h0
    rw [if_pos rfl] at q
    refine iteTb (by simp) ?_
    walk_at "g"
    refine ⟨p, [], xs, 0, n, rfl, hp, by decide, by omega, hm, ?_⟩
    rw [Pt.map0n]
    walk_at "g"
    exact q
  rw [if_neg h0] at q
  obtain ⟨hn', hw⟩ := hn.resolve_left h0
  refine iteFb (by simp [h0]) ?_
  walk_at "h"
  refine ⟨fun Γ => Γ = [.sh (.int p), .sh (eRound (a, xs)), .sh (.int n), .sh (eRound (Rd.baseOf p (a, xs) n)), .no, .no, .no, .no], ?_, ?_⟩
  case refine_2 =>
    walk_at "h"
    unfold Rd.baseOf
    refine ite2b (fun hz => ?_) fun hz => ?_
    · have hz' : n < 0 := of_decide_eq_true hz
      rw [if_pos hz']
      have : xs.length ≤ 50000 := by omega
      walk_at "h"
      rfl
    · have hz' : ¬ n < 0 := of_decide_eq_false hz
      rw [if_neg hz']
      rfl
  · rintro Γ rfl
    have hb0 : (Rd.baseOf p (a, xs) n).2.length ≤ xs.length := by
      unfold Rd.baseOf
      split
      · exact Rd.inv_len p (a, xs)
      · exact Nat.le_refl _
    have hb : (Rd.baseOf p (a, xs) n).2.length ≤ 50000 := Nat.le_trans hb0 hl
    have hbw : n.natAbs * (Rd.baseOf p (a, xs) n).2.length ≤ 90000 := Nat.le_trans (Nat.mul_le_mul_left _ hb0) hw
    generalize Rd.baseOf p (a, xs) n = b at hb hbw q ⊢
    have hg := Rd.goings_len b
    have ha : absI n = (n.natAbs : Int) := by unfold absI; split <;> omega
    walk_at "h"
    rw [ha]
    refine ⟨_, _, _, rfl, ⟨(n.natAbs : Int), rfl, by omega, by omega, rfl, rfl⟩, fun k Γ => ∃ y5 : Sl, y5.own? = none ∧ Γ = [.sh (.int p), .sh (eRound (a, xs)), .sh (.int n), .sh (eRound b), .ow (.lst ((Rd.goings b k).map ePair)), y5, .no, .no], ⟨.no, rfl, rfl⟩, ?_, ?_⟩
    · rintro k Γ hk ⟨y5, h5, rfl⟩
      have k2 : (k + 1) * b.2.length ≤ 90000 := Nat.le_trans (Nat.mul_le_mul_right _ (by omega)) hbw
      rw [Nat.add_mul, Nat.one_mul] at k2
      have k3 := hg k
      walk_at "h"
      refine lc_map (f := ePair) (fun x => some (ePair (x.1 + (0 + (k : Int)) * b.1, x.2))) (fun x hx P hP => ?_) ?_
      · walk_at "h"
        exact hP
      · rw [fm_map]
        walk_at "h"
        refine ⟨.sh (.int (0 + (k : Int))), rfl, ?_⟩
        rw [show Rd.goings b (k + 1) = Rd.goings b k ++ Pt.moved b.2 ((0 + (k : Int)) * b.1) by rw [Int.zero_add]; rfl, List.map_append, show (Pt.moved b.2 ((0 + (k : Int)) * b.1)).map ePair = b.2.map fun x => ePair (x.1 + (0 + (k : Int)) * b.1, x.2) by unfold Pt.moved; rw [List.map_map]; rfl]
        rfl
    · rintro Γ ⟨y5, h5, rfl⟩
      rw [Int.toNat_natCast]
      have k2 : n.natAbs * b.2.length ≤ 90000 := hbw
      have k3 := hg n.natAbs
      have k4 := Pt.keys_len (Rd.goings b n.natAbs)
      walk_at "g"
      rw [ha]
      walk_at "g"
      exact q

end
end Law
namespace Law
open PySem PySem.Spec PyProof.Rows L2 Dk
section
variable {P : Program} {w : World} {K : Fg} {mg : Str → Option Value} {base : Heap}
def cPlannedD : List PyData → (PyData → Prop) → Prop := fun ds Qd => ∃ (k : Int) (ns : List Str), ds = [.int k, .list (ns.map .str)] ∧ 0 ≤ k ∧ ns.length = 5 ∧ (∀ n ∈ ns, nameOk n) ∧ ∀ d, DeedOk d → isD d = true → Qd (eDeedB d)
set_option maxHeartbeats 4000000 in
theorem ok_l_planned (T : Txt K mg) : FnOk P w K mg base CX0 4 T.l_planned.f T.l_planned.fd ["_law_draw", "_law_k", "_law_names_here"] (RefSp K IsDraw cPlannedD) := by
  refine ref_ok T.l_planned.F scL_planned (fun ds Qd h => by obtain ⟨k, ns, rfl, _⟩ := h; rfl) fun cdv A outer s H E hr => ?_
  refine ⟨_, (pss_cons (ps_if (pt_cmpR op_lt (pv 1) pe_int (nomark _)) (pss_one (ps_ret (pe_tup (pa_cons pe_str (pa_cons (pe_ix (kixL K) (pv 2) (pv 1) (fun _ _ => rfl)) (pa_cons (pe_call (ok_l_draw_deeds T) (hr.mono (by decide)) (by rfl) T.l_draw_deeds.m T.l_draw_deeds.F.kp T.l_draw_deeds.b .nil pass0 (pa_cons (pv 0) pa_nil)) pa_nil)))))) pss_nil)
        (pss_cons (ps_if (pt_cmpR op_lt (pv 1) pe_int (nomark _)) (pss_one (ps_ret (pe_tup (pa_cons pe_str (pa_cons (pe_ix (kixL K) (pv 2) (pe_op op_sub (pv 1) pe_int) (fun _ _ => rfl)) pa_nil))))) pss_nil)
        (pss_cons (ps_if (pt_cmpR op_eq (pe_call (ok_l_take T) (hr.mono (by decide)) (by rfl) T.l_take.m T.l_take.F.kp T.l_take.b .nil pass0 (pa_cons (pv 0) (pa_cons pe_int pa_nil))) pe_int (nomark _)) (pss_one (ps_ret (pe_call (ok_l_round_deed T) (hr.mono (by decide)) (by rfl) T.l_round_deed.m T.l_round_deed.F.kp T.l_round_deed.b .nil pass0 (pa_cons (pv 0) (pa_cons (pv 2) pa_nil))))) pss_nil)
        (pss_one (ps_ret (pe_call (ok_l_crew_deed T) (hr.mono (by decide)) (by rfl) T.l_crew_deed.m T.l_crew_deed.F.kp T.l_crew_deed.b .nil pass0 (pa_cons (pv 0) (pa_cons (pv 2) pa_nil)))))))), ?_⟩
  walk_at "ss"
  rintro ds Qd ⟨k, ns, rfl, k0, hl, hn, q⟩
  refine ⟨[.sh (.int k), .ar (.list (ns.map .str))], .cons (.inr ⟨rfl, rfl⟩) (.cons (.inl rfl) .nil), ?_⟩
  have n0 : 1 < ns.length := by omega
  have n00 : 0 < ns.length := by omega
  have n1 : ns.length ≤ 1000 := by omega
  walk_at "g"
  refine ite2b (fun hz => ?_) fun hz => ?_
  · obtain ⟨n, hn2, e⟩ := strs_at (ws := ns) k0 (by have := of_decide_eq_true hz; omega)
    have hnn := hn n hn2
    walk_at "g"
    refine ⟨_, _, _, rfl, rfl, e, ?_⟩
    walk_at "g"
    intro xs hxl hxs
    walk_at "g"
    exact q (.tell n xs) ⟨hnn, hxl, hxs⟩ rfl
  walk_at "g"
  refine ite2b (fun hz2 => ?_) fun hz2 => ?_
  · have hk : 0 ≤ k - 5 ∧ k - 5 < 2 := by
      have := of_decide_eq_false hz
      have := of_decide_eq_true hz2
      omega
    obtain ⟨n, hn2, e⟩ := strs_at (ws := ns) hk.1 (by omega)
    have hnn := hn n hn2
    walk_at "g"
    refine ⟨_, _, _, rfl, rfl, e, ?_⟩
    walk_at "g"
    exact q (.found n) hnn rfl
  walk_at "g"
  intro t t0 t1
  walk_at "g"
  refine ite2b (fun hz3 => ?_) fun hz3 => ?_
  · walk_at "g"
    intro d hd hR
    walk_at "g"
    exact q d hd (isR_D hR)
  walk_at "g"
  intro d hd hC
  walk_at "g"
  exact q d hd (isC_D hC)

end
end Law
namespace Law
open PySem PySem.Spec PyProof.Rows L2 Dk
section
variable {P : Program} {w : World} {K : Fg} {mg : Str → Option Value} {base : Heap}
set_option maxHeartbeats 4000000 in
theorem ok_l_stands (T : Txt K mg) : FnOk P w K mg base CX0 4 T.l_stands.f T.l_stands.fd ["_law_p_here", "_law_book", "_law_stand"] (GSp K false (cStands T.cBook.C)) := by
  refine gen_ok T.l_stands.F scL_stands (fun as Qd Qx h => by obtain ⟨p, b, m, z1, z2, rfl, _⟩ := h; rfl) fun cdv A outer s H E hr => ?_
  refine ⟨_, (pss_cons (ps_set (i := 3) scL_stands.nd rfl (.inl rfl) (pe_meth0 (pv 1) T.cBook.cl T.Book_names.me (ok_Book_names T) (hr.mono (by decide)) T.Book_names.b .nil pass0))
        (pss_cons (ps_set (i := 4) scL_stands.nd rfl (.inl rfl) (pe_meth0 (pv 1) T.cBook.cl T.Book_crews.me (ok_Book_crews T) (hr.mono (by decide)) T.Book_crews.b .nil pass0))
        (pss_cons (ps_if (PW.pt (pw_or (pt_not (pt_val (pe_callB (kisi K) (by rfl) T.zisinstance (by decide +kernel) (pa_cons (pv 3) (pa_cons (pe_bltn (v := .ty "list") (by rfl) T.zlist (by decide +kernel) rfl) pa_nil))))) (pw_or1 (pt_cmpR (kneD K hr.units) (pv 3) (pe_callB (b_sortDS rfl) (by rfl) T.zsorted (by decide +kernel) (pa_cons (pe_ix (kixT K) (pv 2) pe_int (fun _ _ => rfl)) pa_nil)) (nomark _))))) (pss_one (ps_ret pe_bl)) pss_nil)
        (pss_cons (ps_if (PW.pt (pw_or (pt_not (pt_val (pe_callB (kisi K) (by rfl) T.zisinstance (by decide +kernel) (pa_cons (pv 4) (pa_cons (pe_bltn (v := .ty "list") (by rfl) T.zlist (by decide +kernel) rfl) pa_nil))))) (pw_or1 (pt_cmpR (kneD K hr.units) (pv 4) (pe_callB (b_sortDS rfl) (by rfl) T.zsorted (by decide +kernel) (pa_cons (pe_ix (kixT K) (pv 2) pe_int (fun _ _ => rfl)) pa_nil)) (nomark _))))) (pss_one (ps_ret pe_bl)) pss_nil)
        (pss_cons (ps_for PassesOwn.never rfl (kpilO K (pv 3)) (pg_name (i := 5) scL_stands.nd rfl (.inl rfl)) (pss_cons (ps_set (i := 6) scL_stands.nd rfl (.inl rfl) (pe_meth (pv 1) T.cBook.cl T.Book_round_of.me (ok_Book_round_of T) (hr.mono (by decide)) T.Book_round_of.b .nil passL (pa_cons (pv 5) pa_nil)))
        (pss_one (ps_if (PW.pt (pw_or (pt_not (pt_val (pe_call (ok_l_is_round T) (hr.mono (by decide)) (by rfl) T.l_is_round.m T.l_is_round.F.kp T.l_is_round.b .nil pass0 (pa_cons (pv 0) (pa_cons (pv 6) pa_nil))))) (pw_or1 (pt_cmpR (kneD K hr.units) (pv 6) (pe_dget (hu_of hr) (pe_ix (kixT K) (pv 2) pe_int (fun _ _ => rfl)) (pv 5) (fun _ _ => rfl)) (nomark _))))) (pss_one (ps_ret pe_bl)) pss_nil))))
        (pss_cons (ps_for PassesOwn.never rfl (kpilO K (pv 4)) (pg_name (i := 7) scL_stands.nd rfl (.inl rfl)) (pss_cons (ps_set (i := 8) scL_stands.nd rfl (.inl rfl) (pe_meth (pv 1) T.cBook.cl T.Book_members.me (ok_Book_members T) (hr.mono (by decide)) T.Book_members.b .nil passL (pa_cons (pv 7) pa_nil)))
        (pss_cons (ps_if (PW.pt (pw_or (pt_not (pt_val (pe_callB (kisi K) (by rfl) T.zisinstance (by decide +kernel) (pa_cons (pv 8) (pa_cons (pe_bltn (v := .ty "list") (by rfl) T.zlist (by decide +kernel) rfl) pa_nil))))) (pw_or1 (pt_cmpR (kneD K hr.units) (pv 8) (pe_callTy (klist K) (by rfl) T.zlist (by decide +kernel) (pa_cons (pe_dget (hu_of hr) (pe_ix (kixT K) (pv 2) pe_int (fun _ _ => rfl)) (pv 7) (fun _ _ => rfl)) pa_nil)) (nomark _))))) (pss_one (ps_ret pe_bl)) pss_nil)
        (pss_one (ps_expr (kbm K PySem.F.plainAttrs_list PySem.F.slot_list_insert PySem.F.type_list_insert b_insert (pv 8) (pa_cons pe_int (pa_cons pe_str pa_nil))))))))
        (pss_cons (ps_expr (kbm0 K PySem.F.plainAttrs_list PySem.F.slot_list_clear PySem.F.type_list_clear b_clear (pv 3)))
        (pss_cons (ps_expr (kbm0 K PySem.F.plainAttrs_list PySem.F.slot_list_clear PySem.F.type_list_clear b_clear (pv 4)))
        (pss_one (ps_ret pe_bl)))))))))), ?_⟩
  walk_at "ss"
  rintro as Qd Qx ⟨p, b, m, z1, z2, rfl, hs, hm, q⟩
  refine ⟨[.sh (.int p), .ro (bookO T.cBook.C p b), .ar (eSt b.st)], .cons (.inl ⟨rfl, .inr rfl⟩) (.cons rfl (.cons (.inr rfl) .nil)), ?_⟩
  have h1 : b.st.rs.length < 64 := by have := hs.rl; omega
  have h2 : b.st.cs.length < 64 := by have := hs.cl; omega
  walk_at "h"
  intro ys y1 y2
  walk_at "h"
  intro zs z1 z2
  have sy := strs_shp (ys := ys) fun y hy => by
    obtain ⟨e, he, rfl⟩ := List.mem_map.mp (y1.mem_iff.mp hy)
    exact (nameB_ok (hs.rd e he).2.2).2
  have sz := strs_shp (ys := zs) fun y hy => by
    obtain ⟨e, he, rfl⟩ := List.mem_map.mp (z1.mem_iff.mp hy)
    exact (nameB_ok (hs.cr e he).2.1).2
  have k1 := sy.ok
  have k2 := sz.ok
  refine ⟨fun Γ => Γ = [.sh (.int p), .ro (bookO T.cBook.C p b), .ar (eSt b.st), .ow (.lst (ys.map .str)), .ow (.lst (zs.map .str)), .no, .no, .no, .no], ?_, ?_⟩
  rotate_left
  · walk_at "h"
    refine ⟨_, _, _, rfl, kvsOf_kv _, kvK_keys _, by rw [List.length_map]; exact h1, fun ys2 y3 y4 => ?_⟩
    cases sorted_uniq y1 y3 y2 y4
    walk_at "h"
    refine iteFb (by show (!PyData.eqv _ _) = false; rw [sy.refl]; rfl) ?_
    rfl
  rintro _ rfl
  walk_at "h"
  refine ⟨fun Γ => Γ = [.sh (.int p), .ro (bookO T.cBook.C p b), .ar (eSt b.st), .ow (.lst (ys.map .str)), .ow (.lst (zs.map .str)), .no, .no, .no, .no], ?_, ?_⟩
  rotate_left
  · walk_at "h"
    refine ⟨_, _, _, rfl, kvsOf_kv _, kvK_keys _, by rw [List.length_map]; exact h2, fun ys2 y3 y4 => ?_⟩
    cases sorted_uniq z1 y3 z2 y4
    walk_at "h"
    refine iteFb (by show (!PyData.eqv _ _) = false; rw [sz.refl]; rfl) ?_
    rfl
  rintro _ rfl
  walk_at "h"
  refine fun A1 => ⟨fun k Γ => ∃ y5 y6 : Sl, Γ = [.sh (.int p), .ro (bookO T.cBook.C p b), .ar (eSt b.st), .ow (.ab A1), .ow (.lst (zs.map .str)), y5, y6, .no, .no], ⟨.no, .no, rfl⟩, (by rintro k Γ ⟨y5, y6, rfl⟩; rfl), ?_, ?_⟩
  · rintro k d Γ hd ⟨y5, y6, rfl⟩
    obtain ⟨n, r, rfl, hr⟩ := key_at y1 hd
    have hok := hs.rd _ (Bk.get_mem hr)
    have hrd : Rd.IsRound p r := hok.1
    have hlen : r.2.length < 2 ^ 62 := Nat.lt_of_le_of_lt (Bk.ok_len hok.1 hok.2.1) (by decide)
    have ev := valP_kv (f := eRound) b.st.rs n
    rw [hr] at ev
    have kr := (eRound_shp r).ok
    walk_at "h"
    refine ⟨fun r' hr' => ?_, fun hn => by rw [hr] at hn; cases hn⟩
    rw [hr] at hr'
    cases hr'
    walk_at "h"
    refine ⟨_, fun _ h => h, ?_⟩
    walk_at "h"
    refine ⟨_, _, _, _, rfl, rfl, rfl, ev, ?_⟩
    walk_at "h"
    refine iteFb (by show (!PyData.eqv _ _) = false; rw [(eRound_shp r).refl]; rfl) ?_
    exact ⟨_, _, rfl⟩
  rintro _ ⟨y5, y6, rfl⟩
  walk_at "h"
  refine fun A2 => ⟨fun k Γ => ∃ y7 y8 : Sl, Γ = [.sh (.int p), .ro (bookO T.cBook.C p b), .ar (eSt b.st), .ow (.lst (ys.map .str)), .ow (.ab A2), y5, y6, y7, y8], ⟨.no, .no, rfl⟩, (by rintro k Γ ⟨y7, y8, rfl⟩; rfl), ?_, ?_⟩
  · rintro k d Γ hd ⟨y7, y8, rfl⟩
    obtain ⟨n, r, rfl, hr⟩ := key_at z1 hd
    have hok := hs.cr _ (Bk.get_mem hr)
    have hlen : r.length ≤ 100000 := by have := hok.1; simp only at this; omega
    have ev := valP_kv (f := eNames) b.st.cs n
    rw [hr] at ev
    have sr := strs_shp (ys := r) fun y hy => (nameB_ok (hok.2.2 y hy)).2
    have kr := sr.ok
    have sl : (r.map PyData.str).length < sizeLine := small100000 (by rw [List.length_map]; exact hlen)
    have kt : tupOs (r.map PyData.str) = true := map_tupO (fun _ => rfl) r
    walk_at "h"
    refine ⟨fun r' hr' => ?_, fun hn => by rw [hr] at hn; cases hn⟩
    rw [hr] at hr'
    cases hr'
    refine ⟨hlen, ?_⟩
    walk_at "h"
    refine ⟨_, fun _ h => h, ?_⟩
    walk_at "h"
    refine ⟨_, _, _, _, rfl, rfl, rfl, ev, ?_⟩
    walk_at "h"
    refine iteFb (by show (!PyData.eqv _ _) = false; rw [sr.refl]; rfl) ?_
    walk_at "h"
    exact ⟨_, _, rfl⟩
  rintro _ ⟨y7, y8, rfl⟩
  walk_at "h"
  exact q

end
end Law
namespace Law
open PySem PySem.Spec PyProof.Rows L2 Dk
section
variable {P : Program} {w : World} {K : Fg} {mg : Str → Option Value} {base : Heap}
set_option maxHeartbeats 4000000 in
theorem ok_Book_join_as (T : Txt K mg) : FnOk P w K mg base (L2.CX P w) 4 T.Book_join_as.f T.Book_join_as.fd ["self", "name", "one", "other"] (GSp K true (cJoinAs T.cBook.C (erC T))) := by
  refine genX_ok T.Book_join_as.F scBook_join_as (fun as Qd Qx h => by obtain ⟨p, b, m, n, n1, n2, z1, z2, z3, rfl, _⟩ := h; rfl) fun cdv A outer s H E hr => ?_
  refine ⟨_, (pss_cons (ps_expr (pe_methE (pv 0) T.cBook.cl T.Book_checked.me (ok_Book_checked T) (hr.mono (by decide)) T.Book_checked.b (fun σ => passAt (takes_of rfl rfl rfl rfl) σ) (pa_cons (pv 1) pa_nil)))
        (pss_one (ps_expr (pe_methE (pv 0) T.cBook.cl T.Book_keep.me (ok_Book_keep T) (hr.mono (by decide)) T.Book_keep.b (fun σ => passAt (takes_of rfl rfl rfl rfl) σ) (pa_cons (pv 1) (pa_cons (pe_call (ok_joined T) (hr.mono (by decide)) (by rfl) T.joined.m T.joined.F.kp T.joined.b .nil pass0 (pa_cons (kfld K (pv 0) rfl) (pa_cons (pe_methE (pv 0) T.cBook.cl T.Book_named.me (ok_Book_named T) (hr.mono (by decide)) T.Book_named.b (fun σ => passAt (takes_of rfl rfl rfl rfl) σ) (pa_cons (pv 2) pa_nil)) (pa_cons (pe_methE (pv 0) T.cBook.cl T.Book_named.me (ok_Book_named T) (hr.mono (by decide)) T.Book_named.b (fun σ => passAt (takes_of rfl rfl rfl rfl) σ) (pa_cons (pv 3) pa_nil)) pa_nil)))) pa_nil)))))), ?_⟩
  walk_at "ss"
  rintro as Qd Qx ⟨p, b, m, n, n1, n2, z1, z2, z3, rfl, hp, hb, hm, hn, q1, q2⟩
  refine ⟨[.rf (bookO T.cBook.C p b), .sh (.str n), .sh (.str n1), .sh (.str n2)], .cons rfl (.cons (.inl ⟨rfl, .inr rfl⟩) (.cons (.inl ⟨rfl, .inr rfl⟩) (.cons (.inl ⟨rfl, .inr rfl⟩) .nil))), ?_⟩
  walk_at "g"
  refine ⟨fun h1 => ?_, fun h1 => ⟨rfl, q2 _ (by unfold Bk.tellS; rw [if_neg (by rw [h1]; decide)])⟩⟩
  walk_at "g"
  refine ⟨fun r1 e1 => ?_, fun e1 => ⟨rfl, q2 _ (by unfold Bk.tellS; rw [if_pos h1]; simp only [Bk.valR, e1])⟩⟩
  walk_at "g"
  refine ⟨fun r2 e2 => ?_, fun e2 => ⟨rfl, q2 _ (by unfold Bk.tellS; rw [if_pos h1]; simp only [Bk.valR, e1, e2])⟩⟩
  have b1 := hb.st.rd _ (Bk.get_mem e1)
  have b2 := hb.st.rd _ (Bk.get_mem e2)
  have l1 := Bk.ok_len b1.1 b1.2.1
  have l2 := Bk.ok_len b2.1 b2.2.1
  have l3 := Rd.join_len p r1 r2
  have l4 : r1.2.length ≤ 50000 := by simp only at l1; omega
  have l5 : r2.2.length ≤ 50000 := by simp only at l2; omega
  have l6 : (Rd.join p r1 r2).2.length ≤ 100000 := by simp only at l1 l2; omega
  have e3 : Bk.tellS p b.st n (.join n n1 n2) = Bk.keepS b.st n (Rd.join p r1 r2) := by unfold Bk.tellS; rw [if_pos h1]; simp only [Bk.valR, e1, e2]
  rw [e3] at q1 q2
  walk_at "g"
  exact ⟨p, b, m, n, Rd.join p r1 r2, _, _, rfl, hb, hm, l6, fun s hs => ⟨rfl, q1 s hs⟩, fun c hc => ⟨rfl, q2 c hc⟩⟩

end
end Law
namespace Law
open PySem PySem.Spec PyProof.Rows L2 Dk
section
variable {P : Program} {w : World} {K : Fg} {mg : Str → Option Value} {base : Heap}
set_option maxHeartbeats 4000000 in
theorem ok_Book_back_as (T : Txt K mg) : FnOk P w K mg base (L2.CX P w) 4 T.Book_back_as.f T.Book_back_as.fd ["self", "name", "one"] (GSp K true (cBackAs T.cBook.C (erC T))) := by
  refine genX_ok T.Book_back_as.F scBook_back_as (fun as Qd Qx h => by obtain ⟨p, b, m, n, n1, z1, z2, rfl, _⟩ := h; rfl) fun cdv A outer s H E hr => ?_
  refine ⟨_, (pss_cons (ps_expr (pe_methE (pv 0) T.cBook.cl T.Book_checked.me (ok_Book_checked T) (hr.mono (by decide)) T.Book_checked.b (fun σ => passAt (takes_of rfl rfl rfl rfl) σ) (pa_cons (pv 1) pa_nil)))
        (pss_one (ps_expr (pe_methE (pv 0) T.cBook.cl T.Book_keep.me (ok_Book_keep T) (hr.mono (by decide)) T.Book_keep.b (fun σ => passAt (takes_of rfl rfl rfl rfl) σ) (pa_cons (pv 1) (pa_cons (pe_call (ok_backward T) (hr.mono (by decide)) (by rfl) T.backward.m T.backward.F.kp T.backward.b .nil pass0 (pa_cons (kfld K (pv 0) rfl) (pa_cons (pe_methE (pv 0) T.cBook.cl T.Book_named.me (ok_Book_named T) (hr.mono (by decide)) T.Book_named.b (fun σ => passAt (takes_of rfl rfl rfl rfl) σ) (pa_cons (pv 2) pa_nil)) pa_nil))) pa_nil)))))), ?_⟩
  walk_at "ss"
  rintro as Qd Qx ⟨p, b, m, n, n1, z1, z2, rfl, hp, hb, hm, hn, q1, q2⟩
  refine ⟨[.rf (bookO T.cBook.C p b), .sh (.str n), .sh (.str n1)], .cons rfl (.cons (.inl ⟨rfl, .inr rfl⟩) (.cons (.inl ⟨rfl, .inr rfl⟩) .nil)), ?_⟩
  walk_at "g"
  refine ⟨fun h1 => ?_, fun h1 => ⟨rfl, q2 _ (by unfold Bk.tellS; rw [if_neg (by rw [h1]; decide)])⟩⟩
  walk_at "g"
  refine ⟨fun r1 e1 => ?_, fun e1 => ⟨rfl, q2 _ (by unfold Bk.tellS; rw [if_pos h1]; simp only [Bk.valR, e1])⟩⟩
  have b1 := hb.st.rd _ (Bk.get_mem e1)
  have l1 := Bk.ok_len b1.1 b1.2.1
  have l3 := Rd.inv_len p r1
  have l4 : r1.2.length ≤ 50000 := by simp only at l1; omega
  have l6 : (Rd.inv p r1).2.length ≤ 100000 := by simp only at l1; omega
  have e3 : Bk.tellS p b.st n (.back n n1) = Bk.keepS b.st n (Rd.inv p r1) := by unfold Bk.tellS; rw [if_pos h1]; simp only [Bk.valR, e1]
  rw [e3] at q1 q2
  walk_at "g"
  exact ⟨p, b, m, n, Rd.inv p r1, _, _, rfl, hb, hm, l6, fun s hs => ⟨rfl, q1 s hs⟩, fun c hc => ⟨rfl, q2 c hc⟩⟩

end
end Law
namespace Law
open PySem PySem.Spec PyProof.Rows L2 Dk
section
variable {P : Program} {w : World} {K : Fg} {mg : Str → Option Value} {base : Heap}
set_option maxHeartbeats 4000000 in
theorem ok_l_value (T : Txt K mg) : FnOk P w K mg base CX0 5 T.l_value.f T.l_value.fd ["_law_p_here", "_law_rounds", "_law_deed"] (PureSp K cValue) := by
  refine pure_ok T.l_value.F scL_value (fun ds Qd h => by obtain ⟨p, m, s, d, r, rfl, _⟩ := h; rfl) fun cdv A outer s H E hr => ?_
  refine ⟨_, (pss_cons (ps_if (pt_cmpR op_eq (pe_ix (kixT K) (pv 2) pe_int (fun _ _ => rfl)) pe_str (nomark _)) (pss_one (ps_ret (pe_call (ok_l_walk T) (hr.mono (by decide)) (by rfl) T.l_walk.m T.l_walk.F.kp T.l_walk.b .nil pass0 (pa_cons (pv 0) (pa_cons (pe_ix (kixT K) (pv 2) pe_int (fun _ _ => rfl)) pa_nil))))) pss_nil)
        (pss_cons (ps_if (pt_cmpR op_eq (pe_ix (kixT K) (pv 2) pe_int (fun _ _ => rfl)) pe_str (nomark _)) (pss_one (ps_ret (pe_call (ok_l_join T) (hr.mono (by decide)) (by rfl) T.l_join.m T.l_join.F.kp T.l_join.b .nil pass0 (pa_cons (pv 0) (pa_cons (pe_dget (hu_of hr) (pv 1) (pe_ix (kixT K) (pe_ix (kixT K) (pv 2) pe_int (fun _ _ => rfl)) pe_int (fun _ _ => rfl)) (fun _ _ => rfl)) (pa_cons (pe_dget (hu_of hr) (pv 1) (pe_ix (kixT K) (pe_ix (kixT K) (pv 2) pe_int (fun _ _ => rfl)) pe_int (fun _ _ => rfl)) (fun _ _ => rfl)) pa_nil)))))) pss_nil)
        (pss_one (ps_ret (pe_call (ok_l_times T) (hr.mono (by decide)) (by rfl) T.l_times.m T.l_times.F.kp T.l_times.b .nil pass0 (pa_cons (pv 0) (pa_cons (pe_dget (hu_of hr) (pv 1) (pe_ix (kixT K) (pe_ix (kixT K) (pv 2) pe_int (fun _ _ => rfl)) pe_int (fun _ _ => rfl)) (fun _ _ => rfl)) (pa_cons (pe_ix (kixT K) (pv 2) pe_int (fun _ _ => rfl)) pa_nil)))))))), ?_⟩
  walk_at "ss"
  rintro ds Qd ⟨p, m, s, d, r, rfl, hp, hs, hd, hv, q⟩
  refine ⟨[.sh (.int p), .ar (eRs s.rs), .ar (eDeedB d)], .cons (.inr ⟨rfl, rfl⟩) (.cons (.inl rfl) (.cons (.inl rfl) .nil)), ?_⟩
  have hp0 := hp.pos
  have len : ∀ {a : Str} {x : Rd.R}, Bk.get s.rs a = some x → x.2.length ≤ 401 := fun h => by
    have b1 := hs.rd _ (Bk.get_mem h)
    exact Bk.ok_len b1.1 b1.2.1
  have look : ∀ {a : Str} {x : Rd.R}, Bk.get s.rs a = some x → valA (kvD eRound s.rs) (.inr a) = some (some (eRound x)) := fun h => by
    rw [valA_kv eRound_tupO, h]; rfl
  cases d with
  | tell n ws =>
    obtain ⟨hn, hl, hw⟩ := hd
    simp only [Bk.valR] at hv
    split at hv
    · rename_i hg
      cases hv
      obtain ⟨zs, rfl⟩ | hb := word_cases ws
      · have hz : zs.length ≤ 50000 := by rw [List.length_map] at hl; omega
        rw [asDeed_wd] at q
        walk_at "g"
        refine ⟨p, zs, by rw [eDeeds, eDeed_wd], hp0, hz, ?_⟩
        walk_at "g"
        exact q
      · exact (bad_word hb hg).elim
    · cases hv
  | join n a b =>
    simp only [Bk.valR] at hv
    split at hv
    · rename_i x y hx hy
      cases hv
      have l1 := len hx
      have l2 := len hy
      have l3 : x.2.length ≤ 50000 := by omega
      have l4 : y.2.length ≤ 50000 := by omega
      have k1 := look hx
      have k2 := look hy
      walk_at "g"
      refine ⟨_, _, rfl, k1, ?_⟩
      walk_at "g"
      refine ⟨_, _, rfl, k2, ?_⟩
      walk_at "g"
      exact q
    · cases hv
  | back n a =>
    simp only [Bk.valR] at hv
    split at hv
    · rename_i x hx
      cases hv
      have l1 := len hx
      have k1 := look hx
      have rx := (hs.rd _ (Bk.get_mem hx)).1
      have l2 : x.2.length ≤ 50000 := by omega
      have l3 : x.1 = 0 ∨ ((-1 : Int).natAbs ≤ 900000 ∧ (-1 : Int).natAbs * x.2.length ≤ 90000) := .inr ⟨by decide, by simp; omega⟩
      have l4 : ∀ y ∈ x.2, CMul y.2 (-1) := mulPat hp rx
      rw [← times_neg1 hp0 rx] at q
      walk_at "g"
      refine ⟨_, _, rfl, k1, ?_⟩
      walk_at "g"
      exact q
    · cases hv
  | times n a k =>
    obtain ⟨hn, ha, hk⟩ := hd
    simp only [Bk.valR] at hv
    split at hv
    · rename_i x hx
      cases hv
      have l1 := len hx
      have k1 := look hx
      have rx := (hs.rd _ (Bk.get_mem hx)).1
      have l2 : x.2.length ≤ 50000 := by omega
      have l3 : x.1 = 0 ∨ (k.natAbs ≤ 900000 ∧ k.natAbs * x.2.length ≤ 90000) := .inr ⟨by omega, Nat.le_trans (Nat.mul_le_mul hk l1) (by decide)⟩
      have l4 : ∀ y ∈ x.2, CMul y.2 k := mulPat hp rx
      walk_at "g"
      refine ⟨_, _, rfl, k1, ?_⟩
      walk_at "g"
      exact q
    · cases hv
  | _ => cases hv

end
end Law
namespace Law
open PySem PySem.Spec PyProof.Rows L2 Dk
section
variable {P : Program} {w : World} {K : Fg} {mg : Str → Option Value} {base : Heap}
set_option maxHeartbeats 4000000 in
theorem ok_Book_times_as (T : Txt K mg) : FnOk P w K mg base (L2.CX P w) 5 T.Book_times_as.f T.Book_times_as.fd ["self", "name", "one", "n"] (GSp K true (cTimesAs T.cBook.C (erC T))) := by
  refine genX_ok T.Book_times_as.F scBook_times_as (fun as Qd Qx h => by obtain ⟨p, b, m, n, n1, k, z1, z2, z3, rfl, _⟩ := h; rfl) fun cdv A outer s H E hr => ?_
  refine ⟨_, (pss_cons (ps_expr (pe_methE (pv 0) T.cBook.cl T.Book_checked.me (ok_Book_checked T) (hr.mono (by decide)) T.Book_checked.b (fun σ => passAt (takes_of rfl rfl rfl rfl) σ) (pa_cons (pv 1) pa_nil)))
        (pss_one (ps_expr (pe_methE (pv 0) T.cBook.cl T.Book_keep.me (ok_Book_keep T) (hr.mono (by decide)) T.Book_keep.b (fun σ => passAt (takes_of rfl rfl rfl rfl) σ) (pa_cons (pv 1) (pa_cons (pe_call (ok_repeated T) (hr.mono (by decide)) (by rfl) T.repeated.m T.repeated.F.kp T.repeated.b .nil pass0 (pa_cons (kfld K (pv 0) rfl) (pa_cons (pe_methE (pv 0) T.cBook.cl T.Book_named.me (ok_Book_named T) (hr.mono (by decide)) T.Book_named.b (fun σ => passAt (takes_of rfl rfl rfl rfl) σ) (pa_cons (pv 2) pa_nil)) (pa_cons (pv 3) pa_nil)))) pa_nil)))))), ?_⟩
  walk_at "ss"
  rintro as Qd Qx ⟨p, b, m, n, n1, k, z1, z2, z3, rfl, hp2, hb, hm, hn, hk, q1, q2⟩
  refine ⟨[.rf (bookO T.cBook.C p b), .sh (.str n), .sh (.str n1), .sh (.int k)], .cons rfl (.cons (.inl ⟨rfl, .inr rfl⟩) (.cons (.inl ⟨rfl, .inr rfl⟩) (.cons (.inl ⟨rfl, .inr rfl⟩) .nil))), ?_⟩
  have hp := hp2.pos
  walk_at "g"
  refine ⟨fun h1 => ?_, fun h1 => ⟨rfl, q2 _ (by unfold Bk.tellS; rw [if_neg (by rw [h1]; decide)])⟩⟩
  walk_at "g"
  refine ⟨fun r1 e1 => ?_, fun e1 => ⟨rfl, q2 _ (by unfold Bk.tellS; rw [if_pos h1]; simp only [Bk.valR, e1])⟩⟩
  have b1 := hb.st.rd _ (Bk.get_mem e1)
  have l1 := Bk.ok_len b1.1 b1.2.1
  simp only at l1
  have l4 : r1.2.length ≤ 50000 := by omega
  have l5 : r1.1 = 0 ∨ (k.natAbs ≤ 900000 ∧ k.natAbs * r1.2.length ≤ 90000) := .inr ⟨by omega, Nat.le_trans (Nat.mul_le_mul hk l1) (by decide)⟩
  have l6 : ∀ x ∈ r1.2, CMul x.2 k := mulPat hp2 b1.1
  have l7 : (Rd.times p r1 k).2.length ≤ 100000 := Nat.le_trans (times_len2 p r1 k) (by have := Nat.mul_le_mul hk l1; omega)
  have e3 : Bk.tellS p b.st n (.times n n1 k) = Bk.keepS b.st n (Rd.times p r1 k) := by unfold Bk.tellS; rw [if_pos h1]; simp only [Bk.valR, e1]
  rw [e3] at q1 q2
  walk_at "g"
  exact ⟨p, b, m, n, Rd.times p r1 k, _, _, rfl, hb, hm, l7, fun s hs => ⟨rfl, q1 s hs⟩, fun c hc => ⟨rfl, q2 c hc⟩⟩

end
end Law
namespace Law
open PySem PySem.Spec PyProof.Rows L2 Dk
section
variable {P : Program} {w : World} {K : Fg} {mg : Str → Option Value} {base : Heap}
set_option maxHeartbeats 4000000 in
theorem ok_l_due_round (T : Txt K mg) : FnOk P w K mg base CX0 6 T.l_due_round.f T.l_due_round.fd ["_law_p_here", "_law_stand", "_law_deed"] (GSp K false cDueR) := by
  refine gen_ok T.l_due_round.F scL_due_round (fun as Qd Qx h => by obtain ⟨p, m, s, d, z, rfl, _⟩ := h; rfl) fun cdv A outer s H E hr => ?_
  refine ⟨_, (pss_cons (ps_set (i := 3) scL_due_round.nd rfl (.inr rfl) (pe_callTy b_dict (by rfl) T.zdict (by decide +kernel) (pa_cons (pe_ix (kixT K) (pv 1) pe_int (fun _ _ => rfl)) pa_nil)))
        (pss_cons (ps_set (i := 4) scL_due_round.nd rfl (.inl rfl) (pe_not (pe_callB (kall K rfl) (by rfl) T.zall (by decide +kernel) (pa_cons (pe_lcK (own := [("_law_crew", 6)]) rfl scL_due_round.nd (pe_ix (kixT K) (pv 1) pe_int (fun _ _ => rfl)) (blkOk_by (own := [("_law_crew", 6)]) (N := nL_due_round) (sc := defScope sL_due_round) (by decide +kernel)) (fun _ _ _ _ _ => (pg_name (i := 6) scL_due_round.nd rfl (.inl rfl) (.inr rfl))) (fun _ _ _ _ _ => pts_nil) (fun _ _ _ _ _ => (pe_cmpR (knotin K) (pe_ix (kixT K) (pv 2) pe_int (fun _ _ => rfl)) (pe_dget (hu_of hr) (pe_ix (kixT K) (pv 1) pe_int (fun _ _ => rfl)) (pv 6) (fun _ _ => rfl)) (by rfl)))) pa_nil))))
        (pss_cons (ps_if (pt_cmpR op_eq (pe_ix (kixT K) (pv 2) pe_int (fun _ _ => rfl)) pe_str (nomark _)) (pss_cons (ps_if (pt_cmp (pc_dnotin (hu_of hr) (pe_ix (kixT K) (pv 2) pe_int (fun _ _ => rfl)) (pv 3))) (pss_one (ps_ret (pe_tup (pa_cons pe_str (pa_cons (pv 1) pa_nil))))) pss_nil)
        (pss_cons (ps_if (pt_val (pv 4)) (pss_one (ps_ret (pe_tup (pa_cons pe_str (pa_cons (pv 1) pa_nil))))) pss_nil)
        (pss_cons (ps_expr (pe_dpop1 (pv 3) (pe_ix (kixT K) (pv 2) pe_int (fun _ _ => rfl)) ⟨rfl, rfl, rfl, rfl⟩))
        (pss_one (ps_ret (pe_tup (pa_cons pe_str (pa_cons (pe_tup (pa_cons (pz 3) (pa_cons (pe_ix (kixT K) (pv 1) pe_int (fun _ _ => rfl)) pa_nil))) pa_nil)))))))) pss_nil)
        (pss_cons (ps_if (pt_not (pt_val (pe_call (ok_l_is_name T) (hr.mono (by decide)) (by rfl) T.l_is_name.m T.l_is_name.F.kp T.l_is_name.b .nil pass0 (pa_cons (pe_ix (kixT K) (pv 2) pe_int (fun _ _ => rfl)) pa_nil)))) (pss_one (ps_ret (pe_tup (pa_cons pe_str (pa_cons (pv 1) pa_nil))))) pss_nil)
        (pss_cons (ps_if (PW.pt (pw_and (pt_cmpR op_eq (pe_ix (kixT K) (pv 2) pe_int (fun _ _ => rfl)) pe_str (nomark _)) (pw_and1 (pt_not (pt_val (pe_callB (kall K rfl) (by rfl) T.zall (by decide +kernel) (pa_cons (pe_lc (own := [("_law_word", 7), ("_law_number", 8)]) rfl scL_due_round.nd (kpie K (pe_ix (kixT K) (pv 2) pe_int (fun _ _ => rfl))) (blkOk_by (own := [("_law_word", 7), ("_law_number", 8)]) (N := nL_due_round) (sc := defScope sL_due_round) (by decide +kernel)) (fun _ _ _ _ _ => (kpg K 2 rfl (pgs_cons (pg_name (i := 7) scL_due_round.nd rfl (.inl rfl) (.inr rfl)) (pgs_cons (pg_name (i := 8) scL_due_round.nd rfl (.inl rfl) (.inr rfl)) pgs_nil)))) (fun _ _ _ _ _ => pts_nil) (fun _ _ _ _ _ => (pe_cmpR (kin K) (pv 7) (pe_tup (pa_cons pe_str (pa_cons pe_str pa_nil))) (by rfl)))) pa_nil))))))) (pss_one (ps_ret (pe_tup (pa_cons pe_str (pa_cons (pv 1) pa_nil))))) pss_nil)
        (pss_cons (ps_if (PW.pt (pw_and (pt_cmpR op_ne (pe_ix (kixT K) (pv 2) pe_int (fun _ _ => rfl)) pe_str (nomark _)) (pw_and1 (pt_not (pt_val (pe_callB (kall K rfl) (by rfl) T.zall (by decide +kernel) (pa_cons (pe_lc (own := [("_law_name", 9)]) rfl scL_due_round.nd (kpie K (pe_ix (kixT K) (pv 2) pe_int (fun _ _ => rfl))) (blkOk_by (own := [("_law_name", 9)]) (N := nL_due_round) (sc := defScope sL_due_round) (by decide +kernel)) (fun _ _ _ _ _ => (pg_name (i := 9) scL_due_round.nd rfl (.inl rfl) (.inr rfl))) (fun _ _ _ _ _ => pts_nil) (fun _ _ _ _ _ => (pe_cmp (pc_din (hu_of hr) (pv 9) (pv 3))))) pa_nil))))))) (pss_one (ps_ret (pe_tup (pa_cons pe_str (pa_cons (pv 1) pa_nil))))) pss_nil)
        (pss_cons (ps_set (i := 5) scL_due_round.nd rfl (.inl rfl) (pe_call (ok_l_value T) (hr.mono (by decide)) (by rfl) T.l_value.m T.l_value.F.kp T.l_value.b .nil pass0 (pa_cons (pv 0) (pa_cons (pv 3) (pa_cons (pv 2) pa_nil)))))
        (pss_cons (ps_if (PW.pt (pw_or (pt_val (pe_call (ok_l_far T) (hr.mono (by decide)) (by rfl) T.l_far.m T.l_far.F.kp T.l_far.b .nil pass0 (pa_cons (pv 5) (pa_cons pe_int (pa_cons pe_int pa_nil))))) (pw_or1 (PW.pt (pw_and (pt_val (pv 4)) (pw_and1 (pt_val (pe_call (ok_l_far T) (hr.mono (by decide)) (by rfl) T.l_far.m T.l_far.F.kp T.l_far.b .nil pass0 (pa_cons (pv 5) (pa_cons pe_int (pa_cons pe_int pa_nil))))))))))) (pss_one (ps_ret (pe_tup (pa_cons pe_str (pa_cons (pv 1) pa_nil))))) pss_nil)
        (pss_cons (ps_dput (hu_of hr) (pv 3) (pe_ix (kixT K) (pv 2) pe_int (fun _ _ => rfl)) (pv 5) rfl)
        (pss_one (ps_ret (pe_tup (pa_cons pe_str (pa_cons (pe_tup (pa_cons (pz 3) (pa_cons (pe_ix (kixT K) (pv 1) pe_int (fun _ _ => rfl)) pa_nil))) pa_nil)))))))))))))), ?_⟩
  walk_at "ss"
  rintro as Qd Qx ⟨p, m, s, d, z, rfl, hp, hs, hm, hd, hR, q⟩
  refine ⟨[.sh (.int p), .sh (eSt s), .sh (eDeedB d)], .cons (.inl ⟨rfl, .inr rfl⟩) (.cons (.inl ⟨rfl, .inl rfl⟩) (.cons (.inl ⟨rfl, .inl rfl⟩) .nil)), ?_⟩
  walk_at "g"
  refine ⟨_, _, rfl, kvsOf_kv _, trivial, ?_⟩
  have a1 := deed_at1 hR
  have hcl : s.cs.length ≤ 100000 := by have := hs.cl; omega
  have eu := used_all s (nameS d)
  walk_at "g"
  refine lcK_map (f := eNames) (fun e => some (.bool (!decide (nameS d ∈ (Bk.get s.cs e.1).getD [])))) hcl (fun e he P hP => ?_) ⟨rfl, ?_⟩
  · obtain ⟨ns, hns⟩ := Option.isSome_iff_exists.mp (Bk.get_some he)
    have e2 := valP_kv (f := eNames) s.cs e.1
    rw [hns] at e2 hP
    walk_at "g"
    refine ⟨_, _, _, rfl, rfl, a1, ?_⟩
    walk_at "g"
    refine ⟨_, _, _, _, rfl, rfl, rfl, e2, ?_⟩
    refine ⟨_, _, _, _, rfl, rfl, rfl, scVs_strs _, ?_⟩
    walk_at "g"
    show P (some (.bool (!inV (V.str (nameS d)) (List.map V.str ns)))) _
    rw [inV_strs]
    exact hP
  rw [fm_map]
  walk_at "g"
  refine ⟨s.cs.map fun e => !decide (nameS d ∈ (Bk.get s.cs e.1).getD []), by rw [List.map_map]; rfl, ?_⟩
  walk_at "h"
  generalize hu : (!((s.cs.map fun e => !decide (nameS d ∈ (Bk.get s.cs e.1).getD [])).all id)) = u at eu
  subst eu
  clear hu a1
  have hrl : (kvK eRound s.rs).length < sizeLine := small100000 (by rw [kvK_len]; have := hs.rl; omega)
  cases d with
  | drop n =>
    have hn : n.length ≤ 1000 := hd.1
    have ev := valD_kv (f := eRound) s.rs n
    walk_at "h"
    refine ⟨fun Γ => False, fun _ z => z.elim, ?_⟩
    walk_at "h"
    refine ⟨fun Γ => (∃ r, Bk.get s.rs n = some r) ∧ Γ = [.sh (.int p), .sh (eSt s), .sh (eDeedB (.drop n)), .ow (.dK (kvK eRound s.rs)), .sh (.bool (Bk.used s n)), .no, .no, .no, .no, .no], ?_, ?_⟩
    rotate_left
    · walk_at "h"
      refine ⟨_, _, rfl, rfl, congrArg some ev, ?_⟩
      rw [Option.isSome_map]
      cases h : Bk.get s.rs n with
      | none =>
        simp only [Bk.dueS, Bk.dropS, h, tellR, Bk.Er.txt] at q
        walk_at "h"
        exact q
      | some r =>
        walk_at "h"
        exact ⟨⟨r, rfl⟩, rfl⟩
    rintro _ ⟨⟨r, h⟩, rfl⟩
    rw [h] at ev
    walk_at "h"
    refine ⟨fun Γ => Bk.used s n = false ∧ Γ = [.sh (.int p), .sh (eSt s), .sh (eDeedB (.drop n)), .ow (.dK (kvK eRound s.rs)), .sh (.bool (Bk.used s n)), .no, .no, .no, .no, .no], ?_, ?_⟩
    rotate_left
    · walk_at "h"
      refine ite2b (fun h2 => ?_) fun h2 => ?_
      · have h3 : Bk.used s n = true := h2
        simp only [Bk.dueS, Bk.dropS, h, h3, if_true, tellR, Bk.Er.txt] at q
        walk_at "h"
        exact q
      · exact ⟨h2, rfl⟩
    rintro _ ⟨h3, rfl⟩
    simp only [Bk.dueS, Bk.dropS, h, h3, if_false, tellR, Bool.false_eq_true] at q
    walk_at "h"
    refine ⟨_, _, _, _, _, rfl, rfl, rfl, ev, ?_⟩
    rw [dropD_kv]
    walk_at "h"
    rw [kvD_of]
    walk_at "h"
    exact q
  | tell n ws =>
    have hn : n.length ≤ 1000 := hd.1.1
    walk_at "h"
    refine ⟨fun Γ => Γ = [.sh (.int p), .sh (eSt s), .sh (eDeedB (.tell n ws)), .ow (.dK (kvK eRound s.rs)), .sh (.bool (Bk.used s n)), .no, .no, .no, .no, .no], ?_, ?_⟩
    rotate_left
    · walk_at "h"
      rfl
    rintro _ rfl
    walk_at "h"
    refine ⟨fun Γ => Bk.nameB n = true ∧ Γ = [.sh (.int p), .sh (eSt s), .sh (eDeedB (.tell n ws)), .ow (.dK (kvK eRound s.rs)), .sh (.bool (Bk.used s n)), .no, .no, .no, .no, .no], ?_, ?_⟩
    rotate_left
    · walk_at "h"
      cases hB : Bk.nameB n with
      | false =>
        refine iteTb rfl ?_
        simp only [Bk.dueS, Bk.tellS, hB, tellR, Bk.Er.txt, Bool.false_eq_true, if_false] at q
        walk_at "h"
        exact q
      | true =>
        refine iteFb rfl ?_
        exact ⟨rfl, rfl⟩
    rintro _ ⟨hB, rfl⟩
    walk_at "h"
    refine ⟨fun Γ => ws.all Bk.goodW = true ∧ Γ = [.sh (.int p), .sh (eSt s), .sh (eDeedB (.tell n ws)), .ow (.dK (kvK eRound s.rs)), .sh (.bool (Bk.used s n)), .no, .no, .no, .no, .no], ?_, ?_⟩
    rotate_left
    · have hwl : (ws.map eWd).length ≤ sizeLine := Nat.le_of_lt (small100000 (by rw [List.length_map]; have := hd.2.1; omega))
      walk_at "h"
      refine .inl ?_
      walk_at "h"
      refine lc_map (f := eWd) (fun x => some (.bool (Bk.goodW x))) (fun x hx P hP => ?_) ?_
      · rw [← goodW_in] at hP
        walk_at "h"
        refine ⟨_, _, _, _, rfl, rfl, rfl, rfl, ?_⟩
        walk_at "h"
        exact hP
      rw [fm_map]
      walk_at "h"
      refine ⟨ws.map Bk.goodW, by rw [List.map_map]; rfl, ?_⟩
      walk_at "h"
      refine ite2b (fun h1 => ?_) fun h1 => ?_
      · have hg : ¬ ws.all Bk.goodW = true := by simpa [List.all_map] using h1
        simp only [Bk.dueS, Bk.tellS, hB, if_true, Bk.valR, if_neg hg, tellR, Bk.Er.txt] at q
        walk_at "h"
        exact q
      · exact ⟨by simpa [List.all_map] using h1, rfl⟩
    rintro _ ⟨hg, rfl⟩
    walk_at "h"
    refine ⟨fun Γ => Γ = [.sh (.int p), .sh (eSt s), .sh (eDeedB (.tell n ws)), .ow (.dK (kvK eRound s.rs)), .sh (.bool (Bk.used s n)), .no, .no, .no, .no, .no], ?_, ?_⟩
    rotate_left
    · walk_at "h"
      rfl
    rintro _ rfl
    obtain ⟨r, hr⟩ : ∃ r, r = Rd.gone p (ws.map Bk.asDeed) := ⟨_, rfl⟩
    have hv : Bk.valR p s (.tell n ws) = .ok r := by simp only [Bk.valR, if_pos hg, hr]
    clear hr
    have e3 : Bk.dueS p s (.tell n ws) = Bk.keepS s n r := by simp only [Bk.dueS, Bk.tellS, hB, if_true, hv]
    have hrlen := valR_len hs hd hv
    rw [e3] at q
    walk_at "h"
    refine ⟨p, m, s, (.tell n ws), r, by rw [kvD_of], hp, hs, hd, hv, ?_⟩
    walk_at "h"
    refine ⟨fun Γ => Bk.farB s n r = false ∧ Γ = [.sh (.int p), .sh (eSt s), .sh (eDeedB (.tell n ws)), .ow (.dK (kvK eRound s.rs)), .sh (.bool (Bk.used s n)), .sh (eRound r), .no, .no, .no, .no], ?_, ?_⟩
    rotate_left
    · have bad : Bk.farB s n r = true → Qd (.d (.tuple [.str "TooFar", eSt s])) [] := fun h4 => by
        simp only [Bk.keepS, h4, if_true, tellR, Bk.Er.txt] at q
        exact q
      walk_at "h"
      refine ite2b (fun h1 => ?_) fun h1 => ?_
      · refine iteTb rfl ?_
        have := bad (by unfold Bk.farB; rw [show (!Bk.okB 200 200 r) = true from h1]; rfl)
        walk_at "h"
        exact this
      walk_at "h"
      refine ite2b (fun h2 => ?_) fun h2 => ?_
      · walk_at "h"
        refine ite2b (fun h3 => ?_) fun h3 => ?_
        · have := bad (by unfold Bk.farB; rw [show (!Bk.okB 200 200 r) = false from h1, show Bk.used s n = true from h2, show (!Bk.okB 8 24 r) = true from h3]; rfl)
          walk_at "h"
          exact this
        · exact ⟨by unfold Bk.farB; rw [show (!Bk.okB 200 200 r) = false from h1, show Bk.used s n = true from h2, show (!Bk.okB 8 24 r) = false from h3]; rfl, rfl⟩
      · refine iteFb rfl ?_
        exact ⟨by unfold Bk.farB; rw [show (!Bk.okB 200 200 r) = false from h1, show Bk.used s n = false from h2]; rfl, rfl⟩
    rintro _ ⟨h4, rfl⟩
    simp only [Bk.keepS, h4, if_false, tellR, Bool.false_eq_true] at q
    walk_at "h"
    rw [putD_kv]
    walk_at "h"
    rw [kvD_of]
    walk_at "h"
    exact q
  | join n a b =>
    have hn : n.length ≤ 1000 := hd.1.1
    walk_at "h"
    refine ⟨fun Γ => Γ = [.sh (.int p), .sh (eSt s), .sh (eDeedB (.join n a b)), .ow (.dK (kvK eRound s.rs)), .sh (.bool (Bk.used s n)), .no, .no, .no, .no, .no], ?_, ?_⟩
    rotate_left
    · walk_at "h"
      rfl
    rintro _ rfl
    walk_at "h"
    refine ⟨fun Γ => Bk.nameB n = true ∧ Γ = [.sh (.int p), .sh (eSt s), .sh (eDeedB (.join n a b)), .ow (.dK (kvK eRound s.rs)), .sh (.bool (Bk.used s n)), .no, .no, .no, .no, .no], ?_, ?_⟩
    rotate_left
    · walk_at "h"
      cases hB : Bk.nameB n with
      | false =>
        refine iteTb rfl ?_
        simp only [Bk.dueS, Bk.tellS, hB, tellR, Bk.Er.txt, Bool.false_eq_true, if_false] at q
        walk_at "h"
        exact q
      | true =>
        refine iteFb rfl ?_
        exact ⟨rfl, rfl⟩
    rintro _ ⟨hB, rfl⟩
    walk_at "h"
    refine ⟨fun Γ => Γ = [.sh (.int p), .sh (eSt s), .sh (eDeedB (.join n a b)), .ow (.dK (kvK eRound s.rs)), .sh (.bool (Bk.used s n)), .no, .no, .no, .no, .no], ?_, ?_⟩
    rotate_left
    · walk_at "h"
      rfl
    rintro _ rfl
    walk_at "h"
    refine ⟨fun Γ => (∃ r, Bk.valR p s (.join n a b) = .ok r) ∧ Γ = [.sh (.int p), .sh (eSt s), .sh (eDeedB (.join n a b)), .ow (.dK (kvK eRound s.rs)), .sh (.bool (Bk.used s n)), .no, .no, .no, .no, .no], ?_, ?_⟩
    rotate_left
    · walk_at "h"
      refine .inr ?_
      walk_at "h"
      refine lc_map (f := PyData.str) (xs := [a, b]) (fun z => some (.bool (Bk.get s.rs z).isSome)) (fun z hz P hP => ?_) ?_
      · have ev := valD_kv (f := eRound) s.rs z
        walk_at "h"
        refine ⟨_, _, rfl, rfl, congrArg some ev, ?_⟩
        rw [Option.isSome_map]
        walk_at "h"
        exact hP
      rw [fm_map]
      walk_at "h"
      refine ⟨[a, b].map fun z => (Bk.get s.rs z).isSome, rfl, ?_⟩
      walk_at "h"
      refine ite2b (fun h1 => ?_) fun h1 => ?_
      · have hv : Bk.valR p s (.join n a b) = .error .noRound := by
          cases ha : Bk.get s.rs a with
          | none => simp only [Bk.valR, ha]
          | some x =>
            cases hb : Bk.get s.rs b with
            | none => simp only [Bk.valR, ha, hb]
            | some y => simp [ha, hb] at h1
        simp only [Bk.dueS, Bk.tellS, hB, if_true, hv, tellR, Bk.Er.txt] at q
        walk_at "h"
        exact q
      · refine ⟨?_, rfl⟩
        cases ha : Bk.get s.rs a with
        | none => simp [ha] at h1
        | some x =>
          cases hb : Bk.get s.rs b with
          | none => simp [hb] at h1
          | some y => exact ⟨Rd.join p x y, by simp only [Bk.valR, ha, hb]⟩
    rintro _ ⟨⟨r, hv⟩, rfl⟩
    have e3 : Bk.dueS p s (.join n a b) = Bk.keepS s n r := by simp only [Bk.dueS, Bk.tellS, hB, if_true, hv]
    have hrlen := valR_len hs hd hv
    rw [e3] at q
    walk_at "h"
    refine ⟨p, m, s, (.join n a b), r, by rw [kvD_of], hp, hs, hd, hv, ?_⟩
    walk_at "h"
    refine ⟨fun Γ => Bk.farB s n r = false ∧ Γ = [.sh (.int p), .sh (eSt s), .sh (eDeedB (.join n a b)), .ow (.dK (kvK eRound s.rs)), .sh (.bool (Bk.used s n)), .sh (eRound r), .no, .no, .no, .no], ?_, ?_⟩
    rotate_left
    · have bad : Bk.farB s n r = true → Qd (.d (.tuple [.str "TooFar", eSt s])) [] := fun h4 => by
        simp only [Bk.keepS, h4, if_true, tellR, Bk.Er.txt] at q
        exact q
      walk_at "h"
      refine ite2b (fun h1 => ?_) fun h1 => ?_
      · refine iteTb rfl ?_
        have := bad (by unfold Bk.farB; rw [show (!Bk.okB 200 200 r) = true from h1]; rfl)
        walk_at "h"
        exact this
      walk_at "h"
      refine ite2b (fun h2 => ?_) fun h2 => ?_
      · walk_at "h"
        refine ite2b (fun h3 => ?_) fun h3 => ?_
        · have := bad (by unfold Bk.farB; rw [show (!Bk.okB 200 200 r) = false from h1, show Bk.used s n = true from h2, show (!Bk.okB 8 24 r) = true from h3]; rfl)
          walk_at "h"
          exact this
        · exact ⟨by unfold Bk.farB; rw [show (!Bk.okB 200 200 r) = false from h1, show Bk.used s n = true from h2, show (!Bk.okB 8 24 r) = false from h3]; rfl, rfl⟩
      · refine iteFb rfl ?_
        exact ⟨by unfold Bk.farB; rw [show (!Bk.okB 200 200 r) = false from h1, show Bk.used s n = false from h2]; rfl, rfl⟩
    rintro _ ⟨h4, rfl⟩
    simp only [Bk.keepS, h4, if_false, tellR, Bool.false_eq_true] at q
    walk_at "h"
    rw [putD_kv]
    walk_at "h"
    rw [kvD_of]
    walk_at "h"
    exact q
  | back n a =>
    have hn : n.length ≤ 1000 := hd.1.1
    walk_at "h"
    refine ⟨fun Γ => Γ = [.sh (.int p), .sh (eSt s), .sh (eDeedB (.back n a)), .ow (.dK (kvK eRound s.rs)), .sh (.bool (Bk.used s n)), .no, .no, .no, .no, .no], ?_, ?_⟩
    rotate_left
    · walk_at "h"
      rfl
    rintro _ rfl
    walk_at "h"
    refine ⟨fun Γ => Bk.nameB n = true ∧ Γ = [.sh (.int p), .sh (eSt s), .sh (eDeedB (.back n a)), .ow (.dK (kvK eRound s.rs)), .sh (.bool (Bk.used s n)), .no, .no, .no, .no, .no], ?_, ?_⟩
    rotate_left
    · walk_at "h"
      cases hB : Bk.nameB n with
      | false =>
        refine iteTb rfl ?_
        simp only [Bk.dueS, Bk.tellS, hB, tellR, Bk.Er.txt, Bool.false_eq_true, if_false] at q
        walk_at "h"
        exact q
      | true =>
        refine iteFb rfl ?_
        exact ⟨rfl, rfl⟩
    rintro _ ⟨hB, rfl⟩
    walk_at "h"
    refine ⟨fun Γ => Γ = [.sh (.int p), .sh (eSt s), .sh (eDeedB (.back n a)), .ow (.dK (kvK eRound s.rs)), .sh (.bool (Bk.used s n)), .no, .no, .no, .no, .no], ?_, ?_⟩
    rotate_left
    · walk_at "h"
      rfl
    rintro _ rfl
    walk_at "h"
    refine ⟨fun Γ => (∃ r, Bk.valR p s (.back n a) = .ok r) ∧ Γ = [.sh (.int p), .sh (eSt s), .sh (eDeedB (.back n a)), .ow (.dK (kvK eRound s.rs)), .sh (.bool (Bk.used s n)), .no, .no, .no, .no, .no], ?_, ?_⟩
    rotate_left
    · walk_at "h"
      refine .inr ?_
      walk_at "h"
      refine lc_map (f := PyData.str) (xs := [a]) (fun z => some (.bool (Bk.get s.rs z).isSome)) (fun z hz P hP => ?_) ?_
      · have ev := valD_kv (f := eRound) s.rs z
        walk_at "h"
        refine ⟨_, _, rfl, rfl, congrArg some ev, ?_⟩
        rw [Option.isSome_map]
        walk_at "h"
        exact hP
      rw [fm_map]
      walk_at "h"
      refine ⟨[a].map fun z => (Bk.get s.rs z).isSome, rfl, ?_⟩
      walk_at "h"
      refine ite2b (fun h1 => ?_) fun h1 => ?_
      · have hv : Bk.valR p s (.back n a) = .error .noRound := by
          cases ha : Bk.get s.rs a with
          | none => simp only [Bk.valR, ha]
          | some x => simp [ha] at h1
        simp only [Bk.dueS, Bk.tellS, hB, if_true, hv, tellR, Bk.Er.txt] at q
        walk_at "h"
        exact q
      · refine ⟨?_, rfl⟩
        cases ha : Bk.get s.rs a with
        | none => simp [ha] at h1
        | some x => exact ⟨Rd.inv p x, by simp only [Bk.valR, ha]⟩
    rintro _ ⟨⟨r, hv⟩, rfl⟩
    have e3 : Bk.dueS p s (.back n a) = Bk.keepS s n r := by simp only [Bk.dueS, Bk.tellS, hB, if_true, hv]
    have hrlen := valR_len hs hd hv
    rw [e3] at q
    walk_at "h"
    refine ⟨p, m, s, (.back n a), r, by rw [kvD_of], hp, hs, hd, hv, ?_⟩
    walk_at "h"
    refine ⟨fun Γ => Bk.farB s n r = false ∧ Γ = [.sh (.int p), .sh (eSt s), .sh (eDeedB (.back n a)), .ow (.dK (kvK eRound s.rs)), .sh (.bool (Bk.used s n)), .sh (eRound r), .no, .no, .no, .no], ?_, ?_⟩
    rotate_left
    · have bad : Bk.farB s n r = true → Qd (.d (.tuple [.str "TooFar", eSt s])) [] := fun h4 => by
        simp only [Bk.keepS, h4, if_true, tellR, Bk.Er.txt] at q
        exact q
      walk_at "h"
      refine ite2b (fun h1 => ?_) fun h1 => ?_
      · refine iteTb rfl ?_
        have := bad (by unfold Bk.farB; rw [show (!Bk.okB 200 200 r) = true from h1]; rfl)
        walk_at "h"
        exact this
      walk_at "h"
      refine ite2b (fun h2 => ?_) fun h2 => ?_
      · walk_at "h"
        refine ite2b (fun h3 => ?_) fun h3 => ?_
        · have := bad (by unfold Bk.farB; rw [show (!Bk.okB 200 200 r) = false from h1, show Bk.used s n = true from h2, show (!Bk.okB 8 24 r) = true from h3]; rfl)
          walk_at "h"
          exact this
        · exact ⟨by unfold Bk.farB; rw [show (!Bk.okB 200 200 r) = false from h1, show Bk.used s n = true from h2, show (!Bk.okB 8 24 r) = false from h3]; rfl, rfl⟩
      · refine iteFb rfl ?_
        exact ⟨by unfold Bk.farB; rw [show (!Bk.okB 200 200 r) = false from h1, show Bk.used s n = false from h2]; rfl, rfl⟩
    rintro _ ⟨h4, rfl⟩
    simp only [Bk.keepS, h4, if_false, tellR, Bool.false_eq_true] at q
    walk_at "h"
    rw [putD_kv]
    walk_at "h"
    rw [kvD_of]
    walk_at "h"
    exact q
  | times n a k =>
    have hn : n.length ≤ 1000 := hd.1.1
    walk_at "h"
    refine ⟨fun Γ => Γ = [.sh (.int p), .sh (eSt s), .sh (eDeedB (.times n a k)), .ow (.dK (kvK eRound s.rs)), .sh (.bool (Bk.used s n)), .no, .no, .no, .no, .no], ?_, ?_⟩
    rotate_left
    · walk_at "h"
      rfl
    rintro _ rfl
    walk_at "h"
    refine ⟨fun Γ => Bk.nameB n = true ∧ Γ = [.sh (.int p), .sh (eSt s), .sh (eDeedB (.times n a k)), .ow (.dK (kvK eRound s.rs)), .sh (.bool (Bk.used s n)), .no, .no, .no, .no, .no], ?_, ?_⟩
    rotate_left
    · walk_at "h"
      cases hB : Bk.nameB n with
      | false =>
        refine iteTb rfl ?_
        simp only [Bk.dueS, Bk.tellS, hB, tellR, Bk.Er.txt, Bool.false_eq_true, if_false] at q
        walk_at "h"
        exact q
      | true =>
        refine iteFb rfl ?_
        exact ⟨rfl, rfl⟩
    rintro _ ⟨hB, rfl⟩
    walk_at "h"
    refine ⟨fun Γ => Γ = [.sh (.int p), .sh (eSt s), .sh (eDeedB (.times n a k)), .ow (.dK (kvK eRound s.rs)), .sh (.bool (Bk.used s n)), .no, .no, .no, .no, .no], ?_, ?_⟩
    rotate_left
    · walk_at "h"
      rfl
    rintro _ rfl
    walk_at "h"
    refine ⟨fun Γ => (∃ r, Bk.valR p s (.times n a k) = .ok r) ∧ Γ = [.sh (.int p), .sh (eSt s), .sh (eDeedB (.times n a k)), .ow (.dK (kvK eRound s.rs)), .sh (.bool (Bk.used s n)), .no, .no, .no, .no, .no], ?_, ?_⟩
    rotate_left
    · walk_at "h"
      refine .inr ?_
      walk_at "h"
      refine lc_map (f := PyData.str) (xs := [a]) (fun z => some (.bool (Bk.get s.rs z).isSome)) (fun z hz P hP => ?_) ?_
      · have ev := valD_kv (f := eRound) s.rs z
        walk_at "h"
        refine ⟨_, _, rfl, rfl, congrArg some ev, ?_⟩
        rw [Option.isSome_map]
        walk_at "h"
        exact hP
      rw [fm_map]
      walk_at "h"
      refine ⟨[a].map fun z => (Bk.get s.rs z).isSome, rfl, ?_⟩
      walk_at "h"
      refine ite2b (fun h1 => ?_) fun h1 => ?_
      · have hv : Bk.valR p s (.times n a k) = .error .noRound := by
          cases ha : Bk.get s.rs a with
          | none => simp only [Bk.valR, ha]
          | some x => simp [ha] at h1
        simp only [Bk.dueS, Bk.tellS, hB, if_true, hv, tellR, Bk.Er.txt] at q
        walk_at "h"
        exact q
      · refine ⟨?_, rfl⟩
        cases ha : Bk.get s.rs a with
        | none => simp [ha] at h1
        | some x => exact ⟨Rd.times p x k, by simp only [Bk.valR, ha]⟩
    rintro _ ⟨⟨r, hv⟩, rfl⟩
    have e3 : Bk.dueS p s (.times n a k) = Bk.keepS s n r := by simp only [Bk.dueS, Bk.tellS, hB, if_true, hv]
    have hrlen := valR_len hs hd hv
    rw [e3] at q
    walk_at "h"
    refine ⟨p, m, s, (.times n a k), r, by rw [kvD_of], hp, hs, hd, hv, ?_⟩
    walk_at "h"
    refine ⟨fun Γ => Bk.farB s n r = false ∧ Γ = [.sh (.int p), .sh (eSt s), .sh (eDeedB (.times n a k)), .ow (.dK (kvK eRound s.rs)), .sh (.bool (Bk.used s n)), .sh (eRound r), .no, .no, .no, .no], ?_, ?_⟩
    rotate_left
    · have bad : Bk.farB s n r = true → Qd (.d (.tuple [.str "TooFar", eSt s])) [] := fun h4 => by
        simp only [Bk.keepS, h4, if_true, tellR, Bk.Er.txt] at q
        exact q
      walk_at "h"
      refine ite2b (fun h1 => ?_) fun h1 => ?_
      · refine iteTb rfl ?_
        have := bad (by unfold Bk.farB; rw [show (!Bk.okB 200 200 r) = true from h1]; rfl)
        walk_at "h"
        exact this
      walk_at "h"
      refine ite2b (fun h2 => ?_) fun h2 => ?_
      · walk_at "h"
        refine ite2b (fun h3 => ?_) fun h3 => ?_
        · have := bad (by unfold Bk.farB; rw [show (!Bk.okB 200 200 r) = false from h1, show Bk.used s n = true from h2, show (!Bk.okB 8 24 r) = true from h3]; rfl)
          walk_at "h"
          exact this
        · exact ⟨by unfold Bk.farB; rw [show (!Bk.okB 200 200 r) = false from h1, show Bk.used s n = true from h2, show (!Bk.okB 8 24 r) = false from h3]; rfl, rfl⟩
      · refine iteFb rfl ?_
        exact ⟨by unfold Bk.farB; rw [show (!Bk.okB 200 200 r) = false from h1, show Bk.used s n = false from h2]; rfl, rfl⟩
    rintro _ ⟨h4, rfl⟩
    simp only [Bk.keepS, h4, if_false, tellR, Bool.false_eq_true] at q
    walk_at "h"
    rw [putD_kv]
    walk_at "h"
    rw [kvD_of]
    walk_at "h"
    exact q
  | _ => cases hR

end
end Law
namespace Law
open PySem PySem.Spec PyProof.Rows L2 Dk
section
variable {P : Program} {w : World} {K : Fg} {mg : Str → Option Value} {base : Heap}
set_option maxHeartbeats 4000000 in
theorem ok_l_run (T : Txt K mg) : FnOk P w K mg base (L2.CX P w) 6 T.l_run.f T.l_run.fd ["_law_book", "_law_deed"] (GSp K true (cRun T.cBook.C (erC T))) := by
  refine genX_ok T.l_run.F scL_run (fun as Qd Qx h => by obtain ⟨p, b, m, d, z, rfl, _⟩ := h; rfl) fun cdv A outer s H E hr => ?_
  refine ⟨_, (pss_cons (ps_if (pt_cmpR op_eq (pe_ix (kixT K) (pv 1) pe_int (fun _ _ => rfl)) pe_str (nomark _)) (pss_cons (ps_set (i := 2) scL_run.nd rfl (.inl rfl) (pe_callTy (klist K) (by rfl) T.zlist (by decide +kernel) (pa_cons (pe_ix (kixT K) (pv 1) pe_int (fun _ _ => rfl)) pa_nil)))
        (pss_cons (ps_set (i := 3) scL_run.nd rfl (.inl rfl) (pe_methE (pv 0) T.cBook.cl T.Book_tell.me (ok_Book_tell T) (hr.mono (by decide)) T.Book_tell.b (fun σ => passAt (takes_of rfl rfl rfl rfl) σ) (pa_cons (pe_ix (kixT K) (pv 1) pe_int (fun _ _ => rfl)) (pa_cons (pv 2) pa_nil))))
        (pss_cons (ps_if (pt_cmpR (kneD K hr.units) (pv 2) (pe_callTy (klist K) (by rfl) T.zlist (by decide +kernel) (pa_cons (pe_ix (kixT K) (pv 1) pe_int (fun _ _ => rfl)) pa_nil)) (nomark _)) (pss_one (ps_ret pe_str)) pss_nil)
        (pss_cons (ps_expr (kbm K PySem.F.plainAttrs_list PySem.F.slot_list_append PySem.F.type_list_append mt_append (pv 2) (pa_cons (pe_tup (pa_cons pe_str (pa_cons pe_int pa_nil))) pa_nil)))
        (pss_one (ps_ret (pv 3))))))) pss_nil)
        (pss_cons (ps_if (pt_cmpR op_eq (pe_ix (kixT K) (pv 1) pe_int (fun _ _ => rfl)) pe_str (nomark _)) (pss_one (ps_ret (pe_methE (pv 0) T.cBook.cl T.Book_join_as.me (ok_Book_join_as T) (hr.mono (by decide)) T.Book_join_as.b (fun σ => passAt (takes_of rfl rfl rfl rfl) σ) (pa_cons (pe_ix (kixT K) (pv 1) pe_int (fun _ _ => rfl)) (pa_cons (pe_ix (kixT K) (pe_ix (kixT K) (pv 1) pe_int (fun _ _ => rfl)) pe_int (fun _ _ => rfl)) (pa_cons (pe_ix (kixT K) (pe_ix (kixT K) (pv 1) pe_int (fun _ _ => rfl)) pe_int (fun _ _ => rfl)) pa_nil)))))) pss_nil)
        (pss_cons (ps_if (pt_cmpR op_eq (pe_ix (kixT K) (pv 1) pe_int (fun _ _ => rfl)) pe_str (nomark _)) (pss_one (ps_ret (pe_methE (pv 0) T.cBook.cl T.Book_back_as.me (ok_Book_back_as T) (hr.mono (by decide)) T.Book_back_as.b (fun σ => passAt (takes_of rfl rfl rfl rfl) σ) (pa_cons (pe_ix (kixT K) (pv 1) pe_int (fun _ _ => rfl)) (pa_cons (pe_ix (kixT K) (pe_ix (kixT K) (pv 1) pe_int (fun _ _ => rfl)) pe_int (fun _ _ => rfl)) pa_nil))))) pss_nil)
        (pss_cons (ps_if (pt_cmpR op_eq (pe_ix (kixT K) (pv 1) pe_int (fun _ _ => rfl)) pe_str (nomark _)) (pss_one (ps_ret (pe_methE (pv 0) T.cBook.cl T.Book_times_as.me (ok_Book_times_as T) (hr.mono (by decide)) T.Book_times_as.b (fun σ => passAt (takes_of rfl rfl rfl rfl) σ) (pa_cons (pe_ix (kixT K) (pv 1) pe_int (fun _ _ => rfl)) (pa_cons (pe_ix (kixT K) (pe_ix (kixT K) (pv 1) pe_int (fun _ _ => rfl)) pe_int (fun _ _ => rfl)) (pa_cons (pe_ix (kixT K) (pv 1) pe_int (fun _ _ => rfl)) pa_nil)))))) pss_nil)
        (pss_cons (ps_if (pt_cmpR op_eq (pe_ix (kixT K) (pv 1) pe_int (fun _ _ => rfl)) pe_str (nomark _)) (pss_one (ps_ret (pe_methE (pv 0) T.cBook.cl T.Book_drop.me (ok_Book_drop T) (hr.mono (by decide)) T.Book_drop.b (fun σ => passAt (takes_of rfl rfl rfl rfl) σ) (pa_cons (pe_ix (kixT K) (pv 1) pe_int (fun _ _ => rfl)) pa_nil)))) pss_nil)
        (pss_cons (ps_if (pt_cmpR op_eq (pe_ix (kixT K) (pv 1) pe_int (fun _ _ => rfl)) pe_str (nomark _)) (pss_one (ps_ret (pe_methE (pv 0) T.cBook.cl T.Book_found.me (ok_Book_found T) (hr.mono (by decide)) T.Book_found.b (fun σ => passAt (takes_of rfl rfl rfl rfl) σ) (pa_cons (pe_ix (kixT K) (pv 1) pe_int (fun _ _ => rfl)) pa_nil)))) pss_nil)
        (pss_cons (ps_if (pt_cmpR op_eq (pe_ix (kixT K) (pv 1) pe_int (fun _ _ => rfl)) pe_str (nomark _)) (pss_one (ps_ret (pe_methE (pv 0) T.cBook.cl T.Book_disband.me (ok_Book_disband T) (hr.mono (by decide)) T.Book_disband.b (fun σ => passAt (takes_of rfl rfl rfl rfl) σ) (pa_cons (pe_ix (kixT K) (pv 1) pe_int (fun _ _ => rfl)) pa_nil)))) pss_nil)
        (pss_cons (ps_if (pt_cmpR op_eq (pe_ix (kixT K) (pv 1) pe_int (fun _ _ => rfl)) pe_str (nomark _)) (pss_one (ps_ret (pe_methE (pv 0) T.cBook.cl T.Book_enlist.me (ok_Book_enlist T) (hr.mono (by decide)) T.Book_enlist.b (fun σ => passAt (takes_of rfl rfl rfl rfl) σ) (pa_cons (pe_ix (kixT K) (pv 1) pe_int (fun _ _ => rfl)) (pa_cons (pe_ix (kixT K) (pv 1) pe_int (fun _ _ => rfl)) pa_nil))))) pss_nil)
        (pss_cons (ps_if (pt_cmpR op_eq (pe_ix (kixT K) (pv 1) pe_int (fun _ _ => rfl)) pe_str (nomark _)) (pss_one (ps_ret (pe_methE (pv 0) T.cBook.cl T.Book_dismiss.me (ok_Book_dismiss T) (hr.mono (by decide)) T.Book_dismiss.b (fun σ => passAt (takes_of rfl rfl rfl rfl) σ) (pa_cons (pe_ix (kixT K) (pv 1) pe_int (fun _ _ => rfl)) (pa_cons (pe_ix (kixT K) (pv 1) pe_int (fun _ _ => rfl)) pa_nil))))) pss_nil)
        (pss_cons (ps_if (pt_cmpR op_eq (pe_ix (kixT K) (pv 1) pe_int (fun _ _ => rfl)) pe_str (nomark _)) (pss_one (ps_ret (pe_methE0 (pv 0) T.cBook.cl T.Book_undo.me (ok_Book_undo T) (hr.mono (by decide)) T.Book_undo.b (fun σ => passAt (takes_of rfl rfl rfl rfl) σ)))) pss_nil)
        (pss_cons (ps_if (pt_cmpR op_eq (pe_ix (kixT K) (pv 1) pe_int (fun _ _ => rfl)) pe_str (nomark _)) (pss_one (ps_ret (pe_methE0 (pv 0) T.cBook.cl T.Book_redo.me (ok_Book_redo T) (hr.mono (by decide)) T.Book_redo.b (fun σ => passAt (takes_of rfl rfl rfl rfl) σ)))) pss_nil)
        (pss_cons (ps_if (pt_cmpR op_eq (pe_ix (kixT K) (pv 1) pe_int (fun _ _ => rfl)) pe_str (nomark _)) (pss_one (ps_ret (pe_meth0 (pv 0) T.cBook.cl T.Book_hold.me (ok_Book_hold T) (hr.mono (by decide)) T.Book_hold.b .nil pass0))) pss_nil)
        (pss_one (ps_ret (pe_methE (pv 0) T.cBook.cl T.Book_return_to.me (ok_Book_return_to T) (hr.mono (by decide)) T.Book_return_to.b (fun σ => passAt (takes_of rfl rfl rfl rfl) σ) (pa_cons (pe_ix (kixT K) (pv 1) pe_int (fun _ _ => rfl)) pa_nil)))))))))))))))), ?_⟩
  walk_at "ss"
  rintro as Qd Qx ⟨p, b, m, d, z, rfl, hp, hb, hm, hd, q1, q2⟩
  refine ⟨[.rf (bookO T.cBook.C p b), .ar (eDeedB d)], .cons rfl (.cons (.inr rfl) .nil), ?_⟩
  have hp0 := hp.pos
  have fin : ∀ {x : Bk.Deed}, Bk.doB p b x = (match Bk.dueS p b.st x with | .ok s => .ok (none, b.stand s) | .error e => .error e) → x = d → Out T.cBook.C (erC T) p b (Bk.dueS p b.st x) Qd Qx := fun h e => by subst e; exact outB_due h ⟨q1, q2⟩
  cases d with
  | tell n ws =>
    have O := fin (x := .tell n ws) rfl rfl
    have hn : n.length ≤ 1000 := hd.1.1
    have hwl := hd.2.1
    have sh := (eWds_shp hd.2.2)
    have k1 := sh.ok
    have kt : tupOs (ws.map eWd) = true := map_tupO (fun _ => rfl) ws
    have sl : (ws.map eWd).length < sizeLine := small100000 (by rw [List.length_map]; omega)
    walk_at "g"
    refine ⟨p, b, m, n, ws, _, _, rfl, hp0, hb, hm, hn, hwl, fun s hs => ?_, fun c hc => ⟨rfl, O.2 c hc⟩⟩
    have q := O.1 s hs
    walk_at "g"
    refine iteFb (by show (!PyData.eqv _ _) = false; rw [sh.refl]; rfl) ?_
    walk_at "g"
    exact q
  | join n a c =>
    have O := fin (x := .join n a c) rfl rfl
    have hn : n.length ≤ 1000 := hd.1.1
    walk_at "g"
    exact ⟨p, b, m, n, a, c, _, _, _, rfl, hp0, hb, hm, hn, fun s hs => ⟨rfl, _, rfl, O.1 s hs⟩, fun c hc => ⟨rfl, O.2 c hc⟩⟩
  | back n a =>
    have O := fin (x := .back n a) rfl rfl
    have hn : n.length ≤ 1000 := hd.1.1
    walk_at "g"
    exact ⟨p, b, m, n, a, _, _, rfl, hp0, hb, hm, hn, fun s hs => ⟨rfl, _, rfl, O.1 s hs⟩, fun c hc => ⟨rfl, O.2 c hc⟩⟩
  | times n a k =>
    have O := fin (x := .times n a k) rfl rfl
    have hn : n.length ≤ 1000 := hd.1.1
    walk_at "g"
    exact ⟨p, b, m, n, a, k, _, _, _, rfl, hp, hb, hm, hn, hd.2.2, fun s hs => ⟨rfl, _, rfl, O.1 s hs⟩, fun c hc => ⟨rfl, O.2 c hc⟩⟩
  | drop n =>
    have O := fin (x := .drop n) rfl rfl
    walk_at "g"
    exact ⟨p, b, m, n, _, rfl, hb, hm, fun s hs => ⟨rfl, _, rfl, O.1 s hs⟩, fun c hc => ⟨rfl, O.2 c hc⟩⟩
  | found n =>
    have O := fin (x := .found n) rfl rfl
    have hn : n.length ≤ 1000 := hd.1
    walk_at "g"
    exact ⟨p, b, m, n, _, rfl, hb, hm, hn, fun s hs => ⟨rfl, _, rfl, O.1 s hs⟩, fun c hc => ⟨rfl, O.2 c hc⟩⟩
  | disband n =>
    have O := fin (x := .disband n) rfl rfl
    walk_at "g"
    exact ⟨p, b, m, n, _, rfl, hb, hm, fun s hs => ⟨rfl, _, rfl, O.1 s hs⟩, fun c hc => ⟨rfl, O.2 c hc⟩⟩
  | enlist n a =>
    have O := fin (x := .enlist n a) rfl rfl
    walk_at "g"
    exact ⟨p, b, m, n, a, _, _, rfl, hb, hm, fun s hs => ⟨rfl, _, rfl, O.1 s hs⟩, fun c hc => ⟨rfl, O.2 c hc⟩⟩
  | dismiss n a =>
    have O := fin (x := .dismiss n a) rfl rfl
    walk_at "g"
    exact ⟨p, b, m, n, a, _, _, rfl, hb, hm, fun s hs => ⟨rfl, _, rfl, O.1 s hs⟩, fun c hc => ⟨rfl, O.2 c hc⟩⟩
  | undo =>
    walk_at "g"
    exact ⟨p, b, m, rfl, hb, hm, fun o b' h => ⟨rfl, _, rfl, q1 o b' h⟩, fun c hc => ⟨rfl, q2 c hc⟩⟩
  | redo =>
    walk_at "g"
    exact ⟨p, b, m, rfl, hb, hm, fun o b' h => ⟨rfl, _, rfl, q1 o b' h⟩, fun c hc => ⟨rfl, q2 c hc⟩⟩
  | hold =>
    walk_at "g"
    exact ⟨p, b, m, rfl, hb, hm, fun o b' h => ⟨rfl, _, rfl, q1 o b' h⟩, fun c hc => nomatch hc⟩
  | ret k =>
    walk_at "g"
    exact ⟨p, b, m, k, _, rfl, hb, hm, fun o b' h => ⟨rfl, _, rfl, q1 o b' h⟩, fun c hc => ⟨rfl, q2 c hc⟩⟩

end
end Law
namespace Law
open PySem PySem.Spec PyProof.Rows L2 Dk
section
variable {P : Program} {w : World} {K : Fg} {mg : Str → Option Value} {base : Heap}
set_option maxHeartbeats 4000000 in
theorem ok_l_due (T : Txt K mg) : FnOk P w K mg base CX0 7 T.l_due.f T.l_due.fd ["_law_p_here", "_law_stand", "_law_deed"] (GSp K false cDueA) := by
  refine gen_ok T.l_due.F scL_due (fun as Qd Qx h => by obtain ⟨p, m, s, d, z, rfl, _⟩ := h; rfl) fun cdv A outer s H E hr => ?_
  refine ⟨_, (pss_cons (ps_if (pt_cmpR (kin K) (pe_ix (kixT K) (pv 2) pe_int (fun _ _ => rfl)) (pe_tup (pa_cons pe_str (pa_cons pe_str (pa_cons pe_str (pa_cons pe_str pa_nil))))) (by rfl)) (pss_one (ps_ret (pe_call (ok_l_due_crew T) (hr.mono (by decide)) (by rfl) T.l_due_crew.m T.l_due_crew.F.kp T.l_due_crew.b .nil pass0 (pa_cons (pv 1) (pa_cons (pv 2) pa_nil))))) pss_nil)
        (pss_one (ps_ret (pe_call (ok_l_due_round T) (hr.mono (by decide)) (by rfl) T.l_due_round.m T.l_due_round.F.kp T.l_due_round.b .nil pass0 (pa_cons (pv 0) (pa_cons (pv 1) (pa_cons (pv 2) pa_nil))))))), ?_⟩
  walk_at "ss"
  rintro as Qd Qx ⟨p, m, s, d, z, rfl, hp, hs, hm, hd, hD, q⟩
  refine ⟨[.sh (.int p), .sh (eSt s), .sh (eDeedB d)], .cons (.inl ⟨rfl, .inr rfl⟩) (.cons (.inl ⟨rfl, .inl rfl⟩) (.cons (.inl ⟨rfl, .inl rfl⟩) .nil)), ?_⟩
  have byC : ∀ d', d' = d → isC d' = true → Qd (.d (eTold (tellR s (Bk.dueS p s d')))) [] := fun d' e _ => e ▸ q
  cases d
  all_goals first | (cases hD; done) | skip
  all_goals (walk_at "g"; refine ⟨_, _, _, _, rfl, rfl, rfl, rfl, ?_⟩; walk_at "g")
  all_goals first
    | exact ⟨p, m, s, _, rfl, hs, hm, hd, rfl, rfl, _, rfl, q⟩
    | exact ⟨p, m, s, _, _, rfl, hp, hs, hm, hd, rfl, rfl, _, rfl, q⟩

end
end Law
namespace Law
open PySem PySem.Spec PyProof.Rows L2 Dk
section
variable {P : Program} {w : World} {K : Fg} {mg : Str → Option Value} {base : Heap}
set_option maxHeartbeats 4000000 in
theorem ok_l_call (T : Txt K mg) : FnOk P w K mg base CX0 7 T.l_call.f T.l_call.fd ["_law_book", "_law_deed"] (GSp K true (cCallB T.cBook.C)) := by
  refine gen_ok T.l_call.F scL_call (fun as Qd Qx h => by obtain ⟨p, b, m, d, z, rfl, _⟩ := h; rfl) fun cdv A outer s H E hr => ?_
  refine ⟨_, (pss_cons (ps_set (i := 2) scL_call.nd rfl (.inl rfl) pe_str)
        (pss_cons (ps_set (i := 3) scL_call.nd rfl (.inl rfl) pe_non)
        (pss_cons (ps_tryM K rfl rfl takes0 (fun W pn xe tk _ => (pss_one (ps_set (i := 3) scL_call.nd rfl (.inl rfl) (pe_callS (ok_l_run T) (hr.mono (by decide)) (by rfl) T.l_run.m T.l_run.F.kp T.l_run.b (fun σ => passAt tk σ) (pa_cons (pv 0) (pa_cons (pv 1) pa_nil)))))) (hd_cons ⟨rfl, by decide, .inl T.xBadName.g⟩ (fun a oe pn => (pss_one (ps_set (i := 2) scL_call.nd rfl (.inl rfl) pe_str))) (hd_cons ⟨rfl, by decide, .inl T.xNoDeed.g⟩ (fun a oe pn => (pss_one (ps_set (i := 2) scL_call.nd rfl (.inl rfl) pe_str))) (hd_cons ⟨rfl, by decide, .inl T.xNoRound.g⟩ (fun a oe pn => (pss_one (ps_set (i := 2) scL_call.nd rfl (.inl rfl) pe_str))) (hd_cons ⟨rfl, by decide, .inl T.xNoCrew.g⟩ (fun a oe pn => (pss_one (ps_set (i := 2) scL_call.nd rfl (.inl rfl) pe_str))) (hd_cons ⟨rfl, by decide, .inl T.xTaken.g⟩ (fun a oe pn => (pss_one (ps_set (i := 2) scL_call.nd rfl (.inl rfl) pe_str))) (hd_cons ⟨rfl, by decide, .inl T.xInUse.g⟩ (fun a oe pn => (pss_one (ps_set (i := 2) scL_call.nd rfl (.inl rfl) pe_str))) (hd_cons ⟨rfl, by decide, .inl T.xTooMany.g⟩ (fun a oe pn => (pss_one (ps_set (i := 2) scL_call.nd rfl (.inl rfl) pe_str))) (hd_cons ⟨rfl, by decide, .inl T.xTooFar.g⟩ (fun a oe pn => (pss_one (ps_set (i := 2) scL_call.nd rfl (.inl rfl) pe_str))) (hd_cons ⟨rfl, by decide, .inl T.xNoMore.g⟩ (fun a oe pn => (pss_one (ps_set (i := 2) scL_call.nd rfl (.inl rfl) pe_str))) (hd_cons ⟨rfl, by decide, .inl T.xNoState.g⟩ (fun a oe pn => (pss_one (ps_set (i := 2) scL_call.nd rfl (.inl rfl) pe_str))) hd_nil)))))))))))
        (pss_one (ps_ret (pe_tup (pa_cons (pv 2) (pa_cons (pv 3) pa_nil)))))))), ?_⟩
  walk_at "ss"
  rintro as Qd Qx ⟨p, b, m, d, z, rfl, hp, hb, hm, hd, q⟩
  refine ⟨[.rf (bookO T.cBook.C p b), .ar (eDeedB d)], .cons rfl (.cons (.inr rfl) .nil), ?_⟩
  walk_at "g"
  refine ⟨p, b, m, d, _, rfl, hp, hb, hm, hd, fun o b' h => ?_, fun c h => ?_⟩
  · rw [h] at q
    simp only [tellB] at q
    cases o with
    | none =>
      walk_at "g"
      exact q
    | some k =>
      walk_at "g"
      exact q
  · rw [h] at q
    simp only [tellB, optD] at q
    cases c with
    | badName =>
      refine ⟨true, T.eBadName_BadName, fun _ => ?_, fun z => nomatch z⟩
      walk_at "g"
      exact q
    | noDeed =>
      refine ⟨false, T.eNoDeed_BadName, (fun z => nomatch z), fun _ => ?_⟩
      refine ⟨true, T.eNoDeed_NoDeed, fun _ => ?_, fun z => nomatch z⟩
      walk_at "g"
      exact q
    | noRound =>
      refine ⟨false, T.eNoRound_BadName, (fun z => nomatch z), fun _ => ?_⟩
      refine ⟨false, T.eNoRound_NoDeed, (fun z => nomatch z), fun _ => ?_⟩
      refine ⟨true, T.eNoRound_NoRound, fun _ => ?_, fun z => nomatch z⟩
      walk_at "g"
      exact q
    | noCrew =>
      refine ⟨false, T.eNoCrew_BadName, (fun z => nomatch z), fun _ => ?_⟩
      refine ⟨false, T.eNoCrew_NoDeed, (fun z => nomatch z), fun _ => ?_⟩
      refine ⟨false, T.eNoCrew_NoRound, (fun z => nomatch z), fun _ => ?_⟩
      refine ⟨true, T.eNoCrew_NoCrew, fun _ => ?_, fun z => nomatch z⟩
      walk_at "g"
      exact q
    | taken =>
      refine ⟨false, T.eTaken_BadName, (fun z => nomatch z), fun _ => ?_⟩
      refine ⟨false, T.eTaken_NoDeed, (fun z => nomatch z), fun _ => ?_⟩
      refine ⟨false, T.eTaken_NoRound, (fun z => nomatch z), fun _ => ?_⟩
      refine ⟨false, T.eTaken_NoCrew, (fun z => nomatch z), fun _ => ?_⟩
      refine ⟨true, T.eTaken_Taken, fun _ => ?_, fun z => nomatch z⟩
      walk_at "g"
      exact q
    | inUse =>
      refine ⟨false, T.eInUse_BadName, (fun z => nomatch z), fun _ => ?_⟩
      refine ⟨false, T.eInUse_NoDeed, (fun z => nomatch z), fun _ => ?_⟩
      refine ⟨false, T.eInUse_NoRound, (fun z => nomatch z), fun _ => ?_⟩
      refine ⟨false, T.eInUse_NoCrew, (fun z => nomatch z), fun _ => ?_⟩
      refine ⟨false, T.eInUse_Taken, (fun z => nomatch z), fun _ => ?_⟩
      refine ⟨true, T.eInUse_InUse, fun _ => ?_, fun z => nomatch z⟩
      walk_at "g"
      exact q
    | tooMany =>
      refine ⟨false, T.eTooMany_BadName, (fun z => nomatch z), fun _ => ?_⟩
      refine ⟨false, T.eTooMany_NoDeed, (fun z => nomatch z), fun _ => ?_⟩
      refine ⟨false, T.eTooMany_NoRound, (fun z => nomatch z), fun _ => ?_⟩
      refine ⟨false, T.eTooMany_NoCrew, (fun z => nomatch z), fun _ => ?_⟩
      refine ⟨false, T.eTooMany_Taken, (fun z => nomatch z), fun _ => ?_⟩
      refine ⟨false, T.eTooMany_InUse, (fun z => nomatch z), fun _ => ?_⟩
      refine ⟨true, T.eTooMany_TooMany, fun _ => ?_, fun z => nomatch z⟩
      walk_at "g"
      exact q
    | tooFar =>
      refine ⟨false, T.eTooFar_BadName, (fun z => nomatch z), fun _ => ?_⟩
      refine ⟨false, T.eTooFar_NoDeed, (fun z => nomatch z), fun _ => ?_⟩
      refine ⟨false, T.eTooFar_NoRound, (fun z => nomatch z), fun _ => ?_⟩
      refine ⟨false, T.eTooFar_NoCrew, (fun z => nomatch z), fun _ => ?_⟩
      refine ⟨false, T.eTooFar_Taken, (fun z => nomatch z), fun _ => ?_⟩
      refine ⟨false, T.eTooFar_InUse, (fun z => nomatch z), fun _ => ?_⟩
      refine ⟨false, T.eTooFar_TooMany, (fun z => nomatch z), fun _ => ?_⟩
      refine ⟨true, T.eTooFar_TooFar, fun _ => ?_, fun z => nomatch z⟩
      walk_at "g"
      exact q
    | noMore =>
      refine ⟨false, T.eNoMore_BadName, (fun z => nomatch z), fun _ => ?_⟩
      refine ⟨false, T.eNoMore_NoDeed, (fun z => nomatch z), fun _ => ?_⟩
      refine ⟨false, T.eNoMore_NoRound, (fun z => nomatch z), fun _ => ?_⟩
      refine ⟨false, T.eNoMore_NoCrew, (fun z => nomatch z), fun _ => ?_⟩
      refine ⟨false, T.eNoMore_Taken, (fun z => nomatch z), fun _ => ?_⟩
      refine ⟨false, T.eNoMore_InUse, (fun z => nomatch z), fun _ => ?_⟩
      refine ⟨false, T.eNoMore_TooMany, (fun z => nomatch z), fun _ => ?_⟩
      refine ⟨false, T.eNoMore_TooFar, (fun z => nomatch z), fun _ => ?_⟩
      refine ⟨true, T.eNoMore_NoMore, fun _ => ?_, fun z => nomatch z⟩
      walk_at "g"
      exact q
    | noState =>
      refine ⟨false, T.eNoState_BadName, (fun z => nomatch z), fun _ => ?_⟩
      refine ⟨false, T.eNoState_NoDeed, (fun z => nomatch z), fun _ => ?_⟩
      refine ⟨false, T.eNoState_NoRound, (fun z => nomatch z), fun _ => ?_⟩
      refine ⟨false, T.eNoState_NoCrew, (fun z => nomatch z), fun _ => ?_⟩
      refine ⟨false, T.eNoState_Taken, (fun z => nomatch z), fun _ => ?_⟩
      refine ⟨false, T.eNoState_InUse, (fun z => nomatch z), fun _ => ?_⟩
      refine ⟨false, T.eNoState_TooMany, (fun z => nomatch z), fun _ => ?_⟩
      refine ⟨false, T.eNoState_TooFar, (fun z => nomatch z), fun _ => ?_⟩
      refine ⟨false, T.eNoState_NoMore, (fun z => nomatch z), fun _ => ?_⟩
      refine ⟨true, T.eNoState_NoState, fun _ => ?_, fun z => nomatch z⟩
      walk_at "g"
      exact q

end
end Law
namespace Law
open PySem PySem.Spec PyProof.Rows L2 Dk
section
variable {P : Program} {w : World} {K : Fg} {mg : Str → Option Value} {base : Heap}
def cGrow (C : Addr) : Ct := fun as Qd Qx => ∃ (p : Int) (ns : List Str) (z1 z2 : Bool), as = [.rf (.ab IsDraw), .d (.int p) z1, .rf (bookO C p .new), .d (.list (ns.map .str)) z2] ∧ GoodP p ∧ ns.length = 5 ∧ (∀ n ∈ ns, nameOk n) ∧ ∀ b, Bk.BOk p 24 b → Qd (.d (eSt b.st)) [.ab IsDraw, bookO C p b]
theorem BOk_mono {p : Int} {m n : Nat} {b : Bk.B} (h : Bk.BOk p m b) (l : m ≤ n) : Bk.BOk p n b := ⟨h.st.mono l, fun s hs => (h.past s hs).mono l, fun s hs => (h.ahead s hs).mono l, fun s hs => (h.held s hs).mono l, by have := h.pl; omega⟩
set_option maxHeartbeats 4000000 in
theorem ok_l_grow (T : Txt K mg) : FnOk P w K mg base CX0 8 T.l_grow.f T.l_grow.fd ["_law_draw", "_law_p_here", "_law_book", "_law_names_here"] (GSp K true (cGrow T.cBook.C)) := by
  refine gen_ok T.l_grow.F scL_grow (fun as Qd Qx h => by obtain ⟨p, ns, z1, z2, rfl, _⟩ := h; rfl) fun cdv A outer s H E hr => ?_
  refine ⟨_, (pss_cons (ps_set (i := 4) scL_grow.nd rfl (.inl rfl) (pe_tup (pa_cons pe_dnewK (pa_cons pe_dnewK pa_nil))))
        (pss_cons (ps_for PassesOwn.never rfl (pi_range1 rfl T.zrange (pa_cons (pe_call (ok_l_take T) (hr.mono (by decide)) (by rfl) T.l_take.m T.l_take.F.kp T.l_take.b .nil pass0 (pa_cons (pv 0) (pa_cons pe_int pa_nil))) pa_nil)) (pg_name (i := 5) scL_grow.nd rfl (.inl rfl)) (pss_cons (ps_set (i := 6) scL_grow.nd rfl (.inl rfl) (pe_call (ok_l_planned T) (hr.mono (by decide)) (by rfl) T.l_planned.m T.l_planned.F.kp T.l_planned.b .nil pass0 (pa_cons (pv 0) (pa_cons (pv 5) (pa_cons (pv 3) pa_nil)))))
        (pss_cons (ps_set (i := 7) scL_grow.nd rfl (.inl rfl) (pe_call (ok_l_due T) (hr.mono (by decide)) (by rfl) T.l_due.m T.l_due.F.kp T.l_due.b .nil pass0 (pa_cons (pv 1) (pa_cons (pv 4) (pa_cons (pv 6) pa_nil)))))
        (pss_cons (ps_if (pt_cmpR (kneD K hr.units) (pe_call (ok_l_call T) (hr.mono (by decide)) (by rfl) T.l_call.m T.l_call.F.kp T.l_call.b .nil pass0 (pa_cons (pv 2) (pa_cons (pv 6) pa_nil))) (pe_tup (pa_cons (pe_ix (kixT K) (pv 7) pe_int (fun _ _ => rfl)) (pa_cons pe_non pa_nil))) (nomark _)) (pss_one (ps_ret pe_non)) pss_nil)
        (pss_one (ps_set (i := 4) scL_grow.nd rfl (.inl rfl) (pe_ix (kixT K) (pv 7) pe_int (fun _ _ => rfl))))))))
        (pss_one (ps_ret (pv 4))))), ?_⟩
  walk_at "ss"
  rintro as Qd Qx ⟨p, ns, z1, z2, rfl, hp, hl, hns, q⟩
  refine ⟨[.rf (.ab IsDraw), .sh (.int p), .rf (bookO T.cBook.C p .new), .ar (.list (ns.map .str))], .cons rfl (.cons (.inl ⟨rfl, .inr rfl⟩) (.cons rfl (.cons (.inr rfl) .nil))), ?_⟩
  have hp0 := hp.pos
  walk_at "h"
  intro r r0 r1
  refine ⟨_, _, _, rfl, ⟨_, rfl, by omega, by omega, rfl, rfl⟩, fun k Γ => ∃ (b : Bk.B) (y5 y6 y7 : Sl), Bk.BOk p k b ∧ Γ = [.rf (.ab IsDraw), .sh (.int p), .rf (bookO T.cBook.C p b), .ar (.list (ns.map .str)), .sh (eSt b.st), y5, y6, y7], ⟨.new, .no, .no, .no, Bk.BOk.new p 0, rfl⟩, ?_, ?_⟩
  · rintro k Γ hk ⟨b, y5, y6, y7, hb, rfl⟩
    have hk1 : k ≤ 1000 := by omega
    have k0 : 0 ≤ 0 + (k : Int) := by omega
    walk_at "h"
    intro d hd hR
    obtain ⟨b', e1, e2, e3, e4, e5⟩ := after_due hp0 hb hR
    walk_at "h"
    refine ⟨p, k, b.st, d, _, rfl, hp, hb.st, hk1, hd, hR, ?_⟩
    walk_at "h"
    refine ⟨fun Γ => Γ = [.rf (.ab IsDraw), .sh (.int p), .rf (bookO T.cBook.C p b'), .ar (.list (ns.map .str)), .sh (eSt b.st), .sh (.int (0 + (k : Int))), .sh (eDeedB d), .sh (eTold (tellR b.st (Bk.dueS p b.st d)))], ?_, ?_⟩
    rotate_left
    · walk_at "h"
      refine ⟨p, b, k, d, _, rfl, hp, hb, hk1, hd, ?_⟩
      rw [e1]
      have sh := told_shp e5
      have k1 := sh.ok
      walk_at "h"
      refine iteFb (by show (!PyData.eqv (.tuple [.str (tellR b.st (Bk.dueS p b.st d)).1, .none]) (.tuple [.str (tellR b.st (Bk.dueS p b.st d)).1, .none])) = false; rw [sh.refl]; rfl) ?_
      rfl
    rintro _ rfl
    walk_at "h"
    rw [← e2]
    exact ⟨b', _, _, _, e3, rfl⟩
  rintro Γ ⟨b, y5, y6, y7, hb, rfl⟩
  walk_at "h"
  exact q b (BOk_mono hb (by omega))

end
end Law
namespace Law
open PySem PySem.Spec PyProof.Rows L2 Dk
section
variable {P : Program} {w : World} {K : Fg} {mg : Str → Option Value} {base : Heap}
theorem ysNil {α : Type} {ys : List Str} (h : YsOk ([] : List (Str × α)) ys) : ys = [] := List.length_eq_zero_iff.mp h.len
theorem text_nil (p : Int) : textB p .nil [] [] = headB p := by
  unfold textB
  rw [txt_join]
  rfl
set_option maxHeartbeats 8000000 in
theorem ok_law {f : Addr} {fd : FuncData} (Fn : L2.Fun K "law" "law" sLaw f fd) (T : Txt K mg) : FnOk P w K mg base CX0 9 f fd ["_law_script"] (spLaw K) := by
  refine law_ok Fn scLaw (by decide) fun cdv A outer s H E hr => ?_
  refine ⟨_, _, (pss_cons (ps_set (i := 1) scLaw.nd rfl (.inl rfl) (pe_call (ok_l_begin T) (hr.mono (by decide)) (by rfl) T.l_begin.m T.l_begin.F.kp T.l_begin.b .nil pass0 (pa_cons (pv 0) pa_nil)))
        (pss_cons (ps_set (i := 2) scLaw.nd rfl (.inl rfl) (pe_call (ok_l_p T) (hr.mono (by decide)) (by rfl) T.l_p.m T.l_p.F.kp T.l_p.b .nil pass0 (pa_cons (pv 1) pa_nil)))
        (pss_cons (ps_set (i := 3) scLaw.nd rfl (.inl rfl) (pe_call (ok_l_names T) (hr.mono (by decide)) (by rfl) T.l_names.m T.l_names.F.kp T.l_names.b .nil pass0 (pa_cons (pv 1) (pa_cons pe_int pa_nil))))
        (pss_cons (ps_set (i := 4) scLaw.nd rfl (.inl rfl) (pe_make ⟨T.cBook.mks, T.Book_init.me.at_, T.Book_init.me.fn, T.cBook.kp⟩ (ok_Book_init T) (hr.mono (by decide)) (by rfl) T.cBook.g T.Book_init.b .nil passL (pa_cons (pv 2) pa_nil)))
        (pss_cons (ps_set (i := 5) scLaw.nd rfl (.inl rfl) (pe_call (ok_book_text T) (hr.mono (by decide)) (by rfl) T.book_text.m T.book_text.F.kp T.book_text.b .nil pass0 (pa_cons (pv 4) pa_nil)))
        (pss_cons (ps_if (PW.pt (pw_or (pt_not (pt_val (pe_callB (kisi K) (by rfl) T.zisinstance (by decide +kernel) (pa_cons (pv 5) (pa_cons (pe_bltn (v := .ty "str") (by rfl) T.zstr (by decide +kernel) rfl) pa_nil))))) (pw_or1 (pt_cmpR op_ne (pv 5) (pe_op o_addS pe_str (pe_callTy b_str (by rfl) T.zstr (by decide +kernel) (pa_cons (pv 2) pa_nil))) (nomark _))))) (pss_one (ps_ret pe_bl)) pss_nil)
        (pss_cons (ps_set (i := 6) scLaw.nd rfl (.inl rfl) (pe_call (ok_l_grow T) (hr.mono (by decide)) (by rfl) T.l_grow.m T.l_grow.F.kp T.l_grow.b .nil pass0 (pa_cons (pv 1) (pa_cons (pv 2) (pa_cons (pv 4) (pa_cons (pv 3) pa_nil))))))
        (pss_cons (ps_if (pt_cmpR k_isN (pv 6) pe_non (nomark _)) (pss_one (ps_ret pe_bl)) pss_nil)
        (pss_cons (ps_set (i := 7) scLaw.nd rfl (.inl rfl) (pe_call (ok_book_text T) (hr.mono (by decide)) (by rfl) T.book_text.m T.book_text.F.kp T.book_text.b .nil pass0 (pa_cons (pv 4) pa_nil)))
        (pss_cons (ps_if (PW.pt (pw_or (pt_not (pt_val (pe_callB (kisi K) (by rfl) T.zisinstance (by decide +kernel) (pa_cons (pv 7) (pa_cons (pe_bltn (v := .ty "str") (by rfl) T.zstr (by decide +kernel) rfl) pa_nil))))) (pw_or1 (pt_cmpR op_ne (pv 7) (pe_call (ok_l_book_text T) (hr.mono (by decide)) (by rfl) T.l_book_text.m T.l_book_text.F.kp T.l_book_text.b .nil pass0 (pa_cons (pv 2) (pa_cons (pv 6) pa_nil))) (nomark _))))) (pss_one (ps_ret pe_bl)) pss_nil)
        (pss_cons (ps_if (pt_not (pt_val (pe_call (ok_l_stands T) (hr.mono (by decide)) (by rfl) T.l_stands.m T.l_stands.F.kp T.l_stands.b .nil pass0 (pa_cons (pv 2) (pa_cons (pv 4) (pa_cons (pv 6) pa_nil)))))) (pss_one (ps_ret pe_bl)) pss_nil)
        (pss_cons (ps_set (i := 8) scLaw.nd rfl (.inl rfl) (pe_tup (pa_cons pe_str (pa_cons (pe_ix (kixL K) (pv 3) pe_int (fun _ _ => rfl)) (pa_cons (pe_tup (pa_cons (pe_ix (kixL K) (pv 3) pe_int (fun _ _ => rfl)) pa_nil)) (pa_cons (pe_un un_neg pe_int) pa_nil))))))
        (pss_cons (ps_set (i := 9) scLaw.nd rfl (.inl rfl) (pe_call (ok_l_due T) (hr.mono (by decide)) (by rfl) T.l_due.m T.l_due.F.kp T.l_due.b .nil pass0 (pa_cons (pv 2) (pa_cons (pv 6) (pa_cons (pv 8) pa_nil)))))
        (pss_cons (ps_if (pt_cmpR (kneD K hr.units) (pe_call (ok_l_call T) (hr.mono (by decide)) (by rfl) T.l_call.m T.l_call.F.kp T.l_call.b .nil pass0 (pa_cons (pv 4) (pa_cons (pv 8) pa_nil))) (pe_tup (pa_cons (pe_ix (kixT K) (pv 9) pe_int (fun _ _ => rfl)) (pa_cons pe_non pa_nil))) (nomark _)) (pss_one (ps_ret pe_bl)) pss_nil)
        (pss_one (ps_ret (pe_cmpR op_eq (pe_call (ok_book_text T) (hr.mono (by decide)) (by rfl) T.book_text.m T.book_text.F.kp T.book_text.b .nil pass0 (pa_cons (pv 4) pa_nil)) (pe_call (ok_l_book_text T) (hr.mono (by decide)) (by rfl) T.l_book_text.m T.l_book_text.F.kp T.l_book_text.b .nil pass0 (pa_cons (pv 2) (pa_cons (pe_ix (kixT K) (pv 9) pe_int (fun _ _ => rfl)) pa_nil))) (nomark _)))))))))))))))))), ?_⟩
  walk_at "ss"
  walk_at "h"
  intro p hp
  have hp0 := hp.pos
  walk_at "h"
  intro ns hnl hns
  have cl := T.cBook.cl
  have n5 : ns.length = 5 := by omega
  have f0 : p.natAbs.log2 < 1920 := log_small (by rcases hp with rfl | rfl | rfl | rfl <;> decide)
  have f2 : (Str.ofString "settings ").length + (numS p).length ≤ sizeLine := by rw [litS]; have := numP_len hp; exact Nat.le_of_lt (small100000 (by omega))
  walk_at "h"
  refine ⟨p, .new, 0, rfl, hp, Bk.StOk.nil p 0, by decide, fun ys zs hy hz => ?_⟩
  cases ysNil hy
  cases ysNil hz
  rw [show textB p Bk.B.new.st [] [] = headB p from text_nil p]
  walk_at "h"
  refine ⟨fun Γ => Γ = [.no, .ow (.ab IsDraw), .sh (.int p), .ow (.lst (ns.map .str)), .ow (bookO T.cBook.C p .new), .sh (.str (headB p)), .no, .no, .no, .no], ?_, ?_⟩
  rotate_left
  · walk_at "h"
    refine iteFb (by show (!decide (headB p = headB p)) = false; simp) ?_
    rfl
  rintro _ rfl
  walk_at "h"
  intro b hb
  have hs := hb.st
  walk_at "h"
  refine ⟨fun Γ => Γ = [.no, .ow (.ab IsDraw), .sh (.int p), .ow (.lst (ns.map .str)), .ow (bookO T.cBook.C p b), .sh (.str (headB p)), .sh (eSt b.st), .no, .no, .no], ?_, ?_⟩
  rotate_left
  · walk_at "h"
    rfl
  rintro _ rfl
  walk_at "h"
  refine ⟨p, b, 24, rfl, hp, hs, by decide, fun ys zs hy hz => ?_⟩
  walk_at "h"
  refine ⟨fun Γ => Γ = [.no, .ow (.ab IsDraw), .sh (.int p), .ow (.lst (ns.map .str)), .ow (bookO T.cBook.C p b), .sh (.str (headB p)), .sh (eSt b.st), .sh (.str (textB p b.st ys zs)), .no, .no], ?_, ?_⟩
  rotate_left
  · walk_at "h"
    refine ⟨p, b.st, 24, rfl, hp, hs, by decide, fun ys2 zs2 hy2 hz2 => ?_⟩
    cases hy.uniq hy2
    cases hz.uniq hz2
    walk_at "h"
    refine iteFb (by show (!decide (_ = _)) = false; simp) ?_
    rfl
  rintro _ rfl
  walk_at "h"
  refine ⟨fun Γ => Γ = [.no, .ow (.ab IsDraw), .sh (.int p), .ow (.lst (ns.map .str)), .ow (bookO T.cBook.C p b), .sh (.str (headB p)), .sh (eSt b.st), .sh (.str (textB p b.st ys zs)), .no, .no], ?_, ?_⟩
  rotate_left
  · walk_at "h"
    refine ⟨p, b, 24, _, _, rfl, hs, by decide, ?_⟩
    walk_at "h"
    rfl
  rintro _ rfl
  obtain ⟨n0, h0, e0⟩ := strs_at (ws := ns) (r := 0) (by decide) (by omega)
  obtain ⟨n1, h1, e1'⟩ := strs_at (ws := ns) (r := 1) (by decide) (by omega)
  have hd : DeedOk (.back n0 n1) := ⟨hns n0 h0, hns n1 h1⟩
  obtain ⟨b', e1, e2, e3, e4, e5⟩ := after_due hp0 hb (d := .back n0 n1) rfl
  walk_at "h"
  refine ⟨_, _, _, rfl, rfl, e0, ?_⟩
  walk_at "h"
  refine ⟨_, _, _, rfl, rfl, e1', ?_⟩
  walk_at "h"
  refine ⟨p, 24, b.st, .back n0 n1, _, rfl, hp, hs, by decide, hd, rfl, ?_⟩
  walk_at "h"
  refine ⟨fun Γ => Γ = [.no, .ow (.ab IsDraw), .sh (.int p), .ow (.lst (ns.map .str)), .ow (bookO T.cBook.C p b'), .sh (.str (headB p)), .sh (eSt b.st), .sh (.str (textB p b.st ys zs)), .sh (eDeedB (.back n0 n1)), .sh (eTold (tellR b.st (Bk.dueS p b.st (.back n0 n1))))], ?_, ?_⟩
  rotate_left
  · walk_at "h"
    refine ⟨p, b, 24, .back n0 n1, _, rfl, hp, hb, by decide, hd, ?_⟩
    rw [e1]
    have sh := told_shp e5
    have k1 := sh.ok
    walk_at "h"
    refine iteFb (by show (!PyData.eqv (.tuple [.str (tellR b.st (Bk.dueS p b.st (.back n0 n1))).1, .none]) (.tuple [.str (tellR b.st (Bk.dueS p b.st (.back n0 n1))).1, .none])) = false; rw [sh.refl]; rfl) ?_
    rfl
  rintro _ rfl
  walk_at "h"
  refine ⟨p, b', 25, rfl, hp, e3.st, by decide, fun ys zs hy hz => ?_⟩
  walk_at "h"
  rw [← e2]
  refine ⟨p, b'.st, 25, rfl, hp, e3.st, by decide, fun ys2 zs2 hy2 hz2 => ?_⟩
  cases hy.uniq hy2
  cases hz.uniq hz2
  walk_at "h"
  show some (PyData.bool (decide (_ = _))) = _
  simp

end
end Law
namespace Law
open PySem PySem.Spec PyProof.Rows L2 Dk
def mkFn {K : Fg} {h : Heap} {mg : Str → Option Value} {x : Str} {st : Stmt} {ps : List Str} {f : Addr} {od an : Option Addr} {sl : Array (Option Value)} {oc kV dc pm cd ct : Value} (X : K.In h) (G : h.Ns mainGlobals mg)
    (a : PySem.W.nsIn K mainGlobals x = some (some (.ref f))) (l : K.lookup f = some ⟨oc, od, .func (PySem.W.fnOf x x (defArgs st) (defBody st) (defScope st) .none kV dc pm an cd ct), sl⟩) (c : PySem.W.codeIn K cd x = true) (k : PySem.W.keepIn K (.ref f) = true)
    (hb : ∀ fd, L2.Fun K x x st f fd → Binds K fd ps []) : FnIn K mg x st ps := ⟨f, _, fun_mk (st := st) l c k, hb _ (fun_mk (st := st) l c k), PySem.W.mg_of X G a⟩
def mkMe {K : Fg} {C : Addr} {x qual : Str} {st : Stmt} {ps : List Str} {f : Addr} {od an : Option Addr} {sl : Array (Option Value)} {oc kV dc pm cd ct : Value}
    (a : PySem.W.findIn K (.ref C) x = some (some (.ref f))) (i : PySem.W.isFn K (.ref f) = true) (l : K.lookup f = some ⟨oc, od, .func (PySem.W.fnOf x qual (defArgs st) (defBody st) (defScope st) .none kV dc pm an cd ct), sl⟩) (c : PySem.W.codeIn K cd qual = true) (k : PySem.W.keepIn K (.ref f) = true)
    (hb : ∀ fd, L2.Fun K x qual st f fd → Binds K fd ps []) : MeIn K C x qual st ps := ⟨f, _, fun_mk (st := st) l c k, hb _ (fun_mk (st := st) l c k), ⟨a, i, k⟩⟩
set_option maxHeartbeats 8000000 in
theorem all_mk {l : PySem.W.OpenLaw} {w : World} {K : Fg} {h : Heap} {mg : Str → Option Value} {fa : Addr} (X : K.In h) (G : h.Ns mainGlobals mg) (hfa : mg "law" = some (.ref fa))
    {f0 : Addr} {od0 an0 : Option Addr} {sl0 : Array (Option Value)} {oc0 kV0 dc0 pm0 cd0 ct0 : Value} (a0 : PySem.W.nsIn K mainGlobals "_wall" = some (some (.ref f0))) (l0 : K.lookup f0 = some ⟨oc0, od0, .func (PySem.W.fnOf "_wall" "_wall" (defArgs sWall) (defBody sWall) (defScope sWall) .none kV0 dc0 pm0 an0 cd0 ct0), sl0⟩) (c0 : PySem.W.codeIn K cd0 "_wall" = true) (k0 : PySem.W.keepIn K (.ref f0) = true)
    {f1 : Addr} {od1 an1 : Option Addr} {sl1 : Array (Option Value)} {oc1 kV1 dc1 pm1 cd1 ct1 : Value} (a1 : PySem.W.nsIn K mainGlobals "tidy" = some (some (.ref f1))) (l1 : K.lookup f1 = some ⟨oc1, od1, .func (PySem.W.fnOf "tidy" "tidy" (defArgs sTidy) (defBody sTidy) (defScope sTidy) .none kV1 dc1 pm1 an1 cd1 ct1), sl1⟩) (c1 : PySem.W.codeIn K cd1 "tidy" = true) (k1 : PySem.W.keepIn K (.ref f1) = true)
    {f2 : Addr} {od2 an2 : Option Addr} {sl2 : Array (Option Value)} {oc2 kV2 dc2 pm2 cd2 ct2 : Value} (a2 : PySem.W.nsIn K mainGlobals "added" = some (some (.ref f2))) (l2 : K.lookup f2 = some ⟨oc2, od2, .func (PySem.W.fnOf "added" "added" (defArgs sAdded) (defBody sAdded) (defScope sAdded) .none kV2 dc2 pm2 an2 cd2 ct2), sl2⟩) (c2 : PySem.W.codeIn K cd2 "added" = true) (k2 : PySem.W.keepIn K (.ref f2) = true)
    {f3 : Addr} {od3 an3 : Option Addr} {sl3 : Array (Option Value)} {oc3 kV3 dc3 pm3 cd3 ct3 : Value} (a3 : PySem.W.nsIn K mainGlobals "moved" = some (some (.ref f3))) (l3 : K.lookup f3 = some ⟨oc3, od3, .func (PySem.W.fnOf "moved" "moved" (defArgs sMoved) (defBody sMoved) (defScope sMoved) .none kV3 dc3 pm3 an3 cd3 ct3), sl3⟩) (c3 : PySem.W.codeIn K cd3 "moved" = true) (k3 : PySem.W.keepIn K (.ref f3) = true)
    {f4 : Addr} {od4 an4 : Option Addr} {sl4 : Array (Option Value)} {oc4 kV4 dc4 pm4 cd4 ct4 : Value} (a4 : PySem.W.nsIn K mainGlobals "timed" = some (some (.ref f4))) (l4 : K.lookup f4 = some ⟨oc4, od4, .func (PySem.W.fnOf "timed" "timed" (defArgs sTimed) (defBody sTimed) (defScope sTimed) .none kV4 dc4 pm4 an4 cd4 ct4), sl4⟩) (c4 : PySem.W.codeIn K cd4 "timed" = true) (k4 : PySem.W.keepIn K (.ref f4) = true)
    {f5 : Addr} {od5 an5 : Option Addr} {sl5 : Array (Option Value)} {oc5 kV5 dc5 pm5 cd5 ct5 : Value} (a5 : PySem.W.nsIn K mainGlobals "gone" = some (some (.ref f5))) (l5 : K.lookup f5 = some ⟨oc5, od5, .func (PySem.W.fnOf "gone" "gone" (defArgs sGone) (defBody sGone) (defScope sGone) .none kV5 dc5 pm5 an5 cd5 ct5), sl5⟩) (c5 : PySem.W.codeIn K cd5 "gone" = true) (k5 : PySem.W.keepIn K (.ref f5) = true)
    {f6 : Addr} {od6 an6 : Option Addr} {sl6 : Array (Option Value)} {oc6 kV6 dc6 pm6 cd6 ct6 : Value} (a6 : PySem.W.nsIn K mainGlobals "joined" = some (some (.ref f6))) (l6 : K.lookup f6 = some ⟨oc6, od6, .func (PySem.W.fnOf "joined" "joined" (defArgs sJoined) (defBody sJoined) (defScope sJoined) .none kV6 dc6 pm6 an6 cd6 ct6), sl6⟩) (c6 : PySem.W.codeIn K cd6 "joined" = true) (k6 : PySem.W.keepIn K (.ref f6) = true)
    {f7 : Addr} {od7 an7 : Option Addr} {sl7 : Array (Option Value)} {oc7 kV7 dc7 pm7 cd7 ct7 : Value} (a7 : PySem.W.nsIn K mainGlobals "backward" = some (some (.ref f7))) (l7 : K.lookup f7 = some ⟨oc7, od7, .func (PySem.W.fnOf "backward" "backward" (defArgs sBackward) (defBody sBackward) (defScope sBackward) .none kV7 dc7 pm7 an7 cd7 ct7), sl7⟩) (c7 : PySem.W.codeIn K cd7 "backward" = true) (k7 : PySem.W.keepIn K (.ref f7) = true)
    {f8 : Addr} {od8 an8 : Option Addr} {sl8 : Array (Option Value)} {oc8 kV8 dc8 pm8 cd8 ct8 : Value} (a8 : PySem.W.nsIn K mainGlobals "repeated" = some (some (.ref f8))) (l8 : K.lookup f8 = some ⟨oc8, od8, .func (PySem.W.fnOf "repeated" "repeated" (defArgs sRepeated) (defBody sRepeated) (defScope sRepeated) .none kV8 dc8 pm8 an8 cd8 ct8), sl8⟩) (c8 : PySem.W.codeIn K cd8 "repeated" = true) (k8 : PySem.W.keepIn K (.ref f8) = true)
    {f9 : Addr} {od9 an9 : Option Addr} {sl9 : Array (Option Value)} {oc9 kV9 dc9 pm9 cd9 ct9 : Value} (a9 : PySem.W.nsIn K mainGlobals "near" = some (some (.ref f9))) (l9 : K.lookup f9 = some ⟨oc9, od9, .func (PySem.W.fnOf "near" "near" (defArgs sNear) (defBody sNear) (defScope sNear) .none kV9 dc9 pm9 an9 cd9 ct9), sl9⟩) (c9 : PySem.W.codeIn K cd9 "near" = true) (k9 : PySem.W.keepIn K (.ref f9) = true)
    {f10 : Addr} {od10 an10 : Option Addr} {sl10 : Array (Option Value)} {oc10 kV10 dc10 pm10 cd10 ct10 : Value} (a10 : PySem.W.nsIn K mainGlobals "good_name" = some (some (.ref f10))) (l10 : K.lookup f10 = some ⟨oc10, od10, .func (PySem.W.fnOf "good_name" "good_name" (defArgs sGood_name) (defBody sGood_name) (defScope sGood_name) .none kV10 dc10 pm10 an10 cd10 ct10), sl10⟩) (c10 : PySem.W.codeIn K cd10 "good_name" = true) (k10 : PySem.W.keepIn K (.ref f10) = true)
    {f11 : Addr} {od11 an11 : Option Addr} {sl11 : Array (Option Value)} {oc11 kV11 dc11 pm11 cd11 ct11 : Value} (a11 : PySem.W.nsIn K mainGlobals "within_bounds" = some (some (.ref f11))) (l11 : K.lookup f11 = some ⟨oc11, od11, .func (PySem.W.fnOf "within_bounds" "within_bounds" (defArgs sWithin_bounds) (defBody sWithin_bounds) (defScope sWithin_bounds) .none kV11 dc11 pm11 an11 cd11 ct11), sl11⟩) (c11 : PySem.W.codeIn K cd11 "within_bounds" = true) (k11 : PySem.W.keepIn K (.ref f11) = true)
    {f12 : Addr} {od12 an12 : Option Addr} {sl12 : Array (Option Value)} {oc12 kV12 dc12 pm12 cd12 ct12 : Value} (a12 : PySem.W.nsIn K mainGlobals "shown" = some (some (.ref f12))) (l12 : K.lookup f12 = some ⟨oc12, od12, .func (PySem.W.fnOf "shown" "shown" (defArgs sShown) (defBody sShown) (defScope sShown) .none kV12 dc12 pm12 an12 cd12 ct12), sl12⟩) (c12 : PySem.W.codeIn K cd12 "shown" = true) (k12 : PySem.W.keepIn K (.ref f12) = true)
    {f13 : Addr} {od13 an13 : Option Addr} {sl13 : Array (Option Value)} {oc13 kV13 dc13 pm13 cd13 ct13 : Value} (a13 : PySem.W.nsIn K mainGlobals "book_text" = some (some (.ref f13))) (l13 : K.lookup f13 = some ⟨oc13, od13, .func (PySem.W.fnOf "book_text" "book_text" (defArgs sBook_text) (defBody sBook_text) (defScope sBook_text) .none kV13 dc13 pm13 an13 cd13 ct13), sl13⟩) (c13 : PySem.W.codeIn K cd13 "book_text" = true) (k13 : PySem.W.keepIn K (.ref f13) = true)
    {f14 : Addr} {od14 an14 : Option Addr} {sl14 : Array (Option Value)} {oc14 kV14 dc14 pm14 cd14 ct14 : Value} (a14 : PySem.W.nsIn K mainGlobals "_law_begin" = some (some (.ref f14))) (l14 : K.lookup f14 = some ⟨oc14, od14, .func (PySem.W.fnOf "_law_begin" "_law_begin" (defArgs sL_begin) (defBody sL_begin) (defScope sL_begin) .none kV14 dc14 pm14 an14 cd14 ct14), sl14⟩) (c14 : PySem.W.codeIn K cd14 "_law_begin" = true) (k14 : PySem.W.keepIn K (.ref f14) = true)
    {f15 : Addr} {od15 an15 : Option Addr} {sl15 : Array (Option Value)} {oc15 kV15 dc15 pm15 cd15 ct15 : Value} (a15 : PySem.W.nsIn K mainGlobals "_law_take" = some (some (.ref f15))) (l15 : K.lookup f15 = some ⟨oc15, od15, .func (PySem.W.fnOf "_law_take" "_law_take" (defArgs sL_take) (defBody sL_take) (defScope sL_take) .none kV15 dc15 pm15 an15 cd15 ct15), sl15⟩) (c15 : PySem.W.codeIn K cd15 "_law_take" = true) (k15 : PySem.W.keepIn K (.ref f15) = true)
    {f16 : Addr} {od16 an16 : Option Addr} {sl16 : Array (Option Value)} {oc16 kV16 dc16 pm16 cd16 ct16 : Value} (a16 : PySem.W.nsIn K mainGlobals "_law_p" = some (some (.ref f16))) (l16 : K.lookup f16 = some ⟨oc16, od16, .func (PySem.W.fnOf "_law_p" "_law_p" (defArgs sL_p) (defBody sL_p) (defScope sL_p) .none kV16 dc16 pm16 an16 cd16 ct16), sl16⟩) (c16 : PySem.W.codeIn K cd16 "_law_p" = true) (k16 : PySem.W.keepIn K (.ref f16) = true)
    {f17 : Addr} {od17 an17 : Option Addr} {sl17 : Array (Option Value)} {oc17 kV17 dc17 pm17 cd17 ct17 : Value} (a17 : PySem.W.nsIn K mainGlobals "_law_names" = some (some (.ref f17))) (l17 : K.lookup f17 = some ⟨oc17, od17, .func (PySem.W.fnOf "_law_names" "_law_names" (defArgs sL_names) (defBody sL_names) (defScope sL_names) .none kV17 dc17 pm17 an17 cd17 ct17), sl17⟩) (c17 : PySem.W.codeIn K cd17 "_law_names" = true) (k17 : PySem.W.keepIn K (.ref f17) = true)
    {f18 : Addr} {od18 an18 : Option Addr} {sl18 : Array (Option Value)} {oc18 kV18 dc18 pm18 cd18 ct18 : Value} (a18 : PySem.W.nsIn K mainGlobals "_law_tidy" = some (some (.ref f18))) (l18 : K.lookup f18 = some ⟨oc18, od18, .func (PySem.W.fnOf "_law_tidy" "_law_tidy" (defArgs sL_tidy) (defBody sL_tidy) (defScope sL_tidy) .none kV18 dc18 pm18 an18 cd18 ct18), sl18⟩) (c18 : PySem.W.codeIn K cd18 "_law_tidy" = true) (k18 : PySem.W.keepIn K (.ref f18) = true)
    {f19 : Addr} {od19 an19 : Option Addr} {sl19 : Array (Option Value)} {oc19 kV19 dc19 pm19 cd19 ct19 : Value} (a19 : PySem.W.nsIn K mainGlobals "_law_sum" = some (some (.ref f19))) (l19 : K.lookup f19 = some ⟨oc19, od19, .func (PySem.W.fnOf "_law_sum" "_law_sum" (defArgs sL_sum) (defBody sL_sum) (defScope sL_sum) .none kV19 dc19 pm19 an19 cd19 ct19), sl19⟩) (c19 : PySem.W.codeIn K cd19 "_law_sum" = true) (k19 : PySem.W.keepIn K (.ref f19) = true)
    {f20 : Addr} {od20 an20 : Option Addr} {sl20 : Array (Option Value)} {oc20 kV20 dc20 pm20 cd20 ct20 : Value} (a20 : PySem.W.nsIn K mainGlobals "_law_join" = some (some (.ref f20))) (l20 : K.lookup f20 = some ⟨oc20, od20, .func (PySem.W.fnOf "_law_join" "_law_join" (defArgs sL_join) (defBody sL_join) (defScope sL_join) .none kV20 dc20 pm20 an20 cd20 ct20), sl20⟩) (c20 : PySem.W.codeIn K cd20 "_law_join" = true) (k20 : PySem.W.keepIn K (.ref f20) = true)
    {f21 : Addr} {od21 an21 : Option Addr} {sl21 : Array (Option Value)} {oc21 kV21 dc21 pm21 cd21 ct21 : Value} (a21 : PySem.W.nsIn K mainGlobals "_law_back" = some (some (.ref f21))) (l21 : K.lookup f21 = some ⟨oc21, od21, .func (PySem.W.fnOf "_law_back" "_law_back" (defArgs sL_back) (defBody sL_back) (defScope sL_back) .none kV21 dc21 pm21 an21 cd21 ct21), sl21⟩) (c21 : PySem.W.codeIn K cd21 "_law_back" = true) (k21 : PySem.W.keepIn K (.ref f21) = true)
    {f22 : Addr} {od22 an22 : Option Addr} {sl22 : Array (Option Value)} {oc22 kV22 dc22 pm22 cd22 ct22 : Value} (a22 : PySem.W.nsIn K mainGlobals "_law_times" = some (some (.ref f22))) (l22 : K.lookup f22 = some ⟨oc22, od22, .func (PySem.W.fnOf "_law_times" "_law_times" (defArgs sL_times) (defBody sL_times) (defScope sL_times) .none kV22 dc22 pm22 an22 cd22 ct22), sl22⟩) (c22 : PySem.W.codeIn K cd22 "_law_times" = true) (k22 : PySem.W.keepIn K (.ref f22) = true)
    {f23 : Addr} {od23 an23 : Option Addr} {sl23 : Array (Option Value)} {oc23 kV23 dc23 pm23 cd23 ct23 : Value} (a23 : PySem.W.nsIn K mainGlobals "_law_is_name" = some (some (.ref f23))) (l23 : K.lookup f23 = some ⟨oc23, od23, .func (PySem.W.fnOf "_law_is_name" "_law_is_name" (defArgs sL_is_name) (defBody sL_is_name) (defScope sL_is_name) .none kV23 dc23 pm23 an23 cd23 ct23), sl23⟩) (c23 : PySem.W.codeIn K cd23 "_law_is_name" = true) (k23 : PySem.W.keepIn K (.ref f23) = true)
    {f24 : Addr} {od24 an24 : Option Addr} {sl24 : Array (Option Value)} {oc24 kV24 dc24 pm24 cd24 ct24 : Value} (a24 : PySem.W.nsIn K mainGlobals "_law_far" = some (some (.ref f24))) (l24 : K.lookup f24 = some ⟨oc24, od24, .func (PySem.W.fnOf "_law_far" "_law_far" (defArgs sL_far) (defBody sL_far) (defScope sL_far) .none kV24 dc24 pm24 an24 cd24 ct24), sl24⟩) (c24 : PySem.W.codeIn K cd24 "_law_far" = true) (k24 : PySem.W.keepIn K (.ref f24) = true)
    {f25 : Addr} {od25 an25 : Option Addr} {sl25 : Array (Option Value)} {oc25 kV25 dc25 pm25 cd25 ct25 : Value} (a25 : PySem.W.nsIn K mainGlobals "_law_walk" = some (some (.ref f25))) (l25 : K.lookup f25 = some ⟨oc25, od25, .func (PySem.W.fnOf "_law_walk" "_law_walk" (defArgs sL_walk) (defBody sL_walk) (defScope sL_walk) .none kV25 dc25 pm25 an25 cd25 ct25), sl25⟩) (c25 : PySem.W.codeIn K cd25 "_law_walk" = true) (k25 : PySem.W.keepIn K (.ref f25) = true)
    {f26 : Addr} {od26 an26 : Option Addr} {sl26 : Array (Option Value)} {oc26 kV26 dc26 pm26 cd26 ct26 : Value} (a26 : PySem.W.nsIn K mainGlobals "_law_value" = some (some (.ref f26))) (l26 : K.lookup f26 = some ⟨oc26, od26, .func (PySem.W.fnOf "_law_value" "_law_value" (defArgs sL_value) (defBody sL_value) (defScope sL_value) .none kV26 dc26 pm26 an26 cd26 ct26), sl26⟩) (c26 : PySem.W.codeIn K cd26 "_law_value" = true) (k26 : PySem.W.keepIn K (.ref f26) = true)
    {f27 : Addr} {od27 an27 : Option Addr} {sl27 : Array (Option Value)} {oc27 kV27 dc27 pm27 cd27 ct27 : Value} (a27 : PySem.W.nsIn K mainGlobals "_law_due_round" = some (some (.ref f27))) (l27 : K.lookup f27 = some ⟨oc27, od27, .func (PySem.W.fnOf "_law_due_round" "_law_due_round" (defArgs sL_due_round) (defBody sL_due_round) (defScope sL_due_round) .none kV27 dc27 pm27 an27 cd27 ct27), sl27⟩) (c27 : PySem.W.codeIn K cd27 "_law_due_round" = true) (k27 : PySem.W.keepIn K (.ref f27) = true)
    {f28 : Addr} {od28 an28 : Option Addr} {sl28 : Array (Option Value)} {oc28 kV28 dc28 pm28 cd28 ct28 : Value} (a28 : PySem.W.nsIn K mainGlobals "_law_due_member" = some (some (.ref f28))) (l28 : K.lookup f28 = some ⟨oc28, od28, .func (PySem.W.fnOf "_law_due_member" "_law_due_member" (defArgs sL_due_member) (defBody sL_due_member) (defScope sL_due_member) .none kV28 dc28 pm28 an28 cd28 ct28), sl28⟩) (c28 : PySem.W.codeIn K cd28 "_law_due_member" = true) (k28 : PySem.W.keepIn K (.ref f28) = true)
    {f29 : Addr} {od29 an29 : Option Addr} {sl29 : Array (Option Value)} {oc29 kV29 dc29 pm29 cd29 ct29 : Value} (a29 : PySem.W.nsIn K mainGlobals "_law_due_crew" = some (some (.ref f29))) (l29 : K.lookup f29 = some ⟨oc29, od29, .func (PySem.W.fnOf "_law_due_crew" "_law_due_crew" (defArgs sL_due_crew) (defBody sL_due_crew) (defScope sL_due_crew) .none kV29 dc29 pm29 an29 cd29 ct29), sl29⟩) (c29 : PySem.W.codeIn K cd29 "_law_due_crew" = true) (k29 : PySem.W.keepIn K (.ref f29) = true)
    {f30 : Addr} {od30 an30 : Option Addr} {sl30 : Array (Option Value)} {oc30 kV30 dc30 pm30 cd30 ct30 : Value} (a30 : PySem.W.nsIn K mainGlobals "_law_due" = some (some (.ref f30))) (l30 : K.lookup f30 = some ⟨oc30, od30, .func (PySem.W.fnOf "_law_due" "_law_due" (defArgs sL_due) (defBody sL_due) (defScope sL_due) .none kV30 dc30 pm30 an30 cd30 ct30), sl30⟩) (c30 : PySem.W.codeIn K cd30 "_law_due" = true) (k30 : PySem.W.keepIn K (.ref f30) = true)
    {f31 : Addr} {od31 an31 : Option Addr} {sl31 : Array (Option Value)} {oc31 kV31 dc31 pm31 cd31 ct31 : Value} (a31 : PySem.W.nsIn K mainGlobals "_law_run" = some (some (.ref f31))) (l31 : K.lookup f31 = some ⟨oc31, od31, .func (PySem.W.fnOf "_law_run" "_law_run" (defArgs sL_run) (defBody sL_run) (defScope sL_run) .none kV31 dc31 pm31 an31 cd31 ct31), sl31⟩) (c31 : PySem.W.codeIn K cd31 "_law_run" = true) (k31 : PySem.W.keepIn K (.ref f31) = true)
    {f32 : Addr} {od32 an32 : Option Addr} {sl32 : Array (Option Value)} {oc32 kV32 dc32 pm32 cd32 ct32 : Value} (a32 : PySem.W.nsIn K mainGlobals "_law_call" = some (some (.ref f32))) (l32 : K.lookup f32 = some ⟨oc32, od32, .func (PySem.W.fnOf "_law_call" "_law_call" (defArgs sL_call) (defBody sL_call) (defScope sL_call) .none kV32 dc32 pm32 an32 cd32 ct32), sl32⟩) (c32 : PySem.W.codeIn K cd32 "_law_call" = true) (k32 : PySem.W.keepIn K (.ref f32) = true)
    {f33 : Addr} {od33 an33 : Option Addr} {sl33 : Array (Option Value)} {oc33 kV33 dc33 pm33 cd33 ct33 : Value} (a33 : PySem.W.nsIn K mainGlobals "_law_draw_deeds" = some (some (.ref f33))) (l33 : K.lookup f33 = some ⟨oc33, od33, .func (PySem.W.fnOf "_law_draw_deeds" "_law_draw_deeds" (defArgs sL_draw_deeds) (defBody sL_draw_deeds) (defScope sL_draw_deeds) .none kV33 dc33 pm33 an33 cd33 ct33), sl33⟩) (c33 : PySem.W.codeIn K cd33 "_law_draw_deeds" = true) (k33 : PySem.W.keepIn K (.ref f33) = true)
    {f34 : Addr} {od34 an34 : Option Addr} {sl34 : Array (Option Value)} {oc34 kV34 dc34 pm34 cd34 ct34 : Value} (a34 : PySem.W.nsIn K mainGlobals "_law_target" = some (some (.ref f34))) (l34 : K.lookup f34 = some ⟨oc34, od34, .func (PySem.W.fnOf "_law_target" "_law_target" (defArgs sL_target) (defBody sL_target) (defScope sL_target) .none kV34 dc34 pm34 an34 cd34 ct34), sl34⟩) (c34 : PySem.W.codeIn K cd34 "_law_target" = true) (k34 : PySem.W.keepIn K (.ref f34) = true)
    {f35 : Addr} {od35 an35 : Option Addr} {sl35 : Array (Option Value)} {oc35 kV35 dc35 pm35 cd35 ct35 : Value} (a35 : PySem.W.nsIn K mainGlobals "_law_round_deed" = some (some (.ref f35))) (l35 : K.lookup f35 = some ⟨oc35, od35, .func (PySem.W.fnOf "_law_round_deed" "_law_round_deed" (defArgs sL_round_deed) (defBody sL_round_deed) (defScope sL_round_deed) .none kV35 dc35 pm35 an35 cd35 ct35), sl35⟩) (c35 : PySem.W.codeIn K cd35 "_law_round_deed" = true) (k35 : PySem.W.keepIn K (.ref f35) = true)
    {f36 : Addr} {od36 an36 : Option Addr} {sl36 : Array (Option Value)} {oc36 kV36 dc36 pm36 cd36 ct36 : Value} (a36 : PySem.W.nsIn K mainGlobals "_law_crew_deed" = some (some (.ref f36))) (l36 : K.lookup f36 = some ⟨oc36, od36, .func (PySem.W.fnOf "_law_crew_deed" "_law_crew_deed" (defArgs sL_crew_deed) (defBody sL_crew_deed) (defScope sL_crew_deed) .none kV36 dc36 pm36 an36 cd36 ct36), sl36⟩) (c36 : PySem.W.codeIn K cd36 "_law_crew_deed" = true) (k36 : PySem.W.keepIn K (.ref f36) = true)
    {f37 : Addr} {od37 an37 : Option Addr} {sl37 : Array (Option Value)} {oc37 kV37 dc37 pm37 cd37 ct37 : Value} (a37 : PySem.W.nsIn K mainGlobals "_law_planned" = some (some (.ref f37))) (l37 : K.lookup f37 = some ⟨oc37, od37, .func (PySem.W.fnOf "_law_planned" "_law_planned" (defArgs sL_planned) (defBody sL_planned) (defScope sL_planned) .none kV37 dc37 pm37 an37 cd37 ct37), sl37⟩) (c37 : PySem.W.codeIn K cd37 "_law_planned" = true) (k37 : PySem.W.keepIn K (.ref f37) = true)
    {f38 : Addr} {od38 an38 : Option Addr} {sl38 : Array (Option Value)} {oc38 kV38 dc38 pm38 cd38 ct38 : Value} (a38 : PySem.W.nsIn K mainGlobals "_law_grow" = some (some (.ref f38))) (l38 : K.lookup f38 = some ⟨oc38, od38, .func (PySem.W.fnOf "_law_grow" "_law_grow" (defArgs sL_grow) (defBody sL_grow) (defScope sL_grow) .none kV38 dc38 pm38 an38 cd38 ct38), sl38⟩) (c38 : PySem.W.codeIn K cd38 "_law_grow" = true) (k38 : PySem.W.keepIn K (.ref f38) = true)
    {f39 : Addr} {od39 an39 : Option Addr} {sl39 : Array (Option Value)} {oc39 kV39 dc39 pm39 cd39 ct39 : Value} (a39 : PySem.W.nsIn K mainGlobals "_law_int" = some (some (.ref f39))) (l39 : K.lookup f39 = some ⟨oc39, od39, .func (PySem.W.fnOf "_law_int" "_law_int" (defArgs sL_int) (defBody sL_int) (defScope sL_int) .none kV39 dc39 pm39 an39 cd39 ct39), sl39⟩) (c39 : PySem.W.codeIn K cd39 "_law_int" = true) (k39 : PySem.W.keepIn K (.ref f39) = true)
    {f40 : Addr} {od40 an40 : Option Addr} {sl40 : Array (Option Value)} {oc40 kV40 dc40 pm40 cd40 ct40 : Value} (a40 : PySem.W.nsIn K mainGlobals "_law_is_pattern" = some (some (.ref f40))) (l40 : K.lookup f40 = some ⟨oc40, od40, .func (PySem.W.fnOf "_law_is_pattern" "_law_is_pattern" (defArgs sL_is_pattern) (defBody sL_is_pattern) (defScope sL_is_pattern) .none kV40 dc40 pm40 an40 cd40 ct40), sl40⟩) (c40 : PySem.W.codeIn K cd40 "_law_is_pattern" = true) (k40 : PySem.W.keepIn K (.ref f40) = true)
    {f41 : Addr} {od41 an41 : Option Addr} {sl41 : Array (Option Value)} {oc41 kV41 dc41 pm41 cd41 ct41 : Value} (a41 : PySem.W.nsIn K mainGlobals "_law_is_round" = some (some (.ref f41))) (l41 : K.lookup f41 = some ⟨oc41, od41, .func (PySem.W.fnOf "_law_is_round" "_law_is_round" (defArgs sL_is_round) (defBody sL_is_round) (defScope sL_is_round) .none kV41 dc41 pm41 an41 cd41 ct41), sl41⟩) (c41 : PySem.W.codeIn K cd41 "_law_is_round" = true) (k41 : PySem.W.keepIn K (.ref f41) = true)
    {f42 : Addr} {od42 an42 : Option Addr} {sl42 : Array (Option Value)} {oc42 kV42 dc42 pm42 cd42 ct42 : Value} (a42 : PySem.W.nsIn K mainGlobals "_law_stands" = some (some (.ref f42))) (l42 : K.lookup f42 = some ⟨oc42, od42, .func (PySem.W.fnOf "_law_stands" "_law_stands" (defArgs sL_stands) (defBody sL_stands) (defScope sL_stands) .none kV42 dc42 pm42 an42 cd42 ct42), sl42⟩) (c42 : PySem.W.codeIn K cd42 "_law_stands" = true) (k42 : PySem.W.keepIn K (.ref f42) = true)
    {f43 : Addr} {od43 an43 : Option Addr} {sl43 : Array (Option Value)} {oc43 kV43 dc43 pm43 cd43 ct43 : Value} (a43 : PySem.W.nsIn K mainGlobals "_law_shown" = some (some (.ref f43))) (l43 : K.lookup f43 = some ⟨oc43, od43, .func (PySem.W.fnOf "_law_shown" "_law_shown" (defArgs sL_shown) (defBody sL_shown) (defScope sL_shown) .none kV43 dc43 pm43 an43 cd43 ct43), sl43⟩) (c43 : PySem.W.codeIn K cd43 "_law_shown" = true) (k43 : PySem.W.keepIn K (.ref f43) = true)
    {f44 : Addr} {od44 an44 : Option Addr} {sl44 : Array (Option Value)} {oc44 kV44 dc44 pm44 cd44 ct44 : Value} (a44 : PySem.W.nsIn K mainGlobals "_law_book_text" = some (some (.ref f44))) (l44 : K.lookup f44 = some ⟨oc44, od44, .func (PySem.W.fnOf "_law_book_text" "_law_book_text" (defArgs sL_book_text) (defBody sL_book_text) (defScope sL_book_text) .none kV44 dc44 pm44 an44 cd44 ct44), sl44⟩) (c44 : PySem.W.codeIn K cd44 "_law_book_text" = true) (k44 : PySem.W.keepIn K (.ref f44) = true)
    {f45 : Addr} {od45 an45 : Option Addr} {sl45 : Array (Option Value)} {oc45 kV45 dc45 pm45 cd45 ct45 : Value} (a45 : PySem.W.nsIn K mainGlobals "law" = some (some (.ref f45))) (l45 : K.lookup f45 = some ⟨oc45, od45, .func (PySem.W.fnOf "law" "law" (defArgs sLaw) (defBody sLaw) (defScope sLaw) .none kV45 dc45 pm45 an45 cd45 ct45), sl45⟩) (c45 : PySem.W.codeIn K cd45 "law" = true) (k45 : PySem.W.keepIn K (.ref f45) = true)
    {C_Book : Addr} (ca_Book : PySem.W.nsIn K mainGlobals "Book" = some (some (.ref C_Book))) (pg_Book : PySem.W.plainGet K C_Book Str.empty = true) (hd_Book : PySem.W.hasDictIn K C_Book = true) (po_Book : PySem.W.plainOver K C_Book = true) (sa_Book : PySem.W.findIn K (.ref C_Book) "__setattr__" = some (some (.builtin "object.__setattr__"))) (mk_Book : PySem.W.makesIn K C_Book = true) (kc_Book : PySem.W.keepIn K (.ref C_Book) = true)
    (na_Book_p : PySem.W.findIn K (.ref C_Book) "p" = some none)
    (na_Book_kept : PySem.W.findIn K (.ref C_Book) "kept" = some none)
    (na_Book_past : PySem.W.findIn K (.ref C_Book) "past" = some none)
    (na_Book_ahead : PySem.W.findIn K (.ref C_Book) "ahead" = some none)
    (na_Book_held : PySem.W.findIn K (.ref C_Book) "held" = some none)
    (na_Book_known : PySem.W.findIn K (.ref C_Book) "known" = some none)
    {f_Book_init : Addr} {od_Book_init an_Book_init : Option Addr} {sl_Book_init : Array (Option Value)} {oc_Book_init kV_Book_init dc_Book_init pm_Book_init cd_Book_init ct_Book_init : Value} (a_Book_init : PySem.W.findIn K (.ref C_Book) "__init__" = some (some (.ref f_Book_init))) (i_Book_init : PySem.W.isFn K (.ref f_Book_init) = true) (l_Book_init : K.lookup f_Book_init = some ⟨oc_Book_init, od_Book_init, .func (PySem.W.fnOf "__init__" "Book.__init__" (defArgs sBook_init) (defBody sBook_init) (defScope sBook_init) .none kV_Book_init dc_Book_init pm_Book_init an_Book_init cd_Book_init ct_Book_init), sl_Book_init⟩) (c_Book_init : PySem.W.codeIn K cd_Book_init "Book.__init__" = true) (k_Book_init : PySem.W.keepIn K (.ref f_Book_init) = true)
    {f_Book_settings : Addr} {od_Book_settings an_Book_settings : Option Addr} {sl_Book_settings : Array (Option Value)} {oc_Book_settings kV_Book_settings dc_Book_settings pm_Book_settings cd_Book_settings ct_Book_settings : Value} (a_Book_settings : PySem.W.findIn K (.ref C_Book) "settings" = some (some (.ref f_Book_settings))) (i_Book_settings : PySem.W.isFn K (.ref f_Book_settings) = true) (l_Book_settings : K.lookup f_Book_settings = some ⟨oc_Book_settings, od_Book_settings, .func (PySem.W.fnOf "settings" "Book.settings" (defArgs sBook_settings) (defBody sBook_settings) (defScope sBook_settings) .none kV_Book_settings dc_Book_settings pm_Book_settings an_Book_settings cd_Book_settings ct_Book_settings), sl_Book_settings⟩) (c_Book_settings : PySem.W.codeIn K cd_Book_settings "Book.settings" = true) (k_Book_settings : PySem.W.keepIn K (.ref f_Book_settings) = true)
    {f_Book_done : Addr} {od_Book_done an_Book_done : Option Addr} {sl_Book_done : Array (Option Value)} {oc_Book_done kV_Book_done dc_Book_done pm_Book_done cd_Book_done ct_Book_done : Value} (a_Book_done : PySem.W.findIn K (.ref C_Book) "done" = some (some (.ref f_Book_done))) (i_Book_done : PySem.W.isFn K (.ref f_Book_done) = true) (l_Book_done : K.lookup f_Book_done = some ⟨oc_Book_done, od_Book_done, .func (PySem.W.fnOf "done" "Book.done" (defArgs sBook_done) (defBody sBook_done) (defScope sBook_done) .none kV_Book_done dc_Book_done pm_Book_done an_Book_done cd_Book_done ct_Book_done), sl_Book_done⟩) (c_Book_done : PySem.W.codeIn K cd_Book_done "Book.done" = true) (k_Book_done : PySem.W.keepIn K (.ref f_Book_done) = true)
    {f_Book_named : Addr} {od_Book_named an_Book_named : Option Addr} {sl_Book_named : Array (Option Value)} {oc_Book_named kV_Book_named dc_Book_named pm_Book_named cd_Book_named ct_Book_named : Value} (a_Book_named : PySem.W.findIn K (.ref C_Book) "named" = some (some (.ref f_Book_named))) (i_Book_named : PySem.W.isFn K (.ref f_Book_named) = true) (l_Book_named : K.lookup f_Book_named = some ⟨oc_Book_named, od_Book_named, .func (PySem.W.fnOf "named" "Book.named" (defArgs sBook_named) (defBody sBook_named) (defScope sBook_named) .none kV_Book_named dc_Book_named pm_Book_named an_Book_named cd_Book_named ct_Book_named), sl_Book_named⟩) (c_Book_named : PySem.W.codeIn K cd_Book_named "Book.named" = true) (k_Book_named : PySem.W.keepIn K (.ref f_Book_named) = true)
    {f_Book_crew_names : Addr} {od_Book_crew_names an_Book_crew_names : Option Addr} {sl_Book_crew_names : Array (Option Value)} {oc_Book_crew_names kV_Book_crew_names dc_Book_crew_names pm_Book_crew_names cd_Book_crew_names ct_Book_crew_names : Value} (a_Book_crew_names : PySem.W.findIn K (.ref C_Book) "crew_names" = some (some (.ref f_Book_crew_names))) (i_Book_crew_names : PySem.W.isFn K (.ref f_Book_crew_names) = true) (l_Book_crew_names : K.lookup f_Book_crew_names = some ⟨oc_Book_crew_names, od_Book_crew_names, .func (PySem.W.fnOf "crew_names" "Book.crew_names" (defArgs sBook_crew_names) (defBody sBook_crew_names) (defScope sBook_crew_names) .none kV_Book_crew_names dc_Book_crew_names pm_Book_crew_names an_Book_crew_names cd_Book_crew_names ct_Book_crew_names), sl_Book_crew_names⟩) (c_Book_crew_names : PySem.W.codeIn K cd_Book_crew_names "Book.crew_names" = true) (k_Book_crew_names : PySem.W.keepIn K (.ref f_Book_crew_names) = true)
    {f_Book_in_use : Addr} {od_Book_in_use an_Book_in_use : Option Addr} {sl_Book_in_use : Array (Option Value)} {oc_Book_in_use kV_Book_in_use dc_Book_in_use pm_Book_in_use cd_Book_in_use ct_Book_in_use : Value} (a_Book_in_use : PySem.W.findIn K (.ref C_Book) "in_use" = some (some (.ref f_Book_in_use))) (i_Book_in_use : PySem.W.isFn K (.ref f_Book_in_use) = true) (l_Book_in_use : K.lookup f_Book_in_use = some ⟨oc_Book_in_use, od_Book_in_use, .func (PySem.W.fnOf "in_use" "Book.in_use" (defArgs sBook_in_use) (defBody sBook_in_use) (defScope sBook_in_use) .none kV_Book_in_use dc_Book_in_use pm_Book_in_use an_Book_in_use cd_Book_in_use ct_Book_in_use), sl_Book_in_use⟩) (c_Book_in_use : PySem.W.codeIn K cd_Book_in_use "Book.in_use" = true) (k_Book_in_use : PySem.W.keepIn K (.ref f_Book_in_use) = true)
    {f_Book_checked : Addr} {od_Book_checked an_Book_checked : Option Addr} {sl_Book_checked : Array (Option Value)} {oc_Book_checked kV_Book_checked dc_Book_checked pm_Book_checked cd_Book_checked ct_Book_checked : Value} (a_Book_checked : PySem.W.findIn K (.ref C_Book) "checked" = some (some (.ref f_Book_checked))) (i_Book_checked : PySem.W.isFn K (.ref f_Book_checked) = true) (l_Book_checked : K.lookup f_Book_checked = some ⟨oc_Book_checked, od_Book_checked, .func (PySem.W.fnOf "checked" "Book.checked" (defArgs sBook_checked) (defBody sBook_checked) (defScope sBook_checked) .none kV_Book_checked dc_Book_checked pm_Book_checked an_Book_checked cd_Book_checked ct_Book_checked), sl_Book_checked⟩) (c_Book_checked : PySem.W.codeIn K cd_Book_checked "Book.checked" = true) (k_Book_checked : PySem.W.keepIn K (.ref f_Book_checked) = true)
    {f_Book_keep : Addr} {od_Book_keep an_Book_keep : Option Addr} {sl_Book_keep : Array (Option Value)} {oc_Book_keep kV_Book_keep dc_Book_keep pm_Book_keep cd_Book_keep ct_Book_keep : Value} (a_Book_keep : PySem.W.findIn K (.ref C_Book) "keep" = some (some (.ref f_Book_keep))) (i_Book_keep : PySem.W.isFn K (.ref f_Book_keep) = true) (l_Book_keep : K.lookup f_Book_keep = some ⟨oc_Book_keep, od_Book_keep, .func (PySem.W.fnOf "keep" "Book.keep" (defArgs sBook_keep) (defBody sBook_keep) (defScope sBook_keep) .none kV_Book_keep dc_Book_keep pm_Book_keep an_Book_keep cd_Book_keep ct_Book_keep), sl_Book_keep⟩) (c_Book_keep : PySem.W.codeIn K cd_Book_keep "Book.keep" = true) (k_Book_keep : PySem.W.keepIn K (.ref f_Book_keep) = true)
    {f_Book_tell : Addr} {od_Book_tell an_Book_tell : Option Addr} {sl_Book_tell : Array (Option Value)} {oc_Book_tell kV_Book_tell dc_Book_tell pm_Book_tell cd_Book_tell ct_Book_tell : Value} (a_Book_tell : PySem.W.findIn K (.ref C_Book) "tell" = some (some (.ref f_Book_tell))) (i_Book_tell : PySem.W.isFn K (.ref f_Book_tell) = true) (l_Book_tell : K.lookup f_Book_tell = some ⟨oc_Book_tell, od_Book_tell, .func (PySem.W.fnOf "tell" "Book.tell" (defArgs sBook_tell) (defBody sBook_tell) (defScope sBook_tell) .none kV_Book_tell dc_Book_tell pm_Book_tell an_Book_tell cd_Book_tell ct_Book_tell), sl_Book_tell⟩) (c_Book_tell : PySem.W.codeIn K cd_Book_tell "Book.tell" = true) (k_Book_tell : PySem.W.keepIn K (.ref f_Book_tell) = true)
    {f_Book_join_as : Addr} {od_Book_join_as an_Book_join_as : Option Addr} {sl_Book_join_as : Array (Option Value)} {oc_Book_join_as kV_Book_join_as dc_Book_join_as pm_Book_join_as cd_Book_join_as ct_Book_join_as : Value} (a_Book_join_as : PySem.W.findIn K (.ref C_Book) "join_as" = some (some (.ref f_Book_join_as))) (i_Book_join_as : PySem.W.isFn K (.ref f_Book_join_as) = true) (l_Book_join_as : K.lookup f_Book_join_as = some ⟨oc_Book_join_as, od_Book_join_as, .func (PySem.W.fnOf "join_as" "Book.join_as" (defArgs sBook_join_as) (defBody sBook_join_as) (defScope sBook_join_as) .none kV_Book_join_as dc_Book_join_as pm_Book_join_as an_Book_join_as cd_Book_join_as ct_Book_join_as), sl_Book_join_as⟩) (c_Book_join_as : PySem.W.codeIn K cd_Book_join_as "Book.join_as" = true) (k_Book_join_as : PySem.W.keepIn K (.ref f_Book_join_as) = true)
    {f_Book_back_as : Addr} {od_Book_back_as an_Book_back_as : Option Addr} {sl_Book_back_as : Array (Option Value)} {oc_Book_back_as kV_Book_back_as dc_Book_back_as pm_Book_back_as cd_Book_back_as ct_Book_back_as : Value} (a_Book_back_as : PySem.W.findIn K (.ref C_Book) "back_as" = some (some (.ref f_Book_back_as))) (i_Book_back_as : PySem.W.isFn K (.ref f_Book_back_as) = true) (l_Book_back_as : K.lookup f_Book_back_as = some ⟨oc_Book_back_as, od_Book_back_as, .func (PySem.W.fnOf "back_as" "Book.back_as" (defArgs sBook_back_as) (defBody sBook_back_as) (defScope sBook_back_as) .none kV_Book_back_as dc_Book_back_as pm_Book_back_as an_Book_back_as cd_Book_back_as ct_Book_back_as), sl_Book_back_as⟩) (c_Book_back_as : PySem.W.codeIn K cd_Book_back_as "Book.back_as" = true) (k_Book_back_as : PySem.W.keepIn K (.ref f_Book_back_as) = true)
    {f_Book_times_as : Addr} {od_Book_times_as an_Book_times_as : Option Addr} {sl_Book_times_as : Array (Option Value)} {oc_Book_times_as kV_Book_times_as dc_Book_times_as pm_Book_times_as cd_Book_times_as ct_Book_times_as : Value} (a_Book_times_as : PySem.W.findIn K (.ref C_Book) "times_as" = some (some (.ref f_Book_times_as))) (i_Book_times_as : PySem.W.isFn K (.ref f_Book_times_as) = true) (l_Book_times_as : K.lookup f_Book_times_as = some ⟨oc_Book_times_as, od_Book_times_as, .func (PySem.W.fnOf "times_as" "Book.times_as" (defArgs sBook_times_as) (defBody sBook_times_as) (defScope sBook_times_as) .none kV_Book_times_as dc_Book_times_as pm_Book_times_as an_Book_times_as cd_Book_times_as ct_Book_times_as), sl_Book_times_as⟩) (c_Book_times_as : PySem.W.codeIn K cd_Book_times_as "Book.times_as" = true) (k_Book_times_as : PySem.W.keepIn K (.ref f_Book_times_as) = true)
    {f_Book_drop : Addr} {od_Book_drop an_Book_drop : Option Addr} {sl_Book_drop : Array (Option Value)} {oc_Book_drop kV_Book_drop dc_Book_drop pm_Book_drop cd_Book_drop ct_Book_drop : Value} (a_Book_drop : PySem.W.findIn K (.ref C_Book) "drop" = some (some (.ref f_Book_drop))) (i_Book_drop : PySem.W.isFn K (.ref f_Book_drop) = true) (l_Book_drop : K.lookup f_Book_drop = some ⟨oc_Book_drop, od_Book_drop, .func (PySem.W.fnOf "drop" "Book.drop" (defArgs sBook_drop) (defBody sBook_drop) (defScope sBook_drop) .none kV_Book_drop dc_Book_drop pm_Book_drop an_Book_drop cd_Book_drop ct_Book_drop), sl_Book_drop⟩) (c_Book_drop : PySem.W.codeIn K cd_Book_drop "Book.drop" = true) (k_Book_drop : PySem.W.keepIn K (.ref f_Book_drop) = true)
    {f_Book_found : Addr} {od_Book_found an_Book_found : Option Addr} {sl_Book_found : Array (Option Value)} {oc_Book_found kV_Book_found dc_Book_found pm_Book_found cd_Book_found ct_Book_found : Value} (a_Book_found : PySem.W.findIn K (.ref C_Book) "found" = some (some (.ref f_Book_found))) (i_Book_found : PySem.W.isFn K (.ref f_Book_found) = true) (l_Book_found : K.lookup f_Book_found = some ⟨oc_Book_found, od_Book_found, .func (PySem.W.fnOf "found" "Book.found" (defArgs sBook_found) (defBody sBook_found) (defScope sBook_found) .none kV_Book_found dc_Book_found pm_Book_found an_Book_found cd_Book_found ct_Book_found), sl_Book_found⟩) (c_Book_found : PySem.W.codeIn K cd_Book_found "Book.found" = true) (k_Book_found : PySem.W.keepIn K (.ref f_Book_found) = true)
    {f_Book_manned : Addr} {od_Book_manned an_Book_manned : Option Addr} {sl_Book_manned : Array (Option Value)} {oc_Book_manned kV_Book_manned dc_Book_manned pm_Book_manned cd_Book_manned ct_Book_manned : Value} (a_Book_manned : PySem.W.findIn K (.ref C_Book) "manned" = some (some (.ref f_Book_manned))) (i_Book_manned : PySem.W.isFn K (.ref f_Book_manned) = true) (l_Book_manned : K.lookup f_Book_manned = some ⟨oc_Book_manned, od_Book_manned, .func (PySem.W.fnOf "manned" "Book.manned" (defArgs sBook_manned) (defBody sBook_manned) (defScope sBook_manned) .none kV_Book_manned dc_Book_manned pm_Book_manned an_Book_manned cd_Book_manned ct_Book_manned), sl_Book_manned⟩) (c_Book_manned : PySem.W.codeIn K cd_Book_manned "Book.manned" = true) (k_Book_manned : PySem.W.keepIn K (.ref f_Book_manned) = true)
    {f_Book_disband : Addr} {od_Book_disband an_Book_disband : Option Addr} {sl_Book_disband : Array (Option Value)} {oc_Book_disband kV_Book_disband dc_Book_disband pm_Book_disband cd_Book_disband ct_Book_disband : Value} (a_Book_disband : PySem.W.findIn K (.ref C_Book) "disband" = some (some (.ref f_Book_disband))) (i_Book_disband : PySem.W.isFn K (.ref f_Book_disband) = true) (l_Book_disband : K.lookup f_Book_disband = some ⟨oc_Book_disband, od_Book_disband, .func (PySem.W.fnOf "disband" "Book.disband" (defArgs sBook_disband) (defBody sBook_disband) (defScope sBook_disband) .none kV_Book_disband dc_Book_disband pm_Book_disband an_Book_disband cd_Book_disband ct_Book_disband), sl_Book_disband⟩) (c_Book_disband : PySem.W.codeIn K cd_Book_disband "Book.disband" = true) (k_Book_disband : PySem.W.keepIn K (.ref f_Book_disband) = true)
    {f_Book_enlist : Addr} {od_Book_enlist an_Book_enlist : Option Addr} {sl_Book_enlist : Array (Option Value)} {oc_Book_enlist kV_Book_enlist dc_Book_enlist pm_Book_enlist cd_Book_enlist ct_Book_enlist : Value} (a_Book_enlist : PySem.W.findIn K (.ref C_Book) "enlist" = some (some (.ref f_Book_enlist))) (i_Book_enlist : PySem.W.isFn K (.ref f_Book_enlist) = true) (l_Book_enlist : K.lookup f_Book_enlist = some ⟨oc_Book_enlist, od_Book_enlist, .func (PySem.W.fnOf "enlist" "Book.enlist" (defArgs sBook_enlist) (defBody sBook_enlist) (defScope sBook_enlist) .none kV_Book_enlist dc_Book_enlist pm_Book_enlist an_Book_enlist cd_Book_enlist ct_Book_enlist), sl_Book_enlist⟩) (c_Book_enlist : PySem.W.codeIn K cd_Book_enlist "Book.enlist" = true) (k_Book_enlist : PySem.W.keepIn K (.ref f_Book_enlist) = true)
    {f_Book_dismiss : Addr} {od_Book_dismiss an_Book_dismiss : Option Addr} {sl_Book_dismiss : Array (Option Value)} {oc_Book_dismiss kV_Book_dismiss dc_Book_dismiss pm_Book_dismiss cd_Book_dismiss ct_Book_dismiss : Value} (a_Book_dismiss : PySem.W.findIn K (.ref C_Book) "dismiss" = some (some (.ref f_Book_dismiss))) (i_Book_dismiss : PySem.W.isFn K (.ref f_Book_dismiss) = true) (l_Book_dismiss : K.lookup f_Book_dismiss = some ⟨oc_Book_dismiss, od_Book_dismiss, .func (PySem.W.fnOf "dismiss" "Book.dismiss" (defArgs sBook_dismiss) (defBody sBook_dismiss) (defScope sBook_dismiss) .none kV_Book_dismiss dc_Book_dismiss pm_Book_dismiss an_Book_dismiss cd_Book_dismiss ct_Book_dismiss), sl_Book_dismiss⟩) (c_Book_dismiss : PySem.W.codeIn K cd_Book_dismiss "Book.dismiss" = true) (k_Book_dismiss : PySem.W.keepIn K (.ref f_Book_dismiss) = true)
    {f_Book_undo : Addr} {od_Book_undo an_Book_undo : Option Addr} {sl_Book_undo : Array (Option Value)} {oc_Book_undo kV_Book_undo dc_Book_undo pm_Book_undo cd_Book_undo ct_Book_undo : Value} (a_Book_undo : PySem.W.findIn K (.ref C_Book) "undo" = some (some (.ref f_Book_undo))) (i_Book_undo : PySem.W.isFn K (.ref f_Book_undo) = true) (l_Book_undo : K.lookup f_Book_undo = some ⟨oc_Book_undo, od_Book_undo, .func (PySem.W.fnOf "undo" "Book.undo" (defArgs sBook_undo) (defBody sBook_undo) (defScope sBook_undo) .none kV_Book_undo dc_Book_undo pm_Book_undo an_Book_undo cd_Book_undo ct_Book_undo), sl_Book_undo⟩) (c_Book_undo : PySem.W.codeIn K cd_Book_undo "Book.undo" = true) (k_Book_undo : PySem.W.keepIn K (.ref f_Book_undo) = true)
    {f_Book_redo : Addr} {od_Book_redo an_Book_redo : Option Addr} {sl_Book_redo : Array (Option Value)} {oc_Book_redo kV_Book_redo dc_Book_redo pm_Book_redo cd_Book_redo ct_Book_redo : Value} (a_Book_redo : PySem.W.findIn K (.ref C_Book) "redo" = some (some (.ref f_Book_redo))) (i_Book_redo : PySem.W.isFn K (.ref f_Book_redo) = true) (l_Book_redo : K.lookup f_Book_redo = some ⟨oc_Book_redo, od_Book_redo, .func (PySem.W.fnOf "redo" "Book.redo" (defArgs sBook_redo) (defBody sBook_redo) (defScope sBook_redo) .none kV_Book_redo dc_Book_redo pm_Book_redo an_Book_redo cd_Book_redo ct_Book_redo), sl_Book_redo⟩) (c_Book_redo : PySem.W.codeIn K cd_Book_redo "Book.redo" = true) (k_Book_redo : PySem.W.keepIn K (.ref f_Book_redo) = true)
    {f_Book_hold : Addr} {od_Book_hold an_Book_hold : Option Addr} {sl_Book_hold : Array (Option Value)} {oc_Book_hold kV_Book_hold dc_Book_hold pm_Book_hold cd_Book_hold ct_Book_hold : Value} (a_Book_hold : PySem.W.findIn K (.ref C_Book) "hold" = some (some (.ref f_Book_hold))) (i_Book_hold : PySem.W.isFn K (.ref f_Book_hold) = true) (l_Book_hold : K.lookup f_Book_hold = some ⟨oc_Book_hold, od_Book_hold, .func (PySem.W.fnOf "hold" "Book.hold" (defArgs sBook_hold) (defBody sBook_hold) (defScope sBook_hold) .none kV_Book_hold dc_Book_hold pm_Book_hold an_Book_hold cd_Book_hold ct_Book_hold), sl_Book_hold⟩) (c_Book_hold : PySem.W.codeIn K cd_Book_hold "Book.hold" = true) (k_Book_hold : PySem.W.keepIn K (.ref f_Book_hold) = true)
    {f_Book_return_to : Addr} {od_Book_return_to an_Book_return_to : Option Addr} {sl_Book_return_to : Array (Option Value)} {oc_Book_return_to kV_Book_return_to dc_Book_return_to pm_Book_return_to cd_Book_return_to ct_Book_return_to : Value} (a_Book_return_to : PySem.W.findIn K (.ref C_Book) "return_to" = some (some (.ref f_Book_return_to))) (i_Book_return_to : PySem.W.isFn K (.ref f_Book_return_to) = true) (l_Book_return_to : K.lookup f_Book_return_to = some ⟨oc_Book_return_to, od_Book_return_to, .func (PySem.W.fnOf "return_to" "Book.return_to" (defArgs sBook_return_to) (defBody sBook_return_to) (defScope sBook_return_to) .none kV_Book_return_to dc_Book_return_to pm_Book_return_to an_Book_return_to cd_Book_return_to ct_Book_return_to), sl_Book_return_to⟩) (c_Book_return_to : PySem.W.codeIn K cd_Book_return_to "Book.return_to" = true) (k_Book_return_to : PySem.W.keepIn K (.ref f_Book_return_to) = true)
    {f_Book_names : Addr} {od_Book_names an_Book_names : Option Addr} {sl_Book_names : Array (Option Value)} {oc_Book_names kV_Book_names dc_Book_names pm_Book_names cd_Book_names ct_Book_names : Value} (a_Book_names : PySem.W.findIn K (.ref C_Book) "names" = some (some (.ref f_Book_names))) (i_Book_names : PySem.W.isFn K (.ref f_Book_names) = true) (l_Book_names : K.lookup f_Book_names = some ⟨oc_Book_names, od_Book_names, .func (PySem.W.fnOf "names" "Book.names" (defArgs sBook_names) (defBody sBook_names) (defScope sBook_names) .none kV_Book_names dc_Book_names pm_Book_names an_Book_names cd_Book_names ct_Book_names), sl_Book_names⟩) (c_Book_names : PySem.W.codeIn K cd_Book_names "Book.names" = true) (k_Book_names : PySem.W.keepIn K (.ref f_Book_names) = true)
    {f_Book_crews : Addr} {od_Book_crews an_Book_crews : Option Addr} {sl_Book_crews : Array (Option Value)} {oc_Book_crews kV_Book_crews dc_Book_crews pm_Book_crews cd_Book_crews ct_Book_crews : Value} (a_Book_crews : PySem.W.findIn K (.ref C_Book) "crews" = some (some (.ref f_Book_crews))) (i_Book_crews : PySem.W.isFn K (.ref f_Book_crews) = true) (l_Book_crews : K.lookup f_Book_crews = some ⟨oc_Book_crews, od_Book_crews, .func (PySem.W.fnOf "crews" "Book.crews" (defArgs sBook_crews) (defBody sBook_crews) (defScope sBook_crews) .none kV_Book_crews dc_Book_crews pm_Book_crews an_Book_crews cd_Book_crews ct_Book_crews), sl_Book_crews⟩) (c_Book_crews : PySem.W.codeIn K cd_Book_crews "Book.crews" = true) (k_Book_crews : PySem.W.keepIn K (.ref f_Book_crews) = true)
    {f_Book_round_of : Addr} {od_Book_round_of an_Book_round_of : Option Addr} {sl_Book_round_of : Array (Option Value)} {oc_Book_round_of kV_Book_round_of dc_Book_round_of pm_Book_round_of cd_Book_round_of ct_Book_round_of : Value} (a_Book_round_of : PySem.W.findIn K (.ref C_Book) "round_of" = some (some (.ref f_Book_round_of))) (i_Book_round_of : PySem.W.isFn K (.ref f_Book_round_of) = true) (l_Book_round_of : K.lookup f_Book_round_of = some ⟨oc_Book_round_of, od_Book_round_of, .func (PySem.W.fnOf "round_of" "Book.round_of" (defArgs sBook_round_of) (defBody sBook_round_of) (defScope sBook_round_of) .none kV_Book_round_of dc_Book_round_of pm_Book_round_of an_Book_round_of cd_Book_round_of ct_Book_round_of), sl_Book_round_of⟩) (c_Book_round_of : PySem.W.codeIn K cd_Book_round_of "Book.round_of" = true) (k_Book_round_of : PySem.W.keepIn K (.ref f_Book_round_of) = true)
    {f_Book_members : Addr} {od_Book_members an_Book_members : Option Addr} {sl_Book_members : Array (Option Value)} {oc_Book_members kV_Book_members dc_Book_members pm_Book_members cd_Book_members ct_Book_members : Value} (a_Book_members : PySem.W.findIn K (.ref C_Book) "members" = some (some (.ref f_Book_members))) (i_Book_members : PySem.W.isFn K (.ref f_Book_members) = true) (l_Book_members : K.lookup f_Book_members = some ⟨oc_Book_members, od_Book_members, .func (PySem.W.fnOf "members" "Book.members" (defArgs sBook_members) (defBody sBook_members) (defScope sBook_members) .none kV_Book_members dc_Book_members pm_Book_members an_Book_members cd_Book_members ct_Book_members), sl_Book_members⟩) (c_Book_members : PySem.W.codeIn K cd_Book_members "Book.members" = true) (k_Book_members : PySem.W.keepIn K (.ref f_Book_members) = true)
    (z_abs : PySem.W.nsIn K mainGlobals "abs" = some none)
    (z_all : PySem.W.nsIn K mainGlobals "all" = some none)
    (z_any : PySem.W.nsIn K mainGlobals "any" = some none)
    (z_bool : PySem.W.nsIn K mainGlobals "bool" = some none)
    (z_dict : PySem.W.nsIn K mainGlobals "dict" = some none)
    (z_int : PySem.W.nsIn K mainGlobals "int" = some none)
    (z_isinstance : PySem.W.nsIn K mainGlobals "isinstance" = some none)
    (z_len : PySem.W.nsIn K mainGlobals "len" = some none)
    (z_list : PySem.W.nsIn K mainGlobals "list" = some none)
    (z_range : PySem.W.nsIn K mainGlobals "range" = some none)
    (z_sorted : PySem.W.nsIn K mainGlobals "sorted" = some none)
    (z_str : PySem.W.nsIn K mainGlobals "str" = some none)
    (z_tuple : PySem.W.nsIn K mainGlobals "tuple" = some none)
    {CNoDeed : Addr} (xaNoDeed : PySem.W.nsIn K mainGlobals "NoDeed" = some (some (.ref CNoDeed))) (xxNoDeed : PySem.W.excIn K CNoDeed [.type "ValueError", .type "Exception", .type "BaseException", .type "object"] "ValueError.__new__" = true) (xkNoDeed : PySem.W.keepIn K (.ref CNoDeed) = true) (xbNoDeed : PySem.W.subIn K (.ref CNoDeed) (.type "BaseException") = some true) (xtNoDeed : PySem.W.typeIn K (.ref CNoDeed) = some (.type "type"))
    {CTooFar : Addr} (xaTooFar : PySem.W.nsIn K mainGlobals "TooFar" = some (some (.ref CTooFar))) (xxTooFar : PySem.W.excIn K CTooFar [.type "ValueError", .type "Exception", .type "BaseException", .type "object"] "ValueError.__new__" = true) (xkTooFar : PySem.W.keepIn K (.ref CTooFar) = true) (xbTooFar : PySem.W.subIn K (.ref CTooFar) (.type "BaseException") = some true) (xtTooFar : PySem.W.typeIn K (.ref CTooFar) = some (.type "type"))
    {CTooMany : Addr} (xaTooMany : PySem.W.nsIn K mainGlobals "TooMany" = some (some (.ref CTooMany))) (xxTooMany : PySem.W.excIn K CTooMany [.type "ValueError", .type "Exception", .type "BaseException", .type "object"] "ValueError.__new__" = true) (xkTooMany : PySem.W.keepIn K (.ref CTooMany) = true) (xbTooMany : PySem.W.subIn K (.ref CTooMany) (.type "BaseException") = some true) (xtTooMany : PySem.W.typeIn K (.ref CTooMany) = some (.type "type"))
    {CBadCount : Addr} (xaBadCount : PySem.W.nsIn K mainGlobals "BadCount" = some (some (.ref CBadCount))) (xxBadCount : PySem.W.excIn K CBadCount [.type "ValueError", .type "Exception", .type "BaseException", .type "object"] "ValueError.__new__" = true) (xkBadCount : PySem.W.keepIn K (.ref CBadCount) = true) (xbBadCount : PySem.W.subIn K (.ref CBadCount) (.type "BaseException") = some true) (xtBadCount : PySem.W.typeIn K (.ref CBadCount) = some (.type "type"))
    {CBadName : Addr} (xaBadName : PySem.W.nsIn K mainGlobals "BadName" = some (some (.ref CBadName))) (xxBadName : PySem.W.excIn K CBadName [.type "ValueError", .type "Exception", .type "BaseException", .type "object"] "ValueError.__new__" = true) (xkBadName : PySem.W.keepIn K (.ref CBadName) = true) (xbBadName : PySem.W.subIn K (.ref CBadName) (.type "BaseException") = some true) (xtBadName : PySem.W.typeIn K (.ref CBadName) = some (.type "type"))
    {CNoRound : Addr} (xaNoRound : PySem.W.nsIn K mainGlobals "NoRound" = some (some (.ref CNoRound))) (xxNoRound : PySem.W.excIn K CNoRound [.type "ValueError", .type "Exception", .type "BaseException", .type "object"] "ValueError.__new__" = true) (xkNoRound : PySem.W.keepIn K (.ref CNoRound) = true) (xbNoRound : PySem.W.subIn K (.ref CNoRound) (.type "BaseException") = some true) (xtNoRound : PySem.W.typeIn K (.ref CNoRound) = some (.type "type"))
    {CNoCrew : Addr} (xaNoCrew : PySem.W.nsIn K mainGlobals "NoCrew" = some (some (.ref CNoCrew))) (xxNoCrew : PySem.W.excIn K CNoCrew [.type "ValueError", .type "Exception", .type "BaseException", .type "object"] "ValueError.__new__" = true) (xkNoCrew : PySem.W.keepIn K (.ref CNoCrew) = true) (xbNoCrew : PySem.W.subIn K (.ref CNoCrew) (.type "BaseException") = some true) (xtNoCrew : PySem.W.typeIn K (.ref CNoCrew) = some (.type "type"))
    {CTaken : Addr} (xaTaken : PySem.W.nsIn K mainGlobals "Taken" = some (some (.ref CTaken))) (xxTaken : PySem.W.excIn K CTaken [.type "ValueError", .type "Exception", .type "BaseException", .type "object"] "ValueError.__new__" = true) (xkTaken : PySem.W.keepIn K (.ref CTaken) = true) (xbTaken : PySem.W.subIn K (.ref CTaken) (.type "BaseException") = some true) (xtTaken : PySem.W.typeIn K (.ref CTaken) = some (.type "type"))
    {CInUse : Addr} (xaInUse : PySem.W.nsIn K mainGlobals "InUse" = some (some (.ref CInUse))) (xxInUse : PySem.W.excIn K CInUse [.type "ValueError", .type "Exception", .type "BaseException", .type "object"] "ValueError.__new__" = true) (xkInUse : PySem.W.keepIn K (.ref CInUse) = true) (xbInUse : PySem.W.subIn K (.ref CInUse) (.type "BaseException") = some true) (xtInUse : PySem.W.typeIn K (.ref CInUse) = some (.type "type"))
    {CNoMore : Addr} (xaNoMore : PySem.W.nsIn K mainGlobals "NoMore" = some (some (.ref CNoMore))) (xxNoMore : PySem.W.excIn K CNoMore [.type "ValueError", .type "Exception", .type "BaseException", .type "object"] "ValueError.__new__" = true) (xkNoMore : PySem.W.keepIn K (.ref CNoMore) = true) (xbNoMore : PySem.W.subIn K (.ref CNoMore) (.type "BaseException") = some true) (xtNoMore : PySem.W.typeIn K (.ref CNoMore) = some (.type "type"))
    {CNoState : Addr} (xaNoState : PySem.W.nsIn K mainGlobals "NoState" = some (some (.ref CNoState))) (xxNoState : PySem.W.excIn K CNoState [.type "ValueError", .type "Exception", .type "BaseException", .type "object"] "ValueError.__new__" = true) (xkNoState : PySem.W.keepIn K (.ref CNoState) = true) (xbNoState : PySem.W.subIn K (.ref CNoState) (.type "BaseException") = some true) (xtNoState : PySem.W.typeIn K (.ref CNoState) = some (.type "type"))
    (edBadName : PySem.W.hasDictIn K CBadName = true)
    (edInUse : PySem.W.hasDictIn K CInUse = true)
    (edNoCrew : PySem.W.hasDictIn K CNoCrew = true)
    (edNoDeed : PySem.W.hasDictIn K CNoDeed = true)
    (edNoMore : PySem.W.hasDictIn K CNoMore = true)
    (edNoRound : PySem.W.hasDictIn K CNoRound = true)
    (edNoState : PySem.W.hasDictIn K CNoState = true)
    (edTaken : PySem.W.hasDictIn K CTaken = true)
    (edTooFar : PySem.W.hasDictIn K CTooFar = true)
    (edTooMany : PySem.W.hasDictIn K CTooMany = true)
    (esNoDeed_BadName : PySem.W.subIn K (.ref CNoDeed) (.ref CBadName) = some false)
    (esNoDeed_InUse : PySem.W.subIn K (.ref CNoDeed) (.ref CInUse) = some false)
    (esNoDeed_NoCrew : PySem.W.subIn K (.ref CNoDeed) (.ref CNoCrew) = some false)
    (esNoDeed_NoDeed : PySem.W.subIn K (.ref CNoDeed) (.ref CNoDeed) = some true)
    (esNoDeed_NoMore : PySem.W.subIn K (.ref CNoDeed) (.ref CNoMore) = some false)
    (esNoDeed_NoRound : PySem.W.subIn K (.ref CNoDeed) (.ref CNoRound) = some false)
    (esNoDeed_NoState : PySem.W.subIn K (.ref CNoDeed) (.ref CNoState) = some false)
    (esNoDeed_Taken : PySem.W.subIn K (.ref CNoDeed) (.ref CTaken) = some false)
    (esNoDeed_TooFar : PySem.W.subIn K (.ref CNoDeed) (.ref CTooFar) = some false)
    (esNoDeed_TooMany : PySem.W.subIn K (.ref CNoDeed) (.ref CTooMany) = some false)
    (esTooFar_BadName : PySem.W.subIn K (.ref CTooFar) (.ref CBadName) = some false)
    (esTooFar_InUse : PySem.W.subIn K (.ref CTooFar) (.ref CInUse) = some false)
    (esTooFar_NoCrew : PySem.W.subIn K (.ref CTooFar) (.ref CNoCrew) = some false)
    (esTooFar_NoDeed : PySem.W.subIn K (.ref CTooFar) (.ref CNoDeed) = some false)
    (esTooFar_NoMore : PySem.W.subIn K (.ref CTooFar) (.ref CNoMore) = some false)
    (esTooFar_NoRound : PySem.W.subIn K (.ref CTooFar) (.ref CNoRound) = some false)
    (esTooFar_NoState : PySem.W.subIn K (.ref CTooFar) (.ref CNoState) = some false)
    (esTooFar_Taken : PySem.W.subIn K (.ref CTooFar) (.ref CTaken) = some false)
    (esTooFar_TooFar : PySem.W.subIn K (.ref CTooFar) (.ref CTooFar) = some true)
    (esTooFar_TooMany : PySem.W.subIn K (.ref CTooFar) (.ref CTooMany) = some false)
    (esTooMany_BadName : PySem.W.subIn K (.ref CTooMany) (.ref CBadName) = some false)
    (esTooMany_InUse : PySem.W.subIn K (.ref CTooMany) (.ref CInUse) = some false)
    (esTooMany_NoCrew : PySem.W.subIn K (.ref CTooMany) (.ref CNoCrew) = some false)
    (esTooMany_NoDeed : PySem.W.subIn K (.ref CTooMany) (.ref CNoDeed) = some false)
    (esTooMany_NoMore : PySem.W.subIn K (.ref CTooMany) (.ref CNoMore) = some false)
    (esTooMany_NoRound : PySem.W.subIn K (.ref CTooMany) (.ref CNoRound) = some false)
    (esTooMany_NoState : PySem.W.subIn K (.ref CTooMany) (.ref CNoState) = some false)
    (esTooMany_Taken : PySem.W.subIn K (.ref CTooMany) (.ref CTaken) = some false)
    (esTooMany_TooFar : PySem.W.subIn K (.ref CTooMany) (.ref CTooFar) = some false)
    (esTooMany_TooMany : PySem.W.subIn K (.ref CTooMany) (.ref CTooMany) = some true)
    (esBadCount_BadName : PySem.W.subIn K (.ref CBadCount) (.ref CBadName) = some false)
    (esBadCount_InUse : PySem.W.subIn K (.ref CBadCount) (.ref CInUse) = some false)
    (esBadCount_NoCrew : PySem.W.subIn K (.ref CBadCount) (.ref CNoCrew) = some false)
    (esBadCount_NoDeed : PySem.W.subIn K (.ref CBadCount) (.ref CNoDeed) = some false)
    (esBadCount_NoMore : PySem.W.subIn K (.ref CBadCount) (.ref CNoMore) = some false)
    (esBadCount_NoRound : PySem.W.subIn K (.ref CBadCount) (.ref CNoRound) = some false)
    (esBadCount_NoState : PySem.W.subIn K (.ref CBadCount) (.ref CNoState) = some false)
    (esBadCount_Taken : PySem.W.subIn K (.ref CBadCount) (.ref CTaken) = some false)
    (esBadCount_TooFar : PySem.W.subIn K (.ref CBadCount) (.ref CTooFar) = some false)
    (esBadCount_TooMany : PySem.W.subIn K (.ref CBadCount) (.ref CTooMany) = some false)
    (esBadName_BadName : PySem.W.subIn K (.ref CBadName) (.ref CBadName) = some true)
    (esBadName_InUse : PySem.W.subIn K (.ref CBadName) (.ref CInUse) = some false)
    (esBadName_NoCrew : PySem.W.subIn K (.ref CBadName) (.ref CNoCrew) = some false)
    (esBadName_NoDeed : PySem.W.subIn K (.ref CBadName) (.ref CNoDeed) = some false)
    (esBadName_NoMore : PySem.W.subIn K (.ref CBadName) (.ref CNoMore) = some false)
    (esBadName_NoRound : PySem.W.subIn K (.ref CBadName) (.ref CNoRound) = some false)
    (esBadName_NoState : PySem.W.subIn K (.ref CBadName) (.ref CNoState) = some false)
    (esBadName_Taken : PySem.W.subIn K (.ref CBadName) (.ref CTaken) = some false)
    (esBadName_TooFar : PySem.W.subIn K (.ref CBadName) (.ref CTooFar) = some false)
    (esBadName_TooMany : PySem.W.subIn K (.ref CBadName) (.ref CTooMany) = some false)
    (esNoRound_BadName : PySem.W.subIn K (.ref CNoRound) (.ref CBadName) = some false)
    (esNoRound_InUse : PySem.W.subIn K (.ref CNoRound) (.ref CInUse) = some false)
    (esNoRound_NoCrew : PySem.W.subIn K (.ref CNoRound) (.ref CNoCrew) = some false)
    (esNoRound_NoDeed : PySem.W.subIn K (.ref CNoRound) (.ref CNoDeed) = some false)
    (esNoRound_NoMore : PySem.W.subIn K (.ref CNoRound) (.ref CNoMore) = some false)
    (esNoRound_NoRound : PySem.W.subIn K (.ref CNoRound) (.ref CNoRound) = some true)
    (esNoRound_NoState : PySem.W.subIn K (.ref CNoRound) (.ref CNoState) = some false)
    (esNoRound_Taken : PySem.W.subIn K (.ref CNoRound) (.ref CTaken) = some false)
    (esNoRound_TooFar : PySem.W.subIn K (.ref CNoRound) (.ref CTooFar) = some false)
    (esNoRound_TooMany : PySem.W.subIn K (.ref CNoRound) (.ref CTooMany) = some false)
    (esNoCrew_BadName : PySem.W.subIn K (.ref CNoCrew) (.ref CBadName) = some false)
    (esNoCrew_InUse : PySem.W.subIn K (.ref CNoCrew) (.ref CInUse) = some false)
    (esNoCrew_NoCrew : PySem.W.subIn K (.ref CNoCrew) (.ref CNoCrew) = some true)
    (esNoCrew_NoDeed : PySem.W.subIn K (.ref CNoCrew) (.ref CNoDeed) = some false)
    (esNoCrew_NoMore : PySem.W.subIn K (.ref CNoCrew) (.ref CNoMore) = some false)
    (esNoCrew_NoRound : PySem.W.subIn K (.ref CNoCrew) (.ref CNoRound) = some false)
    (esNoCrew_NoState : PySem.W.subIn K (.ref CNoCrew) (.ref CNoState) = some false)
    (esNoCrew_Taken : PySem.W.subIn K (.ref CNoCrew) (.ref CTaken) = some false)
    (esNoCrew_TooFar : PySem.W.subIn K (.ref CNoCrew) (.ref CTooFar) = some false)
    (esNoCrew_TooMany : PySem.W.subIn K (.ref CNoCrew) (.ref CTooMany) = some false)
    (esTaken_BadName : PySem.W.subIn K (.ref CTaken) (.ref CBadName) = some false)
    (esTaken_InUse : PySem.W.subIn K (.ref CTaken) (.ref CInUse) = some false)
    (esTaken_NoCrew : PySem.W.subIn K (.ref CTaken) (.ref CNoCrew) = some false)
    (esTaken_NoDeed : PySem.W.subIn K (.ref CTaken) (.ref CNoDeed) = some false)
    (esTaken_NoMore : PySem.W.subIn K (.ref CTaken) (.ref CNoMore) = some false)
    (esTaken_NoRound : PySem.W.subIn K (.ref CTaken) (.ref CNoRound) = some false)
    (esTaken_NoState : PySem.W.subIn K (.ref CTaken) (.ref CNoState) = some false)
    (esTaken_Taken : PySem.W.subIn K (.ref CTaken) (.ref CTaken) = some true)
    (esTaken_TooFar : PySem.W.subIn K (.ref CTaken) (.ref CTooFar) = some false)
    (esTaken_TooMany : PySem.W.subIn K (.ref CTaken) (.ref CTooMany) = some false)
    (esInUse_BadName : PySem.W.subIn K (.ref CInUse) (.ref CBadName) = some false)
    (esInUse_InUse : PySem.W.subIn K (.ref CInUse) (.ref CInUse) = some true)
    (esInUse_NoCrew : PySem.W.subIn K (.ref CInUse) (.ref CNoCrew) = some false)
    (esInUse_NoDeed : PySem.W.subIn K (.ref CInUse) (.ref CNoDeed) = some false)
    (esInUse_NoMore : PySem.W.subIn K (.ref CInUse) (.ref CNoMore) = some false)
    (esInUse_NoRound : PySem.W.subIn K (.ref CInUse) (.ref CNoRound) = some false)
    (esInUse_NoState : PySem.W.subIn K (.ref CInUse) (.ref CNoState) = some false)
    (esInUse_Taken : PySem.W.subIn K (.ref CInUse) (.ref CTaken) = some false)
    (esInUse_TooFar : PySem.W.subIn K (.ref CInUse) (.ref CTooFar) = some false)
    (esInUse_TooMany : PySem.W.subIn K (.ref CInUse) (.ref CTooMany) = some false)
    (esNoMore_BadName : PySem.W.subIn K (.ref CNoMore) (.ref CBadName) = some false)
    (esNoMore_InUse : PySem.W.subIn K (.ref CNoMore) (.ref CInUse) = some false)
    (esNoMore_NoCrew : PySem.W.subIn K (.ref CNoMore) (.ref CNoCrew) = some false)
    (esNoMore_NoDeed : PySem.W.subIn K (.ref CNoMore) (.ref CNoDeed) = some false)
    (esNoMore_NoMore : PySem.W.subIn K (.ref CNoMore) (.ref CNoMore) = some true)
    (esNoMore_NoRound : PySem.W.subIn K (.ref CNoMore) (.ref CNoRound) = some false)
    (esNoMore_NoState : PySem.W.subIn K (.ref CNoMore) (.ref CNoState) = some false)
    (esNoMore_Taken : PySem.W.subIn K (.ref CNoMore) (.ref CTaken) = some false)
    (esNoMore_TooFar : PySem.W.subIn K (.ref CNoMore) (.ref CTooFar) = some false)
    (esNoMore_TooMany : PySem.W.subIn K (.ref CNoMore) (.ref CTooMany) = some false)
    (esNoState_BadName : PySem.W.subIn K (.ref CNoState) (.ref CBadName) = some false)
    (esNoState_InUse : PySem.W.subIn K (.ref CNoState) (.ref CInUse) = some false)
    (esNoState_NoCrew : PySem.W.subIn K (.ref CNoState) (.ref CNoCrew) = some false)
    (esNoState_NoDeed : PySem.W.subIn K (.ref CNoState) (.ref CNoDeed) = some false)
    (esNoState_NoMore : PySem.W.subIn K (.ref CNoState) (.ref CNoMore) = some false)
    (esNoState_NoRound : PySem.W.subIn K (.ref CNoState) (.ref CNoRound) = some false)
    (esNoState_NoState : PySem.W.subIn K (.ref CNoState) (.ref CNoState) = some true)
    (esNoState_Taken : PySem.W.subIn K (.ref CNoState) (.ref CTaken) = some false)
    (esNoState_TooFar : PySem.W.subIn K (.ref CNoState) (.ref CTooFar) = some false)
    (esNoState_TooMany : PySem.W.subIn K (.ref CNoState) (.ref CTooMany) = some false)
    {uA : Value} (laA : PySem.W.nsIn K mainGlobals "LETTERS" = some (some uA))
    (lrA : RelV (.str "abcdefghijklmnopqrstuvwxyz") uA)
    {uF : Value} (laF : PySem.W.nsIn K mainGlobals "FARTHEST" = some (some uF))
    (lrF : RelV (.int 200) uF)
    {uM : Value} (laM : PySem.W.nsIn K mainGlobals "MOST_MEMBERS" = some (some uM))
    (lrM : RelV (.int 6) uM)
    {uE : Value} (laE : PySem.W.nsIn K mainGlobals "FARTHEST_END" = some (some uE))
    (lrE : RelV (.int 8) uE)
    {uL : Value} (laL : PySem.W.nsIn K mainGlobals "FARTHEST_LAMP" = some (some uL))
    (lrL : RelV (.int 24) uL)
    {aF : Addr} (qa : PySem.W.nsIn K mainGlobals "SETTINGS" = some (some (.ref aF)))
    {fod : Option Addr} {fit : Array Value} {fm : Nat} {fsl : Array (Option Value)} (qq : K.lookup aF = some ⟨.type "tuple", fod, .seq fit fm, fsl⟩)
    (qz : fit.size ≤ sizeLine)
    (qv : Vals [.int 2, .int 3, .int 5, .int 7] fit.toList)
    : ∃ fd : FuncData, (∀ (s : Shared) (v : Value), BindsTo s fd ⟨[v], []⟩ [("_law_script", v)]) ∧ ∀ base : Heap, K.In base → base.Ns mainGlobals mg → FnOk l.prog w K mg base CX0 9 fa fd ["_law_script"] (spLaw K) := by
  have T : Txt K mg := {
    wall := mkFn X G a0 l0 c0 k0 fun fd F => F.binds (ps := ["k"]) fun _ _ _ _ _ _ us hl => match us, hl with | [_], _ => rfl
    tidy := mkFn X G a1 l1 c1 k1 fun fd F => F.binds (ps := ["p", "pairs"]) fun _ _ _ _ _ _ us hl => match us, hl with | [_, _], _ => rfl
    added := mkFn X G a2 l2 c2 k2 fun fd F => F.binds (ps := ["p", "one", "other"]) fun _ _ _ _ _ _ us hl => match us, hl with | [_, _, _], _ => rfl
    moved := mkFn X G a3 l3 c3 k3 fun fd F => F.binds (ps := ["pattern", "by"]) fun _ _ _ _ _ _ us hl => match us, hl with | [_, _], _ => rfl
    timed := mkFn X G a4 l4 c4 k4 fun fd F => F.binds (ps := ["p", "pattern", "n"]) fun _ _ _ _ _ _ us hl => match us, hl with | [_, _, _], _ => rfl
    gone := mkFn X G a5 l5 c5 k5 fun fd F => F.binds (ps := ["p", "deeds"]) fun _ _ _ _ _ _ us hl => match us, hl with | [_, _], _ => rfl
    joined := mkFn X G a6 l6 c6 k6 fun fd F => F.binds (ps := ["p", "one", "other"]) fun _ _ _ _ _ _ us hl => match us, hl with | [_, _, _], _ => rfl
    backward := mkFn X G a7 l7 c7 k7 fun fd F => F.binds (ps := ["p", "one"]) fun _ _ _ _ _ _ us hl => match us, hl with | [_, _], _ => rfl
    repeated := mkFn X G a8 l8 c8 k8 fun fd F => F.binds (ps := ["p", "one", "n"]) fun _ _ _ _ _ _ us hl => match us, hl with | [_, _, _], _ => rfl
    near := mkFn X G a9 l9 c9 k9 fun fd F => F.binds (ps := ["one"]) fun _ _ _ _ _ _ us hl => match us, hl with | [_], _ => rfl
    good_name := mkFn X G a10 l10 c10 k10 fun fd F => F.binds (ps := ["name"]) fun _ _ _ _ _ _ us hl => match us, hl with | [_], _ => rfl
    within_bounds := mkFn X G a11 l11 c11 k11 fun fd F => F.binds (ps := ["one"]) fun _ _ _ _ _ _ us hl => match us, hl with | [_], _ => rfl
    shown := mkFn X G a12 l12 c12 k12 fun fd F => F.binds (ps := ["one"]) fun _ _ _ _ _ _ us hl => match us, hl with | [_], _ => rfl
    book_text := mkFn X G a13 l13 c13 k13 fun fd F => F.binds (ps := ["book"]) fun _ _ _ _ _ _ us hl => match us, hl with | [_], _ => rfl
    l_begin := mkFn X G a14 l14 c14 k14 fun fd F => F.binds (ps := ["_law_script"]) fun _ _ _ _ _ _ us hl => match us, hl with | [_], _ => rfl
    l_take := mkFn X G a15 l15 c15 k15 fun fd F => F.binds (ps := ["_law_draw", "_law_many"]) fun _ _ _ _ _ _ us hl => match us, hl with | [_, _], _ => rfl
    l_p := mkFn X G a16 l16 c16 k16 fun fd F => F.binds (ps := ["_law_draw"]) fun _ _ _ _ _ _ us hl => match us, hl with | [_], _ => rfl
    l_names := mkFn X G a17 l17 c17 k17 fun fd F => F.binds (ps := ["_law_draw", "_law_many"]) fun _ _ _ _ _ _ us hl => match us, hl with | [_, _], _ => rfl
    l_tidy := mkFn X G a18 l18 c18 k18 fun fd F => F.binds (ps := ["_law_p_here", "_law_pairs"]) fun _ _ _ _ _ _ us hl => match us, hl with | [_, _], _ => rfl
    l_sum := mkFn X G a19 l19 c19 k19 fun fd F => F.binds (ps := ["_law_p_here", "_law_one", "_law_other", "_law_by", "_law_many"]) fun _ _ _ _ _ _ us hl => match us, hl with | [_, _, _, _, _], _ => rfl
    l_join := mkFn X G a20 l20 c20 k20 fun fd F => F.binds (ps := ["_law_p_here", "_law_one", "_law_other"]) fun _ _ _ _ _ _ us hl => match us, hl with | [_, _, _], _ => rfl
    l_back := mkFn X G a21 l21 c21 k21 fun fd F => F.binds (ps := ["_law_p_here", "_law_one"]) fun _ _ _ _ _ _ us hl => match us, hl with | [_, _], _ => rfl
    l_times := mkFn X G a22 l22 c22 k22 fun fd F => F.binds (ps := ["_law_p_here", "_law_one", "_law_n"]) fun _ _ _ _ _ _ us hl => match us, hl with | [_, _, _], _ => rfl
    l_is_name := mkFn X G a23 l23 c23 k23 fun fd F => F.binds (ps := ["_law_name"]) fun _ _ _ _ _ _ us hl => match us, hl with | [_], _ => rfl
    l_far := mkFn X G a24 l24 c24 k24 fun fd F => F.binds (ps := ["_law_one", "_law_most", "_law_reach"]) fun _ _ _ _ _ _ us hl => match us, hl with | [_, _, _], _ => rfl
    l_walk := mkFn X G a25 l25 c25 k25 fun fd F => F.binds (ps := ["_law_p_here", "_law_deeds"]) fun _ _ _ _ _ _ us hl => match us, hl with | [_, _], _ => rfl
    l_value := mkFn X G a26 l26 c26 k26 fun fd F => F.binds (ps := ["_law_p_here", "_law_rounds", "_law_deed"]) fun _ _ _ _ _ _ us hl => match us, hl with | [_, _, _], _ => rfl
    l_due_round := mkFn X G a27 l27 c27 k27 fun fd F => F.binds (ps := ["_law_p_here", "_law_stand", "_law_deed"]) fun _ _ _ _ _ _ us hl => match us, hl with | [_, _, _], _ => rfl
    l_due_member := mkFn X G a28 l28 c28 k28 fun fd F => F.binds (ps := ["_law_stand", "_law_deed"]) fun _ _ _ _ _ _ us hl => match us, hl with | [_, _], _ => rfl
    l_due_crew := mkFn X G a29 l29 c29 k29 fun fd F => F.binds (ps := ["_law_stand", "_law_deed"]) fun _ _ _ _ _ _ us hl => match us, hl with | [_, _], _ => rfl
    l_due := mkFn X G a30 l30 c30 k30 fun fd F => F.binds (ps := ["_law_p_here", "_law_stand", "_law_deed"]) fun _ _ _ _ _ _ us hl => match us, hl with | [_, _, _], _ => rfl
    l_run := mkFn X G a31 l31 c31 k31 fun fd F => F.binds (ps := ["_law_book", "_law_deed"]) fun _ _ _ _ _ _ us hl => match us, hl with | [_, _], _ => rfl
    l_call := mkFn X G a32 l32 c32 k32 fun fd F => F.binds (ps := ["_law_book", "_law_deed"]) fun _ _ _ _ _ _ us hl => match us, hl with | [_, _], _ => rfl
    l_draw_deeds := mkFn X G a33 l33 c33 k33 fun fd F => F.binds (ps := ["_law_draw"]) fun _ _ _ _ _ _ us hl => match us, hl with | [_], _ => rfl
    l_target := mkFn X G a34 l34 c34 k34 fun fd F => F.binds (ps := ["_law_draw", "_law_names_here"]) fun _ _ _ _ _ _ us hl => match us, hl with | [_, _], _ => rfl
    l_round_deed := mkFn X G a35 l35 c35 k35 fun fd F => F.binds (ps := ["_law_draw", "_law_names_here"]) fun _ _ _ _ _ _ us hl => match us, hl with | [_, _], _ => rfl
    l_crew_deed := mkFn X G a36 l36 c36 k36 fun fd F => F.binds (ps := ["_law_draw", "_law_names_here"]) fun _ _ _ _ _ _ us hl => match us, hl with | [_, _], _ => rfl
    l_planned := mkFn X G a37 l37 c37 k37 fun fd F => F.binds (ps := ["_law_draw", "_law_k", "_law_names_here"]) fun _ _ _ _ _ _ us hl => match us, hl with | [_, _, _], _ => rfl
    l_grow := mkFn X G a38 l38 c38 k38 fun fd F => F.binds (ps := ["_law_draw", "_law_p_here", "_law_book", "_law_names_here"]) fun _ _ _ _ _ _ us hl => match us, hl with | [_, _, _, _], _ => rfl
    l_int := mkFn X G a39 l39 c39 k39 fun fd F => F.binds (ps := ["_law_thing"]) fun _ _ _ _ _ _ us hl => match us, hl with | [_], _ => rfl
    l_is_pattern := mkFn X G a40 l40 c40 k40 fun fd F => F.binds (ps := ["_law_p_here", "_law_thing"]) fun _ _ _ _ _ _ us hl => match us, hl with | [_, _], _ => rfl
    l_is_round := mkFn X G a41 l41 c41 k41 fun fd F => F.binds (ps := ["_law_p_here", "_law_thing"]) fun _ _ _ _ _ _ us hl => match us, hl with | [_, _], _ => rfl
    l_stands := mkFn X G a42 l42 c42 k42 fun fd F => F.binds (ps := ["_law_p_here", "_law_book", "_law_stand"]) fun _ _ _ _ _ _ us hl => match us, hl with | [_, _, _], _ => rfl
    l_shown := mkFn X G a43 l43 c43 k43 fun fd F => F.binds (ps := ["_law_one"]) fun _ _ _ _ _ _ us hl => match us, hl with | [_], _ => rfl
    l_book_text := mkFn X G a44 l44 c44 k44 fun fd F => F.binds (ps := ["_law_p_here", "_law_stand"]) fun _ _ _ _ _ _ us hl => match us, hl with | [_, _], _ => rfl
    cBook := ⟨C_Book, PySem.W.mg_of X G ca_Book, ⟨pg_Book, hd_Book, po_Book, sa_Book⟩, mk_Book, kc_Book⟩
    nBook_p := na_Book_p
    nBook_kept := na_Book_kept
    nBook_past := na_Book_past
    nBook_ahead := na_Book_ahead
    nBook_held := na_Book_held
    nBook_known := na_Book_known
    Book_init := mkMe a_Book_init i_Book_init l_Book_init c_Book_init k_Book_init fun fd F => F.binds (ps := ["self", "p"]) fun _ _ _ _ _ _ us hl => match us, hl with | [_, _], _ => rfl
    Book_settings := mkMe a_Book_settings i_Book_settings l_Book_settings c_Book_settings k_Book_settings fun fd F => F.binds (ps := ["self"]) fun _ _ _ _ _ _ us hl => match us, hl with | [_], _ => rfl
    Book_done := mkMe a_Book_done i_Book_done l_Book_done c_Book_done k_Book_done fun fd F => F.binds (ps := ["self", "rounds", "crews"]) fun _ _ _ _ _ _ us hl => match us, hl with | [_, _, _], _ => rfl
    Book_named := mkMe a_Book_named i_Book_named l_Book_named c_Book_named k_Book_named fun fd F => F.binds (ps := ["self", "name"]) fun _ _ _ _ _ _ us hl => match us, hl with | [_, _], _ => rfl
    Book_crew_names := mkMe a_Book_crew_names i_Book_crew_names l_Book_crew_names c_Book_crew_names k_Book_crew_names fun fd F => F.binds (ps := ["self", "crew"]) fun _ _ _ _ _ _ us hl => match us, hl with | [_, _], _ => rfl
    Book_in_use := mkMe a_Book_in_use i_Book_in_use l_Book_in_use c_Book_in_use k_Book_in_use fun fd F => F.binds (ps := ["self", "name"]) fun _ _ _ _ _ _ us hl => match us, hl with | [_, _], _ => rfl
    Book_checked := mkMe a_Book_checked i_Book_checked l_Book_checked c_Book_checked k_Book_checked fun fd F => F.binds (ps := ["self", "name"]) fun _ _ _ _ _ _ us hl => match us, hl with | [_, _], _ => rfl
    Book_keep := mkMe a_Book_keep i_Book_keep l_Book_keep c_Book_keep k_Book_keep fun fd F => F.binds (ps := ["self", "name", "one"]) fun _ _ _ _ _ _ us hl => match us, hl with | [_, _, _], _ => rfl
    Book_tell := mkMe a_Book_tell i_Book_tell l_Book_tell c_Book_tell k_Book_tell fun fd F => F.binds (ps := ["self", "name", "deeds"]) fun _ _ _ _ _ _ us hl => match us, hl with | [_, _, _], _ => rfl
    Book_join_as := mkMe a_Book_join_as i_Book_join_as l_Book_join_as c_Book_join_as k_Book_join_as fun fd F => F.binds (ps := ["self", "name", "one", "other"]) fun _ _ _ _ _ _ us hl => match us, hl with | [_, _, _, _], _ => rfl
    Book_back_as := mkMe a_Book_back_as i_Book_back_as l_Book_back_as c_Book_back_as k_Book_back_as fun fd F => F.binds (ps := ["self", "name", "one"]) fun _ _ _ _ _ _ us hl => match us, hl with | [_, _, _], _ => rfl
    Book_times_as := mkMe a_Book_times_as i_Book_times_as l_Book_times_as c_Book_times_as k_Book_times_as fun fd F => F.binds (ps := ["self", "name", "one", "n"]) fun _ _ _ _ _ _ us hl => match us, hl with | [_, _, _, _], _ => rfl
    Book_drop := mkMe a_Book_drop i_Book_drop l_Book_drop c_Book_drop k_Book_drop fun fd F => F.binds (ps := ["self", "name"]) fun _ _ _ _ _ _ us hl => match us, hl with | [_, _], _ => rfl
    Book_found := mkMe a_Book_found i_Book_found l_Book_found c_Book_found k_Book_found fun fd F => F.binds (ps := ["self", "crew"]) fun _ _ _ _ _ _ us hl => match us, hl with | [_, _], _ => rfl
    Book_manned := mkMe a_Book_manned i_Book_manned l_Book_manned c_Book_manned k_Book_manned fun fd F => F.binds (ps := ["self", "crew", "names"]) fun _ _ _ _ _ _ us hl => match us, hl with | [_, _, _], _ => rfl
    Book_disband := mkMe a_Book_disband i_Book_disband l_Book_disband c_Book_disband k_Book_disband fun fd F => F.binds (ps := ["self", "crew"]) fun _ _ _ _ _ _ us hl => match us, hl with | [_, _], _ => rfl
    Book_enlist := mkMe a_Book_enlist i_Book_enlist l_Book_enlist c_Book_enlist k_Book_enlist fun fd F => F.binds (ps := ["self", "crew", "name"]) fun _ _ _ _ _ _ us hl => match us, hl with | [_, _, _], _ => rfl
    Book_dismiss := mkMe a_Book_dismiss i_Book_dismiss l_Book_dismiss c_Book_dismiss k_Book_dismiss fun fd F => F.binds (ps := ["self", "crew", "name"]) fun _ _ _ _ _ _ us hl => match us, hl with | [_, _, _], _ => rfl
    Book_undo := mkMe a_Book_undo i_Book_undo l_Book_undo c_Book_undo k_Book_undo fun fd F => F.binds (ps := ["self"]) fun _ _ _ _ _ _ us hl => match us, hl with | [_], _ => rfl
    Book_redo := mkMe a_Book_redo i_Book_redo l_Book_redo c_Book_redo k_Book_redo fun fd F => F.binds (ps := ["self"]) fun _ _ _ _ _ _ us hl => match us, hl with | [_], _ => rfl
    Book_hold := mkMe a_Book_hold i_Book_hold l_Book_hold c_Book_hold k_Book_hold fun fd F => F.binds (ps := ["self"]) fun _ _ _ _ _ _ us hl => match us, hl with | [_], _ => rfl
    Book_return_to := mkMe a_Book_return_to i_Book_return_to l_Book_return_to c_Book_return_to k_Book_return_to fun fd F => F.binds (ps := ["self", "k"]) fun _ _ _ _ _ _ us hl => match us, hl with | [_, _], _ => rfl
    Book_names := mkMe a_Book_names i_Book_names l_Book_names c_Book_names k_Book_names fun fd F => F.binds (ps := ["self"]) fun _ _ _ _ _ _ us hl => match us, hl with | [_], _ => rfl
    Book_crews := mkMe a_Book_crews i_Book_crews l_Book_crews c_Book_crews k_Book_crews fun fd F => F.binds (ps := ["self"]) fun _ _ _ _ _ _ us hl => match us, hl with | [_], _ => rfl
    Book_round_of := mkMe a_Book_round_of i_Book_round_of l_Book_round_of c_Book_round_of k_Book_round_of fun fd F => F.binds (ps := ["self", "name"]) fun _ _ _ _ _ _ us hl => match us, hl with | [_, _], _ => rfl
    Book_members := mkMe a_Book_members i_Book_members l_Book_members c_Book_members k_Book_members fun fd F => F.binds (ps := ["self", "crew"]) fun _ _ _ _ _ _ us hl => match us, hl with | [_, _], _ => rfl
    zabs := PySem.W.mg_none_of X G z_abs
    zall := PySem.W.mg_none_of X G z_all
    zany := PySem.W.mg_none_of X G z_any
    zbool := PySem.W.mg_none_of X G z_bool
    zdict := PySem.W.mg_none_of X G z_dict
    zint := PySem.W.mg_none_of X G z_int
    zisinstance := PySem.W.mg_none_of X G z_isinstance
    zlen := PySem.W.mg_none_of X G z_len
    zlist := PySem.W.mg_none_of X G z_list
    zrange := PySem.W.mg_none_of X G z_range
    zsorted := PySem.W.mg_none_of X G z_sorted
    zstr := PySem.W.mg_none_of X G z_str
    ztuple := PySem.W.mg_none_of X G z_tuple
    xNoDeed := ⟨CNoDeed, PySem.W.mg_of X G xaNoDeed, xxNoDeed, xkNoDeed, xbNoDeed, xtNoDeed⟩
    xTooFar := ⟨CTooFar, PySem.W.mg_of X G xaTooFar, xxTooFar, xkTooFar, xbTooFar, xtTooFar⟩
    xTooMany := ⟨CTooMany, PySem.W.mg_of X G xaTooMany, xxTooMany, xkTooMany, xbTooMany, xtTooMany⟩
    xBadCount := ⟨CBadCount, PySem.W.mg_of X G xaBadCount, xxBadCount, xkBadCount, xbBadCount, xtBadCount⟩
    xBadName := ⟨CBadName, PySem.W.mg_of X G xaBadName, xxBadName, xkBadName, xbBadName, xtBadName⟩
    xNoRound := ⟨CNoRound, PySem.W.mg_of X G xaNoRound, xxNoRound, xkNoRound, xbNoRound, xtNoRound⟩
    xNoCrew := ⟨CNoCrew, PySem.W.mg_of X G xaNoCrew, xxNoCrew, xkNoCrew, xbNoCrew, xtNoCrew⟩
    xTaken := ⟨CTaken, PySem.W.mg_of X G xaTaken, xxTaken, xkTaken, xbTaken, xtTaken⟩
    xInUse := ⟨CInUse, PySem.W.mg_of X G xaInUse, xxInUse, xkInUse, xbInUse, xtInUse⟩
    xNoMore := ⟨CNoMore, PySem.W.mg_of X G xaNoMore, xxNoMore, xkNoMore, xbNoMore, xtNoMore⟩
    xNoState := ⟨CNoState, PySem.W.mg_of X G xaNoState, xxNoState, xkNoState, xbNoState, xtNoState⟩
    eNoDeed_BadName := PySem.W.exm_ref xbBadName edBadName xtBadName esNoDeed_BadName
    eNoDeed_InUse := PySem.W.exm_ref xbInUse edInUse xtInUse esNoDeed_InUse
    eNoDeed_NoCrew := PySem.W.exm_ref xbNoCrew edNoCrew xtNoCrew esNoDeed_NoCrew
    eNoDeed_NoDeed := PySem.W.exm_ref xbNoDeed edNoDeed xtNoDeed esNoDeed_NoDeed
    eNoDeed_NoMore := PySem.W.exm_ref xbNoMore edNoMore xtNoMore esNoDeed_NoMore
    eNoDeed_NoRound := PySem.W.exm_ref xbNoRound edNoRound xtNoRound esNoDeed_NoRound
    eNoDeed_NoState := PySem.W.exm_ref xbNoState edNoState xtNoState esNoDeed_NoState
    eNoDeed_Taken := PySem.W.exm_ref xbTaken edTaken xtTaken esNoDeed_Taken
    eNoDeed_TooFar := PySem.W.exm_ref xbTooFar edTooFar xtTooFar esNoDeed_TooFar
    eNoDeed_TooMany := PySem.W.exm_ref xbTooMany edTooMany xtTooMany esNoDeed_TooMany
    eTooFar_BadName := PySem.W.exm_ref xbBadName edBadName xtBadName esTooFar_BadName
    eTooFar_InUse := PySem.W.exm_ref xbInUse edInUse xtInUse esTooFar_InUse
    eTooFar_NoCrew := PySem.W.exm_ref xbNoCrew edNoCrew xtNoCrew esTooFar_NoCrew
    eTooFar_NoDeed := PySem.W.exm_ref xbNoDeed edNoDeed xtNoDeed esTooFar_NoDeed
    eTooFar_NoMore := PySem.W.exm_ref xbNoMore edNoMore xtNoMore esTooFar_NoMore
    eTooFar_NoRound := PySem.W.exm_ref xbNoRound edNoRound xtNoRound esTooFar_NoRound
    eTooFar_NoState := PySem.W.exm_ref xbNoState edNoState xtNoState esTooFar_NoState
    eTooFar_Taken := PySem.W.exm_ref xbTaken edTaken xtTaken esTooFar_Taken
    eTooFar_TooFar := PySem.W.exm_ref xbTooFar edTooFar xtTooFar esTooFar_TooFar
    eTooFar_TooMany := PySem.W.exm_ref xbTooMany edTooMany xtTooMany esTooFar_TooMany
    eTooMany_BadName := PySem.W.exm_ref xbBadName edBadName xtBadName esTooMany_BadName
    eTooMany_InUse := PySem.W.exm_ref xbInUse edInUse xtInUse esTooMany_InUse
    eTooMany_NoCrew := PySem.W.exm_ref xbNoCrew edNoCrew xtNoCrew esTooMany_NoCrew
    eTooMany_NoDeed := PySem.W.exm_ref xbNoDeed edNoDeed xtNoDeed esTooMany_NoDeed
    eTooMany_NoMore := PySem.W.exm_ref xbNoMore edNoMore xtNoMore esTooMany_NoMore
    eTooMany_NoRound := PySem.W.exm_ref xbNoRound edNoRound xtNoRound esTooMany_NoRound
    eTooMany_NoState := PySem.W.exm_ref xbNoState edNoState xtNoState esTooMany_NoState
    eTooMany_Taken := PySem.W.exm_ref xbTaken edTaken xtTaken esTooMany_Taken
    eTooMany_TooFar := PySem.W.exm_ref xbTooFar edTooFar xtTooFar esTooMany_TooFar
    eTooMany_TooMany := PySem.W.exm_ref xbTooMany edTooMany xtTooMany esTooMany_TooMany
    eBadCount_BadName := PySem.W.exm_ref xbBadName edBadName xtBadName esBadCount_BadName
    eBadCount_InUse := PySem.W.exm_ref xbInUse edInUse xtInUse esBadCount_InUse
    eBadCount_NoCrew := PySem.W.exm_ref xbNoCrew edNoCrew xtNoCrew esBadCount_NoCrew
    eBadCount_NoDeed := PySem.W.exm_ref xbNoDeed edNoDeed xtNoDeed esBadCount_NoDeed
    eBadCount_NoMore := PySem.W.exm_ref xbNoMore edNoMore xtNoMore esBadCount_NoMore
    eBadCount_NoRound := PySem.W.exm_ref xbNoRound edNoRound xtNoRound esBadCount_NoRound
    eBadCount_NoState := PySem.W.exm_ref xbNoState edNoState xtNoState esBadCount_NoState
    eBadCount_Taken := PySem.W.exm_ref xbTaken edTaken xtTaken esBadCount_Taken
    eBadCount_TooFar := PySem.W.exm_ref xbTooFar edTooFar xtTooFar esBadCount_TooFar
    eBadCount_TooMany := PySem.W.exm_ref xbTooMany edTooMany xtTooMany esBadCount_TooMany
    eBadName_BadName := PySem.W.exm_ref xbBadName edBadName xtBadName esBadName_BadName
    eBadName_InUse := PySem.W.exm_ref xbInUse edInUse xtInUse esBadName_InUse
    eBadName_NoCrew := PySem.W.exm_ref xbNoCrew edNoCrew xtNoCrew esBadName_NoCrew
    eBadName_NoDeed := PySem.W.exm_ref xbNoDeed edNoDeed xtNoDeed esBadName_NoDeed
    eBadName_NoMore := PySem.W.exm_ref xbNoMore edNoMore xtNoMore esBadName_NoMore
    eBadName_NoRound := PySem.W.exm_ref xbNoRound edNoRound xtNoRound esBadName_NoRound
    eBadName_NoState := PySem.W.exm_ref xbNoState edNoState xtNoState esBadName_NoState
    eBadName_Taken := PySem.W.exm_ref xbTaken edTaken xtTaken esBadName_Taken
    eBadName_TooFar := PySem.W.exm_ref xbTooFar edTooFar xtTooFar esBadName_TooFar
    eBadName_TooMany := PySem.W.exm_ref xbTooMany edTooMany xtTooMany esBadName_TooMany
    eNoRound_BadName := PySem.W.exm_ref xbBadName edBadName xtBadName esNoRound_BadName
    eNoRound_InUse := PySem.W.exm_ref xbInUse edInUse xtInUse esNoRound_InUse
    eNoRound_NoCrew := PySem.W.exm_ref xbNoCrew edNoCrew xtNoCrew esNoRound_NoCrew
    eNoRound_NoDeed := PySem.W.exm_ref xbNoDeed edNoDeed xtNoDeed esNoRound_NoDeed
    eNoRound_NoMore := PySem.W.exm_ref xbNoMore edNoMore xtNoMore esNoRound_NoMore
    eNoRound_NoRound := PySem.W.exm_ref xbNoRound edNoRound xtNoRound esNoRound_NoRound
    eNoRound_NoState := PySem.W.exm_ref xbNoState edNoState xtNoState esNoRound_NoState
    eNoRound_Taken := PySem.W.exm_ref xbTaken edTaken xtTaken esNoRound_Taken
    eNoRound_TooFar := PySem.W.exm_ref xbTooFar edTooFar xtTooFar esNoRound_TooFar
    eNoRound_TooMany := PySem.W.exm_ref xbTooMany edTooMany xtTooMany esNoRound_TooMany
    eNoCrew_BadName := PySem.W.exm_ref xbBadName edBadName xtBadName esNoCrew_BadName
    eNoCrew_InUse := PySem.W.exm_ref xbInUse edInUse xtInUse esNoCrew_InUse
    eNoCrew_NoCrew := PySem.W.exm_ref xbNoCrew edNoCrew xtNoCrew esNoCrew_NoCrew
    eNoCrew_NoDeed := PySem.W.exm_ref xbNoDeed edNoDeed xtNoDeed esNoCrew_NoDeed
    eNoCrew_NoMore := PySem.W.exm_ref xbNoMore edNoMore xtNoMore esNoCrew_NoMore
    eNoCrew_NoRound := PySem.W.exm_ref xbNoRound edNoRound xtNoRound esNoCrew_NoRound
    eNoCrew_NoState := PySem.W.exm_ref xbNoState edNoState xtNoState esNoCrew_NoState
    eNoCrew_Taken := PySem.W.exm_ref xbTaken edTaken xtTaken esNoCrew_Taken
    eNoCrew_TooFar := PySem.W.exm_ref xbTooFar edTooFar xtTooFar esNoCrew_TooFar
    eNoCrew_TooMany := PySem.W.exm_ref xbTooMany edTooMany xtTooMany esNoCrew_TooMany
    eTaken_BadName := PySem.W.exm_ref xbBadName edBadName xtBadName esTaken_BadName
    eTaken_InUse := PySem.W.exm_ref xbInUse edInUse xtInUse esTaken_InUse
    eTaken_NoCrew := PySem.W.exm_ref xbNoCrew edNoCrew xtNoCrew esTaken_NoCrew
    eTaken_NoDeed := PySem.W.exm_ref xbNoDeed edNoDeed xtNoDeed esTaken_NoDeed
    eTaken_NoMore := PySem.W.exm_ref xbNoMore edNoMore xtNoMore esTaken_NoMore
    eTaken_NoRound := PySem.W.exm_ref xbNoRound edNoRound xtNoRound esTaken_NoRound
    eTaken_NoState := PySem.W.exm_ref xbNoState edNoState xtNoState esTaken_NoState
    eTaken_Taken := PySem.W.exm_ref xbTaken edTaken xtTaken esTaken_Taken
    eTaken_TooFar := PySem.W.exm_ref xbTooFar edTooFar xtTooFar esTaken_TooFar
    eTaken_TooMany := PySem.W.exm_ref xbTooMany edTooMany xtTooMany esTaken_TooMany
    eInUse_BadName := PySem.W.exm_ref xbBadName edBadName xtBadName esInUse_BadName
    eInUse_InUse := PySem.W.exm_ref xbInUse edInUse xtInUse esInUse_InUse
    eInUse_NoCrew := PySem.W.exm_ref xbNoCrew edNoCrew xtNoCrew esInUse_NoCrew
    eInUse_NoDeed := PySem.W.exm_ref xbNoDeed edNoDeed xtNoDeed esInUse_NoDeed
    eInUse_NoMore := PySem.W.exm_ref xbNoMore edNoMore xtNoMore esInUse_NoMore
    eInUse_NoRound := PySem.W.exm_ref xbNoRound edNoRound xtNoRound esInUse_NoRound
    eInUse_NoState := PySem.W.exm_ref xbNoState edNoState xtNoState esInUse_NoState
    eInUse_Taken := PySem.W.exm_ref xbTaken edTaken xtTaken esInUse_Taken
    eInUse_TooFar := PySem.W.exm_ref xbTooFar edTooFar xtTooFar esInUse_TooFar
    eInUse_TooMany := PySem.W.exm_ref xbTooMany edTooMany xtTooMany esInUse_TooMany
    eNoMore_BadName := PySem.W.exm_ref xbBadName edBadName xtBadName esNoMore_BadName
    eNoMore_InUse := PySem.W.exm_ref xbInUse edInUse xtInUse esNoMore_InUse
    eNoMore_NoCrew := PySem.W.exm_ref xbNoCrew edNoCrew xtNoCrew esNoMore_NoCrew
    eNoMore_NoDeed := PySem.W.exm_ref xbNoDeed edNoDeed xtNoDeed esNoMore_NoDeed
    eNoMore_NoMore := PySem.W.exm_ref xbNoMore edNoMore xtNoMore esNoMore_NoMore
    eNoMore_NoRound := PySem.W.exm_ref xbNoRound edNoRound xtNoRound esNoMore_NoRound
    eNoMore_NoState := PySem.W.exm_ref xbNoState edNoState xtNoState esNoMore_NoState
    eNoMore_Taken := PySem.W.exm_ref xbTaken edTaken xtTaken esNoMore_Taken
    eNoMore_TooFar := PySem.W.exm_ref xbTooFar edTooFar xtTooFar esNoMore_TooFar
    eNoMore_TooMany := PySem.W.exm_ref xbTooMany edTooMany xtTooMany esNoMore_TooMany
    eNoState_BadName := PySem.W.exm_ref xbBadName edBadName xtBadName esNoState_BadName
    eNoState_InUse := PySem.W.exm_ref xbInUse edInUse xtInUse esNoState_InUse
    eNoState_NoCrew := PySem.W.exm_ref xbNoCrew edNoCrew xtNoCrew esNoState_NoCrew
    eNoState_NoDeed := PySem.W.exm_ref xbNoDeed edNoDeed xtNoDeed esNoState_NoDeed
    eNoState_NoMore := PySem.W.exm_ref xbNoMore edNoMore xtNoMore esNoState_NoMore
    eNoState_NoRound := PySem.W.exm_ref xbNoRound edNoRound xtNoRound esNoState_NoRound
    eNoState_NoState := PySem.W.exm_ref xbNoState edNoState xtNoState esNoState_NoState
    eNoState_Taken := PySem.W.exm_ref xbTaken edTaken xtTaken esNoState_Taken
    eNoState_TooFar := PySem.W.exm_ref xbTooFar edTooFar xtTooFar esNoState_TooFar
    eNoState_TooMany := PySem.W.exm_ref xbTooMany edTooMany xtTooMany esNoState_TooMany
    kA := ⟨uA, PySem.W.mg_of X G laA, lrA⟩
    kF := ⟨uF, PySem.W.mg_of X G laF, lrF⟩
    kM := ⟨uM, PySem.W.mg_of X G laM, lrM⟩
    kE := ⟨uE, PySem.W.mg_of X G laE, lrE⟩
    kL := ⟨uL, PySem.W.mg_of X G laL, lrL⟩
    kT := ⟨aF, PySem.W.mg_of X G qa, ⟨kt_of rfl qq qz qv fun _ => .cons (.int _) (.cons (.int _) (.cons (.int _) (.cons (.int _) .nil)))⟩⟩
  }
  have e := hfa.symm.trans (PySem.W.mg_of X G a45)
  cases e
  exact ⟨PySem.W.fnOf "law" "law" (defArgs sLaw) (defBody sLaw) (defScope sLaw) .none kV45 dc45 pm45 an45 cd45 ct45, fun s v => .of_eq rfl, fun base _ _ => ok_law (fun_mk (st := sLaw) l45 c45 k45) T⟩
end Law
open PySem PySem.W PyProof.Rows
set_option maxHeartbeats 0 in
theorem PySem.Challenge.cw_duskround_k52_books_written_holds : PySem.Challenge.rw_duskround_k52_books_written.Holds := by
  w_on; o_law; k_head; (case hw => w_witness2)
  k_fill
  refine L2.walk_of (l := PySem.Challenge.rw_duskround_k52_books_written) (n := 63) (k := 9) (x := "_law_script") (CX := fun _ => L2.CX0) (sp := fun w => Dk.spLaw _) rfl (by decide) rfl ⟨rfl, by decide, by decide⟩ (fun w h Y => PySem.W.kIn_of Y) ?F (fun _ _ a ns hl _ hS => ⟨a, ns, rfl, hS, fun _ => rfl⟩) (fun _ _ _ _ _ h => h)
  case F =>
    intro w mg fa h KX G hmg
    refine' Law.all_mk KX G hmg ?a0 ?l0 ?c0 ?k0 ?a1 ?l1 ?c1 ?k1 ?a2 ?l2 ?c2 ?k2 ?a3 ?l3 ?c3 ?k3 ?a4 ?l4 ?c4 ?k4 ?a5 ?l5 ?c5 ?k5 ?a6 ?l6 ?c6 ?k6 ?a7 ?l7 ?c7 ?k7 ?a8 ?l8 ?c8 ?k8 ?a9 ?l9 ?c9 ?k9 ?a10 ?l10 ?c10 ?k10 ?a11 ?l11 ?c11 ?k11 ?a12 ?l12 ?c12 ?k12 ?a13 ?l13 ?c13 ?k13 ?a14 ?l14 ?c14 ?k14 ?a15 ?l15 ?c15 ?k15 ?a16 ?l16 ?c16 ?k16 ?a17 ?l17 ?c17 ?k17 ?a18 ?l18 ?c18 ?k18 ?a19 ?l19 ?c19 ?k19 ?a20 ?l20 ?c20 ?k20 ?a21 ?l21 ?c21 ?k21 ?a22 ?l22 ?c22 ?k22 ?a23 ?l23 ?c23 ?k23 ?a24 ?l24 ?c24 ?k24 ?a25 ?l25 ?c25 ?k25 ?a26 ?l26 ?c26 ?k26 ?a27 ?l27 ?c27 ?k27 ?a28 ?l28 ?c28 ?k28 ?a29 ?l29 ?c29 ?k29 ?a30 ?l30 ?c30 ?k30 ?a31 ?l31 ?c31 ?k31 ?a32 ?l32 ?c32 ?k32 ?a33 ?l33 ?c33 ?k33 ?a34 ?l34 ?c34 ?k34 ?a35 ?l35 ?c35 ?k35 ?a36 ?l36 ?c36 ?k36 ?a37 ?l37 ?c37 ?k37 ?a38 ?l38 ?c38 ?k38 ?a39 ?l39 ?c39 ?k39 ?a40 ?l40 ?c40 ?k40 ?a41 ?l41 ?c41 ?k41 ?a42 ?l42 ?c42 ?k42 ?a43 ?l43 ?c43 ?k43 ?a44 ?l44 ?c44 ?k44 ?a45 ?l45 ?c45 ?k45 ?ca_Book ?pg_Book ?hd_Book ?po_Book ?sa_Book ?mk_Book ?kc_Book ?na_Book_p ?na_Book_kept ?na_Book_past ?na_Book_ahead ?na_Book_held ?na_Book_known ?a_Book_init ?i_Book_init ?l_Book_init ?c_Book_init ?k_Book_init ?a_Book_settings ?i_Book_settings ?l_Book_settings ?c_Book_settings ?k_Book_settings ?a_Book_done ?i_Book_done ?l_Book_done ?c_Book_done ?k_Book_done ?a_Book_named ?i_Book_named ?l_Book_named ?c_Book_named ?k_Book_named ?a_Book_crew_names ?i_Book_crew_names ?l_Book_crew_names ?c_Book_crew_names ?k_Book_crew_names ?a_Book_in_use ?i_Book_in_use ?l_Book_in_use ?c_Book_in_use ?k_Book_in_use ?a_Book_checked ?i_Book_checked ?l_Book_checked ?c_Book_checked ?k_Book_checked ?a_Book_keep ?i_Book_keep ?l_Book_keep ?c_Book_keep ?k_Book_keep ?a_Book_tell ?i_Book_tell ?l_Book_tell ?c_Book_tell ?k_Book_tell ?a_Book_join_as ?i_Book_join_as ?l_Book_join_as ?c_Book_join_as ?k_Book_join_as ?a_Book_back_as ?i_Book_back_as ?l_Book_back_as ?c_Book_back_as ?k_Book_back_as ?a_Book_times_as ?i_Book_times_as ?l_Book_times_as ?c_Book_times_as ?k_Book_times_as ?a_Book_drop ?i_Book_drop ?l_Book_drop ?c_Book_drop ?k_Book_drop ?a_Book_found ?i_Book_found ?l_Book_found ?c_Book_found ?k_Book_found ?a_Book_manned ?i_Book_manned ?l_Book_manned ?c_Book_manned ?k_Book_manned ?a_Book_disband ?i_Book_disband ?l_Book_disband ?c_Book_disband ?k_Book_disband ?a_Book_enlist ?i_Book_enlist ?l_Book_enlist ?c_Book_enlist ?k_Book_enlist ?a_Book_dismiss ?i_Book_dismiss ?l_Book_dismiss ?c_Book_dismiss ?k_Book_dismiss ?a_Book_undo ?i_Book_undo ?l_Book_undo ?c_Book_undo ?k_Book_undo ?a_Book_redo ?i_Book_redo ?l_Book_redo ?c_Book_redo ?k_Book_redo ?a_Book_hold ?i_Book_hold ?l_Book_hold ?c_Book_hold ?k_Book_hold ?a_Book_return_to ?i_Book_return_to ?l_Book_return_to ?c_Book_return_to ?k_Book_return_to ?a_Book_names ?i_Book_names ?l_Book_names ?c_Book_names ?k_Book_names ?a_Book_crews ?i_Book_crews ?l_Book_crews ?c_Book_crews ?k_Book_crews ?a_Book_round_of ?i_Book_round_of ?l_Book_round_of ?c_Book_round_of ?k_Book_round_of ?a_Book_members ?i_Book_members ?l_Book_members ?c_Book_members ?k_Book_members ?z_abs ?z_all ?z_any ?z_bool ?z_dict ?z_int ?z_isinstance ?z_len ?z_list ?z_range ?z_sorted ?z_str ?z_tuple ?xaNoDeed ?xxNoDeed ?xkNoDeed ?xbNoDeed ?xtNoDeed ?xaTooFar ?xxTooFar ?xkTooFar ?xbTooFar ?xtTooFar ?xaTooMany ?xxTooMany ?xkTooMany ?xbTooMany ?xtTooMany ?xaBadCount ?xxBadCount ?xkBadCount ?xbBadCount ?xtBadCount ?xaBadName ?xxBadName ?xkBadName ?xbBadName ?xtBadName ?xaNoRound ?xxNoRound ?xkNoRound ?xbNoRound ?xtNoRound ?xaNoCrew ?xxNoCrew ?xkNoCrew ?xbNoCrew ?xtNoCrew ?xaTaken ?xxTaken ?xkTaken ?xbTaken ?xtTaken ?xaInUse ?xxInUse ?xkInUse ?xbInUse ?xtInUse ?xaNoMore ?xxNoMore ?xkNoMore ?xbNoMore ?xtNoMore ?xaNoState ?xxNoState ?xkNoState ?xbNoState ?xtNoState ?edBadName ?edInUse ?edNoCrew ?edNoDeed ?edNoMore ?edNoRound ?edNoState ?edTaken ?edTooFar ?edTooMany ?esNoDeed_BadName ?esNoDeed_InUse ?esNoDeed_NoCrew ?esNoDeed_NoDeed ?esNoDeed_NoMore ?esNoDeed_NoRound ?esNoDeed_NoState ?esNoDeed_Taken ?esNoDeed_TooFar ?esNoDeed_TooMany ?esTooFar_BadName ?esTooFar_InUse ?esTooFar_NoCrew ?esTooFar_NoDeed ?esTooFar_NoMore ?esTooFar_NoRound ?esTooFar_NoState ?esTooFar_Taken ?esTooFar_TooFar ?esTooFar_TooMany ?esTooMany_BadName ?esTooMany_InUse ?esTooMany_NoCrew ?esTooMany_NoDeed ?esTooMany_NoMore ?esTooMany_NoRound ?esTooMany_NoState ?esTooMany_Taken ?esTooMany_TooFar ?esTooMany_TooMany ?esBadCount_BadName ?esBadCount_InUse ?esBadCount_NoCrew ?esBadCount_NoDeed ?esBadCount_NoMore ?esBadCount_NoRound ?esBadCount_NoState ?esBadCount_Taken ?esBadCount_TooFar ?esBadCount_TooMany ?esBadName_BadName ?esBadName_InUse ?esBadName_NoCrew ?esBadName_NoDeed ?esBadName_NoMore ?esBadName_NoRound ?esBadName_NoState ?esBadName_Taken ?esBadName_TooFar ?esBadName_TooMany ?esNoRound_BadName ?esNoRound_InUse ?esNoRound_NoCrew ?esNoRound_NoDeed ?esNoRound_NoMore ?esNoRound_NoRound ?esNoRound_NoState ?esNoRound_Taken ?esNoRound_TooFar ?esNoRound_TooMany ?esNoCrew_BadName ?esNoCrew_InUse ?esNoCrew_NoCrew ?esNoCrew_NoDeed ?esNoCrew_NoMore ?esNoCrew_NoRound ?esNoCrew_NoState ?esNoCrew_Taken ?esNoCrew_TooFar ?esNoCrew_TooMany ?esTaken_BadName ?esTaken_InUse ?esTaken_NoCrew ?esTaken_NoDeed ?esTaken_NoMore ?esTaken_NoRound ?esTaken_NoState ?esTaken_Taken ?esTaken_TooFar ?esTaken_TooMany ?esInUse_BadName ?esInUse_InUse ?esInUse_NoCrew ?esInUse_NoDeed ?esInUse_NoMore ?esInUse_NoRound ?esInUse_NoState ?esInUse_Taken ?esInUse_TooFar ?esInUse_TooMany ?esNoMore_BadName ?esNoMore_InUse ?esNoMore_NoCrew ?esNoMore_NoDeed ?esNoMore_NoMore ?esNoMore_NoRound ?esNoMore_NoState ?esNoMore_Taken ?esNoMore_TooFar ?esNoMore_TooMany ?esNoState_BadName ?esNoState_InUse ?esNoState_NoCrew ?esNoState_NoDeed ?esNoState_NoMore ?esNoState_NoRound ?esNoState_NoState ?esNoState_Taken ?esNoState_TooFar ?esNoState_TooMany ?laA ?lrA ?laF ?lrF ?laM ?lrM ?laE ?lrE ?laL ?lrL ?qa ?qq ?qz ?qv
    (case a0 => k_is); (case l0 => k_is); (case c0 => k_is); (case k0 => k_is); (case a1 => k_is); (case l1 => k_is); (case c1 => k_is); (case k1 => k_is); (case a2 => k_is); (case l2 => k_is); (case c2 => k_is); (case k2 => k_is); (case a3 => k_is); (case l3 => k_is); (case c3 => k_is); (case k3 => k_is); (case a4 => k_is); (case l4 => k_is); (case c4 => k_is); (case k4 => k_is); (case a5 => k_is); (case l5 => k_is); (case c5 => k_is); (case k5 => k_is); (case a6 => k_is); (case l6 => k_is); (case c6 => k_is); (case k6 => k_is); (case a7 => k_is); (case l7 => k_is); (case c7 => k_is); (case k7 => k_is); (case a8 => k_is); (case l8 => k_is); (case c8 => k_is); (case k8 => k_is); (case a9 => k_is); (case l9 => k_is); (case c9 => k_is); (case k9 => k_is); (case a10 => k_is); (case l10 => k_is); (case c10 => k_is); (case k10 => k_is); (case a11 => k_is); (case l11 => k_is); (case c11 => k_is); (case k11 => k_is); (case a12 => k_is); (case l12 => k_is); (case c12 => k_is); (case k12 => k_is); (case a13 => k_is); (case l13 => k_is); (case c13 => k_is); (case k13 => k_is); (case a14 => k_is); (case l14 => k_is); (case c14 => k_is); (case k14 => k_is); (case a15 => k_is); (case l15 => k_is); (case c15 => k_is); (case k15 => k_is); (case a16 => k_is); (case l16 => k_is); (case c16 => k_is); (case k16 => k_is); (case a17 => k_is); (case l17 => k_is); (case c17 => k_is); (case k17 => k_is); (case a18 => k_is); (case l18 => k_is); (case c18 => k_is); (case k18 => k_is); (case a19 => k_is); (case l19 => k_is); (case c19 => k_is); (case k19 => k_is); (case a20 => k_is); (case l20 => k_is); (case c20 => k_is); (case k20 => k_is); (case a21 => k_is); (case l21 => k_is); (case c21 => k_is); (case k21 => k_is); (case a22 => k_is); (case l22 => k_is); (case c22 => k_is); (case k22 => k_is); (case a23 => k_is); (case l23 => k_is); (case c23 => k_is); (case k23 => k_is); (case a24 => k_is); (case l24 => k_is); (case c24 => k_is); (case k24 => k_is); (case a25 => k_is); (case l25 => k_is); (case c25 => k_is); (case k25 => k_is); (case a26 => k_is); (case l26 => k_is); (case c26 => k_is); (case k26 => k_is); (case a27 => k_is); (case l27 => k_is); (case c27 => k_is); (case k27 => k_is); (case a28 => k_is); (case l28 => k_is); (case c28 => k_is); (case k28 => k_is); (case a29 => k_is); (case l29 => k_is); (case c29 => k_is); (case k29 => k_is); (case a30 => k_is); (case l30 => k_is); (case c30 => k_is); (case k30 => k_is); (case a31 => k_is); (case l31 => k_is); (case c31 => k_is); (case k31 => k_is); (case a32 => k_is); (case l32 => k_is); (case c32 => k_is); (case k32 => k_is); (case a33 => k_is); (case l33 => k_is); (case c33 => k_is); (case k33 => k_is); (case a34 => k_is); (case l34 => k_is); (case c34 => k_is); (case k34 => k_is); (case a35 => k_is); (case l35 => k_is); (case c35 => k_is); (case k35 => k_is); (case a36 => k_is); (case l36 => k_is); (case c36 => k_is); (case k36 => k_is); (case a37 => k_is); (case l37 => k_is); (case c37 => k_is); (case k37 => k_is); (case a38 => k_is); (case l38 => k_is); (case c38 => k_is); (case k38 => k_is); (case a39 => k_is); (case l39 => k_is); (case c39 => k_is); (case k39 => k_is); (case a40 => k_is); (case l40 => k_is); (case c40 => k_is); (case k40 => k_is); (case a41 => k_is); (case l41 => k_is); (case c41 => k_is); (case k41 => k_is); (case a42 => k_is); (case l42 => k_is); (case c42 => k_is); (case k42 => k_is); (case a43 => k_is); (case l43 => k_is); (case c43 => k_is); (case k43 => k_is); (case a44 => k_is); (case l44 => k_is); (case c44 => k_is); (case k44 => k_is); (case a45 => k_is); (case l45 => k_is); (case c45 => k_is); (case k45 => k_is); (case ca_Book => k_is); (case pg_Book => k_is); (case hd_Book => k_is); (case po_Book => k_is); (case sa_Book => k_is); (case mk_Book => k_is); (case kc_Book => k_is); (case na_Book_p => k_is); (case na_Book_kept => k_is); (case na_Book_past => k_is); (case na_Book_ahead => k_is); (case na_Book_held => k_is); (case na_Book_known => k_is); (case a_Book_init => k_is); (case i_Book_init => k_is); (case l_Book_init => k_is); (case c_Book_init => k_is); (case k_Book_init => k_is); (case a_Book_settings => k_is); (case i_Book_settings => k_is); (case l_Book_settings => k_is); (case c_Book_settings => k_is); (case k_Book_settings => k_is); (case a_Book_done => k_is); (case i_Book_done => k_is); (case l_Book_done => k_is); (case c_Book_done => k_is); (case k_Book_done => k_is); (case a_Book_named => k_is); (case i_Book_named => k_is); (case l_Book_named => k_is); (case c_Book_named => k_is); (case k_Book_named => k_is); (case a_Book_crew_names => k_is); (case i_Book_crew_names => k_is); (case l_Book_crew_names => k_is); (case c_Book_crew_names => k_is); (case k_Book_crew_names => k_is); (case a_Book_in_use => k_is); (case i_Book_in_use => k_is); (case l_Book_in_use => k_is); (case c_Book_in_use => k_is); (case k_Book_in_use => k_is); (case a_Book_checked => k_is); (case i_Book_checked => k_is); (case l_Book_checked => k_is); (case c_Book_checked => k_is); (case k_Book_checked => k_is); (case a_Book_keep => k_is); (case i_Book_keep => k_is); (case l_Book_keep => k_is); (case c_Book_keep => k_is); (case k_Book_keep => k_is); (case a_Book_tell => k_is); (case i_Book_tell => k_is); (case l_Book_tell => k_is); (case c_Book_tell => k_is); (case k_Book_tell => k_is); (case a_Book_join_as => k_is); (case i_Book_join_as => k_is); (case l_Book_join_as => k_is); (case c_Book_join_as => k_is); (case k_Book_join_as => k_is); (case a_Book_back_as => k_is); (case i_Book_back_as => k_is); (case l_Book_back_as => k_is); (case c_Book_back_as => k_is); (case k_Book_back_as => k_is); (case a_Book_times_as => k_is); (case i_Book_times_as => k_is); (case l_Book_times_as => k_is); (case c_Book_times_as => k_is); (case k_Book_times_as => k_is); (case a_Book_drop => k_is); (case i_Book_drop => k_is); (case l_Book_drop => k_is); (case c_Book_drop => k_is); (case k_Book_drop => k_is); (case a_Book_found => k_is); (case i_Book_found => k_is); (case l_Book_found => k_is); (case c_Book_found => k_is); (case k_Book_found => k_is); (case a_Book_manned => k_is); (case i_Book_manned => k_is); (case l_Book_manned => k_is); (case c_Book_manned => k_is); (case k_Book_manned => k_is); (case a_Book_disband => k_is); (case i_Book_disband => k_is); (case l_Book_disband => k_is); (case c_Book_disband => k_is); (case k_Book_disband => k_is); (case a_Book_enlist => k_is); (case i_Book_enlist => k_is); (case l_Book_enlist => k_is); (case c_Book_enlist => k_is); (case k_Book_enlist => k_is); (case a_Book_dismiss => k_is); (case i_Book_dismiss => k_is); (case l_Book_dismiss => k_is); (case c_Book_dismiss => k_is); (case k_Book_dismiss => k_is); (case a_Book_undo => k_is); (case i_Book_undo => k_is); (case l_Book_undo => k_is); (case c_Book_undo => k_is); (case k_Book_undo => k_is); (case a_Book_redo => k_is); (case i_Book_redo => k_is); (case l_Book_redo => k_is); (case c_Book_redo => k_is); (case k_Book_redo => k_is); (case a_Book_hold => k_is); (case i_Book_hold => k_is); (case l_Book_hold => k_is); (case c_Book_hold => k_is); (case k_Book_hold => k_is); (case a_Book_return_to => k_is); (case i_Book_return_to => k_is); (case l_Book_return_to => k_is); (case c_Book_return_to => k_is); (case k_Book_return_to => k_is); (case a_Book_names => k_is); (case i_Book_names => k_is); (case l_Book_names => k_is); (case c_Book_names => k_is); (case k_Book_names => k_is); (case a_Book_crews => k_is); (case i_Book_crews => k_is); (case l_Book_crews => k_is); (case c_Book_crews => k_is); (case k_Book_crews => k_is); (case a_Book_round_of => k_is); (case i_Book_round_of => k_is); (case l_Book_round_of => k_is); (case c_Book_round_of => k_is); (case k_Book_round_of => k_is); (case a_Book_members => k_is); (case i_Book_members => k_is); (case l_Book_members => k_is); (case c_Book_members => k_is); (case k_Book_members => k_is); (case z_abs => k_is); (case z_all => k_is); (case z_any => k_is); (case z_bool => k_is); (case z_dict => k_is); (case z_int => k_is); (case z_isinstance => k_is); (case z_len => k_is); (case z_list => k_is); (case z_range => k_is); (case z_sorted => k_is); (case z_str => k_is); (case z_tuple => k_is); (case xaNoDeed => k_is); (case xxNoDeed => k_exc); (case xkNoDeed => k_is); (case xbNoDeed => k_is); (case xtNoDeed => k_is); (case xaTooFar => k_is); (case xxTooFar => k_exc); (case xkTooFar => k_is); (case xbTooFar => k_is); (case xtTooFar => k_is); (case xaTooMany => k_is); (case xxTooMany => k_exc); (case xkTooMany => k_is); (case xbTooMany => k_is); (case xtTooMany => k_is); (case xaBadCount => k_is); (case xxBadCount => k_exc); (case xkBadCount => k_is); (case xbBadCount => k_is); (case xtBadCount => k_is); (case xaBadName => k_is); (case xxBadName => k_exc); (case xkBadName => k_is); (case xbBadName => k_is); (case xtBadName => k_is); (case xaNoRound => k_is); (case xxNoRound => k_exc); (case xkNoRound => k_is); (case xbNoRound => k_is); (case xtNoRound => k_is); (case xaNoCrew => k_is); (case xxNoCrew => k_exc); (case xkNoCrew => k_is); (case xbNoCrew => k_is); (case xtNoCrew => k_is); (case xaTaken => k_is); (case xxTaken => k_exc); (case xkTaken => k_is); (case xbTaken => k_is); (case xtTaken => k_is); (case xaInUse => k_is); (case xxInUse => k_exc); (case xkInUse => k_is); (case xbInUse => k_is); (case xtInUse => k_is); (case xaNoMore => k_is); (case xxNoMore => k_exc); (case xkNoMore => k_is); (case xbNoMore => k_is); (case xtNoMore => k_is); (case xaNoState => k_is); (case xxNoState => k_exc); (case xkNoState => k_is); (case xbNoState => k_is); (case xtNoState => k_is); (case edBadName => k_is); (case edInUse => k_is); (case edNoCrew => k_is); (case edNoDeed => k_is); (case edNoMore => k_is); (case edNoRound => k_is); (case edNoState => k_is); (case edTaken => k_is); (case edTooFar => k_is); (case edTooMany => k_is); (case esNoDeed_BadName => k_is); (case esNoDeed_InUse => k_is); (case esNoDeed_NoCrew => k_is); (case esNoDeed_NoDeed => k_is); (case esNoDeed_NoMore => k_is); (case esNoDeed_NoRound => k_is); (case esNoDeed_NoState => k_is); (case esNoDeed_Taken => k_is); (case esNoDeed_TooFar => k_is); (case esNoDeed_TooMany => k_is); (case esTooFar_BadName => k_is); (case esTooFar_InUse => k_is); (case esTooFar_NoCrew => k_is); (case esTooFar_NoDeed => k_is); (case esTooFar_NoMore => k_is); (case esTooFar_NoRound => k_is); (case esTooFar_NoState => k_is); (case esTooFar_Taken => k_is); (case esTooFar_TooFar => k_is); (case esTooFar_TooMany => k_is); (case esTooMany_BadName => k_is); (case esTooMany_InUse => k_is); (case esTooMany_NoCrew => k_is); (case esTooMany_NoDeed => k_is); (case esTooMany_NoMore => k_is); (case esTooMany_NoRound => k_is); (case esTooMany_NoState => k_is); (case esTooMany_Taken => k_is); (case esTooMany_TooFar => k_is); (case esTooMany_TooMany => k_is); (case esBadCount_BadName => k_is); (case esBadCount_InUse => k_is); (case esBadCount_NoCrew => k_is); (case esBadCount_NoDeed => k_is); (case esBadCount_NoMore => k_is); (case esBadCount_NoRound => k_is); (case esBadCount_NoState => k_is); (case esBadCount_Taken => k_is); (case esBadCount_TooFar => k_is); (case esBadCount_TooMany => k_is); (case esBadName_BadName => k_is); (case esBadName_InUse => k_is); (case esBadName_NoCrew => k_is); (case esBadName_NoDeed => k_is); (case esBadName_NoMore => k_is); (case esBadName_NoRound => k_is); (case esBadName_NoState => k_is); (case esBadName_Taken => k_is); (case esBadName_TooFar => k_is); (case esBadName_TooMany => k_is); (case esNoRound_BadName => k_is); (case esNoRound_InUse => k_is); (case esNoRound_NoCrew => k_is); (case esNoRound_NoDeed => k_is); (case esNoRound_NoMore => k_is); (case esNoRound_NoRound => k_is); (case esNoRound_NoState => k_is); (case esNoRound_Taken => k_is); (case esNoRound_TooFar => k_is); (case esNoRound_TooMany => k_is); (case esNoCrew_BadName => k_is); (case esNoCrew_InUse => k_is); (case esNoCrew_NoCrew => k_is); (case esNoCrew_NoDeed => k_is); (case esNoCrew_NoMore => k_is); (case esNoCrew_NoRound => k_is); (case esNoCrew_NoState => k_is); (case esNoCrew_Taken => k_is); (case esNoCrew_TooFar => k_is); (case esNoCrew_TooMany => k_is); (case esTaken_BadName => k_is); (case esTaken_InUse => k_is); (case esTaken_NoCrew => k_is); (case esTaken_NoDeed => k_is); (case esTaken_NoMore => k_is); (case esTaken_NoRound => k_is); (case esTaken_NoState => k_is); (case esTaken_Taken => k_is); (case esTaken_TooFar => k_is); (case esTaken_TooMany => k_is); (case esInUse_BadName => k_is); (case esInUse_InUse => k_is); (case esInUse_NoCrew => k_is); (case esInUse_NoDeed => k_is); (case esInUse_NoMore => k_is); (case esInUse_NoRound => k_is); (case esInUse_NoState => k_is); (case esInUse_Taken => k_is); (case esInUse_TooFar => k_is); (case esInUse_TooMany => k_is); (case esNoMore_BadName => k_is); (case esNoMore_InUse => k_is); (case esNoMore_NoCrew => k_is); (case esNoMore_NoDeed => k_is); (case esNoMore_NoMore => k_is); (case esNoMore_NoRound => k_is); (case esNoMore_NoState => k_is); (case esNoMore_Taken => k_is); (case esNoMore_TooFar => k_is); (case esNoMore_TooMany => k_is); (case esNoState_BadName => k_is); (case esNoState_InUse => k_is); (case esNoState_NoCrew => k_is); (case esNoState_NoDeed => k_is); (case esNoState_NoMore => k_is); (case esNoState_NoRound => k_is); (case esNoState_NoState => k_is); (case esNoState_Taken => k_is); (case esNoState_TooFar => k_is); (case esNoState_TooMany => k_is); (case laA => k_is); (case lrA => exact ⟨_, rfl⟩); (case laF => k_is); (case lrF => exact ⟨_, rfl⟩); (case laM => k_is); (case lrM => exact ⟨_, rfl⟩); (case laE => k_is); (case lrE => exact ⟨_, rfl⟩); (case laL => k_is); (case lrL => exact ⟨_, rfl⟩); (case qa => k_is); (case qq => k_is); (case qz => decide +kernel); (case qv => exact .cons ⟨_, rfl⟩ (.cons ⟨_, rfl⟩ (.cons ⟨_, rfl⟩ (.cons ⟨_, rfl⟩ .nil))))
