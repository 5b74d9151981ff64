import PyProof.Rows.All
import Wide.All
import OpenK.AllK
import Wide.FinOn
import KE.KStateDown
import HandS.ForMost
import HandS.Exc
import HandS.Defaults
import HandS.Style
import HandS.Conv
import HandS.IsInst
import HandS.Strs
import HandS.SetFor
import HandS.Head0
import HandS.Head1
import HandS.Head2
import HandS.HeadEnd
import HandS.HeadHook1
import HandS.HeadHook2
import PySem.Challenge.RW_hiddensorters_k37_whole_heaps
/-! ## part HsMath -/
set_option Elab.async false
set_option linter.all false
set_option maxRecDepth 100000
set_option maxHeartbeats 4000000
namespace Hs
/-! ### places of a list -/
def nth (xs : List Nat) (i : Nat) : Nat := xs.getD i 0
def swp (xs : List Nat) (i j : Nat) : List Nat := (xs.set i (nth xs j)).set j (nth xs i)
theorem swp_length (xs : List Nat) (i j : Nat) : (swp xs i j).length = xs.length := by
  unfold swp; rw [List.length_set, List.length_set]
theorem nth_lt {xs : List Nat} {i : Nat} (h : i < xs.length) : xs[i]? = some (nth xs i) := by
  unfold nth
  rw [List.getD_eq_getElem?_getD, List.getElem?_eq_getElem h]
  rfl
theorem nth_of {xs : List Nat} {i x : Nat} (h : xs[i]? = some x) : nth xs i = x := by
  unfold nth
  rw [List.getD_eq_getElem?_getD, h]
  rfl
theorem nth_range {n i : Nat} (h : i < n) : nth (List.range n) i = i :=
  nth_of (by rw [List.getElem?_range h])
theorem nth_swp {xs : List Nat} {i j : Nat} (hi : i < xs.length) (hj : j < xs.length) (k : Nat) :
    nth (swp xs i j) k = if k = j then nth xs i else if k = i then nth xs j else nth xs k := by
  unfold swp
  rw [show ∀ l : List Nat, nth l k = (l[k]?).getD 0 from fun l => by unfold nth; rw [List.getD_eq_getElem?_getD]]
  rw [List.getElem?_set, List.getElem?_set, List.length_set]
  by_cases h1 : j = k
  · subst h1; simp [hj]
  · have h1' : ¬ k = j := fun e => h1 e.symm
    rw [if_neg h1, if_neg h1']
    by_cases h2 : i = k
    · subst h2; simp [hi]
    · have h2' : ¬ k = i := fun e => h2 e.symm
      rw [if_neg h2, if_neg h2']
      unfold nth
      rw [List.getD_eq_getElem?_getD]
theorem swp_perm {xs : List Nat} {i j : Nat} (hi : i < xs.length) (hj : j < xs.length) : (swp xs i j).Perm xs := by
  rw [List.perm_iff_count]
  intro a
  unfold swp
  have hj' : j < (xs.set i (nth xs j)).length := by rw [List.length_set]; exact hj
  rw [List.count_set hj', List.count_set hi]
  have ei : xs[i] = nth xs i := by
    have := nth_lt hi
    rw [List.getElem?_eq_getElem hi] at this
    exact Option.some.inj this
  have ej : xs[j] = nth xs j := by
    have := nth_lt hj
    rw [List.getElem?_eq_getElem hj] at this
    exact Option.some.inj this
  rw [List.getElem_set]
  have ci : (xs[i] == a) = true → 1 ≤ List.count a xs := fun h => by
    have e : xs[i] = a := eq_of_beq h
    exact List.count_pos_iff.mpr (by rw [← e]; exact List.getElem_mem hi)
  by_cases hij : i = j
  · subst hij
    rw [if_pos rfl]
    rw [ei] at ci ⊢
    by_cases h : (nth xs i == a) = true
    · have := ci h
      simp only [h, if_true]
      omega
    · have h' : (nth xs i == a) = false := by simpa using h
      simp only [h', Bool.false_eq_true, if_false]
      omega
  · rw [if_neg hij]
    rw [ei] at ci ⊢
    rw [ej]
    by_cases h : (nth xs i == a) = true
    · have := ci h
      by_cases h2 : (nth xs j == a) = true
      · simp only [h, h2, if_true]
        omega
      · have h2' : (nth xs j == a) = false := by simpa using h2
        simp only [h, h2', if_true, Bool.false_eq_true, if_false]
        omega
    · have h' : (nth xs i == a) = false := by simpa using h
      by_cases h2 : (nth xs j == a) = true
      · simp only [h', h2, if_true, Bool.false_eq_true, if_false]
        omega
      · have h2' : (nth xs j == a) = false := by simpa using h2
        simp only [h', h2', Bool.false_eq_true, if_false]
        omega

/-! ### the way with a heap: the things and the questions -/
abbrev Cs := List (Nat × Nat)
/-- the child to compare with -/
def kid (lt : Nat → Nat → Bool) (xs : List Nat) (r m : Nat) : Nat := if 2 * r + 2 < m ∧ lt (nth xs (2 * r + 1)) (nth xs (2 * r + 2)) = true then 2 * r + 2 else 2 * r + 1
def ask1 (xs : List Nat) (r m : Nat) : Cs := if 2 * r + 2 < m then [(nth xs (2 * r + 1), nth xs (2 * r + 2))] else []
def sinkF (lt : Nat → Nat → Bool) : Nat → List Nat → Nat → Nat → List Nat × Cs
  | 0, xs, _, _ => (xs, [])
  | k + 1, xs, r, m =>
    if 2 * r + 1 < m then
      if lt (nth xs r) (nth xs (kid lt xs r m)) = true then
        ((sinkF lt k (swp xs r (kid lt xs r m)) (kid lt xs r m) m).1,
          ask1 xs r m ++ (nth xs r, nth xs (kid lt xs r m)) :: (sinkF lt k (swp xs r (kid lt xs r m)) (kid lt xs r m) m).2)
      else (xs, ask1 xs r m ++ [(nth xs r, nth xs (kid lt xs r m))])
    else (xs, [])
def buildF (lt : Nat → Nat → Bool) (n : Nat) : Nat → List Nat → Cs → List Nat × Cs
  | 0, xs, cs => (xs, cs)
  | r + 1, xs, cs => buildF lt n r (sinkF lt n xs r n).1 (cs ++ (sinkF lt n xs r n).2)
def popsF (lt : Nat → Nat → Bool) : Nat → List Nat → Cs → List Nat × Cs
  | 0, xs, cs => (xs, cs)
  | m + 1, xs, cs => popsF lt m (sinkF lt (m + 1) (swp xs 0 (m + 1)) 0 (m + 1)).1 (cs ++ (sinkF lt (m + 1) (swp xs 0 (m + 1)) 0 (m + 1)).2)
def heapF (lt : Nat → Nat → Bool) (n : Nat) : List Nat × Cs :=
  popsF lt (n - 1) (buildF lt n (n / 2) (List.range n) []).1 (buildF lt n (n / 2) (List.range n) []).2
def ltf (f : Nat → Int) (x y : Nat) : Bool := decide (f x < f y)

/-! ### it sorts -/
def HeapOn (g : Nat → Int) (lo m : Nat) : Prop := ∀ i, lo ≤ i → (2 * i + 1 < m → g (2 * i + 1) ≤ g i) ∧ (2 * i + 2 < m → g (2 * i + 2) ≤ g i)
structure Sunk (f : Nat → Int) (lo m : Nat) (xs ys : List Nat) : Prop where
  len : ys.length = xs.length
  perm : ys.Perm xs
  out : ∀ i, m ≤ i → nth ys i = nth xs i
  ins : ∀ i, i < m → ∃ j, j < m ∧ nth ys i = nth xs j
  heap : HeapOn (fun i => f (nth ys i)) lo m
theorem kid_cases (lt : Nat → Nat → Bool) (xs : List Nat) (r m : Nat) :
    (kid lt xs r m = 2 * r + 2 ∧ 2 * r + 2 < m ∧ lt (nth xs (2 * r + 1)) (nth xs (2 * r + 2)) = true) ∨
      (kid lt xs r m = 2 * r + 1 ∧ (2 * r + 2 < m → lt (nth xs (2 * r + 1)) (nth xs (2 * r + 2)) = false)) := by
  unfold kid
  by_cases h : 2 * r + 2 < m ∧ lt (nth xs (2 * r + 1)) (nth xs (2 * r + 2)) = true
  · rw [if_pos h]; exact .inl ⟨rfl, h.1, h.2⟩
  · rw [if_neg h]
    refine .inr ⟨rfl, fun h2 => ?_⟩
    cases e : lt (nth xs (2 * r + 1)) (nth xs (2 * r + 2)) with
    | false => rfl
    | true => exact absurd ⟨h2, e⟩ h
theorem sink_ok (f : Nat → Int) : ∀ (k : Nat) (xs : List Nat) (r m lo : Nat), m ≤ xs.length → m ≤ r + k → lo ≤ r →
    (∀ i, lo ≤ i → i ≠ r → (2 * i + 1 < m → f (nth xs (2 * i + 1)) ≤ f (nth xs i)) ∧ (2 * i + 2 < m → f (nth xs (2 * i + 2)) ≤ f (nth xs i))) →
    (∀ p, lo ≤ p → (2 * p + 1 = r ∨ 2 * p + 2 = r) → (2 * r + 1 < m → f (nth xs (2 * r + 1)) ≤ f (nth xs p)) ∧ (2 * r + 2 < m → f (nth xs (2 * r + 2)) ≤ f (nth xs p))) →
    Sunk f lo m xs (sinkF (ltf f) k xs r m).1
  | 0, xs, r, m, lo, hm, hk, hlo, ha, hb => by
    refine ⟨rfl, List.Perm.refl _, fun _ _ => rfl, fun i hi => ⟨i, hi, rfl⟩, fun i hi => ?_⟩
    by_cases e : i = r
    · subst e
      exact ⟨fun h => by omega, fun h => by omega⟩
    · exact ha i hi e
  | k + 1, xs, r, m, lo, hm, hk, hlo, ha, hb => by
    unfold sinkF
    by_cases hc : 2 * r + 1 < m
    · rw [if_pos hc]
      have hkid := kid_cases (ltf f) xs r m
      generalize hcd : kid (ltf f) xs r m = c at hkid
      have hcr : r < c := by rcases hkid with h | h <;> omega
      have hcm : c < m := by rcases hkid with h | h <;> omega
      have hrl : r < xs.length := by omega
      have hcl : c < xs.length := by omega
      -- both children are at most the greater one
      have hmx : (2 * r + 1 < m → f (nth xs (2 * r + 1)) ≤ f (nth xs c)) ∧ (2 * r + 2 < m → f (nth xs (2 * r + 2)) ≤ f (nth xs c)) := by
        rcases hkid with ⟨e, h2, h3⟩ | ⟨e, h3⟩
        · have h3' : f (nth xs (2 * r + 1)) < f (nth xs (2 * r + 2)) := of_decide_eq_true h3
          rw [e]
          exact ⟨fun _ => by omega, fun _ => by omega⟩
        · rw [e]
          refine ⟨fun _ => by omega, fun h2 => ?_⟩
          have h3' : ¬ f (nth xs (2 * r + 1)) < f (nth xs (2 * r + 2)) := of_decide_eq_false (h3 h2)
          omega
      by_cases hl : ltf f (nth xs r) (nth xs c) = true
      · rw [if_pos hl]
        have hl' : f (nth xs r) < f (nth xs c) := of_decide_eq_true hl
        have ns := nth_swp hrl hcl
        have hcr' : ¬ r = c := by omega
        have gr : nth (swp xs r c) r = nth xs c := by rw [ns, if_neg hcr', if_pos rfl]
        have gc : nth (swp xs r c) c = nth xs r := by rw [ns, if_pos rfl]
        have gx : ∀ x, x ≠ r → x ≠ c → nth (swp xs r c) x = nth xs x := fun x h1 h2 => by rw [ns, if_neg h2, if_neg h1]
        have S := sink_ok f k (swp xs r c) c m lo (by rw [swp_length]; exact hm) (by omega) (by omega) (fun i hi hic => ?_) (fun p hp hpc => ?_)
        · refine ⟨S.len.trans (swp_length _ _ _), S.perm.trans (swp_perm hrl hcl), fun i hi => ?_, fun i hi => ?_, S.heap⟩
          · rw [S.out i hi, gx i (by omega) (by omega)]
          · obtain ⟨j, hj, e⟩ := S.ins i hi
            by_cases j1 : j = r
            · exact ⟨c, hcm, by rw [e, j1, gr]⟩
            · by_cases j2 : j = c
              · exact ⟨r, by omega, by rw [e, j2, gc]⟩
              · exact ⟨j, hj, by rw [e, gx j j1 j2]⟩
        · by_cases hir : i = r
          · subst hir
            rw [gr]
            have one : ∀ x, x < m → (x = 2 * i + 1 ∨ x = 2 * i + 2) → f (nth (swp xs i c) x) ≤ f (nth xs c) := fun x hx hxx => by
              by_cases hxc : x = c
              · rw [hxc, gc]; omega
              · rw [gx x (by omega) hxc]
                rcases hxx with e | e
                · rw [e]; exact hmx.1 (by omega)
                · rw [e]; exact hmx.2 (by omega)
            exact ⟨fun h => one _ h (.inl rfl), fun h => one _ h (.inr rfl)⟩
          · rw [gx i hir hic]
            have one : ∀ x, x < m → (x = 2 * i + 1 ∨ x = 2 * i + 2) → f (nth (swp xs r c) x) ≤ f (nth xs i) := fun x hx hxx => by
              by_cases hxr : x = r
              · rw [hxr, gr]
                have q := hb i hi (by rcases hxx with e | e <;> omega)
                rcases hkid with ⟨e, h2, _⟩ | ⟨e, _⟩
                · rw [e]; exact q.2 h2
                · rw [e]; exact q.1 hc
              · by_cases hxc : x = c
                · exact absurd hxc (by rcases hkid with ⟨e, _⟩ | ⟨e, _⟩ <;> omega)
                · rw [gx x hxr hxc]
                  have q := ha i hi hir
                  rcases hxx with e | e
                  · rw [e]; exact q.1 (by omega)
                  · rw [e]; exact q.2 (by omega)
            exact ⟨fun h => one _ h (.inl rfl), fun h => one _ h (.inr rfl)⟩
        · have hpr : p = r := by rcases hkid with ⟨e, _⟩ | ⟨e, _⟩ <;> omega
          subst hpr
          rw [gr]
          have q := ha c (by omega) (by omega)
          exact ⟨fun h => by rw [gx _ (by omega) (by omega)]; exact q.1 h, fun h => by rw [gx _ (by omega) (by omega)]; exact q.2 h⟩
      · rw [if_neg hl]
        have hl' : ¬ f (nth xs r) < f (nth xs c) := fun q => hl (decide_eq_true q)
        refine ⟨rfl, List.Perm.refl _, fun _ _ => rfl, fun i hi => ⟨i, hi, rfl⟩, fun i hi => ?_⟩
        by_cases e : i = r
        · subst e
          exact ⟨fun h => by have := hmx.1 h; show f (nth xs _) ≤ f (nth xs _); omega, fun h => by have := hmx.2 h; show f (nth xs _) ≤ f (nth xs _); omega⟩
        · exact ha i hi e
    · rw [if_neg hc]
      refine ⟨rfl, List.Perm.refl _, fun _ _ => rfl, fun i hi => ⟨i, hi, rfl⟩, fun i hi => ?_⟩
      by_cases e : i = r
      · subst e
        exact ⟨fun h => by omega, fun h => by omega⟩
      · exact ha i hi e
theorem heap_max {g : Nat → Int} {m : Nat} (h : HeapOn g 0 m) : ∀ (i : Nat), i < m → g i ≤ g 0 := by
  intro i
  induction i using Nat.strongRecOn with
  | _ i ih =>
    intro hi
    by_cases h0 : i = 0
    · rw [h0]; exact Int.le_refl _
    · have e : i = 2 * ((i - 1) / 2) + 1 ∨ i = 2 * ((i - 1) / 2) + 2 := by omega
      have q := h ((i - 1) / 2) (Nat.zero_le _)
      have r := ih ((i - 1) / 2) (by omega) (by omega)
      rcases e with e | e
      · have := q.1 (by omega)
        rw [← e] at this
        omega
      · have := q.2 (by omega)
        rw [← e] at this
        omega
theorem build_ok (f : Nat → Int) (n : Nat) : ∀ (r : Nat) (xs : List Nat) (cs : Cs), xs.length = n → HeapOn (fun i => f (nth xs i)) r n →
    (buildF (ltf f) n r xs cs).1.length = n ∧ (buildF (ltf f) n r xs cs).1.Perm xs ∧ HeapOn (fun i => f (nth (buildF (ltf f) n r xs cs).1 i)) 0 n
  | 0, xs, cs, hl, hh => ⟨hl, List.Perm.refl _, hh⟩
  | r + 1, xs, cs, hl, hh => by
    unfold buildF
    have S := sink_ok f n xs r n r (by omega) (by omega) (Nat.le_refl _) (fun i hi hir => hh i (by omega)) (fun p hp hpr => by omega)
    obtain ⟨h1, h2, h3⟩ := build_ok f n r _ (cs ++ (sinkF (ltf f) n xs r n).2) (S.len.trans hl) S.heap
    exact ⟨h1, h2.trans S.perm, h3⟩
theorem pops_ok (f : Nat → Int) (n : Nat) : ∀ (m : Nat) (xs : List Nat) (cs : Cs), xs.length = n → (m < n ∨ m = 0) → HeapOn (fun i => f (nth xs i)) 0 (m + 1) →
    (∀ i j, m < j → i ≤ j → j < n → f (nth xs i) ≤ f (nth xs j)) →
    (popsF (ltf f) m xs cs).1.length = n ∧ (popsF (ltf f) m xs cs).1.Perm xs ∧ ∀ i j, i ≤ j → j < n → f (nth (popsF (ltf f) m xs cs).1 i) ≤ f (nth (popsF (ltf f) m xs cs).1 j)
  | 0, xs, cs, hl, hm, hh, hs => ⟨hl, List.Perm.refl _, fun i j hij hj => by
      by_cases h0 : j = 0
      · have : i = 0 := by omega
        subst h0; subst this
        exact Int.le_refl _
      · exact hs i j (by omega) hij hj⟩
  | m + 1, xs, cs, hl, hm, hh, hs => by
    unfold popsF
    have hmn : m + 1 < n := by omega
    have h0l : 0 < xs.length := by omega
    have hml : m + 1 < xs.length := by omega
    have ns := nth_swp h0l hml
    have g0 : nth (swp xs 0 (m + 1)) 0 = nth xs (m + 1) := by rw [ns, if_neg (by omega), if_pos rfl]
    have gm : nth (swp xs 0 (m + 1)) (m + 1) = nth xs 0 := by rw [ns, if_pos rfl]
    have gx : ∀ x, x ≠ 0 → x ≠ m + 1 → nth (swp xs 0 (m + 1)) x = nth xs x := fun x h1 h2 => by rw [ns, if_neg h2, if_neg h1]
    have S := sink_ok f (m + 1) (swp xs 0 (m + 1)) 0 (m + 1) 0 (by rw [swp_length]; omega) (by omega) (Nat.le_refl _) (fun i hi hi0 => by
      have q := hh i (Nat.zero_le _)
      exact ⟨fun h => by rw [gx i hi0 (by omega), gx _ (by omega) (by omega)]; exact q.1 (by omega), fun h => by rw [gx i hi0 (by omega), gx _ (by omega) (by omega)]; exact q.2 (by omega)⟩) (fun p hp hpr => by omega)
    generalize (sinkF (ltf f) (m + 1) (swp xs 0 (m + 1)) 0 (m + 1)).1 = ys at S
    generalize (cs ++ (sinkF (ltf f) (m + 1) (swp xs 0 (m + 1)) 0 (m + 1)).2) = cs'
    have mx := heap_max hh
    -- where the things of the first places came from
    have from_ : ∀ i, i < m + 1 → ∃ j, j < m + 2 ∧ nth ys i = nth xs j := fun i hi => by
      obtain ⟨j, hj, e⟩ := S.ins i hi
      by_cases j0 : j = 0
      · exact ⟨m + 1, by omega, by rw [e, j0, g0]⟩
      · exact ⟨j, by omega, by rw [e, gx j j0 (by omega)]⟩
    have hi2 : ∀ i j, m < j → i ≤ j → j < n → f (nth ys i) ≤ f (nth ys j) := fun i j hj hij hjn => by
      rw [S.out j (by omega)]
      by_cases j1 : j = m + 1
      · rw [j1, gm]
        by_cases i1 : i = m + 1
        · rw [S.out i (by omega), i1, gm]; exact Int.le_refl _
        · obtain ⟨a, ha, e⟩ := from_ i (by omega)
          rw [e]
          exact mx a ha
      · rw [gx j (by omega) j1]
        by_cases i1 : i < m + 1
        · obtain ⟨a, ha, e⟩ := from_ i i1
          rw [e]
          exact hs a j (by omega) (by omega) hjn
        · rw [S.out i (by omega)]
          by_cases i2 : i = m + 1
          · rw [i2, gm]
            exact hs 0 j (by omega) (by omega) hjn
          · rw [gx i (by omega) i2]
            exact hs i j (by omega) hij hjn
    obtain ⟨h1, h2, h3⟩ := pops_ok f n m ys cs' (S.len.trans ((swp_length _ _ _).trans hl)) (by omega) S.heap hi2
    exact ⟨h1, h2.trans (S.perm.trans (swp_perm h0l hml)), h3⟩
/-- the order told: all things, rising -/
theorem heap_ok (f : Nat → Int) (n : Nat) : (heapF (ltf f) n).1.length = n ∧ (heapF (ltf f) n).1.Perm (List.range n) ∧
    ∀ i j, i ≤ j → j < n → f (nth (heapF (ltf f) n).1 i) ≤ f (nth (heapF (ltf f) n).1 j) := by
  unfold heapF
  obtain ⟨b1, b2, b3⟩ := build_ok f n (n / 2) (List.range n) [] List.length_range (fun i hi => ⟨fun h => by omega, fun h => by omega⟩)
  by_cases hn : n = 0
  · subst hn
    exact ⟨b1, b2, fun i j _ h => by omega⟩
  · obtain ⟨p1, p2, p3⟩ := pops_ok f n (n - 1) _ (buildF (ltf f) n (n / 2) (List.range n) []).2 b1 (by omega) (by rw [show n - 1 + 1 = n by omega]; exact b3) (fun i j h1 _ h3 => by omega)
    exact ⟨p1, p2.trans b2, p3⟩

/-! ### how many questions -/
def dep : Nat → Nat → Nat → Nat
  | 0, _, _ => 0
  | k + 1, r, m => if 2 * r + 1 < m then dep k (2 * r + 1) m + 1 else 0
theorem dep_mono : ∀ (k r r' m : Nat), r ≤ r' → dep k r' m ≤ dep k r m
  | 0, _, _, _, _ => Nat.le_refl _
  | k + 1, r, r', m, h => by
    unfold dep
    by_cases h1 : 2 * r' + 1 < m
    · rw [if_pos h1, if_pos (show 2 * r + 1 < m by omega)]
      exact Nat.succ_le_succ (dep_mono k _ _ m (by omega))
    · rw [if_neg h1]; exact Nat.zero_le _
theorem ask1_len (xs : List Nat) (r m : Nat) : (ask1 xs r m).length ≤ 1 := by
  unfold ask1
  split
  · exact Nat.le_refl _
  · exact Nat.zero_le _
theorem sink_len (lt : Nat → Nat → Bool) : ∀ (k : Nat) (xs : List Nat) (r m : Nat), (sinkF lt k xs r m).2.length ≤ 2 * dep k r m
  | 0, _, _, _ => Nat.zero_le _
  | k + 1, xs, r, m => by
    unfold sinkF dep
    have a1 := ask1_len xs r m
    by_cases hc : 2 * r + 1 < m
    · rw [if_pos hc, if_pos hc]
      have hkid := kid_cases lt xs r m
      by_cases hl : lt (nth xs r) (nth xs (kid lt xs r m)) = true
      · rw [if_pos hl]
        have ih := sink_len lt k (swp xs r (kid lt xs r m)) (kid lt xs r m) m
        have mo : dep k (kid lt xs r m) m ≤ dep k (2 * r + 1) m := dep_mono k _ _ m (by rcases hkid with ⟨e, _⟩ | ⟨e, _⟩ <;> omega)
        show (ask1 xs r m ++ _ :: _).length ≤ _
        rw [List.length_append, List.length_cons]
        omega
      · rw [if_neg hl]
        show (ask1 xs r m ++ [_]).length ≤ _
        rw [List.length_append, List.length_singleton]
        omega
    · rw [if_neg hc, if_neg hc]
      exact Nat.zero_le _
def bB (n : Nat) : Nat → Nat
  | 0 => 0
  | r + 1 => 2 * dep n r n + bB n r
def bP : Nat → Nat
  | 0 => 0
  | m + 1 => 2 * dep (m + 1) 0 (m + 1) + bP m
theorem build_len (lt : Nat → Nat → Bool) (n : Nat) : ∀ (r : Nat) (xs : List Nat) (cs : Cs), (buildF lt n r xs cs).2.length ≤ cs.length + bB n r
  | 0, _, cs => Nat.le_refl _
  | r + 1, xs, cs => by
    unfold buildF bB
    refine Nat.le_trans (build_len lt n r _ _) ?_
    have := sink_len lt n xs r n
    rw [List.length_append]
    omega
theorem pops_len (lt : Nat → Nat → Bool) : ∀ (m : Nat) (xs : List Nat) (cs : Cs), (popsF lt m xs cs).2.length ≤ cs.length + bP m
  | 0, _, cs => Nat.le_refl _
  | m + 1, xs, cs => by
    unfold popsF bP
    refine Nat.le_trans (pops_len lt m _ _) ?_
    have := sink_len lt (m + 1) (swp xs 0 (m + 1)) 0 (m + 1)
    rw [List.length_append]
    omega
theorem bnd_all : ∀ n, n < 26 → ∀ L, L < 6 → n < 2 ^ L → bB n (n / 2) + bP (n - 1) ≤ 2 * n * L := by decide +kernel
theorem heap_len (lt : Nat → Nat → Bool) {n L : Nat} (hn : n < 26) (hL : L < 6) (h : n < 2 ^ L) : (heapF lt n).2.length ≤ 2 * n * L := by
  unfold heapF
  refine Nat.le_trans (pops_len lt _ _ _) ?_
  have := build_len lt n (n / 2) (List.range n) []
  have := bnd_all n hn L hL h
  simp only [List.length_nil] at *
  omega

/-! ### a row of equal things -/
def stepN (r m : Nat) : Nat := (if 2 * r + 1 < m then 1 else 0) + (if 2 * r + 2 < m then 1 else 0)
theorem even_all : ∀ n, n < 31 → (heapF (fun _ _ => false) n).2.length = ((List.range (n / 2)).map fun r => stepN r n).sum + ((List.range (n - 1)).map fun m => stepN 0 (m + 1)).sum := by decide +kernel
theorem ltf_even (c : Int) : ltf (fun _ => c) = fun _ _ => false := by
  funext x y
  exact decide_eq_false (Int.lt_irrefl _)

/-! ### the first questions -/
theorem build_pre (lt : Nat → Nat → Bool) (n : Nat) : ∀ (r : Nat) (xs : List Nat) (cs : Cs), ∃ ds, (buildF lt n r xs cs).2 = cs ++ ds
  | 0, _, cs => ⟨[], (List.append_nil _).symm⟩
  | r + 1, xs, cs => by
    unfold buildF
    obtain ⟨ds, e⟩ := build_pre lt n r (sinkF lt n xs r n).1 (cs ++ (sinkF lt n xs r n).2)
    exact ⟨(sinkF lt n xs r n).2 ++ ds, by rw [e, List.append_assoc]⟩
theorem pops_pre (lt : Nat → Nat → Bool) : ∀ (m : Nat) (xs : List Nat) (cs : Cs), ∃ ds, (popsF lt m xs cs).2 = cs ++ ds
  | 0, _, cs => ⟨[], (List.append_nil _).symm⟩
  | m + 1, xs, cs => by
    unfold popsF
    obtain ⟨ds, e⟩ := pops_pre lt m (sinkF lt (m + 1) (swp xs 0 (m + 1)) 0 (m + 1)).1 (cs ++ (sinkF lt (m + 1) (swp xs 0 (m + 1)) 0 (m + 1)).2)
    exact ⟨_, by rw [e, List.append_assoc]⟩
theorem heap_first (lt : Nat → Nat → Bool) {n r : Nat} (hn : 2 ≤ n) (hr : r + 1 = n / 2) :
    (2 * r + 2 < n → ∃ ds, (heapF lt n).2 = (2 * r + 1, 2 * r + 2) :: (r, if lt (2 * r + 1) (2 * r + 2) = true then 2 * r + 2 else 2 * r + 1) :: ds) ∧
      (¬ 2 * r + 2 < n → ∃ ds, (heapF lt n).2 = (r, 2 * r + 1) :: ds) := by
  unfold heapF
  rw [← hr]
  have e1 : buildF lt n (r + 1) (List.range n) [] = buildF lt n r (sinkF lt n (List.range n) r n).1 ([] ++ (sinkF lt n (List.range n) r n).2) := rfl
  rw [e1]
  obtain ⟨d1, q1⟩ := build_pre lt n r (sinkF lt n (List.range n) r n).1 ([] ++ (sinkF lt n (List.range n) r n).2)
  obtain ⟨d2, q2⟩ := pops_pre lt (n - 1) (buildF lt n r (sinkF lt n (List.range n) r n).1 ([] ++ (sinkF lt n (List.range n) r n).2)).1 (buildF lt n r (sinkF lt n (List.range n) r n).1 ([] ++ (sinkF lt n (List.range n) r n).2)).2
  rw [q2, q1, List.nil_append]
  obtain ⟨k, rfl⟩ : ∃ k, n = k + 1 := ⟨n - 1, by omega⟩
  have hc : 2 * r + 1 < k + 1 := by omega
  have n0 : nth (List.range (k + 1)) r = r := nth_range (by omega)
  have n1 : nth (List.range (k + 1)) (2 * r + 1) = 2 * r + 1 := nth_range hc
  have sf : ∃ ds, (sinkF lt (k + 1) (List.range (k + 1)) r (k + 1)).2 = ask1 (List.range (k + 1)) r (k + 1) ++ (r, kid lt (List.range (k + 1)) r (k + 1)) :: ds := by
    unfold sinkF
    rw [if_pos hc]
    have nk : nth (List.range (k + 1)) (kid lt (List.range (k + 1)) r (k + 1)) = kid lt (List.range (k + 1)) r (k + 1) := nth_range (by
      rcases kid_cases lt (List.range (k + 1)) r (k + 1) with ⟨e, h, _⟩ | ⟨e, _⟩
      · rw [e]; exact h
      · rw [e]; exact hc)
    rw [n0, nk]
    split
    · exact ⟨_, rfl⟩
    · exact ⟨[], rfl⟩
  obtain ⟨d3, q3⟩ := sf
  rw [q3]
  refine ⟨fun h => ?_, fun h => ?_⟩
  · have n2 : nth (List.range (k + 1)) (2 * r + 2) = 2 * r + 2 := nth_range h
    refine ⟨d3 ++ d1 ++ d2, ?_⟩
    unfold ask1 kid
    rw [if_pos h, n1, n2]
    by_cases q : lt (2 * r + 1) (2 * r + 2) = true
    · rw [if_pos ⟨h, q⟩, if_pos q]; simp
    · rw [if_neg (fun z => q z.2), if_neg q]; simp
  · refine ⟨d3 ++ d1 ++ d2, ?_⟩
    unfold ask1 kid
    rw [if_neg h, if_neg (fun z => h z.1)]
    simp
theorem heap_small (lt : Nat → Nat → Bool) {n : Nat} (h : n < 2) : heapF lt n = (List.range n, []) := by
  rcases (by omega : n = 0 ∨ n = 1) with e | e <;> (subst e; rfl)
end Hs
/-! ## part HsTxt -/
set_option Elab.async false
set_option linter.all false
set_option maxRecDepth 100000
set_option maxHeartbeats 4000000
namespace Hs
open PySem PySem.Spec PyProof.Rows L2
/-! ### the text by places -/
def top (i : Nat) : Stmt := PySem.Challenge.pw_hiddensorters_k37_whole_heaps.main.body.getD i (.Pass ⟨0, 0, 0, 0⟩)
abbrev s_exchange : Stmt := top 23
abbrev s_sink : Stmt := top 25
abbrev s_heap : Stmt := top 26
abbrev s_is_int : Stmt := top 35
abbrev s_check_number : Stmt := top 36
abbrev s_is_row : Stmt := top 39
abbrev s_check_row : Stmt := top 40
abbrev s_plain_of : Stmt := top 41
abbrev s_all_plain : Stmt := top 42
abbrev s_is_word : Stmt := top 47
abbrev s_is_plain : Stmt := top 48
abbrev s_is_way : Stmt := top 49
abbrev s_check_way : Stmt := top 50
abbrev s_ordered : Stmt := top 52
abbrev s_played_by : Stmt := top 53
abbrev s_played : Stmt := top 54
abbrev s_run : Stmt := top 55
abbrev s_told_order : Stmt := top 56
abbrev s_sorted_row : Stmt := top 57
abbrev s_count : Stmt := top 58
abbrev s_keeps_of : Stmt := top 60
abbrev s_broken_rows : Stmt := top 61
abbrev s_is_keeping : Stmt := top 62
abbrev s_law_start : Stmt := top 64
abbrev s_law_draw : Stmt := top 65
abbrev s_law_pick : Stmt := top 66
abbrev s_law_row : Stmt := top 67
abbrev s_law_step : Stmt := top 68
abbrev s_law : Stmt := top 69
abbrev m_Steps_init : Stmt := inClass (top 1) 0
abbrev m_Steps_tells : Stmt := inClass (top 1) 1
abbrev m_Steps_add : Stmt := inClass (top 1) 2
abbrev m_Asker_init : Stmt := inClass (top 3) 0
abbrev m_Asker_less : Stmt := inClass (top 3) 1

/-! ### what stands behind the top -/
abbrev FnP (K : PySem.W.Frag) (x qual : Str) (st : Stmt) (f : Addr) (fd : FuncData) : Prop := FunD K x qual (defArgs st) (defBody st) (defScope st) [] [] f fd
structure HasDef (K : PySem.W.Frag) (mg : Str → Option Value) (x : Str) (st : Stmt) (ps : List Str) : Prop where
  ex : ∃ f fd, FnP K x x st f fd ∧ mg x = some (.ref f) ∧ Binds K fd ps []
structure HasMeth (K : PySem.W.Frag) (C : Addr) (m qual : Str) (st : Stmt) (ps : List Str) : Prop where
  ex : ∃ f fd, FnP K m qual st f fd ∧ Meth K C m f ∧ Binds K fd ps []
structure HasInit (K : PySem.W.Frag) (mg : Str → Option Value) (x : Str) (C : Addr) (qual : Str) (st : Stmt) (ps : List Str) : Prop where
  ex : ∃ f fd, FnP K "__init__" qual st f fd ∧ Mk K C f ∧ mg x = some (.ref C) ∧ Binds K fd ps []
structure Txt (K : PySem.W.Frag) (mg : Str → Option Value) (CS CA : Addr) : Prop where
  mgS : mg "Steps" = some (.ref CS)
  mgA : mg "Asker" = some (.ref CA)
  clS : Cls K CS
  clA : Cls K CA
  nS_size : NoAttr K CS "size"
  nS_rows : NoAttr K CS "rows"
  nA_row : NoAttr K CA "row"
  nA_log : NoAttr K CA "log"
  nA_steps : NoAttr K CA "steps"
  most : ∃ t, mg "MOST_THINGS" = some (.int 30 t)
  f_zip : mg "zip" = none
  f_len : mg "len" = none
  f_list : mg "list" = none
  f_range : mg "range" = none
  f_isinstance : mg "isinstance" = none
  f_all : mg "all" = none
  f_sorted : mg "sorted" = none
  f_set : mg "set" = none
  f_max : mg "max" = none
  f_sum : mg "sum" = none
  f_int : mg "int" = none
  f_bool : mg "bool" = none
  f_tuple : mg "tuple" = none
  f_str : mg "str" = none
  d_exchange : HasDef K mg "exchange" s_exchange ["found", "one", "other"]
  d_sink : HasDef K mg "sink" s_sink ["asker", "found", "root", "many"]
  d_heap : HasDef K mg "heap" s_heap ["asker", "things"]
  d_is_int : HasDef K mg "is_int" s_is_int ["value", "low", "high"]
  d_check_number : HasDef K mg "check_number" s_check_number ["value", "low", "high"]
  d_is_row : HasDef K mg "is_row" s_is_row ["value"]
  d_check_row : HasDef K mg "check_row" s_check_row ["value"]
  d_plain_of : HasDef K mg "plain_of" s_plain_of ["row"]
  d_all_plain : HasDef K mg "all_plain" s_all_plain ["size"]
  d_is_word : HasDef K mg "is_word" s_is_word ["value", "words"]
  d_is_plain : HasDef K mg "is_plain" s_is_plain ["value"]
  d_is_way : HasDef K mg "is_way" s_is_way ["value"]
  d_check_way : HasDef K mg "check_way" s_check_way ["value"]
  d_ordered : HasDef K mg "ordered" s_ordered ["asker", "things", "way"]
  d_played_by : HasDef K mg "played_by" s_played_by ["asker", "way", "size"]
  d_played : HasDef K mg "played" s_played ["way", "row"]
  d_run : HasDef K mg "run" s_run ["way", "row"]
  d_told_order : HasDef K mg "told_order" s_told_order ["way", "row"]
  d_sorted_row : HasDef K mg "sorted_row" s_sorted_row ["way", "row"]
  d_count : HasDef K mg "count" s_count ["way", "row"]
  d_keeps_of : HasDef K mg "keeps_of" s_keeps_of ["way", "row"]
  d_broken_rows : HasDef K mg "broken_rows" s_broken_rows ["way", "size"]
  d_is_keeping : HasDef K mg "is_keeping" s_is_keeping ["way", "size"]
  d_law_start : HasDef K mg "_law_start" s_law_start ["_law_script"]
  d_law_draw : HasDef K mg "_law_draw" s_law_draw ["_law_draws", "_law_limit"]
  d_law_pick : HasDef K mg "_law_pick" s_law_pick ["_law_draws", "_law_choices"]
  d_law_row : HasDef K mg "_law_row" s_law_row ["_law_draws", "_law_most"]
  d_law_step : HasDef K mg "_law_step" s_law_step ["_law_root", "_law_many"]
  i_Steps : HasInit K mg "Steps" CS "Steps.__init__" m_Steps_init ["self", "size"]
  m_Steps_tells : HasMeth K CS "tells" "Steps.tells" m_Steps_tells ["self", "one", "other"]
  m_Steps_add : HasMeth K CS "add" "Steps.add" m_Steps_add ["self", "one", "other", "answer"]
  i_Asker : HasInit K mg "Asker" CA "Asker.__init__" m_Asker_init ["self", "row", "sparing"]
  m_Asker_less : HasMeth K CA "less" "Asker.less" m_Asker_less ["self", "one", "other"]
end Hs
/-! ## part HsBase -/
set_option Elab.async false
set_option linter.all false
set_option maxRecDepth 100000
set_option maxHeartbeats 4000000
namespace Hs
open PySem PySem.Spec PyProof.Rows L2
/-! ### a def that keeps its promise, with what a caller needs -/
structure Cal (P : Program) (w : World) (K : PySem.W.Frag) (mg : Str → Option Value) (base : Heap) (k : Nat) (x : Str) (ps : List Str) (sp : Sp) : Prop where
  ex : ∃ f fd, FnOk P w K mg base CX0 k f fd ps sp ∧ mg x = some (.ref f) ∧ PySem.W.keepIn K (.ref f) = true ∧ Binds K fd ps []
structure CalM (P : Program) (w : World) (K : PySem.W.Frag) (mg : Str → Option Value) (base : Heap) (k : Nat) (C : Addr) (m : Str) (ps : List Str) (sp : Sp) : Prop where
  ex : ∃ f fd, FnOk P w K mg base CX0 k f fd ps sp ∧ Meth K C m f ∧ Binds K fd ps []
structure CalI (P : Program) (w : World) (K : PySem.W.Frag) (mg : Str → Option Value) (base : Heap) (k : Nat) (x : Str) (C : Addr) (ps : List Str) (sp : Sp) : Prop where
  ex : ∃ f fd, FnOk P w K mg base CX0 k f fd ps sp ∧ Mk K C f ∧ mg x = some (.ref C) ∧ Binds K fd ps []
section
variable {P : Program} {w : World} {K : PySem.W.Frag} {mg : Str → Option Value} {base : Heap}
theorem HasDef.ok {x : Str} {st : Stmt} {N ps : List Str} {k : Nat} {sp : Sp} (D : HasDef K mg x st ps) (S : FnScope N ps (defScope st)) (len : ∀ vs H Q E, sp vs H Q E → vs.length = ps.length)
    (hbody : ∀ (f : Addr) (cdv : Value) (A : Around) (outer : List Env) (s : Shared) (H : Hp) (vs : List V) (Q : VK) (E : XK), Room k (A.deeper (envOfC x (defScope st) s.heap.objs.size f cdv)) → sp vs H Q E →
      ∃ t, PSs (cxOf CX0 P w K mg base N x (defScope st) f cdv A outer s H E).nox (defBody st) t ∧ t { nx := fun _ H' => Q .non H', rt := Q } (start N vs) H) : Cal P w K mg base (k + 1) x ps sp := by
  obtain ⟨f, fd, F, g, b⟩ := D.ex
  refine ⟨f, fd, F.ok S len (fun cdv A outer s H vs Q E hr h => ?_), g, F.kp, b⟩
  obtain ⟨t, h1, h2⟩ := hbody f cdv A outer s H vs Q E hr h
  exact ⟨t, PSs.nox h1, h2⟩
theorem HasMeth.ok {C : Addr} {m qual : Str} {st : Stmt} {N ps : List Str} {k : Nat} {sp : Sp} (D : HasMeth K C m qual st ps) (S : FnScope N ps (defScope st)) (len : ∀ vs H Q E, sp vs H Q E → vs.length = ps.length)
    (hbody : ∀ (f : Addr) (cdv : Value) (A : Around) (outer : List Env) (s : Shared) (H : Hp) (vs : List V) (Q : VK) (E : XK), Room k (A.deeper (envOfC qual (defScope st) s.heap.objs.size f cdv)) → sp vs H Q E →
      ∃ t, PSs (cxOf CX0 P w K mg base N qual (defScope st) f cdv A outer s H E).nox (defBody st) t ∧ t { nx := fun _ H' => Q .non H', rt := Q } (start N vs) H) : CalM P w K mg base (k + 1) C m ps sp := by
  obtain ⟨f, fd, F, g, b⟩ := D.ex
  refine ⟨f, fd, F.ok S len (fun cdv A outer s H vs Q E hr h => ?_), g, b⟩
  obtain ⟨t, h1, h2⟩ := hbody f cdv A outer s H vs Q E hr h
  exact ⟨t, PSs.nox h1, h2⟩
theorem HasInit.ok {x : Str} {C : Addr} {qual : Str} {st : Stmt} {N ps : List Str} {k : Nat} {sp : Sp} (D : HasInit K mg x C qual st ps) (S : FnScope N ps (defScope st)) (len : ∀ vs H Q E, sp vs H Q E → vs.length = ps.length)
    (hbody : ∀ (f : Addr) (cdv : Value) (A : Around) (outer : List Env) (s : Shared) (H : Hp) (vs : List V) (Q : VK) (E : XK), Room k (A.deeper (envOfC qual (defScope st) s.heap.objs.size f cdv)) → sp vs H Q E →
      ∃ t, PSs (cxOf CX0 P w K mg base N qual (defScope st) f cdv A outer s H E).nox (defBody st) t ∧ t { nx := fun _ H' => Q .non H', rt := Q } (start N vs) H) : CalI P w K mg base (k + 1) x C ps sp := by
  obtain ⟨f, fd, F, g, m, b⟩ := D.ex
  refine ⟨f, fd, F.ok S len (fun cdv A outer s H vs Q E hr h => ?_), g, m, b⟩
  obtain ⟨t, h1, h2⟩ := hbody f cdv A outer s H vs Q E hr h
  exact ⟨t, PSs.nox h1, h2⟩
theorem Cal.mono {j k : Nat} {x : Str} {ps : List Str} {sp : Sp} (G : Cal P w K mg base j x ps sp) (h : j ≤ k) : Cal P w K mg base k x ps sp := by
  obtain ⟨f, fd, F, g, kp, b⟩ := G.ex
  exact ⟨f, fd, F.mono h, g, kp, b⟩
theorem Cal.imp {k : Nat} {x : Str} {ps : List Str} {sp sp' : Sp} (G : Cal P w K mg base k x ps sp) (h : ∀ vs H Q E, sp' vs H Q E → sp vs H Q E) : Cal P w K mg base k x ps sp' := by
  obtain ⟨f, fd, F, g, kp, b⟩ := G.ex
  exact ⟨f, fd, F.imp h, g, kp, b⟩
end
section
variable {X : Cx} {k : Nat} {C : Addr} {ps : List Str} {sp : Sp} {x m : Str} {p pos apos : Pos} {e o : Expr} {es : List Expr} {ta : TE} {t : TA}
/-- f(e, ..) -/
theorem pe_cal (G : Cal X.prog X.w X.K X.mg X.base k x ps sp) (hr : Room k X.A) (hg : Gl X x) (ha : PA X (e :: es) t) (hdb : (x == ("__debug__" : Str)) = false := by decide)
    (he : starEach (e :: es) X.env = (false, eval e X.env) :: starEach es X.env := by rfl) (hpl : (backTo pos (starEach es X.env)).any (·.1) = false := by rfl) : PE X (.Call (.Name x p) (e :: es) [] pos) (tCall sp [] E0 t) := by
  obtain ⟨f, fd, F, g, kp, b⟩ := G.ex
  exact pe_call F hr hg g kp b .nil pass0 ha hdb he hpl
/-- o.m(e, ..) -/
theorem pe_calM {pl : Sem Bool} (ho : PE X o ta) (c : Cls X.K C) (G : CalM X.prog X.w X.K X.mg X.base k C m ps sp) (hr : Room k X.A) (ha : PA X (e :: es) t)
    (hst : starEach (e :: es) X.env = (false, eval e X.env) :: starEach es X.env := by rfl) (hpl : (backTo pos (starEach es X.env)).any (·.1) = false := by rfl)
    (ht : eval (.Call (.Attribute o m apos) (e :: es) [] pos) X.env = (do
      let ov ← eval o X.env
      standAt apos.atName
      let (f, first) ← holding [ov] (getMethod ov m pl)
      callWith pos f first (backTo pos (starEach (e :: es) X.env)) (backToKw pos (keywordEach [] X.env))) := by rfl) : PE X (.Call (.Attribute o m apos) (e :: es) [] pos) (tMeth C m sp [] E0 ta t) := by
  obtain ⟨f, fd, F, g, b⟩ := G.ex
  exact pe_meth ho c g F hr b .nil pass0 ha hst hpl ht
/-- C(e, ..) -/
theorem pe_calI (G : CalI X.prog X.w X.K X.mg X.base k x C ps sp) (hr : Room (k + 1) X.A) (hg : Gl X x) (ha : PA X (e :: es) t) (hdb : (x == ("__debug__" : Str)) = false := by decide)
    (he : starEach (e :: es) X.env = (false, eval e X.env) :: starEach es X.env := by rfl) (hpl : (backTo pos (starEach es X.env)).any (·.1) = false := by rfl) : PE X (.Call (.Name x p) (e :: es) [] pos) (tMake C sp [] E0 t) := by
  obtain ⟨f, fd, F, M, g, b⟩ := G.ex
  exact pe_make M F hr hg g b .nil pass0 ha hdb he hpl
end

/-! ### lists of things, of ints -/
/-- things, as values -/
def vN (xs : List Nat) : List V := xs.map fun x : Nat => V.int (x : Int)
theorem vN_length (xs : List Nat) : (vN xs).length = xs.length := by unfold vN; rw [List.length_map]
theorem vN_at {xs : List Nat} {i : Nat} (h : i < xs.length) : (vN xs)[i]? = some (V.int (nth xs i : Nat)) := by
  unfold vN
  rw [List.getElem?_map, nth_lt h]
  rfl
theorem vN_set (xs : List Nat) (i x : Nat) : (vN xs).set i (V.int (x : Int)) = vN (xs.set i x) := by
  unfold vN
  rw [List.map_set]
theorem vN_at_int {xs : List Nat} {i : Nat} {z : Int} (e : z = (i : Int)) (h : i < xs.length) : atI (vN xs) z = some (V.int (nth xs i : Nat)) := at_of e (vN_at h)
theorem ixN_nat {n i : Nat} {z : Int} (e : z = (i : Int)) (h : i < n) : ixN n z = some i := by
  unfold ixN
  subst e
  rw [if_pos (by omega), if_pos (by omega)]
  simp
/-- Same, but for one object that may have changed -/
theorem upd_self {H : Hp} {a : Addr} {o : HO} (h : H a = some o) : upd H a o = H := by
  funext b
  unfold upd
  split
  · rename_i e
    rw [e, h]
  · rfl
theorem Same.new {H : Hp} {p : Addr} {o : HO} (h : H p = none) : Same H (upd H p o) := fun b u e => by
  rw [upd_ne (ne_of_none e h)]
  exact e
/-- what was a list in a heap and stands still, and the rest -/
theorem Same.lst {H H' : Hp} (s : Same H H') {a : Addr} {o : HO} (h : H a = some o) : H' a = some o := s a o h
end Hs
/-! ## part HsW1 -/
set_option Elab.async false
set_option linter.all false
set_option maxRecDepth 100000
set_option maxHeartbeats 4000000
namespace Hs
open PySem PySem.Spec PyProof.Rows L2
/-! ### exchange -/
def spExchange : Sp := fun vs H Q _ => ∃ (a : Addr) (xs : List Nat) (i j : Nat), vs = [.ref a, .int i, .int j] ∧ H a = some (.lst (vN xs)) ∧ i < xs.length ∧ j < xs.length ∧
  ∀ H', H' a = some (.lst (vN (swp xs i j))) → (∀ b o, H b = some o → b ≠ a → H' b = some o) → Q .non H'
section
variable {P : Program} {w : World} {K : PySem.W.Frag} {mg : Str → Option Value} {base : Heap}
theorem sc_exchange : FnScope ["found", "one", "other"] ["found", "one", "other"] (defScope s_exchange) := ⟨rfl, rfl, rfl, by decide +kernel, rfl, by decide +kernel, by decide +kernel⟩
theorem ok_exchange (D : HasDef K mg "exchange" s_exchange ["found", "one", "other"]) : Cal P w K mg base 1 "exchange" ["found", "one", "other"] spExchange := by
  refine D.ok sc_exchange (fun vs H Q E h => ?_) (fun f cdv A outer s H vs Q E hr h => ?_)
  · obtain ⟨a, xs, i, j, rfl, _⟩ := h
    rfl
  · obtain ⟨a, xs, i, j, rfl, ha, hi, hj, k⟩ := h
    refine ⟨_, pss_one (ps_asg (pe_tup (pa_cons (pe_ix ix_list (pv 0) (pv 2) (fun _ _ => rfl)) (pa_cons (pe_ix ix_list (pv 0) (pv 1) (fun _ _ => rfl)) pa_nil)))
      (pg_tup rfl (pgs_cons (pg_sub (pv 0) (pv 1) set_list) (pgs_cons (pg_sub (pv 0) (pv 2) set_list) pgs_nil)))), ?_⟩
    refine ⟨_, rfl, _, rfl, a, _, _, _, rfl, rfl, SqL.of ha, vN_at_int rfl hj, _, rfl, _, rfl, a, _, _, _, rfl, rfl, SqL.of ha, vN_at_int rfl hi, (by show 2 ≤ sizeLine; decide), fun p hp => ?_⟩
    have npa : a ≠ p := ne_of_none ha hp
    refine ⟨p, _, rfl, SqT.of upd_same, rfl, _, _, rfl, ?_⟩
    refine ⟨_, rfl, _, rfl, a, vN xs, _, i, rfl, rfl, (by rw [upd_ne npa]; exact ha), ixN_nat rfl (by rw [vN_length]; exact hi), ?_⟩
    refine ⟨_, _, rfl, _, rfl, _, rfl, a, _, _, j, rfl, rfl, upd_same, ixN_nat rfl (by rw [List.length_set, vN_length]; exact hj), ?_⟩
    refine ⟨rfl, ?_⟩
    refine k _ ?_ fun b o e n => ?_
    · rw [upd_same, vN_set, vN_set]
      rfl
    · rw [upd_ne n, upd_ne n, upd_ne (ne_of_none e hp)]
      exact e
end
end Hs
/-! ## part HsW2 -/
set_option Elab.async false
set_option linter.all false
set_option maxRecDepth 100000
set_option maxHeartbeats 4000000
namespace Hs
open PySem PySem.Spec PyProof.Rows L2
/-! ### a list by a function of the places -/
def ro (n : Nat) (g : Nat → V) : List V := (List.range n).map g
theorem ro_length (n : Nat) (g : Nat → V) : (ro n g).length = n := by unfold ro; rw [List.length_map, List.length_range]
theorem ro_at {n : Nat} {g : Nat → V} {i : Nat} (h : i < n) : (ro n g)[i]? = some (g i) := by
  unfold ro
  rw [List.getElem?_map, List.getElem?_range h]
  rfl
theorem ro_atI {n : Nat} {g : Nat → V} {i : Nat} (h : i < n) : atI (ro n g) ((i : Nat) : Int) = some (g i) := at_of rfl (ro_at h)
theorem ro_ext {n : Nat} {xs : List V} {g : Nat → V} (hl : xs.length = n) (h : ∀ i, i < n → xs[i]? = some (g i)) : xs = ro n g := by
  refine List.ext_getElem? fun i => ?_
  by_cases hi : i < n
  · rw [h i hi, ro_at hi]
  · rw [List.getElem?_eq_none (by omega), List.getElem?_eq_none (by rw [ro_length]; omega)]
theorem ro_set {n : Nat} {g : Nat → V} (i : Nat) (v : V) : (ro n g).set i v = ro n (fun j => if j = i then v else g j) := by
  refine ro_ext (by rw [List.length_set, ro_length]) fun j hj => ?_
  rw [List.getElem?_set, ro_length]
  by_cases e : i = j
  · subst e
    rw [if_pos rfl, if_pos hj]
    simp
  · rw [if_neg e, ro_at hj, if_neg (fun q => e q.symm)]
theorem ro_congr {n : Nat} {g g' : Nat → V} (h : ∀ i, i < n → g i = g' i) : ro n g = ro n g' := by
  refine ro_ext (ro_length n g) fun i hi => ?_
  rw [ro_at hi, h i hi]

/-! ### an asker, as its less sees it -/
structure AP where
  sp : Bool
  n : Nat
  f : Nat → Int
  p : Addr
  r : Addr
  l : Addr
  fp : List Addr
/-- a matrix that says nothing false of the row -/
def Sound (n : Nat) (f : Nat → Int) (M : Nat → Nat → Int) : Prop := ∀ i j, i < n → j < n → M i j ≤ 1 ∧ (0 ≤ M i j → f i ≤ f j) ∧ (M i j = 1 → f i < f j)
def fS (n : Nat) (rr : Addr) : List (Str × V) := putF "rows" (.ref rr) (putF "size" (.int (n : Int)) [])
/-- the chains of steps at s -/
structure StepsAt (CS : Addr) (n : Nat) (f : Nat → Int) (fp : List Addr) (H : Hp) (s : Addr) : Prop where
  ex : ∃ (dx rr : Addr) (ads : Nat → Addr) (M : Nat → Nat → Int), H s = some (.ins CS dx (fS n rr)) ∧ H rr = some (.lst (ro n fun i => .ref (ads i))) ∧ rr ∈ fp ∧ (∀ i, i < n → ads i ∈ fp ∧ ads i ≠ rr) ∧
    (∀ i j, i < n → j < n → ads i = ads j → i = j) ∧ (∀ i, i < n → H (ads i) = some (.lst (ro n fun j => .int (M i j)))) ∧ Sound n f M
def fA (r l : Addr) (sv : V) : List (Str × V) := putF "steps" sv (putF "log" (.ref l) (putF "row" (.ref r) []))
structure Ask (CS CA : Addr) (A : AP) (H : Hp) (cs : Cs) : Prop where
  fpl : ∀ b ∈ A.fp, ∃ xs, H b = some (.lst xs)
  rin : A.r ∈ A.fp
  lin : A.l ∈ A.fp
  rl : A.r ≠ A.l
  row : H A.r = some (.lst (ro A.n fun i => .int (A.f i)))
  sz : A.n ≤ 30
  ins : ∃ (dx : Addr) (sv : V), H A.p = some (.ins CA dx (fA A.r A.l sv)) ∧ (A.sp = false → sv = .non) ∧ (A.sp = true → ∃ s, sv = .ref s ∧ StepsAt CS A.n A.f (A.fp.filter fun b => decide (b ≠ A.r ∧ b ≠ A.l)) H s)
  log : ∃ ts : List (Addr × (Nat × Nat)), H A.l = some (.lst (ts.map fun t => V.ref t.1)) ∧ (∀ t ∈ ts, H t.1 = some (.tup [.int (t.2.1 : Int), .int (t.2.2 : Int), .bl (ltf A.f t.2.1 t.2.2)])) ∧ (A.sp = false → ts.map (·.2) = cs) ∧ ts.length ≤ cs.length
/-- what an asker leans on is kept: its lists, and whatever is no list -/
def Kp (fp : List Addr) (H H' : Hp) : Prop := ∀ b o, H b = some o → ((∀ xs, o ≠ .lst xs) ∨ b ∈ fp) → H' b = some o
theorem Kp.of_upd {fp : List Addr} {H : Hp} {a : Addr} {xs ys : List V} (h : H a = some (.lst xs)) (n : a ∉ fp) : Kp fp H (upd H a (.lst ys)) := fun b o e q => by
  by_cases hb : b = a
  · subst hb
    rcases q with q | q
    · rw [h] at e
      exact absurd (Option.some.inj e).symm (q xs)
    · exact absurd q n
  · rw [upd_ne hb]
    exact e
theorem Kp.of_new {fp : List Addr} {H : Hp} {a : Addr} {o : HO} (h : H a = none) : Kp fp H (upd H a o) := fun b u e _ => by
  rw [upd_ne (ne_of_none e h)]
  exact e
theorem Kp.same {fp : List Addr} {H H' : Hp} (h : Same H H') : Kp fp H H' := fun b o e _ => h b o e
theorem Kp.trans {fp : List Addr} {H H1 H2 : Hp} (a : Kp fp H H1) (b : Kp fp H1 H2) : Kp fp H H2 := fun c o e q => b c o (a c o e q) q
theorem Kp.mono {fp fp' : List Addr} {H H' : Hp} (h : Kp fp' H H') (s : ∀ b ∈ fp, b ∈ fp') : Kp fp H H' := fun b o e q => h b o e (q.imp id (s b))
theorem not_lst_ins {C dx : Addr} {fs : List (Str × V)} : ∀ xs, HO.ins C dx fs ≠ .lst xs := fun _ q => nomatch q
theorem not_lst_tup {ys : List V} : ∀ xs, HO.tup ys ≠ .lst xs := fun _ q => nomatch q
theorem StepsAt.kp {CS : Addr} {n : Nat} {f : Nat → Int} {fp : List Addr} {H H' : Hp} {s : Addr} (S : StepsAt CS n f fp H s) (k : Kp fp H H') : StepsAt CS n f fp H' s := by
  obtain ⟨dx, rr, ads, M, h1, h2, h3, h4, h5, h6, h7⟩ := S.ex
  exact ⟨dx, rr, ads, M, k _ _ h1 (.inl not_lst_ins), k _ _ h2 (.inr h3), h3, h4, h5, fun i hi => k _ _ (h6 i hi) (.inr (h4 i hi).1), h7⟩
theorem mem_fil {fp : List Addr} {r l b : Addr} (h : b ∈ fp.filter fun b => decide (b ≠ r ∧ b ≠ l)) : b ∈ fp ∧ b ≠ r ∧ b ≠ l := by
  obtain ⟨h1, h2⟩ := List.mem_filter.mp h
  exact ⟨h1, of_decide_eq_true h2⟩
theorem Ask.kp {CS CA : Addr} {A : AP} {H H' : Hp} {cs : Cs} (S : Ask CS CA A H cs) (k : Kp A.fp H H') : Ask CS CA A H' cs := by
  obtain ⟨dx, sv, h1, h2, h3⟩ := S.ins
  obtain ⟨ts, g1, g2, g3, g4⟩ := S.log
  refine ⟨fun b hb => ?_, S.rin, S.lin, S.rl, k _ _ S.row (.inr S.rin), S.sz, ⟨dx, sv, k _ _ h1 (.inl not_lst_ins), h2, fun e => ?_⟩, ts, k _ _ g1 (.inr S.lin), fun t ht => k _ _ (g2 t ht) (.inl not_lst_tup), g3, g4⟩
  · obtain ⟨xs, e⟩ := S.fpl b hb
    exact ⟨xs, k _ _ e (.inr hb)⟩
  · obtain ⟨s, e1, e2⟩ := h3 e
    exact ⟨s, e1, e2.kp (k.mono fun b hb => (mem_fil hb).1)⟩
theorem Ask.notin {CS CA : Addr} {A : AP} {H : Hp} {cs : Cs} (S : Ask CS CA A H cs) {b : Addr} (h : H b = none) : b ∉ A.fp := fun q => by
  obtain ⟨xs, e⟩ := S.fpl b q
  rw [h] at e
  cases e

/-! ### the fields -/
theorem str_ne {a b : Str} (h : decide (a = b) = false) : ¬ a = b := of_decide_eq_false h
theorem fS_size (n : Nat) (rr : Addr) : (fS n rr).lookup ("size" : Str) = some (.int (n : Int)) := by
  unfold fS
  rw [lookup_putF, if_neg (str_ne (by decide +kernel)), lookup_putF, if_pos rfl]
theorem fS_rows (n : Nat) (rr : Addr) : (fS n rr).lookup ("rows" : Str) = some (.ref rr) := by
  unfold fS
  rw [lookup_putF, if_pos rfl]
theorem fS_no (n : Nat) (rr : Addr) {m : Str} (h1 : ¬ m = "rows") (h2 : ¬ m = "size") : (fS n rr).lookup m = none := by
  unfold fS
  rw [lookup_putF, if_neg h1, lookup_putF, if_neg h2]
  rfl
theorem fA_row (r l : Addr) (sv : V) : (fA r l sv).lookup ("row" : Str) = some (.ref r) := by
  unfold fA
  rw [lookup_putF, if_neg (str_ne (by decide +kernel)), lookup_putF, if_neg (str_ne (by decide +kernel)), lookup_putF, if_pos rfl]
theorem fA_log (r l : Addr) (sv : V) : (fA r l sv).lookup ("log" : Str) = some (.ref l) := by
  unfold fA
  rw [lookup_putF, if_neg (str_ne (by decide +kernel)), lookup_putF, if_pos rfl]
theorem fA_steps (r l : Addr) (sv : V) : (fA r l sv).lookup ("steps" : Str) = some sv := by
  unfold fA
  rw [lookup_putF, if_pos rfl]
theorem fA_no (r l : Addr) (sv : V) {m : Str} (h1 : ¬ m = "steps") (h2 : ¬ m = "log") (h3 : ¬ m = "row") : (fA r l sv).lookup m = none := by
  unfold fA
  rw [lookup_putF, if_neg h1, lookup_putF, if_neg h2, lookup_putF, if_neg h3]
  rfl

/-! ### Steps.tells -/
/-- what the matrix tells -/
def telV (M : Nat → Nat → Int) (x y : Nat) : V := if M x y = 1 then .bl true else if 0 ≤ M y x then .bl false else .non
theorem telV_ok {n : Nat} {f : Nat → Int} {M : Nat → Nat → Int} (S : Sound n f M) {x y : Nat} (hx : x < n) (hy : y < n) : telV M x y = .non ∨ telV M x y = .bl (ltf f x y) := by
  unfold telV ltf
  have h1 := S x y hx hy
  have h2 := S y x hy hx
  by_cases e1 : M x y = 1
  · rw [if_pos e1]
    have := h1.2.2 e1
    exact .inr (by rw [decide_eq_true this])
  · rw [if_neg e1]
    by_cases e2 : 0 ≤ M y x
    · rw [if_pos e2]
      have := h2.2.1 e2
      exact .inr (by rw [decide_eq_false (by omega)])
    · rw [if_neg e2]
      exact .inl rfl
/-- the steps' object, its rows -/
structure StM (CS : Addr) (n : Nat) (H : Hp) (s : Addr) (rr : Addr) (ads : Nat → Addr) (M : Nat → Nat → Int) : Prop where
  ins : ∃ dx, H s = some (.ins CS dx (fS n rr))
  rows : H rr = some (.lst (ro n fun i => .ref (ads i)))
  row : ∀ i, i < n → H (ads i) = some (.lst (ro n fun j => .int (M i j)))
def spTells (CS : Addr) : Sp := fun vs H Q _ => ∃ (s rr : Addr) (n : Nat) (ads : Nat → Addr) (M : Nat → Nat → Int) (x y : Nat), vs = [.ref s, .int (x : Int), .int (y : Int)] ∧ x < n ∧ y < n ∧ StM CS n H s rr ads M ∧ Q (telV M x y) H
section
variable {P : Program} {w : World} {K : PySem.W.Frag} {mg : Str → Option Value} {base : Heap} {CS CA : Addr}
theorem sc_tells : FnScope ["self", "one", "other"] ["self", "one", "other"] (defScope m_Steps_tells) := ⟨rfl, rfl, rfl, by decide +kernel, rfl, by decide +kernel, by decide +kernel⟩
theorem ok_tells (T : Txt K mg CS CA) : CalM P w K mg base 1 CS "tells" ["self", "one", "other"] (spTells CS) := by
  refine T.m_Steps_tells.ok sc_tells (fun vs H Q E h => ?_) (fun f cdv A outer s H vs Q E hr h => ?_)
  · obtain ⟨s, rr, n, ads, M, x, y, rfl, _⟩ := h
    rfl
  · obtain ⟨s, rr, n, ads, M, x, y, rfl, hx, hy, ⟨⟨dx, h1⟩, h2, h3⟩, k⟩ := h
    refine ⟨_, pss_cons (ps_if (pt_cmpR op_eq (pe_ix ix_list (pe_ix ix_list (pe_fld (pv 0) rfl) (pv 1) (fun _ _ => rfl)) (pv 2) (fun _ _ => rfl)) pe_int (nomark _)) (pss_one (ps_ret pe_bl)) pss_nil)
      (pss_one (ps_ret (pe_ifExp (pt_cmpR op_ge (pe_ix ix_list (pe_ix ix_list (pe_fld (pv 0) rfl) (pv 2) (fun _ _ => rfl)) (pv 1) (fun _ _ => rfl)) pe_int (nomark _)) pe_bl pe_non))), ?_⟩
    refine ⟨_, rfl, s, CS, dx, _, _, rfl, h1, T.clS, T.nS_rows, fS_rows _ _, _, rfl, rr, _, _, _, rfl, rfl, SqL.of h2, ro_atI hx, _, rfl, ads x, _, _, _, rfl, rfl, SqL.of (h3 x hx), ro_atI hy, rfl, _, rfl, ?_⟩
    refine ite2 (fun e => ?_) (fun e => ?_)
    · have e' : V.int (M x y) = V.int 1 := of_decide_eq_true e
      have e1 : M x y = 1 := V.int.inj e'
      unfold telV at k
      rw [if_pos e1] at k
      exact k
    · have e1 : ¬ M x y = 1 := fun q => e (decide_eq_true (by rw [q]))
      refine ⟨_, rfl, s, CS, dx, _, _, rfl, h1, T.clS, T.nS_rows, fS_rows _ _, _, rfl, rr, _, _, _, rfl, rfl, SqL.of h2, ro_atI hy, _, rfl, ads y, _, _, _, rfl, rfl, SqL.of (h3 y hy), ro_atI hx, _, _, rfl, rfl, _, rfl, ?_⟩
      unfold telV at k
      rw [if_neg e1] at k
      refine ite2 (fun q => ?_) (fun q => ?_)
      · rw [if_pos (of_decide_eq_true q)] at k
        exact k
      · rw [if_neg (fun z => q (decide_eq_true z))] at k
        exact k
end
end Hs
/-! ## part HsW3 -/
set_option Elab.async false
set_option linter.all false
set_option maxRecDepth 100000
set_option maxHeartbeats 4000000
namespace Hs
open PySem PySem.Spec PyProof.Rows L2
/-! ### max(a, b, c) -/
theorem vals_3 {x y z : V} {us : List Value} (r : Vals [x, y, z] us) : ∃ u w' t', us = [u, w', t'] ∧ RelV x u ∧ RelV y w' ∧ RelV z t' := by
  cases r with
  | cons p q =>
    obtain ⟨u, w', rfl, h1, h2⟩ := vals2 q
    exact ⟨_, u, w', rfl, p, h1, h2⟩
def max3 (a b c : Int) : Int := if b > a then (if c > b then c else b) else (if c > a then c else a)
theorem max3_ge (a b c : Int) : a ≤ max3 a b c ∧ b ≤ max3 a b c ∧ c ≤ max3 a b c ∧ (max3 a b c = a ∨ max3 a b c = b ∨ max3 a b c = c) := by
  unfold max3
  split <;> split <;> omega
theorem call_max3 {X : Cx} (hc : X.calm = true) : CallR X (.builtin "max") (fun xs H Q => ∃ i j k, xs = [.int i, .int j, .int k] ∧ Q (.int (max3 i j k)) H) := by
  intro pins s σ H xs us Q I r h
  obtain ⟨i, j, k, rfl, q⟩ := h
  obtain ⟨u, w', t', rfl, ⟨t, rfl⟩, ⟨t1, rfl⟩, ⟨t2, rfl⟩⟩ := vals_3 r
  refine max_three_ints (I.ok.hd hc) fun h' tk kk => ⟨_, H, I.kept kk, ?_, q⟩
  unfold max3
  by_cases h1 : j > i
  · rw [if_pos h1, if_pos h1]
    by_cases h2 : k > j
    · rw [if_pos h2, if_pos h2]; exact ⟨_, rfl⟩
    · rw [if_neg h2, if_neg h2]; exact ⟨_, rfl⟩
  · rw [if_neg h1, if_neg h1]
    by_cases h2 : k > i
    · rw [if_pos h2, if_pos h2]; exact ⟨_, rfl⟩
    · rw [if_neg h2, if_neg h2]; exact ⟨_, rfl⟩
/-! ### Steps.add -/
theorem ltf_iff {f : Nat → Int} {x y : Nat} : ltf f x y = true ↔ f x < f y := ⟨of_decide_eq_true, decide_eq_true⟩
def stM (M : Nat → Nat → Int) (a b : Nat) (v : Int) : Nat → Nat → Int := fun i j => if i = a ∧ j = b then v else M i j
theorem sound_step {n : Nat} {f : Nat → Int} {M : Nat → Nat → Int} (S : Sound n f M) {a b low high : Nat} {strict : Int} (ha : a < n) (hb : b < n) (hlow : low < n) (hhigh : high < n)
    (h1 : f a ≤ f low) (h2 : f high ≤ f b) (h3 : f low ≤ f high) (h4 : strict = 0 ∨ (strict = 1 ∧ f low < f high)) :
    Sound n f (stM M a b (if max3 (M a low) strict (M high b) > M a b then max3 (M a low) strict (M high b) else M a b)) := by
  intro i j hi hj
  unfold stM
  by_cases e : i = a ∧ j = b
  · rw [if_pos e, e.1, e.2]
    have s1 := S a low ha hlow
    have s2 := S high b hhigh hb
    have s3 := S a b ha hb
    have m := max3_ge (M a low) strict (M high b)
    generalize max3 (M a low) strict (M high b) = o at m
    have key : o ≤ 1 ∧ (o = 1 → f a < f b) := by
      obtain ⟨_, _, _, m4⟩ := m
      rcases m4 with q | q | q
      · exact ⟨by omega, fun z => by have := s1.2.2 (by omega); omega⟩
      · exact ⟨by omega, fun z => by omega⟩
      · exact ⟨by omega, fun z => by have := s2.2.2 (by omega); omega⟩
    split
    · exact ⟨key.1, fun _ => by omega, key.2⟩
    · exact ⟨s3.1, fun _ => by omega, s3.2.2⟩
  · rw [if_neg e]
    exact S i j hi hj
def spAdd (CS : Addr) : Sp := fun vs H Q _ => ∃ (s rr : Addr) (n : Nat) (f : Nat → Int) (ads : Nat → Addr) (M : Nat → Nat → Int) (x y : Nat), vs = [.ref s, .int (x : Int), .int (y : Int), .bl (ltf f x y)] ∧ n ≤ 30 ∧ x < n ∧ y < n ∧
  StM CS n H s rr ads M ∧ Sound n f M ∧ telV M x y = .non ∧ (∀ i, i < n → ads i ≠ rr) ∧ (∀ i j, i < n → j < n → ads i = ads j → i = j) ∧
  ∀ (H' : Hp) (M' : Nat → Nat → Int), StM CS n H' s rr ads M' → Sound n f M' → (∀ b o, H b = some o → (∀ i, i < n → b ≠ ads i) → H' b = some o) → Q (.bl true) H'
theorem vN_app (xs : List Nat) (x : Nat) : vN xs ++ [V.int ((0 : Int) + (x : Nat))] = vN (xs ++ [x]) := by
  unfold vN
  rw [List.map_append, Int.zero_add]
  rfl
theorem zc (x : Nat) : V.int ((0 : Int) + (x : Nat)) = V.int (x : Int) := by rw [Int.zero_add]
theorem small30 {n : Nat} (h : n ≤ 1000) : n < sizeLine := small1000 h
theorem StM.same {CS : Addr} {n : Nat} {H H' : Hp} {s rr : Addr} {ads : Nat → Addr} {M : Nat → Nat → Int} (S : StM CS n H s rr ads M) (h : Same H H') : StM CS n H' s rr ads M := by
  obtain ⟨⟨dx, h1⟩, h2, h3⟩ := S
  exact ⟨⟨dx, h _ _ h1⟩, h _ _ h2, fun i hi => h _ _ (h3 i hi)⟩
theorem pick_tup {c : Bool} {x y low high : Nat} {strict : Int} {σ : L2.St} {H : Hp} {Q : VK} (e1 : σ[1]? = some (some (V.int (x : Int)))) (e2 : σ[2]? = some (some (V.int (y : Int))))
    (sel : if c = true then low = x ∧ high = y ∧ strict = 1 else low = y ∧ high = x ∧ strict = 0) (g : ∀ p, H p = none → Q (.ref p) (upd H p (.tup [.int (low : Int), .int (high : Int), .int strict]))) :
    if c = true then tTup (tCons (tVar 1) (tCons (tVar 2) (tCons (tC (.int 1)) tNil))) σ H Q else tTup (tCons (tVar 2) (tCons (tVar 1) (tCons (tC (.int 0)) tNil))) σ H Q := by
  cases c with
  | true =>
    rw [if_pos rfl] at sel ⊢
    obtain ⟨rfl, rfl, rfl⟩ := sel
    exact ⟨_, e1, _, e2, by show 3 ≤ sizeLine; decide, g⟩
  | false =>
    rw [if_neg Bool.false_ne_true] at sel ⊢
    obtain ⟨rfl, rfl, rfl⟩ := sel
    exact ⟨_, e2, _, e1, by show 3 ≤ sizeLine; decide, g⟩
theorem vN_mem {xs : List Nat} {i : Nat} {v : V} (h : (vN xs)[i]? = some v) : ∃ a, a ∈ xs ∧ v = V.int (a : Int) := by
  unfold vN at h
  rw [List.getElem?_map] at h
  cases e : xs[i]? with
  | none =>
    rw [e] at h
    cases h
  | some a =>
    rw [e] at h
    exact ⟨a, List.mem_of_getElem? e, (Option.some.inj h).symm⟩
/-- through the loops of add -/
structure AddG (CS : Addr) (n : Nat) (f : Nat → Int) (s rr : Addr) (ads : Nat → Addr) (D1 D2 : Addr) (as bs : List Nat) (H Hc : Hp) (M : Nat → Nat → Int) : Prop where
  st : StM CS n Hc s rr ads M
  so : Sound n f M
  l1 : Hc D1 = some (.lst (vN as))
  l2 : Hc D2 = some (.lst (vN bs))
  fr : ∀ b o, H b = some o → (∀ i, i < n → b ≠ ads i) → Hc b = some o
theorem AddG.step {CS : Addr} {n : Nat} {f : Nat → Int} {s rr : Addr} {ads : Nat → Addr} {D1 D2 : Addr} {as bs : List Nat} {H Hc : Hp} {M : Nat → Nat → Int} (g : AddG CS n f s rr ads D1 D2 as bs H Hc M)
    (hne : ∀ i, i < n → ads i ≠ rr) (hinj : ∀ i j, i < n → j < n → ads i = ads j → i = j) (n1 : ∀ i, i < n → D1 ≠ ads i) (n2 : ∀ i, i < n → D2 ≠ ads i) {a b : Nat} (ha : a < n) {v : Int} (so : Sound n f (stM M a b v)) :
    AddG CS n f s rr ads D1 D2 as bs H (upd Hc (ads a) (.lst ((ro n fun j => .int (M a j)).set b (.int v)))) (stM M a b v) := by
  obtain ⟨⟨⟨dx, h1⟩, h2, h3⟩, _, g1, g2, g3⟩ := g
  refine ⟨⟨⟨dx, ?_⟩, ?_, fun i hi => ?_⟩, so, ?_, ?_, fun c o e q => ?_⟩
  · rw [upd_ne (ne_of h1 (h3 a ha) (by intro z; cases z))]
    exact h1
  · rw [upd_ne (hne a ha).symm]
    exact h2
  · by_cases e : i = a
    · subst e
      rw [upd_same, ro_set]
      refine congrArg (fun z => some (HO.lst z)) (ro_congr fun j hj => ?_)
      unfold stM
      by_cases e2 : j = b
      · rw [if_pos e2, if_pos ⟨rfl, e2⟩]
      · rw [if_neg e2, if_neg (fun z => e2 z.2)]
    · rw [upd_ne (fun z => e (hinj i a hi ha z)), h3 i hi]
      refine congrArg (fun z => some (HO.lst z)) (ro_congr fun j hj => ?_)
      unfold stM
      rw [if_neg (fun z => e z.1)]
  · rw [upd_ne (n1 a ha)]
    exact g1
  · rw [upd_ne (n2 a ha)]
    exact g2
  · rw [upd_ne (q a ha)]
    exact g3 c o e q
section
variable {P : Program} {w : World} {K : PySem.W.Frag} {mg : Str → Option Value} {base : Heap} {CS CA : Addr}
abbrev N_add : List Str := ["self", "one", "other", "answer", "low", "high", "strict", "ahead", "behind", "first", "last", "own", "thing"]
theorem sc_add : FnScope N_add ["self", "one", "other", "answer"] (defScope m_Steps_add) := ⟨rfl, rfl, rfl, by decide +kernel, rfl, by decide +kernel, by decide +kernel⟩
theorem ok_add (T : Txt K mg CS CA) : CalM P w K mg base 2 CS "add" ["self", "one", "other", "answer"] (spAdd CS) := by
  have GT : CalM P w K mg base 1 CS "tells" ["self", "one", "other"] (spTells CS) := ok_tells T
  refine T.m_Steps_add.ok sc_add (fun vs H Q E h => ?_) (fun fa cdv A outer sh H vs Q E hr h => ?_)
  · obtain ⟨s, rr, n, f, ads, M, x, y, rfl, _⟩ := h
    rfl
  · obtain ⟨s, rr, n, f, ads, M, x, y, rfl, hn, hx, hy, S, hS, htel, hne, hinj, k⟩ := h
    refine ⟨_, pss_cons (ps_if (pt_cmpR op_notN (pe_calM (pv 0) T.clS GT hr (pa_cons (pv 1) (pa_cons (pv 2) pa_nil))) pe_non (nomark _)) pss_never pss_nil)
      (pss_cons (ps_asg (pe_ifExp (pt_val (pv 3)) (pe_tup (pa_cons (pv 1) (pa_cons (pv 2) (pa_cons pe_int pa_nil)))) (pe_tup (pa_cons (pv 2) (pa_cons (pv 1) (pa_cons pe_int pa_nil)))))
          (pg_tup rfl (pgs_cons (pg_name (i := 4) sc_add.nd rfl (.inr rfl)) (pgs_cons (pg_name (i := 5) sc_add.nd rfl (.inr rfl)) (pgs_cons (pg_name (i := 6) sc_add.nd rfl (.inl rfl)) pgs_nil)))))
      (pss_cons (ps_setLc (i := 7) (own := [("thing", 12)]) (g := gName 12) (tt := tTest (tOp (rI0 fun i j => .bl (decide (j ≤ i))) (tOp (rIxL K) (tOp (rIxL K) (tFld K (tVar 0) "rows") (tVar 12)) (tVar 4)) (tC (.int 0)))) rfl sc_add.nd rfl rfl (sw_true rfl rfl rfl (by decide +kernel)) (pi_range1 rfl T.f_range (pa_cons (pe_fld (pv 0) rfl) pa_nil))
          (blkOk_by (N := N_add) (sc := defScope m_Steps_add) (by decide +kernel)) (fun _ _ _ _ _ => pg_name (i := 12) sc_add.nd rfl (Or.inl rfl))
          (fun _ _ _ _ _ => pts_one (pt_cmpR op_ge (pe_ix ix_list (pe_ix ix_list (pe_fld (pv 0) rfl) (pv 12) (fun _ _ => rfl)) (pv 4) (fun _ _ => rfl)) pe_int (nomark _))) (fun _ _ _ _ _ => pv 12))
      (pss_cons (ps_setLc (i := 8) (own := [("thing", 12)]) (g := gName 12) (tt := tTest (tOp (rI0 fun i j => .bl (decide (j ≤ i))) (tOp (rIxL K) (tOp (rIxL K) (tFld K (tVar 0) "rows") (tVar 5)) (tVar 12)) (tC (.int 0)))) rfl sc_add.nd rfl rfl (sw_true rfl rfl rfl (by decide +kernel)) (pi_range1 rfl T.f_range (pa_cons (pe_fld (pv 0) rfl) pa_nil))
          (blkOk_by (N := N_add) (sc := defScope m_Steps_add) (by decide +kernel)) (fun _ _ _ _ _ => pg_name (i := 12) sc_add.nd rfl (Or.inl rfl))
          (fun _ _ _ _ _ => pts_one (pt_cmpR op_ge (pe_ix ix_list (pe_ix ix_list (pe_fld (pv 0) rfl) (pv 5) (fun _ _ => rfl)) (pv 12) (fun _ _ => rfl)) pe_int (nomark _))) (fun _ _ _ _ _ => pv 12))
      (pss_cons (ps_for PassesOwn.never rfl (pi_list (pv 7)) (pg_name (i := 9) sc_add.nd rfl (Or.inl rfl))
          (pss_one (ps_for PassesOwn.never rfl (pi_list (pv 8)) (pg_name (i := 10) sc_add.nd rfl (Or.inl rfl))
            (pss_cons (ps_set (i := 11) sc_add.nd rfl (Or.inl rfl) (pe_callB (call_max3 rfl) (by rfl) T.f_max (by decide +kernel)
                (pa_cons (pe_ix ix_list (pe_ix ix_list (pe_fld (pv 0) rfl) (pv 9) (fun _ _ => rfl)) (pv 4) (fun _ _ => rfl)) (pa_cons (pv 6) (pa_cons (pe_ix ix_list (pe_ix ix_list (pe_fld (pv 0) rfl) (pv 5) (fun _ _ => rfl)) (pv 10) (fun _ _ => rfl)) pa_nil)))))
              (pss_one (ps_asg (pe_callB (call_max2 rfl) (by rfl) T.f_max (by decide +kernel) (pa_cons (pe_ix ix_list (pe_ix ix_list (pe_fld (pv 0) rfl) (pv 9) (fun _ _ => rfl)) (pv 10) (fun _ _ => rfl)) (pa_cons (pv 11) pa_nil)))
                (pg_sub (pe_ix ix_list (pe_fld (pv 0) rfl) (pv 9) (fun _ _ => rfl)) (pv 10) set_list)))))))
      (pss_one (ps_ret pe_bl)))))), ?_⟩
    obtain ⟨dx, h1⟩ := S.ins
    refine ⟨_, rfl, s, dx, _, rfl, h1, fS_no _ _ (str_ne (by decide +kernel)) (str_ne (by decide +kernel)), _, rfl, _, rfl, s, rr, n, ads, M, x, y, rfl, hx, hy, S, rfl, _, rfl, iteNS htel ?_⟩
    obtain ⟨low, high, strict, hlow, hhigh, h3, h4, hsel⟩ : ∃ (low high : Nat) (strict : Int), low < n ∧ high < n ∧ f low ≤ f high ∧ (strict = 0 ∨ (strict = 1 ∧ f low < f high)) ∧
        (if ltf f x y = true then low = x ∧ high = y ∧ strict = 1 else low = y ∧ high = x ∧ strict = 0) := by
      by_cases e : ltf f x y = true
      · have := ltf_iff.mp e
        exact ⟨x, y, 1, hx, hy, by omega, .inr ⟨rfl, this⟩, by rw [if_pos e]; exact ⟨rfl, rfl, rfl⟩⟩
      · have : ¬ f x < f y := fun z => e (ltf_iff.mpr z)
        exact ⟨y, x, 0, hy, hx, by omega, .inl rfl, by rw [if_neg e]; exact ⟨rfl, rfl, rfl⟩⟩
    refine ⟨_, rfl, _, rfl, pick_tup rfl rfl hsel fun p hp => ?_⟩
    refine ⟨p, _, rfl, SqT.of upd_same, rfl, _, _, rfl, _, _, rfl, _, _, rfl, rfl, ?_⟩
    generalize hH1 : upd H p (.tup [.int (low : Int), .int (high : Int), .int strict]) = H1
    have s1 : Same H H1 := by rw [← hH1]; exact Same.new hp
    have S1 := S.same s1
    refine ⟨_, rfl, s, CS, dx, _, _, rfl, s1 _ _ h1, T.clS, T.nS_size, fS_size _ _, (n : Int), rfl, by omega, by omega, fun D1 hD1 =>
      lc_range (lo := 0) (n := n) (fun i Hc => ∃ as : List Nat, Hc = upd H1 D1 (.lst (vN as)) ∧ (∀ a ∈ as, a < n ∧ f a ≤ f low) ∧ as.length ≤ i) ⟨[], rfl, (fun _ z => nomatch z), Nat.le_refl _⟩ ?_ ?_⟩
    · rintro i Hc hi ⟨as, rfl, has, hl⟩
      have Sc := S1.same (Same.new (o := .lst (vN as)) hD1)
      obtain ⟨dc, hc⟩ := Sc.ins
      refine ⟨rfl, _, rfl, s, CS, dc, _, _, rfl, hc, T.clS, T.nS_rows, fS_rows _ _, _, rfl, rr, _, _, _, rfl, rfl, SqL.of Sc.rows, at_of (Int.zero_add _) (ro_at hi), _, rfl, ads i, _, _, _, rfl, rfl, SqL.of (Sc.row i hi), ro_atI hlow, _, _, rfl, rfl, _, rfl, ite2 (fun e => ?_) (fun _ => ⟨as, rfl, has, by omega⟩)⟩
      refine ⟨_, rfl, vN as, upd_same, small1000 (by rw [vN_length]; omega), as ++ [i], by rw [upd_upd, vN_app], fun a ha => ?_, by rw [List.length_append, List.length_singleton]; omega⟩
      rcases List.mem_append.mp ha with q | q
      · exact has a q
      · rw [List.mem_singleton.mp q]
        exact ⟨hi, (hS i low hi hlow).2.1 (of_decide_eq_true e)⟩
    rintro H2' ⟨as, rfl, has, hla⟩
    generalize hH2 : upd H1 D1 (.lst (vN as)) = H2
    have s2 : Same H1 H2 := by rw [← hH2]; exact Same.new hD1
    have l2 : H2 D1 = some (.lst (vN as)) := by rw [← hH2]; exact upd_same
    have S2 := S1.same s2
    refine ⟨_, rfl, s, CS, dx, _, _, rfl, s2 _ _ (s1 _ _ h1), T.clS, T.nS_size, fS_size _ _, (n : Int), rfl, by omega, by omega, fun D2 hD2 =>
      lc_range (lo := 0) (n := n) (fun i Hc => ∃ bs : List Nat, Hc = upd H2 D2 (.lst (vN bs)) ∧ (∀ a ∈ bs, a < n ∧ f high ≤ f a) ∧ bs.length ≤ i) ⟨[], rfl, (fun _ z => nomatch z), Nat.le_refl _⟩ ?_ ?_⟩
    · rintro i Hc hi ⟨bs, rfl, has, hl⟩
      have Sc := S2.same (Same.new (o := .lst (vN bs)) hD2)
      obtain ⟨dc, hc⟩ := Sc.ins
      refine ⟨rfl, _, rfl, s, CS, dc, _, _, rfl, hc, T.clS, T.nS_rows, fS_rows _ _, _, rfl, rr, _, _, _, rfl, rfl, SqL.of Sc.rows, ro_atI hhigh, _, rfl, ads high, _, _, _, rfl, rfl, SqL.of (Sc.row high hhigh), at_of (Int.zero_add _) (ro_at hi), _, _, rfl, rfl, _, rfl, ite2 (fun e => ?_) (fun _ => ⟨bs, rfl, has, by omega⟩)⟩
      refine ⟨_, rfl, vN bs, upd_same, small1000 (by rw [vN_length]; omega), bs ++ [i], by rw [upd_upd, vN_app], fun a ha => ?_, by rw [List.length_append, List.length_singleton]; omega⟩
      rcases List.mem_append.mp ha with q | q
      · exact has a q
      · rw [List.mem_singleton.mp q]
        exact ⟨hi, (hS high i hhigh hi).2.1 (of_decide_eq_true e)⟩
    rintro H3' ⟨bs, rfl, hbs, hlb⟩
    have s3 : Same H2 (upd H2 D2 (.lst (vN bs))) := Same.new hD2
    have g0 : AddG CS n f s rr ads D1 D2 as bs H (upd H2 D2 (.lst (vN bs))) M := ⟨S2.same s3, hS, s3 _ _ l2, upd_same, fun b o e _ => s3 _ _ (s2 _ _ (s1 _ _ e))⟩
    have nD1 : ∀ i, i < n → D1 ≠ ads i := fun i hi => (ne_of_none (S1.row i hi) hD1).symm
    have nD2 : ∀ i, i < n → D2 ≠ ads i := fun i hi => (ne_of_none (S2.row i hi) hD2).symm
    refine ⟨_, rfl, D1, rfl, ⟨_, SqL.of g0.l1⟩, for_list (K := K) (a := D1) (xs := vN as) (fun i σ Hc => ∃ M' v9 v10 v11,
      σ = [some (.ref s), some (.int x), some (.int y), some (.bl (ltf f x y)), some (.int low), some (.int high), some (.int strict), some (.ref D1), some (.ref D2), v9, v10, v11, none] ∧ AddG CS n f s rr ads D1 D2 as bs H Hc M')
      ⟨M, none, none, none, rfl, g0⟩ (fun i σ Hc _ ⟨_, _, _, _, _, g⟩ => SqL.of g.l1) ?_ ?_⟩
    · rintro i v σ Hc hi ⟨M1, v9, v10, v11, rfl, g⟩
      obtain ⟨a, ha, rfl⟩ := vN_mem hi
      obtain ⟨han, hal⟩ := has a ha
      refine ⟨_, rfl, D2, rfl, ⟨_, SqL.of g.l2⟩, for_list (K := K) (a := D2) (xs := vN bs) (fun i σ Hc => ∃ M' v10 v11,
        σ = [some (.ref s), some (.int x), some (.int y), some (.bl (ltf f x y)), some (.int low), some (.int high), some (.int strict), some (.ref D1), some (.ref D2), some (.int a), v10, v11, none] ∧ AddG CS n f s rr ads D1 D2 as bs H Hc M')
        ⟨M1, v10, v11, rfl, g⟩ (fun i σ Hc _ ⟨_, _, _, _, g⟩ => SqL.of g.l2) ?_ ?_⟩
      · rintro j u σ2 Hd hj ⟨M2, w10, w11, rfl, g2⟩
        obtain ⟨b, hb, rfl⟩ := vN_mem hj
        obtain ⟨hbn, hhb⟩ := hbs b hb
        obtain ⟨dd, hd⟩ := g2.st.ins
        refine ⟨_, rfl, s, CS, dd, _, _, rfl, hd, T.clS, T.nS_rows, fS_rows _ _, _, rfl, rr, _, _, _, rfl, rfl, SqL.of g2.st.rows, ro_atI han, _, rfl, ads a, _, _, _, rfl, rfl, SqL.of (g2.st.row a han), ro_atI hlow, ?_⟩
        refine ⟨_, rfl, _, rfl, s, CS, dd, _, _, rfl, hd, T.clS, T.nS_rows, fS_rows _ _, _, rfl, rr, _, _, _, rfl, rfl, SqL.of g2.st.rows, ro_atI hhigh, _, rfl, ads high, _, _, _, rfl, rfl, SqL.of (g2.st.row high hhigh), ro_atI hbn, ?_⟩
        refine ⟨_, _, _, rfl, ?_⟩
        refine ⟨_, rfl, s, CS, dd, _, _, rfl, hd, T.clS, T.nS_rows, fS_rows _ _, _, rfl, rr, _, _, _, rfl, rfl, SqL.of g2.st.rows, ro_atI han, _, rfl, ads a, _, _, _, rfl, rfl, SqL.of (g2.st.row a han), ro_atI hbn, ?_⟩
        refine ⟨_, rfl, _, _, rfl, ?_⟩
        refine ⟨_, rfl, s, CS, dd, _, _, rfl, hd, T.clS, T.nS_rows, fS_rows _ _, _, rfl, rr, _, _, _, rfl, rfl, SqL.of g2.st.rows, ro_atI han, _, rfl, ads a, _, _, b, rfl, rfl, g2.st.row a han, ixN_nat rfl (by rw [ro_length]; exact hbn), ?_⟩
        exact ⟨_, _, _, rfl, g2.step hne hinj nD1 nD2 han (sound_step g2.so han hbn hlow hhigh hal hhb h3 h4)⟩
      · rintro σ2 Hd ⟨M2, w10, w11, rfl, g2⟩
        exact ⟨M2, _, w10, w11, rfl, g2⟩
    · rintro σ Hc ⟨M1, v9, v10, v11, rfl, g⟩
      exact k Hc M1 g.st g.so g.fr
end
end Hs
/-! ## part HsW4 -/
set_option Elab.async false
set_option linter.all false
set_option maxRecDepth 100000
set_option maxHeartbeats 4000000
namespace Hs
open PySem PySem.Spec PyProof.Rows L2
/-! ### Steps.__init__ -/
theorem ro_succ (i : Nat) (g : Nat → V) : ro (i + 1) g = ro i g ++ [g i] := by
  unfold ro
  rw [List.range_succ, List.map_append]
  rfl
def eyeM : Nat → Nat → Int := fun i j => if i = j then 0 else -1
theorem sound_eye (n : Nat) (f : Nat → Int) : Sound n f eyeM := fun i j _ _ => by
  unfold eyeM
  by_cases e : i = j
  · rw [if_pos e, e]
    exact ⟨by omega, fun _ => Int.le_refl _, fun z => by omega⟩
  · rw [if_neg e]
    exact ⟨by omega, fun z => by omega, fun z => by omega⟩
def spSInit (CS : Addr) : Sp := fun vs H Q _ => ∃ (s dx : Addr) (n : Nat), vs = [.ref s, .int (n : Int)] ∧ n ≤ 30 ∧ H s = some (.ins CS dx []) ∧
  ∀ (H' : Hp) (rr : Addr) (ads : Nat → Addr), StM CS n H' s rr ads eyeM → H rr = none → (∀ i, i < n → H (ads i) = none ∧ ads i ≠ rr) → (∀ i j, i < n → j < n → ads i = ads j → i = j) →
    (∀ b o, H b = some o → b ≠ s → H' b = some o) → Q .non H'
def lcSc (s : Stmt) : Scope := match s with
  | .Assign _ (.ListComp _ _ sc _) _ => sc
  | _ => defScope s
abbrev N_sinit : List Str := ["self", "size", "one", "other"]
theorem sc_sinit : FnScope N_sinit ["self", "size"] (defScope m_Steps_init) := ⟨rfl, rfl, rfl, by decide +kernel, rfl, by decide +kernel, by decide +kernel⟩
section
variable {P : Program} {w : World} {K : PySem.W.Frag} {mg : Str → Option Value} {base : Heap} {CS CA : Addr}
theorem ok_sinit (T : Txt K mg CS CA) : CalI P w K mg base 1 "Steps" CS ["self", "size"] (spSInit CS) := by
  refine T.i_Steps.ok sc_sinit (fun vs H Q E h => ?_) (fun fa cdv A outer sh H vs Q E hr h => ?_)
  · obtain ⟨s, dx, n, rfl, _⟩ := h
    rfl
  · obtain ⟨s, dx, n, rfl, hn, hs, k⟩ := h
    refine ⟨_, pss_cons (ps_fld (pv 0) (pv 1) rfl)
      (pss_one (ps_fld (pv 0) (pe_lc (own := [("one", 2)]) (g := gName 2) (tt := tYes) (te := tLc (iRng1 (tCons (tVar 1) tNil)) (gName 3) tYes (tIf (tTest (tOp rEq (tVar 2) (tVar 3))) (tC (.int 0)) (tUn (rU fun i => .int (-i)) (tC (.int 1)))) [3])
          rfl sc_sinit.nd (pi_range1 rfl T.f_range (pa_cons (pv 1) pa_nil)) (blkOk_by (N := N_sinit) (sc := defScope m_Steps_init) (by decide +kernel)) (fun _ _ _ _ _ => pg_name (i := 2) sc_sinit.nd rfl (Or.inr rfl)) (fun _ _ _ _ _ => pts_nil)
          (fun _ _ _ _ _ => pe_lc (own := [("other", 3)]) (g := gName 3) (tt := tYes) rfl sc_sinit.nd (pi_range1 rfl T.f_range (pa_cons (pv 1) pa_nil)) (blkOk_by (N := N_sinit) (sc := relS (lcSc ((defBody m_Steps_init).getD 1 (.Pass ⟨0, 0, 0, 0⟩))) (defScope m_Steps_init)) (by decide +kernel))
            (fun _ _ _ _ _ => pg_name (i := 3) sc_sinit.nd rfl (Or.inl rfl)) (fun _ _ _ _ _ => pts_nil) (fun _ _ _ _ _ => pe_ifExp (pt_cmpR op_eq (pv 2) (pv 3) (nomark _)) pe_int (pe_un un_neg pe_int)))) rfl)), ?_⟩
    have hs1 : upd H s (.ins CS dx (putF "size" (.int (n : Int)) [])) s = some (.ins CS dx (putF "size" (.int (n : Int)) [])) := upd_same
    refine ⟨_, rfl, _, rfl, s, CS, dx, [], rfl, hs, T.clS, T.nS_size, (by show 0 < 1000; decide), ?_⟩
    generalize hH1 : upd H s (.ins CS dx (putF "size" (.int (n : Int)) [])) = H1 at hs1
    have f1 : ∀ b o, H b = some o → b ≠ s → H1 b = some o := fun b o e q => by
      rw [← hH1, upd_ne q]
      exact e
    have g1 : ∀ b, H1 b = none → H b = none := fun b e => by
      cases q : H b with
      | none => rfl
      | some o =>
        by_cases hb : b = s
        · rw [hb, hs1] at e
          cases e
        · rw [f1 b o q hb] at e
          cases e
    refine ⟨_, rfl, (n : Int), rfl, by omega, by omega, fun rr hrr => lc_range (lo := 0) (n := n) (fun i Hc => ∃ ads : Nat → Addr, Hc rr = some (.lst (ro i fun k => .ref (ads k))) ∧
      (∀ k, k < i → H1 (ads k) = none ∧ ads k ≠ rr ∧ Hc (ads k) = some (.lst (ro n fun j => .int (eyeM k j)))) ∧ (∀ k j, k < i → j < i → ads k = ads j → k = j) ∧ Same H1 Hc)
      ⟨fun _ => 0, upd_same, (fun k z => absurd z (Nat.not_lt_zero _)), (fun k j z => absurd z (Nat.not_lt_zero _)), Same.new hrr⟩ ?_ ?_⟩
    · rintro i Hc hi ⟨ads, a1, a2, a3, a4⟩
      refine ⟨rfl, ?_⟩
      refine ⟨_, rfl, (n : Int), rfl, by omega, by omega, fun D hD => lc_range (lo := 0) (n := n) (fun j Hd => Hd = upd Hc D (.lst (ro j fun j => .int (eyeM i j)))) rfl ?_ ?_⟩
      · rintro j Hd hj rfl
        refine ⟨rfl, _, rfl, _, rfl, rfl, _, rfl, ?_⟩
        have fin : ∀ z : Int, z = eyeM i j → ∃ acc, upd Hc D (.lst (ro j fun j => .int (eyeM i j))) D = some (.lst acc) ∧ acc.length < sizeLine ∧ upd (upd Hc D (.lst (ro j fun j => .int (eyeM i j)))) D (.lst (acc ++ [V.int z])) = upd Hc D (.lst (ro (j + 1) fun j => .int (eyeM i j))) := fun z hz =>
          ⟨_, upd_same, small1000 (by rw [ro_length]; omega), by rw [upd_upd, ro_succ, hz]⟩
        refine ite2 (fun e => ?_) (fun e => ?_)
        · refine fin 0 ?_
          have e2 : ((0 : Int) + (i : Nat)) = (0 : Int) + (j : Nat) := V.int.inj (of_decide_eq_true e)
          unfold eyeM
          rw [if_pos (by omega)]
        · refine ⟨1, rfl, fin (-1) ?_⟩
          have e2 : ¬ ((0 : Int) + (i : Nat)) = (0 : Int) + (j : Nat) := fun z => e (decide_eq_true (congrArg V.int z))
          unfold eyeM
          rw [if_neg (by omega)]
      · rintro Hd rfl
        have nDrr : rr ≠ D := ne_of_none a1 hD
        have nDk : ∀ k, k < i → ads k ≠ D := fun k hk => ne_of_none (a2 k hk).2.2 hD
        have hD1 : H1 D = none := a4.free hD
        obtain ⟨ad, b1, b2⟩ : ∃ ad : Nat → Addr, ad i = D ∧ ∀ k, k < i → ad k = ads k := ⟨fun k => if k = i then D else ads k, if_pos rfl, fun k hk => if_neg (Nat.ne_of_lt hk)⟩
        refine ⟨_, by rw [upd_ne nDrr]; exact a1, small1000 (by rw [ro_length]; omega), ad, ?_, fun k hk => ?_, fun k j hk hj => ?_, fun b o e => ?_⟩
        · rw [upd_same, ro_succ, b1, ro_congr fun k hk => congrArg V.ref (b2 k hk)]
        · by_cases e : k = i
          · rw [e, b1]
            exact ⟨hD1, nDrr.symm, by rw [upd_ne nDrr.symm, upd_same]⟩
          · rw [b2 k (by omega)]
            obtain ⟨q1, q2, q3⟩ := a2 k (by omega)
            exact ⟨q1, q2, by rw [upd_ne q2, upd_ne (nDk k (by omega))]; exact q3⟩
        · by_cases e : k = i
          · by_cases e2 : j = i
            · exact fun _ => by omega
            · rw [e, b1, b2 j (by omega)]
              exact fun z => absurd z.symm (nDk j (by omega))
          · by_cases e2 : j = i
            · rw [e2, b1, b2 k (by omega)]
              exact fun z => absurd z (nDk k (by omega))
            · rw [b2 k (by omega), b2 j (by omega)]
              exact a3 k j (by omega) (by omega)
        · rw [upd_ne (fun z => by rw [z, hrr] at e; cases e), upd_ne (ne_of_none e hD1)]
          exact a4 b o e
    · rintro Hc ⟨ads, a1, a2, a3, a4⟩
      have hsc : Hc s = some (.ins CS dx (putF "size" (.int (n : Int)) [])) := a4 _ _ hs1
      refine ⟨_, rfl, s, CS, dx, _, rfl, hsc, T.clS, T.nS_rows, (by show 1 < 1000; decide), ?_⟩
      have nrs : rr ≠ s := fun z => by rw [z, hs1] at hrr; cases hrr
      refine k _ rr ads ⟨⟨dx, upd_same⟩, ?_, fun i hi => ?_⟩ (g1 _ hrr) (fun i hi => ⟨g1 _ (a2 i hi).1, (a2 i hi).2.1⟩) a3 fun b o e q => ?_
      · rw [upd_ne nrs]
        exact a1
      · rw [upd_ne (fun z => by have q := (a2 i hi).1; rw [z, hs1] at q; cases q)]
        exact (a2 i hi).2.2
      · rw [upd_ne q]
        exact a4 _ _ (f1 b o e q)
end
end Hs
/-! ## part HsW5 -/
set_option Elab.async false
set_option linter.all false
set_option maxRecDepth 100000
set_option maxHeartbeats 4000000
namespace Hs
open PySem PySem.Spec PyProof.Rows L2
/-! ### Asker.__init__ -/
def spAInit (CS CA : Addr) : Sp := fun vs H Q _ => ∃ (p dx r : Addr) (sp : Bool) (n : Nat) (f : Nat → Int), vs = [.ref p, .ref r, .bl sp] ∧ n ≤ 30 ∧ H p = some (.ins CA dx []) ∧ H r = some (.lst (ro n fun i => .int (f i))) ∧
  ∀ (H' : Hp) (l : Addr) (fp : List Addr), Ask CS CA ⟨sp, n, f, p, r, l, fp⟩ H' [] → (∀ b ∈ fp, b = r ∨ H b = none) → (∀ b o, H b = some o → b ≠ p → H' b = some o) → Q .non H'
abbrev N_ainit : List Str := ["self", "row", "sparing"]
theorem sc_ainit : FnScope N_ainit ["self", "row", "sparing"] (defScope m_Asker_init) := ⟨rfl, rfl, rfl, by decide +kernel, rfl, by decide +kernel, by decide +kernel⟩
theorem fA_len (r l : Addr) (sv : V) : (fA r l sv).length < 1000 := by
  unfold fA
  have h1 := length_putF "steps" sv (putF "log" (.ref l) (putF "row" (.ref r) []))
  have h2 := length_putF "log" (.ref l) (putF "row" (.ref r) [])
  have h3 := length_putF "row" (.ref r) []
  simp only [List.length_nil] at h3
  omega
section
variable {P : Program} {w : World} {K : PySem.W.Frag} {mg : Str → Option Value} {base : Heap} {CS CA : Addr}
theorem ok_ainit (T : Txt K mg CS CA) : CalI P w K mg base 3 "Asker" CA ["self", "row", "sparing"] (spAInit CS CA) := by
  have GI : CalI P w K mg base 1 "Steps" CS ["self", "size"] (spSInit CS) := ok_sinit T
  refine T.i_Asker.ok sc_ainit (fun vs H Q E h => ?_) (fun fa cdv A outer sh H vs Q E hr h => ?_)
  · obtain ⟨p, dx, r, sp, n, f, rfl, _⟩ := h
    rfl
  · obtain ⟨p, dx, r, sp, n, f, rfl, hn, hp, hR, k⟩ := h
    refine ⟨_, pss_cons (ps_fld (pv 0) (pv 1) rfl) (pss_cons (ps_fld (pv 0) (pe_lst pa_nil) rfl)
      (pss_one (ps_fld (pv 0) (pe_ifExp (pt_val (pv 2)) (pe_calI GI hr rfl (pa_cons (pe_callB call_len_seq (by rfl) T.f_len PySem.boot_len (pa_cons (pv 1) pa_nil)) pa_nil)) pe_non) rfl))), ?_⟩
    have npr : r ≠ p := ne_of hR hp (by intro z; cases z)
    refine ⟨_, rfl, _, rfl, p, CA, dx, [], rfl, hp, T.clA, T.nA_row, (by show 0 < 1000; decide), ?_⟩
    refine ⟨Nat.zero_le _, fun l hl => ?_⟩
    have nlp : l ≠ p := fun z => by rw [z, upd_same] at hl; cases hl
    have hl0 : H l = none := by rw [upd_ne nlp] at hl; exact hl
    have nrl : r ≠ l := ne_of_none hR hl0
    refine ⟨_, rfl, p, CA, dx, _, rfl, (by rw [upd_ne nlp.symm]; exact upd_same), T.clA, T.nA_log, (by show 1 < 1000; decide), ?_⟩
    -- the heap so far: the asker with its row and its log
    generalize hH1 : upd (upd (upd H p (.ins CA dx (putF "row" (.ref r) []))) l (.lst [])) p (.ins CA dx (putF "log" (.ref l) (putF "row" (.ref r) []))) = H1
    have p1 : H1 p = some (.ins CA dx (putF "log" (.ref l) (putF "row" (.ref r) []))) := by rw [← hH1]; exact upd_same
    have l1 : H1 l = some (.lst []) := by rw [← hH1, upd_ne nlp]; exact upd_same
    have r1 : H1 r = some (.lst (ro n fun i => .int (f i))) := by rw [← hH1, upd_ne npr, upd_ne nrl, upd_ne npr]; exact hR
    have f1 : ∀ b o, H b = some o → b ≠ p → H1 b = some o := fun b o e q => by
      rw [← hH1, upd_ne q, upd_ne (ne_of_none e hl0), upd_ne q]
      exact e
    have g1 : ∀ b, H1 b = none → H b = none := fun b e => by
      cases q : H b with
      | none => rfl
      | some o =>
        by_cases hb : b = p
        · rw [hb, p1] at e
          cases e
        · rw [f1 b o q hb] at e
          cases e
    refine ⟨_, rfl, sp, rfl, ?_⟩
    cases sp with
    | true =>
      refine iteT ?_
      refine ⟨_, rfl, r, _, rfl, .inl (SqL.of r1), fun s ds ns nds nes => ?_⟩
      rw [ro_length]
      have nps : p ≠ s := ne_of_none p1 ns
      have npds : p ≠ ds := ne_of_none p1 nds
      refine ⟨s, ds, n, rfl, hn, upd_same, fun H2 rr ads S hrr hads hinj fr => ⟨rfl, ?_⟩⟩
      have kp : ∀ b o, H1 b = some o → H2 b = some o := fun b o e => fr b o (by rw [upd_ne (ne_of_none e ns), upd_ne (ne_of_none e nds)]; exact e) (ne_of_none e ns)
      have rr1 : H1 rr = none := by
        cases q : H1 rr with
        | none => rfl
        | some o =>
          rw [upd_ne (ne_of_none q ns), upd_ne (ne_of_none q nds), q] at hrr
          cases hrr
      have ad1 : ∀ i, i < n → H1 (ads i) = none := fun i hi => by
        cases q : H1 (ads i) with
        | none => rfl
        | some o =>
          have z := (hads i hi).1
          rw [upd_ne (ne_of_none q ns), upd_ne (ne_of_none q nds), q] at z
          cases z
      refine ⟨_, rfl, p, CA, dx, _, rfl, kp _ _ p1, T.clA, T.nA_steps, (by show 2 < 1000; decide), ?_⟩
      obtain ⟨dx2, hs2⟩ := S.ins
      have nrrp : rr ≠ p := fun z => by rw [z, p1] at rr1; cases rr1
      have nrrr : rr ≠ r := fun z => by rw [z, r1] at rr1; cases rr1
      have nrrl : rr ≠ l := fun z => by rw [z, l1] at rr1; cases rr1
      have nap : ∀ i, i < n → ads i ≠ p := fun i hi z => by have q := ad1 i hi; rw [z, p1] at q; cases q
      have nar : ∀ i, i < n → ads i ≠ r := fun i hi z => by have q := ad1 i hi; rw [z, r1] at q; cases q
      have nal : ∀ i, i < n → ads i ≠ l := fun i hi z => by have q := ad1 i hi; rw [z, l1] at q; cases q
      have keep : ∀ b o, H2 b = some o → b ≠ p → upd H2 p (.ins CA dx (putF "steps" (.ref s) (putF "log" (.ref l) (putF "row" (.ref r) [])))) b = some o := fun b o e q => by
        rw [upd_ne q]
        exact e
      refine k _ l (r :: l :: rr :: (List.range n).map ads) ⟨fun b hb => ?_, List.mem_cons_self, List.mem_cons_of_mem _ List.mem_cons_self, nrl, keep _ _ (kp _ _ r1) npr, hn, ⟨dx, .ref s, upd_same, (fun z => nomatch z), fun _ => ⟨s, rfl, dx2, rr, ads, eyeM, ?_⟩⟩,
        [], keep _ _ (kp _ _ l1) nlp, (fun _ z => nomatch z), (fun z => nomatch z), Nat.le_refl _⟩ (fun b hb => ?_) fun b o e q => keep _ _ (kp _ _ (f1 b o e q)) q
      · rcases List.mem_cons.mp hb with rfl | hb
        · exact ⟨_, keep _ _ (kp _ _ r1) npr⟩
        rcases List.mem_cons.mp hb with rfl | hb
        · exact ⟨_, keep _ _ (kp _ _ l1) nlp⟩
        rcases List.mem_cons.mp hb with rfl | hb
        · exact ⟨_, keep _ _ S.rows nrrp⟩
        obtain ⟨i, hi, rfl⟩ := List.mem_map.mp hb
        have hi' := List.mem_range.mp hi
        exact ⟨_, keep _ _ (S.row i hi') (nap i hi')⟩
      · refine ⟨keep _ _ hs2 nps.symm, keep _ _ S.rows nrrp, List.mem_filter.mpr ⟨List.mem_cons_of_mem _ (List.mem_cons_of_mem _ List.mem_cons_self), decide_eq_true ⟨nrrr, nrrl⟩⟩, fun i hi => ⟨List.mem_filter.mpr ⟨?_, decide_eq_true ⟨nar i hi, nal i hi⟩⟩, (hads i hi).2⟩,
          hinj, fun i hi => keep _ _ (S.row i hi) (nap i hi), sound_eye n f⟩
        exact List.mem_cons_of_mem _ (List.mem_cons_of_mem _ (List.mem_cons_of_mem _ (List.mem_map.mpr ⟨i, List.mem_range.mpr hi, rfl⟩)))
      · rcases List.mem_cons.mp hb with rfl | hb
        · exact .inl rfl
        rcases List.mem_cons.mp hb with rfl | hb
        · exact .inr hl0
        rcases List.mem_cons.mp hb with rfl | hb
        · exact .inr (g1 _ rr1)
        obtain ⟨i, hi, rfl⟩ := List.mem_map.mp hb
        exact .inr (g1 _ (ad1 i (List.mem_range.mp hi)))
    | false =>
      refine iteF ?_
      refine ⟨_, rfl, p, CA, dx, _, rfl, p1, T.clA, T.nA_steps, (by show 2 < 1000; decide), ?_⟩
      have keep : ∀ b o, H1 b = some o → b ≠ p → upd H1 p (.ins CA dx (putF "steps" .non (putF "log" (.ref l) (putF "row" (.ref r) [])))) b = some o := fun b o e q => by
        rw [upd_ne q]
        exact e
      refine k _ l [r, l] ⟨fun b hb => ?_, List.mem_cons_self, List.mem_cons_of_mem _ List.mem_cons_self, nrl, keep _ _ r1 npr, hn, ⟨dx, .non, upd_same, (fun _ => rfl), (fun z => nomatch z)⟩,
        [], keep _ _ l1 nlp, (fun _ z => nomatch z), (fun _ => rfl), Nat.le_refl _⟩ (fun b hb => ?_) fun b o e q => keep _ _ (f1 b o e q) q
      · rcases List.mem_cons.mp hb with rfl | hb
        · exact ⟨_, keep _ _ r1 npr⟩
        rw [List.mem_singleton.mp hb]
        exact ⟨_, keep _ _ l1 nlp⟩
      · rcases List.mem_cons.mp hb with rfl | hb
        · exact .inl rfl
        rw [List.mem_singleton.mp hb]
        exact .inr hl0
end
end Hs
/-! ## part HsW6 -/
set_option Elab.async false
set_option linter.all false
set_option maxRecDepth 100000
set_option maxHeartbeats 4000000
namespace Hs
open PySem PySem.Spec PyProof.Rows L2
/-! ### Asker.less -/
theorem Ask.more {CS CA : Addr} {A : AP} {H : Hp} {cs : Cs} (S : Ask CS CA A H cs) (hsp : A.sp = true) (c : Nat × Nat) : Ask CS CA A H (cs ++ [c]) := by
  obtain ⟨ts, g1, g2, g3, g4⟩ := S.log
  exact ⟨S.fpl, S.rin, S.lin, S.rl, S.row, S.sz, S.ins, ts, g1, g2, (fun z => by rw [hsp] at z; cases z), by rw [List.length_append]; omega⟩
/-- a question is written down -/
theorem Ask.logged {CS CA : Addr} {A : AP} {H : Hp} {cs : Cs} (S : Ask CS CA A H cs) {x y : Nat} {t : Addr} (ht : H t = none) {ts : List (Addr × (Nat × Nat))}
    (g1 : H A.l = some (.lst (ts.map fun t => V.ref t.1))) (g2 : ∀ t ∈ ts, H t.1 = some (.tup [.int (t.2.1 : Int), .int (t.2.2 : Int), .bl (ltf A.f t.2.1 t.2.2)])) (g3 : A.sp = false → ts.map (·.2) = cs) (g4 : ts.length ≤ cs.length) :
    Ask CS CA A (upd (upd H t (.tup [.int (x : Int), .int (y : Int), .bl (ltf A.f x y)])) A.l (.lst ((ts.map fun t => V.ref t.1) ++ [V.ref t]))) (cs ++ [(x, y)]) := by
  have s1 : Same H (upd H t (.tup [.int (x : Int), .int (y : Int), .bl (ltf A.f x y)])) := Same.new ht
  have keep : ∀ b o, H b = some o → b ≠ A.l → upd (upd H t (.tup [.int (x : Int), .int (y : Int), .bl (ltf A.f x y)])) A.l (.lst ((ts.map fun t => V.ref t.1) ++ [V.ref t])) b = some o := fun b o e q => by
    rw [upd_ne q]
    exact s1 b o e
  have ntl : t ≠ A.l := (ne_of_none g1 ht).symm
  obtain ⟨dx, sv, h1, h2, h3⟩ := S.ins
  refine ⟨fun b hb => ?_, S.rin, S.lin, S.rl, keep _ _ S.row S.rl, S.sz, ⟨dx, sv, keep _ _ h1 (ne_of h1 g1 (by intro z; cases z)), h2, fun e => ?_⟩, ts ++ [(t, (x, y))], ?_, fun u hu => ?_, fun e => ?_, by rw [List.length_append, List.length_append]; exact Nat.add_le_add_right g4 _⟩
  · by_cases q : b = A.l
    · rw [q]
      exact ⟨_, upd_same⟩
    · obtain ⟨xs, e⟩ := S.fpl b hb
      exact ⟨xs, keep _ _ e q⟩
  · obtain ⟨s, e1, e2⟩ := h3 e
    refine ⟨s, e1, ?_⟩
    obtain ⟨dx2, rr, ads, M, q1, q2, q3, q4, q5, q6, q7⟩ := e2.ex
    exact ⟨dx2, rr, ads, M, keep _ _ q1 (ne_of q1 g1 (by intro z; cases z)), keep _ _ q2 (mem_fil q3).2.2, q3, q4, q5, fun i hi => keep _ _ (q6 i hi) (mem_fil (q4 i hi).1).2.2, q7⟩
  · rw [upd_same, List.map_append]
    rfl
  · rcases List.mem_append.mp hu with q | q
    · exact keep _ _ (g2 u q) (ne_of (g2 u q) g1 (by intro z; cases z))
    · rw [List.mem_singleton.mp q]
      show upd (upd H t _) A.l _ t = _
      rw [upd_ne ntl, upd_same]
  · rw [List.map_append, g3 e]
    rfl
def spLess (CS CA : Addr) : Sp := fun vs H Q _ => ∃ (A : AP) (x y : Nat) (cs : Cs), vs = [.ref A.p, .int (x : Int), .int (y : Int)] ∧ x < A.n ∧ y < A.n ∧ Ask CS CA A H cs ∧ cs.length ≤ 1000000 ∧
  ∀ H', Ask CS CA A H' (cs ++ [(x, y)]) → (∀ b o, H b = some o → b ∉ A.fp → H' b = some o) → Q (.bl (ltf A.f x y)) H'
abbrev N_less : List Str := ["self", "one", "other", "answer"]
theorem sc_less : FnScope N_less ["self", "one", "other"] (defScope m_Asker_less) := ⟨rfl, rfl, rfl, by decide +kernel, rfl, by decide +kernel, by decide +kernel⟩
theorem line_big {n : Nat} (h : n ≤ 1000000) : n < sizeLine := Nat.lt_of_le_of_lt h (by decide)
section
variable {P : Program} {w : World} {K : PySem.W.Frag} {mg : Str → Option Value} {base : Heap} {CS CA : Addr}
theorem ok_less (T : Txt K mg CS CA) : CalM P w K mg base 3 CA "less" ["self", "one", "other"] (spLess CS CA) := by
  have GT : CalM P w K mg base 1 CS "tells" ["self", "one", "other"] (spTells CS) := ok_tells T
  have GA : CalM P w K mg base 2 CS "add" ["self", "one", "other", "answer"] (spAdd CS) := ok_add T
  refine T.m_Asker_less.ok sc_less (fun vs H Q E h => ?_) (fun fa cdv Ar outer sh H vs Q E hr h => ?_)
  · obtain ⟨A, x, y, cs, rfl, _⟩ := h
    rfl
  · obtain ⟨A, x, y, cs, rfl, hx, hy, S, hcs, k⟩ := h
    have hr1 : Room 1 _ := hr.mono (by decide)
    refine ⟨_, pss_cons (ps_if (PW.pt (pw_and (pt_cmpR op_notN (pe_fld (pv 0) rfl) pe_non (nomark _)) (pw_and1 (pt_cmpR op_notN (pe_calM (pe_fld (pv 0) rfl) T.clS GT hr1 (pa_cons (pv 1) (pa_cons (pv 2) pa_nil))) pe_non (nomark _)))))
        (pss_one (ps_ret (pe_calM (pe_fld (pv 0) rfl) T.clS GT hr1 (pa_cons (pv 1) (pa_cons (pv 2) pa_nil))))) pss_nil)
      (pss_cons (ps_set (i := 3) sc_less.nd rfl (Or.inl rfl) (pe_cmpR op_lt (pe_ix ix_list (pe_fld (pv 0) rfl) (pv 1) (fun _ _ => rfl)) (pe_ix ix_list (pe_fld (pv 0) rfl) (pv 2) (fun _ _ => rfl)) (nomark _)))
      (pss_cons (ps_expr (pe_bm PySem.F.plainAttrs_list PySem.F.slot_list_append PySem.F.type_list_append mt_append (pe_fld (pv 0) rfl) (pa_cons (pe_tup (pa_cons (pv 1) (pa_cons (pv 2) (pa_cons (pv 3) pa_nil)))) pa_nil)))
      (pss_cons (ps_if (pt_cmpR op_notN (pe_fld (pv 0) rfl) pe_non (nomark _)) (pss_one (ps_expr (pe_calM (pe_fld (pv 0) rfl) T.clS GA hr (pa_cons (pv 1) (pa_cons (pv 2) (pa_cons (pv 3) pa_nil)))))) pss_nil)
      (pss_one (ps_ret (pv 3)))))), ?_⟩
    obtain ⟨dx, sv, h1, h2, h3⟩ := S.ins
    obtain ⟨ts, g1, g2, g3, g4⟩ := S.log
    refine ⟨_, rfl, A.p, CA, dx, _, _, rfl, h1, T.clA, T.nA_steps, fA_steps _ _ _, rfl, _, rfl, ?_⟩
    cases hsp : A.sp with
    | false =>
      rw [h2 hsp] at h1 ⊢
      refine iteF (iteF ?_)
      refine ⟨_, rfl, A.p, CA, dx, _, _, rfl, h1, T.clA, T.nA_row, fA_row _ _ _, _, rfl, A.r, _, _, _, rfl, rfl, SqL.of S.row, ro_atI hx, _, rfl, A.p, CA, dx, _, _, rfl, h1, T.clA, T.nA_row, fA_row _ _ _, _, rfl, A.r, _, _, _, rfl, rfl, SqL.of S.row, ro_atI hy, _, _, rfl, rfl, ?_⟩
      refine ⟨_, rfl, A.p, CA, dx, _, _, rfl, h1, T.clA, T.nA_log, fA_log _ _ _, .inl ⟨rfl, _, SqL.of g1⟩, _, rfl, _, rfl, _, rfl, (by show 3 ≤ sizeLine; decide), fun t ht => ?_⟩
      refine ⟨A.l, _, _, rfl, rfl, (by rw [upd_ne (ne_of_none g1 ht)]; exact g1), line_big (by rw [List.length_map]; omega), ?_⟩
      have S2 := S.logged (x := x) (y := y) ht g1 g2 g3 g4
      have fr : ∀ b o, H b = some o → b ∉ A.fp → upd (upd H t (.tup [.int (x : Int), .int (y : Int), .bl (ltf A.f x y)])) A.l (.lst ((ts.map fun t => V.ref t.1) ++ [V.ref t])) b = some o := fun b o e q => by
        rw [upd_ne (fun z => q (by rw [z]; exact S.lin)), upd_ne (ne_of_none e ht)]
        exact e
      obtain ⟨dx2, sv2, i1, i2, _⟩ := S2.ins
      rw [i2 hsp] at i1
      refine ⟨_, rfl, A.p, CA, dx2, _, _, rfl, i1, T.clA, T.nA_steps, fA_steps _ _ _, rfl, _, rfl, ?_⟩
      refine iteF ?_
      exact ⟨_, rfl, k _ S2 fr⟩
    | true =>
      obtain ⟨s, rfl, e2⟩ := h3 hsp
      obtain ⟨dxs, rr, ads, M, q1, q2, q3, q4, q5, q6, q7⟩ := e2.ex
      have SM : StM CS A.n H s rr ads M := ⟨⟨dxs, q1⟩, q2, q6⟩
      have noT : (fS A.n rr).lookup ("tells" : Str) = none := fS_no _ _ (str_ne (by decide +kernel)) (str_ne (by decide +kernel))
      have noA : (fS A.n rr).lookup ("add" : Str) = none := fS_no _ _ (str_ne (by decide +kernel)) (str_ne (by decide +kernel))
      refine iteT ?_
      refine ⟨_, rfl, A.p, CA, dx, _, _, rfl, h1, T.clA, T.nA_steps, fA_steps _ _ _, s, dxs, _, rfl, q1, noT, _, rfl, _, rfl, s, rr, A.n, ads, M, x, y, rfl, hx, hy, SM, rfl, _, rfl, ?_⟩
      rcases telV_ok q7 hx hy with ht | ht
      · rw [ht]
        refine iteF ?_
        refine ⟨_, rfl, A.p, CA, dx, _, _, rfl, h1, T.clA, T.nA_row, fA_row _ _ _, _, rfl, A.r, _, _, _, rfl, rfl, SqL.of S.row, ro_atI hx, _, rfl, A.p, CA, dx, _, _, rfl, h1, T.clA, T.nA_row, fA_row _ _ _, _, rfl, A.r, _, _, _, rfl, rfl, SqL.of S.row, ro_atI hy, _, _, rfl, rfl, ?_⟩
        refine ⟨_, rfl, A.p, CA, dx, _, _, rfl, h1, T.clA, T.nA_log, fA_log _ _ _, .inl ⟨rfl, _, SqL.of g1⟩, _, rfl, _, rfl, _, rfl, (by show 3 ≤ sizeLine; decide), fun t htn => ?_⟩
        refine ⟨A.l, _, _, rfl, rfl, (by rw [upd_ne (ne_of_none g1 htn)]; exact g1), line_big (by rw [List.length_map]; omega), ?_⟩
        have S2 := S.logged (x := x) (y := y) htn g1 g2 g3 g4
        have fr : ∀ b o, H b = some o → b ≠ A.l → upd (upd H t (.tup [.int (x : Int), .int (y : Int), .bl (ltf A.f x y)])) A.l (.lst ((ts.map fun t => V.ref t.1) ++ [V.ref t])) b = some o := fun b o e q => by
          rw [upd_ne q, upd_ne (ne_of_none e htn)]
          exact e
        have j1 := fr _ _ h1 (ne_of h1 g1 (by intro z; cases z))
        have jq1 := fr _ _ q1 (ne_of q1 g1 (by intro z; cases z))
        have jq2 := fr _ _ q2 (mem_fil q3).2.2
        have jq6 : ∀ i, i < A.n → _ := fun i hi => fr _ _ (q6 i hi) (mem_fil (q4 i hi).1).2.2
        refine ⟨_, rfl, A.p, CA, dx, _, _, rfl, j1, T.clA, T.nA_steps, fA_steps _ _ _, rfl, _, rfl, ?_⟩
        refine iteT ?_
        refine ⟨_, rfl, A.p, CA, dx, _, _, rfl, j1, T.clA, T.nA_steps, fA_steps _ _ _, s, dxs, _, rfl, jq1, noA, _, rfl, _, rfl, _, rfl, ?_⟩
        refine ⟨s, rr, A.n, A.f, ads, M, x, y, rfl, S.sz, hx, hy, ⟨⟨dxs, jq1⟩, jq2, jq6⟩, q7, ht, fun i hi => (q4 i hi).2, q5, fun H3 M3 SM3 so3 fr3 => ?_⟩
        refine ⟨_, rfl, ?_⟩
        -- the asker behind add
        have notads : ∀ b, (∀ i, i < A.n → b ≠ ads i) ∨ ∃ i, i < A.n ∧ b = ads i := fun b => by
          by_cases z : ∃ i, i < A.n ∧ b = ads i
          · exact .inr z
          · exact .inl fun i hi q => z ⟨i, hi, q⟩
        have k3 : ∀ b o, upd (upd H t (.tup [.int (x : Int), .int (y : Int), .bl (ltf A.f x y)])) A.l (.lst ((ts.map fun t => V.ref t.1) ++ [V.ref t])) b = some o → (∀ xs, o ≠ .lst xs) → H3 b = some o := fun b o e nl => by
          refine fr3 b o e fun i hi z => ?_
          rw [z, jq6 i hi] at e
          exact nl _ (Option.some.inj e).symm
        obtain ⟨dx2, sv2, i1, i2, i3⟩ := S2.ins
        obtain ⟨ts2, l1, l2, l3, l4⟩ := S2.log
        have nadr : ∀ i, i < A.n → A.r ≠ ads i := fun i hi => (mem_fil (q4 i hi).1).2.1.symm
        have nadl : ∀ i, i < A.n → A.l ≠ ads i := fun i hi => (mem_fil (q4 i hi).1).2.2.symm
        refine k H3 ⟨fun b hb => ?_, S2.rin, S2.lin, S2.rl, fr3 _ _ S2.row nadr, S2.sz, ⟨dx2, sv2, k3 _ _ i1 not_lst_ins, i2, fun e => ?_⟩, ts2, fr3 _ _ l1 nadl, fun u hu => k3 _ _ (l2 u hu) not_lst_tup, l3, l4⟩ fun b o e nb => ?_
        · rcases notads b with z | ⟨i, hi, rfl⟩
          · obtain ⟨xs, e⟩ := S2.fpl b hb
            exact ⟨xs, fr3 _ _ e z⟩
          · exact ⟨_, SM3.row i hi⟩
        · obtain ⟨s2, z1, z2⟩ := i3 e
          have : s2 = s := by
            rw [j1] at i1
            have w1 := HO.ins.inj (Option.some.inj i1)
            have w2 : (fA A.r A.l (.ref s)).lookup ("steps" : Str) = (fA A.r A.l sv2).lookup ("steps" : Str) := by rw [w1.2.2]
            rw [fA_steps, fA_steps, z1] at w2
            exact (V.ref.inj (Option.some.inj w2)).symm
          subst this
          obtain ⟨dx3, w1⟩ := SM3.ins
          exact ⟨s2, z1, dx3, rr, ads, M3, w1, SM3.rows, q3, q4, q5, SM3.row, so3⟩
        · refine fr3 b o (fr b o e fun z => nb (by rw [z]; exact S.lin)) fun i hi z => nb ?_
          rw [z]
          exact (mem_fil (q4 i hi).1).1
      · rw [ht]
        refine iteT ?_
        refine ⟨_, rfl, A.p, CA, dx, _, _, rfl, h1, T.clA, T.nA_steps, fA_steps _ _ _, s, dxs, _, rfl, q1, noT, _, rfl, _, rfl, s, rr, A.n, ads, M, x, y, rfl, hx, hy, SM, ?_⟩
        rw [ht]
        exact k H (S.more hsp _) fun b o e _ => e
end
end Hs
/-! ## part HsW7 -/
set_option Elab.async false
set_option linter.all false
set_option maxRecDepth 100000
set_option maxHeartbeats 4000000
namespace Hs
open PySem PySem.Spec PyProof.Rows L2
/-! ### sink -/
structure SnkI (CS CA : Addr) (A : AP) (a : Addr) (m : Nat) (H0 : Hp) (tot : Cs) (fin : List Nat) (k : Nat) (ys : List Nat) (r : Nat) (cs : Cs) (Hc : Hp) : Prop where
  ask : Ask CS CA A Hc cs
  fnd : Hc a = some (.lst (vN ys))
  len : m ≤ ys.length
  bnd : ∀ x, x ∈ ys → x < A.n
  fuel : m ≤ r + k
  tot : cs ++ (sinkF (ltf A.f) k ys r m).2 = tot
  fin : (sinkF (ltf A.f) k ys r m).1 = fin
  fr : ∀ b o, H0 b = some o → b ∉ A.fp → b ≠ a → Hc b = some o
theorem nth_mem {xs : List Nat} {i : Nat} (h : i < xs.length) : nth xs i ∈ xs := List.mem_of_getElem? (nth_lt h)
theorem swp_mem {xs : List Nat} {i j x : Nat} (hi : i < xs.length) (hj : j < xs.length) (h : x ∈ swp xs i j) : x ∈ xs := (swp_perm hi hj).mem_iff.mp h
def spSink (CS CA : Addr) : Sp := fun vs H Q _ => ∃ (A : AP) (a : Addr) (xs : List Nat) (r m k : Nat) (cs : Cs), vs = [.ref A.p, .ref a, .int (r : Int), .int (m : Int)] ∧ Ask CS CA A H cs ∧ H a = some (.lst (vN xs)) ∧ a ∉ A.fp ∧ m ≤ xs.length ∧
  (∀ x, x ∈ xs → x < A.n) ∧ m ≤ r + k ∧ (cs ++ (sinkF (ltf A.f) k xs r m).2).length ≤ 1000000 ∧
  ∀ H', Ask CS CA A H' (cs ++ (sinkF (ltf A.f) k xs r m).2) → H' a = some (.lst (vN (sinkF (ltf A.f) k xs r m).1)) → (∀ b o, H b = some o → b ∉ A.fp → b ≠ a → H' b = some o) → Q .non H'
abbrev N_sink : List Str := ["asker", "found", "root", "many", "child"]
theorem sc_sink : FnScope N_sink ["asker", "found", "root", "many"] (defScope s_sink) := ⟨rfl, rfl, rfl, by decide +kernel, rfl, by decide +kernel, by decide +kernel⟩
theorem noLess {r l : Addr} {sv : V} : (fA r l sv).lookup ("less" : Str) = none := fA_no _ _ _ (str_ne (by decide +kernel)) (str_ne (by decide +kernel)) (str_ne (by decide +kernel))
/-- an asker at a call of less -/
theorem Ask.at {CS CA : Addr} {A : AP} {H : Hp} {cs : Cs} (S : Ask CS CA A H cs) : ∃ dx sv, H A.p = some (.ins CA dx (fA A.r A.l sv)) := by
  obtain ⟨dx, sv, h, _⟩ := S.ins
  exact ⟨dx, sv, h⟩
abbrev rAddI : R2 := rI0 fun i j => .int (i + j)
abbrev rLtI : R2 := rI0 fun i j => .bl (decide (i < j))
/-- the child to go to -/
theorem sink_child {CS CA : Addr} {K : PySem.W.Frag} {A : AP} {a : Addr} {m : Nat} {H0 : Hp} {tot : Cs} {fin : List Nat} {k r : Nat} {ys : List Nat} {cs : Cs} {Hc : Hp} {D : Ends} (hna : a ∉ A.fp) (I : SnkI CS CA A a m H0 tot fin k ys r cs Hc) (hm : 2 * r + 1 < m) (hl : cs.length ≤ 1000000)
    (h : ∀ H', Ask CS CA A H' (cs ++ ask1 ys r m) → H' a = some (.lst (vN ys)) → (∀ b o, H0 b = some o → b ∉ A.fp → b ≠ a → H' b = some o) → D.nx [some (.ref A.p), some (.ref a), some (.int (r : Int)), some (.int (m : Int)), some (.int ((kid (ltf A.f) ys r m : Nat) : Int))] H') :
    tIfS (tAnd (tTest (tOp rLtI (tOp rAddI (tVar 4) (tC (.int 1))) (tVar 3))) (tB (tMeth CA "less" (spLess CS CA) [] E0 (tVar 0) (tCons (tOp (rIxL K) (tVar 1) (tVar 4)) (tCons (tOp (rIxL K) (tVar 1) (tOp rAddI (tVar 4) (tC (.int 1)))) tNil)))))
      (tAug 4 (tC (.int 1)) (ipI fun i j => i + j)) tNext D [some (.ref A.p), some (.ref a), some (.int (r : Int)), some (.int (m : Int)), some (.int (2 * (r : Int) + 1))] Hc := by
  have hlen := I.len
  refine ⟨_, rfl, _, _, rfl, rfl, _, rfl, _, _, rfl, rfl, _, rfl, ite2 (fun e => ?_) (fun e => ?_)⟩
  · have e1 : 2 * (r : Int) + 1 + 1 < (m : Int) := of_decide_eq_true e
    have e2 : 2 * r + 2 < m := by omega
    obtain ⟨dx, sv, hp⟩ := I.ask.at
    refine ⟨_, rfl, A.p, dx, _, rfl, hp, noLess, _, rfl, _, rfl, a, _, _, _, rfl, rfl, SqL.of I.fnd, vN_at_int (i := 2 * r + 1) (by omega) (by omega), _, rfl, _, rfl, _, _, rfl, rfl, a, _, _, _, rfl, rfl, SqL.of I.fnd, vN_at_int (i := 2 * r + 2) (by omega) (by omega), ?_⟩
    refine ⟨A, _, _, cs, rfl, I.bnd _ (nth_mem (by omega)), I.bnd _ (nth_mem (by omega)), I.ask, hl, fun H1 S1 fr1 => ⟨_, rfl, ?_⟩⟩
    have ea : ask1 ys r m = [(nth ys (2 * r + 1), nth ys (2 * r + 2))] := by unfold ask1; rw [if_pos e2]
    rw [ea] at h
    have h2 := h H1 S1 (fr1 _ _ I.fnd hna) fun b o q1 q2 q3 => fr1 _ _ (I.fr b o q1 q2 q3) q2
    unfold kid at h2
    refine ite2 (fun q => ?_) (fun q => ?_)
    · rw [if_pos ⟨e2, q⟩] at h2
      refine ⟨_, rfl, _, _, rfl, rfl, ?_⟩
      have e3 : (2 * (r : Int) + 1 + 1) = ((2 * r + 2 : Nat) : Int) := by omega
      show D.nx [_, _, _, _, some (.int (2 * (r : Int) + 1 + 1))] H1
      rw [e3]
      exact h2
    · rw [if_neg (fun z => q z.2)] at h2
      have e3 : (2 * (r : Int) + 1) = ((2 * r + 1 : Nat) : Int) := by omega
      show D.nx [_, _, _, _, some (.int (2 * (r : Int) + 1))] H1
      rw [e3]
      exact h2
  · have e1 : ¬ 2 * (r : Int) + 1 + 1 < (m : Int) := fun z => e (decide_eq_true z)
    have e2 : ¬ 2 * r + 2 < m := by omega
    have ea : ask1 ys r m = [] := by unfold ask1; rw [if_neg e2]
    rw [ea, List.append_nil] at h
    have h2 := h Hc I.ask I.fnd I.fr
    unfold kid at h2
    rw [if_neg (fun z => e2 z.1)] at h2
    have e3 : (2 * (r : Int) + 1) = ((2 * r + 1 : Nat) : Int) := by omega
    refine iteF ?_
    show D.nx [_, _, _, _, some (.int (2 * (r : Int) + 1))] Hc
    rw [e3]
    exact h2
section
variable {P : Program} {w : World} {K : PySem.W.Frag} {mg : Str → Option Value} {base : Heap} {CS CA : Addr}
theorem ok_sink (T : Txt K mg CS CA) : Cal P w K mg base 4 "sink" ["asker", "found", "root", "many"] (spSink CS CA) := by
  have GL : CalM P w K mg base 3 CA "less" ["self", "one", "other"] (spLess CS CA) := ok_less T
  have GE : Cal P w K mg base 1 "exchange" ["found", "one", "other"] spExchange := ok_exchange T.d_exchange
  refine T.d_sink.ok sc_sink (fun vs H Q E h => ?_) (fun fa cdv Ar outer sh H vs Q E hr h => ?_)
  · obtain ⟨A, a, xs, r, m, k, cs, rfl, _⟩ := h
    rfl
  · obtain ⟨A, a, xs, r0, m, k0, cs0, rfl, S, ha, hna, hm, hbn, hfu, htl, kk⟩ := h
    have hr1 : Room 1 _ := hr.mono (by decide)
    refine ⟨_, pss_one (ps_while PassesOwn.never (pt_cmpR op_lt (pe_op op_add (pe_op op_mul pe_int (pv 2)) pe_int) (pv 3) (nomark _))
      (pss_cons (ps_set (i := 4) sc_sink.nd rfl (Or.inl rfl) (pe_op op_add (pe_op op_mul pe_int (pv 2)) pe_int))
      (pss_cons (ps_if (PW.pt (pw_and (pt_cmpR op_lt (pe_op op_add (pv 4) pe_int) (pv 3) (nomark _)) (pw_and1 (pt_val (pe_calM (pv 0) T.clA GL hr (pa_cons (pe_ix ix_list (pv 1) (pv 4) (fun _ _ => rfl)) (pa_cons (pe_ix ix_list (pv 1) (pe_op op_add (pv 4) pe_int) (fun _ _ => rfl)) pa_nil)))))))
          (pss_one (ps_aug (i := 4) sc_sink.nd rfl (Or.inl rfl) pe_int ip_add)) pss_nil)
      (pss_cons (ps_if (pt_not (pt_val (pe_calM (pv 0) T.clA GL hr (pa_cons (pe_ix ix_list (pv 1) (pv 2) (fun _ _ => rfl)) (pa_cons (pe_ix ix_list (pv 1) (pv 4) (fun _ _ => rfl)) pa_nil))))) (pss_one ps_retN) pss_nil)
      (pss_cons (ps_expr (pe_cal GE hr1 rfl (pa_cons (pv 1) (pa_cons (pv 2) (pa_cons (pv 4) pa_nil)))))
      (pss_one (ps_set (i := 2) sc_sink.nd rfl (Or.inl rfl) (pv 4)))))))), ?_⟩
    generalize htot : cs0 ++ (sinkF (ltf A.f) k0 xs r0 m).2 = tot at kk htl
    generalize hfin : (sinkF (ltf A.f) k0 xs r0 m).1 = fin at kk
    refine ⟨fun k σ Hc => ∃ (ys : List Nat) (r : Nat) (cs : Cs) (v : Option V), σ = [some (.ref A.p), some (.ref a), some (.int (r : Int)), some (.int (m : Int)), v] ∧ SnkI CS CA A a m H tot fin k ys r cs Hc,
      ⟨k0, xs, r0, cs0, none, rfl, S, ha, hm, hbn, hfu, htot, hfin, fun b o e _ _ => e⟩, ?_⟩
    rintro k σ Hc ⟨ys, r, cs, v, rfl, I⟩
    refine ⟨_, rfl, _, _, rfl, rfl, .inl ⟨by decide, by decide⟩, _, _, rfl, rfl, _, rfl, _, _, rfl, rfl, _, rfl, ite2 (fun e => ?_) (fun e => ?_)⟩
    · have e1 : 2 * (r : Int) + 1 < (m : Int) := of_decide_eq_true e
      have e2 : 2 * r + 1 < m := by omega
      have hfu2 := I.fuel
      have hlen := I.len
      obtain ⟨k', rfl⟩ : ∃ k', k = k' + 1 := ⟨k - 1, by omega⟩
      have htot2 := I.tot
      have hfin2 := I.fin
      unfold sinkF at htot2 hfin2
      rw [if_pos e2] at htot2 hfin2
      have hcl : cs.length ≤ 1000000 := by
        rw [← htot2, List.length_append] at htl
        omega
      refine ⟨fun σ H' => ∃ (ys : List Nat) (r : Nat) (cs : Cs) (v : Option V), σ = [some (.ref A.p), some (.ref a), some (.int (r : Int)), some (.int (m : Int)), v] ∧ SnkI CS CA A a m H tot fin k' ys r cs H', fun σ' H' q => ⟨k', Nat.lt_succ_self _, q⟩, ?_⟩
      refine ⟨_, rfl, _, _, rfl, rfl, .inl ⟨by decide, by decide⟩, _, _, rfl, rfl, ?_⟩
      refine sink_child hna I e2 hcl fun H1 S1 a1 fr1 => ?_
      have hkid := kid_cases (ltf A.f) ys r m
      generalize kid (ltf A.f) ys r m = c at htot2 hfin2 hkid
      have hcm : c < m := by rcases hkid with ⟨z, _⟩ | ⟨z, _⟩ <;> omega
      have hrc : r < c := by rcases hkid with ⟨z, _⟩ | ⟨z, _⟩ <;> omega
      have hlr : r < ys.length := by omega
      have hlc : c < ys.length := by omega
      obtain ⟨dx, sv, hp⟩ := S1.at
      refine ⟨_, rfl, A.p, dx, _, rfl, hp, noLess, _, rfl, _, rfl, a, _, _, _, rfl, rfl, SqL.of a1, vN_at_int rfl hlr, _, rfl, _, rfl, a, _, _, _, rfl, rfl, SqL.of a1, vN_at_int rfl hlc, ?_⟩
      have hcl1 : (cs ++ ask1 ys r m).length ≤ 1000000 := by
        rw [← htot2] at htl
        split at htl <;> (simp only [List.length_append] at htl ⊢; omega)
      refine ⟨A, _, _, _, rfl, I.bnd _ (nth_mem hlr), I.bnd _ (nth_mem hlc), S1, hcl1, fun H2 S2 fr2 => ⟨_, rfl, ?_⟩⟩
      have a2 := fr2 _ _ a1 hna
      have f2 : ∀ b o, H b = some o → b ∉ A.fp → b ≠ a → H2 b = some o := fun b o q1 q2 q3 => fr2 _ _ (fr1 b o q1 q2 q3) q2
      cases hlt : ltf A.f (nth ys r) (nth ys c) with
      | false =>
        rw [if_neg (by rw [hlt]; exact Bool.false_ne_true)] at htot2 hfin2
        refine iteT ?_
        refine kk H2 ?_ ?_ f2
        · rw [← htot2, ← List.append_assoc]
          exact S2
        · rw [← hfin2]
          exact a2
      | true =>
        rw [if_pos hlt] at htot2 hfin2
        refine iteF ?_
        refine ⟨_, rfl, _, rfl, _, rfl, a, ys, r, c, rfl, a2, hlr, hlc, fun H3 a3 fr3 => ⟨_, rfl, ?_⟩⟩
        refine ⟨swp ys r c, c, cs ++ ask1 ys r m ++ [(nth ys r, nth ys c)], _, rfl, S2.kp fun b o q1 q2 => ?_, a3, by rw [swp_length]; exact hlen, fun x hx => I.bnd x (swp_mem hlr hlc hx), by omega, ?_, hfin2, fun b o q1 q2 q3 => fr3 _ _ (f2 b o q1 q2 q3) q3⟩
        · refine fr3 b o q1 fun z => ?_
          rcases q2 with q2 | q2
          · rw [z, a2] at q1
            exact q2 _ (Option.some.inj q1).symm
          · exact hna (by rw [← z]; exact q2)
        · rw [← htot2]
          simp only [List.append_assoc, List.cons_append, List.nil_append]
    · have e1 : ¬ 2 * (r : Int) + 1 < (m : Int) := fun z => e (decide_eq_true z)
      have e2 : ¬ 2 * r + 1 < m := by omega
      have htot2 := I.tot
      have hfin2 := I.fin
      have es : sinkF (ltf A.f) k ys r m = (ys, []) := by
        cases k with
        | zero => rfl
        | succ k' =>
          unfold sinkF
          rw [if_neg e2]
      rw [es] at htot2 hfin2
      have hfin3 : ys = fin := hfin2
      have htot3 : cs = tot := by
        have : cs ++ [] = tot := htot2
        rw [List.append_nil] at this
        exact this
      refine kk Hc ?_ ?_ I.fr
      · rw [← htot3]
        exact I.ask
      · rw [← hfin3]
        exact I.fnd
end
end Hs
/-! ## part HsW8 -/
set_option Elab.async false
set_option linter.all false
set_option maxRecDepth 100000
set_option maxHeartbeats 4000000
namespace Hs
open PySem PySem.Spec PyProof.Rows L2
/-! ### heap -/
theorem rgV_zero (n : Nat) : rgV 0 (n : Int) = vN (List.range n) := by
  unfold rgV vN
  rw [show ((n : Int) - 0).toNat = n by omega]
  exact List.map_congr_left fun i _ => zc i
theorem rgV_one (n : Nat) : rgV 1 (n : Int) = vN ((List.range (n - 1)).map (· + 1)) := by
  unfold rgV vN
  rw [show ((n : Int) - 1).toNat = n - 1 by omega, List.map_map]
  exact List.map_congr_left fun i _ => congrArg V.int (by show (1 : Int) + (i : Int) = ((i + 1 : Nat) : Int); omega)
theorem vN_reverse (xs : List Nat) : (vN xs).reverse = vN xs.reverse := by
  unfold vN
  rw [List.map_reverse]
theorem vN_at_get {xs : List Nat} {i x : Nat} (h : xs[i]? = some x) : (vN xs)[i]? = some (V.int (x : Int)) := by
  unfold vN
  rw [List.getElem?_map, h]
  rfl
theorem down_at {k i : Nat} (h : i < k) : (vN (List.range k)).reverse[i]? = some (V.int ((k - 1 - i : Nat) : Int)) := by
  rw [vN_reverse]
  refine vN_at_get ?_
  rw [List.getElem?_reverse (by rw [List.length_range]; exact h), List.length_range, List.getElem?_range (by omega)]
theorem down1_at {k i : Nat} (h : i < k) : (vN ((List.range k).map (· + 1))).reverse[i]? = some (V.int ((k - i : Nat) : Int)) := by
  rw [vN_reverse]
  refine vN_at_get ?_
  rw [List.getElem?_reverse (by rw [List.length_map, List.length_range]; exact h), List.length_map, List.length_range, List.getElem?_map, List.getElem?_range (by omega)]
  show some (k - 1 - i + 1) = _
  congr 1
  omega
theorem bnd30 : ∀ n, n < 31 → bB n (n / 2) + bP (n - 1) ≤ 1000000 := by decide +kernel
theorem heap_len30 (lt : Nat → Nat → Bool) {n : Nat} (hn : n ≤ 30) : (heapF lt n).2.length ≤ 1000000 := by
  unfold heapF
  refine Nat.le_trans (pops_len lt _ _ _) ?_
  have := build_len lt n (n / 2) (List.range n) []
  have := bnd30 n (by omega)
  simp only [List.length_nil] at *
  omega
theorem Ask.upd_off {CS CA : Addr} {A : AP} {H : Hp} {cs : Cs} (S : Ask CS CA A H cs) {a : Addr} {xs : List V} (ha : H a = some (.lst xs)) (hn : a ∉ A.fp) {H' : Hp} (fr : ∀ b o, H b = some o → b ≠ a → H' b = some o) : Ask CS CA A H' cs :=
  S.kp fun b o q1 q2 => fr b o q1 fun z => by
    rcases q2 with q2 | q2
    · rw [z, ha] at q1
      exact q2 _ (Option.some.inj q1).symm
    · exact hn (by rw [← z]; exact q2)
def spHeap (CS CA : Addr) : Sp := fun vs H Q _ => ∃ (A : AP) (th : Addr), vs = [.ref A.p, .ref th] ∧ Ask CS CA A H [] ∧ H th = some (.lst (vN (List.range A.n))) ∧
  ∀ (H' : Hp) (a : Addr), Ask CS CA A H' (heapF (ltf A.f) A.n).2 → H' a = some (.lst (vN (heapF (ltf A.f) A.n).1)) → H a = none → (∀ b o, H b = some o → b ∉ A.fp → H' b = some o) → Q (.ref a) H'
abbrev N_heap : List Str := ["asker", "things", "found", "root", "many"]
theorem sc_heap : FnScope N_heap ["asker", "things"] (defScope s_heap) := ⟨rfl, rfl, rfl, by decide +kernel, rfl, by decide +kernel, by decide +kernel⟩
/-- through the loops of heap: behind the list D that is walked -/
structure HpI (CS CA : Addr) (A : AP) (a : Addr) (H0 : Hp) (xs : List Nat) (cs : Cs) (Hc : Hp) : Prop where
  ask : Ask CS CA A Hc cs
  fnd : Hc a = some (.lst (vN xs))
  len : xs.length = A.n
  bnd : ∀ x, x ∈ xs → x < A.n
  fr : ∀ b o, H0 b = some o → b ∉ A.fp → b ≠ a → Hc b = some o
theorem sinkF_mem {f : Nat → Int} {x : Nat} : ∀ {k : Nat} {xs : List Nat} {r m : Nat}, m ≤ xs.length → x ∈ (sinkF (ltf f) k xs r m).1 → x ∈ xs
  | 0, xs, r, m, _, h => h
  | k + 1, xs, r, m, hm, h => by
    unfold sinkF at h
    split at h
    · rename_i hc
      split at h
      · have hkid := kid_cases (ltf f) xs r m
        have h2 := sinkF_mem (k := k) (by rw [swp_length]; exact hm) h
        exact swp_mem (by omega) (by rcases hkid with ⟨z, _⟩ | ⟨z, _⟩ <;> omega) h2
      · exact h
    · exact h
theorem sinkF_len (lt : Nat → Nat → Bool) : ∀ (k : Nat) (xs : List Nat) (r m : Nat), (sinkF lt k xs r m).1.length = xs.length
  | 0, xs, r, m => rfl
  | k + 1, xs, r, m => by
    unfold sinkF
    split
    · split
      · show (sinkF lt k _ _ _).1.length = _
        rw [sinkF_len lt k, swp_length]
      · rfl
    · rfl
section
variable {P : Program} {w : World} {K : PySem.W.Frag} {mg : Str → Option Value} {base : Heap} {CS CA : Addr}
theorem ok_heap (T : Txt K mg CS CA) : Cal P w K mg base 5 "heap" ["asker", "things"] (spHeap CS CA) := by
  have GS : Cal P w K mg base 4 "sink" ["asker", "found", "root", "many"] (spSink CS CA) := ok_sink T
  have GE : Cal P w K mg base 1 "exchange" ["found", "one", "other"] spExchange := ok_exchange T.d_exchange
  refine T.d_heap.ok sc_heap (fun vs H Q E h => ?_) (fun fa cdv Ar outer sh H vs Q E hr h => ?_)
  · obtain ⟨A, th, rfl, _⟩ := h
    rfl
  · obtain ⟨A, th, rfl, S, hth, kk⟩ := h
    have hr1 : Room 1 _ := hr.mono (by decide)
    refine ⟨_, pss_cons (ps_set (i := 2) sc_heap.nd rfl (Or.inl rfl) (pe_callTy call_list_of (by rfl) T.f_list (by decide +kernel) (pa_cons (pv 1) pa_nil)))
      (pss_cons (ps_for PassesOwn.never rfl (pi_list (pe_revL (pe_listRg rfl rfl T.f_list (prg_1 rfl T.f_range (pe_op op_fdiv (pe_callB call_len_seq (by rfl) T.f_len PySem.boot_len (pa_cons (pv 2) pa_nil)) pe_int))))) (pg_name (i := 3) sc_heap.nd rfl (Or.inl rfl))
          (pss_one (ps_expr (pe_cal GS hr rfl (pa_cons (pv 0) (pa_cons (pv 2) (pa_cons (pv 3) (pa_cons (pe_callB call_len_seq (by rfl) T.f_len PySem.boot_len (pa_cons (pv 2) pa_nil)) pa_nil))))))))
      (pss_cons (ps_for PassesOwn.never rfl (pi_list (pe_revL (pe_listRg rfl rfl T.f_list (prg_2 rfl T.f_range pe_int (pe_callB call_len_seq (by rfl) T.f_len PySem.boot_len (pa_cons (pv 2) pa_nil)))))) (pg_name (i := 4) sc_heap.nd rfl (Or.inl rfl))
          (pss_cons (ps_expr (pe_cal GE hr1 rfl (pa_cons (pv 2) (pa_cons pe_int (pa_cons (pv 4) pa_nil)))))
          (pss_one (ps_expr (pe_cal GS hr rfl (pa_cons (pv 0) (pa_cons (pv 2) (pa_cons pe_int (pa_cons (pv 4) pa_nil)))))))))
      (pss_one (ps_ret (pv 2))))), ?_⟩
    have hn := S.sz
    have htl := heap_len30 (ltf A.f) hn
    refine ⟨_, rfl, th, _, rfl, .inl (SqL.of hth), fun a ha => ?_⟩
    have s0 : Same H (upd H a (.lst (vN (List.range A.n)))) := Same.new ha
    have I0 : HpI CS CA A a H (List.range A.n) [] (upd H a (.lst (vN (List.range A.n)))) := ⟨S.kp (Kp.same s0), upd_same, List.length_range, fun x hx => List.mem_range.mp hx, fun b o e _ _ => s0 _ _ e⟩
    have hnaf : a ∉ A.fp := S.notin ha
    generalize upd H a (.lst (vN (List.range A.n))) = H1 at I0
    -- the roots
    refine ⟨_, rfl, a, _, rfl, .inl (SqL.of I0.fnd), ?_⟩
    rw [vN_length, I0.len]
    refine ⟨_, _, rfl, rfl, ⟨by decide, by decide⟩, _, rfl, RgOk.of_le (by omega) (by omega) (by omega) (by omega), fun D0 hD0 => ?_⟩
    rw [show ((A.n : Nat) : Int) / 2 = ((A.n / 2 : Nat) : Int) by omega, rgV_zero]
    refine ⟨D0, _, rfl, SqL.of upd_same, fun D hD => ⟨D, rfl, ⟨_, SqL.of upd_same⟩, ?_⟩⟩
    have I1 : HpI CS CA A a H (List.range A.n) [] (upd (upd H1 D0 (.lst (vN (List.range (A.n / 2))))) D (.lst (vN (List.range (A.n / 2))).reverse)) := by
      have sD : Same H1 (upd (upd H1 D0 (.lst (vN (List.range (A.n / 2))))) D (.lst (vN (List.range (A.n / 2))).reverse)) := (Same.new hD0).trans (Same.new hD)
      exact ⟨I0.ask.kp (Kp.same sD), sD _ _ I0.fnd, I0.len, I0.bnd, fun b o e1 e2 e3 => sD _ _ (I0.fr b o e1 e2 e3)⟩
    have nDf : D ∉ A.fp := (I0.ask.kp (Kp.of_new hD0)).notin hD
    have nDa : D ≠ a := fun z => by
      rw [z, (Same.new hD0) _ _ I0.fnd] at hD
      cases hD
    refine for_list (K := K) (a := D) (xs := (vN (List.range (A.n / 2))).reverse) (fun i σ Hc => ∃ (xs : List Nat) (cs : Cs) (v3 v4 : Option V), σ = [some (.ref A.p), some (.ref th), some (.ref a), v3, v4] ∧ HpI CS CA A a H xs cs Hc ∧ Hc D = some (.lst (vN (List.range (A.n / 2))).reverse) ∧
      buildF (ltf A.f) A.n (A.n / 2 - i) xs cs = buildF (ltf A.f) A.n (A.n / 2) (List.range A.n) []) ⟨_, _, none, none, rfl, I1, upd_same, by rw [Nat.sub_zero]⟩ (fun i σ Hc _ ⟨_, _, _, _, _, _, q, _⟩ => SqL.of q) ?_ ?_
    · rintro i v σ Hc hi ⟨xs, cs, v3, v4, rfl, I, hDc, hb⟩
      have hi2 : i < A.n / 2 := by
        have := (List.getElem?_eq_some_iff.mp hi).1
        rw [List.length_reverse, vN_length, List.length_range] at this
        exact this
      rw [down_at hi2] at hi
      cases hi
      obtain ⟨r, hr2⟩ : ∃ r, A.n / 2 - i = r + 1 := ⟨A.n / 2 - i - 1, by omega⟩
      have hrr : A.n / 2 - 1 - i = r := by omega
      rw [hr2] at hb
      rw [hrr]
      refine ⟨_, rfl, _, rfl, _, rfl, _, rfl, a, _, rfl, .inl (SqL.of I.fnd), ?_⟩
      rw [vN_length, I.len]
      replace hb : buildF (ltf A.f) A.n r (sinkF (ltf A.f) A.n xs r A.n).1 (cs ++ (sinkF (ltf A.f) A.n xs r A.n).2) = _ := hb
      have hbl : (cs ++ (sinkF (ltf A.f) A.n xs r A.n).2).length ≤ 1000000 := by
        obtain ⟨d1, q1⟩ := build_pre (ltf A.f) A.n r (sinkF (ltf A.f) A.n xs r A.n).1 (cs ++ (sinkF (ltf A.f) A.n xs r A.n).2)
        obtain ⟨d2, q2⟩ := pops_pre (ltf A.f) (A.n - 1) (buildF (ltf A.f) A.n (A.n / 2) (List.range A.n) []).1 (buildF (ltf A.f) A.n (A.n / 2) (List.range A.n) []).2
        unfold heapF at htl
        rw [q2, ← hb, q1, List.append_assoc, List.append_assoc] at htl
        rw [List.length_append] at htl ⊢
        rw [List.length_append] at htl
        omega
      refine ⟨A, a, xs, r, A.n, A.n, cs, rfl, I.ask, I.fnd, hnaf, by rw [I.len]; exact Nat.le_refl _, I.bnd, by omega, hbl, fun H' S' a' fr' => ?_⟩
      exact ⟨_, _, _, v4, rfl, ⟨S', a', by rw [sinkF_len]; exact I.len, fun x hx => I.bnd x (sinkF_mem (by rw [I.len]; exact Nat.le_refl _) hx), fun b o e1 e2 e3 => fr' _ _ (I.fr b o e1 e2 e3) e2 e3⟩, fr' _ _ hDc nDf nDa, by rw [show A.n / 2 - (i + 1) = r by omega]; exact hb⟩
    · rintro σ Hc ⟨xs, cs, v3, v4, rfl, I, hDc, hb⟩
      rw [List.length_reverse, vN_length, List.length_range, Nat.sub_self] at hb
      replace hb : (xs, cs) = buildF (ltf A.f) A.n (A.n / 2) (List.range A.n) [] := hb
      -- the pops
      refine ⟨_, rfl, a, _, rfl, .inl (SqL.of I.fnd), ?_⟩
      rw [vN_length, I.len]
      refine ⟨_, _, rfl, rfl, RgOk.of_le (by omega) (by omega) (by omega) (by omega), fun E0 hE0 => ?_⟩
      rw [rgV_one]
      refine ⟨E0, _, rfl, SqL.of upd_same, fun F hF => ⟨F, rfl, ⟨_, SqL.of upd_same⟩, ?_⟩⟩
      have sF : Same Hc (upd (upd Hc E0 (.lst (vN ((List.range (A.n - 1)).map (· + 1))))) F (.lst (vN ((List.range (A.n - 1)).map (· + 1))).reverse)) := (Same.new hE0).trans (Same.new hF)
      have J1 : HpI CS CA A a H xs cs (upd (upd Hc E0 (.lst (vN ((List.range (A.n - 1)).map (· + 1))))) F (.lst (vN ((List.range (A.n - 1)).map (· + 1))).reverse)) :=
        ⟨I.ask.kp (Kp.same sF), sF _ _ I.fnd, I.len, I.bnd, fun b o e1 e2 e3 => sF _ _ (I.fr b o e1 e2 e3)⟩
      have nFf : F ∉ A.fp := (I.ask.kp (Kp.of_new hE0)).notin hF
      have nFa : F ≠ a := fun z => by
        rw [z, (Same.new hE0) _ _ I.fnd] at hF
        cases hF
      have hp0 : popsF (ltf A.f) (A.n - 1) xs cs = heapF (ltf A.f) A.n := by
        unfold heapF
        rw [← hb]
      refine for_list (K := K) (a := F) (xs := (vN ((List.range (A.n - 1)).map (· + 1))).reverse) (fun i σ Hc => ∃ (xs : List Nat) (cs : Cs) (v3 v4 : Option V), σ = [some (.ref A.p), some (.ref th), some (.ref a), v3, v4] ∧ HpI CS CA A a H xs cs Hc ∧ Hc F = some (.lst (vN ((List.range (A.n - 1)).map (· + 1))).reverse) ∧
        popsF (ltf A.f) (A.n - 1 - i) xs cs = heapF (ltf A.f) A.n) ⟨_, _, v3, v4, rfl, J1, upd_same, by rw [Nat.sub_zero]; exact hp0⟩ (fun i σ Hc _ ⟨_, _, _, _, _, _, q, _⟩ => SqL.of q) ?_ ?_
      · rintro i v σ Hd hi ⟨ys, ds, w3, w4, rfl, J, hFc, hp⟩
        have hi2 : i < A.n - 1 := by
          have := (List.getElem?_eq_some_iff.mp hi).1
          rw [List.length_reverse, vN_length, List.length_map, List.length_range] at this
          exact this
        rw [down1_at hi2] at hi
        cases hi
        obtain ⟨m, hm2⟩ : ∃ m, A.n - 1 - i = m + 1 := ⟨A.n - 1 - i - 1, by omega⟩
        rw [hm2] at hp ⊢
        replace hp : popsF (ltf A.f) m (sinkF (ltf A.f) (m + 1) (swp ys 0 (m + 1)) 0 (m + 1)).1 (ds ++ (sinkF (ltf A.f) (m + 1) (swp ys 0 (m + 1)) 0 (m + 1)).2) = _ := hp
        have h0l : 0 < ys.length := by rw [J.len]; omega
        have hml : m + 1 < ys.length := by rw [J.len]; omega
        refine ⟨_, rfl, _, rfl, a, ys, 0, m + 1, rfl, J.fnd, h0l, hml, fun H2 a2 fr2 => ?_⟩
        have S2 := J.ask.upd_off J.fnd hnaf fr2
        have hpl : (ds ++ (sinkF (ltf A.f) (m + 1) (swp ys 0 (m + 1)) 0 (m + 1)).2).length ≤ 1000000 := by
          obtain ⟨d1, q1⟩ := pops_pre (ltf A.f) m (sinkF (ltf A.f) (m + 1) (swp ys 0 (m + 1)) 0 (m + 1)).1 (ds ++ (sinkF (ltf A.f) (m + 1) (swp ys 0 (m + 1)) 0 (m + 1)).2)
          rw [← hp, q1, List.length_append] at htl
          omega
        refine ⟨_, rfl, _, rfl, _, rfl, A, a, swp ys 0 (m + 1), 0, m + 1, m + 1, ds, rfl, S2, a2, hnaf, by rw [swp_length]; omega, fun x hx => J.bnd x (swp_mem h0l hml hx), by omega, hpl, fun H' S' a' fr' => ?_⟩
        exact ⟨_, _, w3, _, rfl, ⟨S', a', by rw [sinkF_len, swp_length]; exact J.len, fun x hx => J.bnd x (swp_mem h0l hml (sinkF_mem (by rw [swp_length]; omega) hx)), fun b o e1 e2 e3 => fr' _ _ (fr2 _ _ (J.fr b o e1 e2 e3) e3) e2 e3⟩,
          fr' _ _ (fr2 _ _ hFc nFa) nFf nFa, by rw [show A.n - 1 - (i + 1) = m by omega]; exact hp⟩
      · rintro σ Hd ⟨ys, ds, w3, w4, rfl, J, hFc, hp⟩
        rw [List.length_reverse, vN_length, List.length_map, List.length_range, Nat.sub_self] at hp
        replace hp : (ys, ds) = heapF (ltf A.f) A.n := hp
        refine ⟨_, rfl, kk Hd a ?_ ?_ ha fun b o e1 e2 => J.fr b o e1 e2 (ne_of_none e1 ha)⟩
        · rw [← hp]
          exact J.ask
        · rw [← hp]
          exact J.fnd
end
end Hs
/-! ## part HsW9 -/
set_option Elab.async false
set_option linter.all false
set_option maxRecDepth 100000
set_option maxHeartbeats 4000000
namespace Hs
open PySem PySem.Spec PyProof.Rows L2
/-! ### checks of numbers, rows, ways -/
def spIsInt : Sp := fun vs H Q _ => ∃ i lo hi : Int, vs = [.int i, .int lo, .int hi] ∧ Q (.bl (decide (lo ≤ i) && decide (i ≤ hi))) H
def spCheckNumber : Sp := fun vs H Q _ => ∃ i lo hi : Int, vs = [.int i, .int lo, .int hi] ∧ lo ≤ i ∧ i ≤ hi ∧ Q .non H
def RowIn (n : Nat) (f : Nat → Int) : Prop := n ≤ 30 ∧ ∀ i, i < n → -99 ≤ f i ∧ f i ≤ 99
def spIsRow : Sp := fun vs H Q _ => ∃ (r : Addr) (n : Nat) (f : Nat → Int), vs = [.ref r] ∧ H r = some (.lst (ro n fun i => .int (f i))) ∧ RowIn n f ∧ ∀ H', Same H H' → Q (.bl true) H'
def spCheckRow : Sp := fun vs H Q _ => ∃ (r : Addr) (n : Nat) (f : Nat → Int), vs = [.ref r] ∧ H r = some (.lst (ro n fun i => .int (f i))) ∧ RowIn n f ∧ ∀ H', Same H H' → Q .non H'
def spIsWord (K : PySem.W.Frag) : Sp := fun vs H Q _ => ∃ t : Addr, vs = [.str "sparing", .ref t] ∧ SqT K H t [.str "sparing"] ∧ Q (.bl true) H
def spIsPlain : Sp := fun vs H Q _ => ∃ t : Addr, vs = [.ref t] ∧ H t = some (.tup [.str "heap"]) ∧ ∀ H', Same H H' → Q (.bl true) H'
/-- a way: with a heap, sparing or not -/
def WayAt (H : Hp) (t : Addr) (sp : Bool) : Prop := match sp with
  | false => H t = some (.tup [.str "heap"])
  | true => ∃ u, H t = some (.tup [.str "sparing", .ref u]) ∧ H u = some (.tup [.str "heap"])
theorem WayAt.same {H H' : Hp} {t : Addr} {sp : Bool} (h : WayAt H t sp) (s : Same H H') : WayAt H' t sp := by
  cases sp with
  | false => exact s _ _ h
  | true =>
    obtain ⟨u, h1, h2⟩ := h
    exact ⟨u, s _ _ h1, s _ _ h2⟩
def spIsWay : Sp := fun vs H Q _ => ∃ (t : Addr) (sp : Bool), vs = [.ref t] ∧ WayAt H t sp ∧ ∀ H', Same H H' → Q (.bl true) H'
def spCheckWay : Sp := fun vs H Q _ => ∃ (t : Addr) (sp : Bool), vs = [.ref t] ∧ WayAt H t sp ∧ ∀ H', Same H H' → Q .non H'
section
variable {P : Program} {w : World} {K : PySem.W.Frag} {mg : Str → Option Value} {base : Heap} {CS CA : Addr}
theorem sc_is_int : FnScope ["value", "low", "high"] ["value", "low", "high"] (defScope s_is_int) := ⟨rfl, rfl, rfl, by decide +kernel, rfl, by decide +kernel, by decide +kernel⟩
theorem ok_is_int (T : Txt K mg CS CA) : Cal P w K mg base 1 "is_int" ["value", "low", "high"] spIsInt := by
  refine T.d_is_int.ok sc_is_int (fun vs H Q E h => ?_) (fun fa cdv Ar outer sh H vs Q E hr h => ?_)
  · obtain ⟨i, lo, hi, rfl, _⟩ := h
    rfl
  · obtain ⟨i, lo, hi, rfl, k⟩ := h
    refine ⟨_, pss_one (ps_ret (pe_and (pe_callB call_isi (by rfl) T.f_isinstance (by decide +kernel) (pa_cons (pv 0) (pa_cons (pe_bltn (v := .ty "int") (by rfl) T.f_int (by decide +kernel) rfl) pa_nil)))
      (pe_and (pe_not (pe_callB call_isi (by rfl) T.f_isinstance (by decide +kernel) (pa_cons (pv 0) (pa_cons (pe_bltn (v := .ty "bool") (by rfl) T.f_bool (by decide +kernel) rfl) pa_nil))))
        (pe_one (pe_chain op_le op_le (pv 1) (pv 0) (pv 2)))))), ?_⟩
    refine ⟨_, rfl, _, _, _, _, true, rfl, .ty _, .base (.int _), rfl, _, rfl, iteT ?_⟩
    refine ⟨_, rfl, _, _, _, _, false, rfl, .ty _, .base (.int _), rfl, _, rfl, _, rfl, iteT ?_⟩
    refine ⟨_, rfl, _, rfl, _, _, rfl, rfl, _, rfl, ite2 (fun e => ?_) (fun e => ?_)⟩
    · refine ⟨_, rfl, _, _, rfl, rfl, ?_⟩
      rw [e, Bool.true_and] at k
      exact k
    · rw [show decide (lo ≤ i) = false by simpa using e, Bool.false_and] at k
      exact k
theorem sc_check_number : FnScope ["value", "low", "high"] ["value", "low", "high"] (defScope s_check_number) := ⟨rfl, rfl, rfl, by decide +kernel, rfl, by decide +kernel, by decide +kernel⟩
theorem ok_check_number (T : Txt K mg CS CA) : Cal P w K mg base 2 "check_number" ["value", "low", "high"] spCheckNumber := by
  have GI : Cal P w K mg base 1 "is_int" ["value", "low", "high"] spIsInt := ok_is_int T
  refine T.d_check_number.ok sc_check_number (fun vs H Q E h => ?_) (fun fa cdv Ar outer sh H vs Q E hr h => ?_)
  · obtain ⟨i, lo, hi, rfl, _⟩ := h
    rfl
  · obtain ⟨i, lo, hi, rfl, h1, h2, k⟩ := h
    refine ⟨_, pss_one (ps_if (pt_not (pt_val (pe_cal GI hr rfl (pa_cons (pv 0) (pa_cons (pv 1) (pa_cons (pv 2) pa_nil)))))) pss_never pss_nil), ?_⟩
    refine ⟨_, rfl, _, rfl, _, rfl, i, lo, hi, rfl, _, rfl, ?_⟩
    rw [decide_eq_true h1, decide_eq_true h2]
    exact iteF k
abbrev N_is_row : List Str := ["value", "one"]
theorem sc_is_row : FnScope N_is_row ["value"] (defScope s_is_row) := ⟨rfl, rfl, rfl, by decide +kernel, rfl, by decide +kernel, by decide +kernel⟩
theorem ok_is_row (T : Txt K mg CS CA) : Cal P w K mg base 2 "is_row" ["value"] spIsRow := by
  have GI : Cal P w K mg base 1 "is_int" ["value", "low", "high"] spIsInt := ok_is_int T
  obtain ⟨tk, hmost⟩ := T.most
  refine T.d_is_row.ok sc_is_row (fun vs H Q E h => ?_) (fun fa cdv Ar outer sh H vs Q E hr h => ?_)
  · obtain ⟨r, n, f, rfl, _⟩ := h
    rfl
  · obtain ⟨r, n, f, rfl, hrw, ⟨hn, hf⟩, k⟩ := h
    refine ⟨_, pss_one (ps_ret (pe_and (pe_callB call_isi (by rfl) T.f_isinstance (by decide +kernel) (pa_cons (pv 0) (pa_cons (pe_bltn (v := .ty "list") (by rfl) T.f_list (by decide +kernel) rfl) pa_nil)))
      (pe_and (pe_cmpR op_le (pe_callB call_len_seq (by rfl) T.f_len PySem.boot_len (pa_cons (pv 0) pa_nil)) (pe_glob (v := .int 30) rfl hmost ⟨_, rfl⟩) (nomark _))
        (pe_one (pe_callB (cr_all rfl) (by rfl) T.f_all (by decide +kernel) (pa_cons
          (pe_lc (own := [("one", 1)]) (g := gName 1) (tt := tYes) (te := tCall spIsInt [] E0 (tCons (tVar 1) (tCons (tUn (rU fun i => .int (-i)) (tC (.int 99))) (tCons (tC (.int 99)) tNil))))
            rfl sc_is_row.nd (pi_list (pv 0)) (blkOk_by (N := N_is_row) (sc := defScope s_is_row) (by decide +kernel)) (fun _ _ _ _ _ => pg_name (i := 1) sc_is_row.nd rfl (Or.inl rfl)) (fun _ _ _ _ _ => pts_nil)
            (fun _ _ _ _ _ => pe_cal GI hr rfl (pa_cons (pv 1) (pa_cons (pe_un un_neg pe_int) (pa_cons pe_int pa_nil))))) pa_nil)))))), ?_⟩
    refine ⟨_, rfl, _, _, _, _, true, rfl, .ty _, .base (.lst hrw), rfl, _, rfl, iteT ?_⟩
    refine ⟨_, rfl, r, _, rfl, .inl (SqL.of hrw), _, _, rfl, rfl, ?_⟩
    rw [ro_length]
    refine ⟨true, congrArg V.bl (decide_eq_true (show (n : Int) ≤ 30 by omega)), iteT ?_⟩
    refine ⟨_, rfl, r, rfl, ⟨_, SqL.of hrw⟩, fun D hD => lc_list (K := K) (a := r) (xs := ro n fun i => .int (f i)) (fun i Hc => Hc = upd H D (.lst (ro i fun _ => .bl true))) rfl
      (fun i Hc _ e => by rw [e]; exact SqL.of ((Same.new hD) _ _ hrw)) ?_ ?_⟩
    · rintro i x Hc hi rfl
      have hin : i < n := by
        have := (List.getElem?_eq_some_iff.mp hi).1
        rw [ro_length] at this
        exact this
      rw [ro_at hin] at hi
      cases hi
      refine ⟨rfl, ?_⟩
      refine ⟨_, rfl, 99, rfl, f i, -99, 99, rfl, ?_⟩
      rw [decide_eq_true (hf i hin).1, decide_eq_true (hf i hin).2]
      exact ⟨_, upd_same, small1000 (by rw [ro_length]; omega), by rw [upd_upd, ro_succ]; rfl⟩
    · rintro Hc rfl
      rw [ro_length]
      refine ⟨D, (List.range n).map fun _ => true, rfl, SqL.of ?_, ?_⟩
      · rw [upd_same, List.map_map]
        rfl
      · rw [show ((List.range n).map fun _ => true).all id = true by simp]
        exact k _ (Same.new hD)
theorem sc_check_row : FnScope ["value"] ["value"] (defScope s_check_row) := ⟨rfl, rfl, rfl, by decide +kernel, rfl, by decide +kernel, by decide +kernel⟩
theorem ok_check_row (T : Txt K mg CS CA) : Cal P w K mg base 3 "check_row" ["value"] spCheckRow := by
  have GI : Cal P w K mg base 2 "is_row" ["value"] spIsRow := ok_is_row T
  refine T.d_check_row.ok sc_check_row (fun vs H Q E h => ?_) (fun fa cdv Ar outer sh H vs Q E hr h => ?_)
  · obtain ⟨r, n, f, rfl, _⟩ := h
    rfl
  · obtain ⟨r, n, f, rfl, hrw, hf, k⟩ := h
    refine ⟨_, pss_one (ps_if (pt_not (pt_val (pe_cal GI hr rfl (pa_cons (pv 0) pa_nil)))) pss_never pss_nil), ?_⟩
    exact ⟨_, rfl, r, n, f, rfl, hrw, hf, fun H' s => ⟨_, rfl, iteF (k H' s)⟩⟩
theorem sc_is_word : FnScope ["value", "words"] ["value", "words"] (defScope s_is_word) := ⟨rfl, rfl, rfl, by decide +kernel, rfl, by decide +kernel, by decide +kernel⟩
theorem ok_is_word (T : Txt K mg CS CA) : Cal P w K mg base 1 "is_word" ["value", "words"] (spIsWord K) := by
  refine T.d_is_word.ok sc_is_word (fun vs H Q E h => ?_) (fun fa cdv Ar outer sh H vs Q E hr h => ?_)
  · obtain ⟨t, rfl, _⟩ := h
    rfl
  · obtain ⟨t, rfl, ht, k⟩ := h
    refine ⟨_, pss_one (ps_ret (pe_and (pe_callB call_isi (by rfl) T.f_isinstance (by decide +kernel) (pa_cons (pv 0) (pa_cons (pe_bltn (v := .ty "str") (by rfl) T.f_str (by decide +kernel) rfl) pa_nil)))
      (pe_one (pe_cmpR op_in_seq (pv 0) (pv 1) rfl)))), ?_⟩
    refine ⟨_, rfl, _, _, _, _, true, rfl, .ty _, .base (.str _), rfl, _, rfl, iteT ?_⟩
    refine ⟨_, rfl, _, rfl, t, _, rfl, .inr ht, rfl, rfl, ?_⟩
    have e : inV (.str "sparing") [.str "sparing"] = true := by decide +kernel
    show Q (.bl (inV (.str "sparing") [.str "sparing"])) H
    rw [e]
    exact k
theorem sc_is_plain : FnScope ["value"] ["value"] (defScope s_is_plain) := ⟨rfl, rfl, rfl, by decide +kernel, rfl, by decide +kernel, by decide +kernel⟩
theorem ok_is_plain (T : Txt K mg CS CA) : Cal P w K mg base 1 "is_plain" ["value"] spIsPlain := by
  refine T.d_is_plain.ok sc_is_plain (fun vs H Q E h => ?_) (fun fa cdv Ar outer sh H vs Q E hr h => ?_)
  · obtain ⟨t, rfl, _⟩ := h
    rfl
  · obtain ⟨t, rfl, ht, k⟩ := h
    refine ⟨_, pss_cons (ps_if (PW.pt (pw_or (pt_not (pt_val (pe_callB call_isi (by rfl) T.f_isinstance (by decide +kernel) (pa_cons (pv 0) (pa_cons (pe_bltn (v := .ty "tuple") (by rfl) T.f_tuple (by decide +kernel) rfl) pa_nil)))))
        (pw_or (pt_cmpR op_eq (pe_callB call_len_seq (by rfl) T.f_len PySem.boot_len (pa_cons (pv 0) pa_nil)) pe_int (nomark _))
          (pw_or1 (pt_not (pt_val (pe_callB call_isi (by rfl) T.f_isinstance (by decide +kernel) (pa_cons (pe_ix ix_tup (pv 0) pe_int (fun _ _ => rfl)) (pa_cons (pe_bltn (v := .ty "str") (by rfl) T.f_str (by decide +kernel) rfl) pa_nil)))))))))
        pss_never pss_nil)
      (pss_cons (ps_if (pt_cmpR op_in_seq (pe_ix ix_tup (pv 0) pe_int (fun _ _ => rfl)) (pe_tup (pa_cons pe_str (pa_cons pe_str (pa_cons pe_str pa_nil)))) rfl)
        (pss_one (ps_ret (pe_cmpR op_eq (pe_callB call_len_seq (by rfl) T.f_len PySem.boot_len (pa_cons (pv 0) pa_nil)) pe_int (nomark _)))) pss_nil) pss_never), ?_⟩
    refine ⟨_, rfl, _, _, _, _, true, rfl, .ty _, .base (.tup ht), rfl, _, rfl, iteF ?_⟩
    refine ⟨_, rfl, t, _, rfl, .inr (SqT.of ht), rfl, _, rfl, iteF ?_⟩
    refine ⟨_, rfl, t, _, _, _, rfl, rfl, SqT.of ht, at_of (j := 0) rfl rfl, _, _, _, _, true, rfl, .ty _, .base (.str _), rfl, _, rfl, iteF ?_⟩
    refine ⟨_, rfl, t, _, _, _, rfl, rfl, SqT.of ht, at_of (j := 0) rfl rfl, (by show 3 ≤ sizeLine; decide), fun p hp => ⟨p, _, rfl, .inr (SqT.of upd_same), rfl, rfl, _, rfl, ?_⟩⟩
    have e : inV (.str "heap") [.str "heap", .str "tree", .str "ranks"] = true := by decide +kernel
    show if inV (.str "heap") [.str "heap", .str "tree", .str "ranks"] = true then _ else _
    rw [e]
    refine iteT ?_
    have s := Same.new (o := .tup [.str "heap", .str "tree", .str "ranks"]) hp
    exact ⟨_, rfl, t, _, rfl, .inr (SqT.of (s _ _ ht)), rfl, k _ s⟩
theorem sc_is_way : FnScope ["value"] ["value"] (defScope s_is_way) := ⟨rfl, rfl, rfl, by decide +kernel, rfl, by decide +kernel, by decide +kernel⟩
theorem ok_is_way (T : Txt K mg CS CA) : Cal P w K mg base 2 "is_way" ["value"] spIsWay := by
  have GW : Cal P w K mg base 1 "is_word" ["value", "words"] (spIsWord K) := ok_is_word T
  have GP : Cal P w K mg base 1 "is_plain" ["value"] spIsPlain := ok_is_plain T
  refine T.d_is_way.ok sc_is_way (fun vs H Q E h => ?_) (fun fa cdv Ar outer sh H vs Q E hr h => ?_)
  · obtain ⟨t, sp, rfl, _⟩ := h
    rfl
  · obtain ⟨t, sp, rfl, ht, k⟩ := h
    refine ⟨_, pss_cons (ps_if (PW.pt (pw_and (pt_val (pe_callB call_isi (by rfl) T.f_isinstance (by decide +kernel) (pa_cons (pv 0) (pa_cons (pe_bltn (v := .ty "tuple") (by rfl) T.f_tuple (by decide +kernel) rfl) pa_nil))))
        (pw_and (pt_cmpR op_eq (pe_callB call_len_seq (by rfl) T.f_len PySem.boot_len (pa_cons (pv 0) pa_nil)) pe_int (nomark _))
          (pw_and1 (pt_val (pe_cal GW hr rfl (pa_cons (pe_ix ix_tup (pv 0) pe_int (fun _ _ => rfl)) (pa_cons (pe_tup (pa_cons pe_str pa_nil)) pa_nil))))))))
        (pss_one (ps_ret (pe_cal GP hr rfl (pa_cons (pe_ix ix_tup (pv 0) pe_int (fun _ _ => rfl)) pa_nil)))) pss_nil)
      (pss_one (ps_ret (pe_cal GP hr rfl (pa_cons (pv 0) pa_nil)))), ?_⟩
    cases sp with
    | false =>
      have ht' : H t = some (.tup [.str "heap"]) := ht
      refine ⟨_, rfl, _, _, _, _, true, rfl, .ty _, .base (.tup ht'), rfl, _, rfl, iteT ?_⟩
      refine ⟨_, rfl, t, _, rfl, .inr (SqT.of ht'), rfl, _, rfl, iteF (iteF ?_)⟩
      exact ⟨_, rfl, t, rfl, ht', k⟩
    | true =>
      obtain ⟨u, ht', hu'⟩ := ht
      refine ⟨_, rfl, _, _, _, _, true, rfl, .ty _, .base (.tup ht'), rfl, _, rfl, iteT ?_⟩
      refine ⟨_, rfl, t, _, rfl, .inr (SqT.of ht'), rfl, _, rfl, iteT ?_⟩
      refine ⟨_, rfl, t, _, _, _, rfl, rfl, SqT.of ht', at_of (j := 0) rfl rfl, (by show 1 ≤ sizeLine; decide), fun p hp => ?_⟩
      have s := Same.new (o := .tup [.str "sparing"]) hp
      refine ⟨p, rfl, SqT.of upd_same, _, rfl, iteT ?_⟩
      exact ⟨_, rfl, t, _, _, _, rfl, rfl, SqT.of (s _ _ ht'), at_of (j := 1) rfl rfl, u, rfl, s _ _ hu', fun H' s' => k H' (s.trans s')⟩
theorem sc_check_way : FnScope ["value"] ["value"] (defScope s_check_way) := ⟨rfl, rfl, rfl, by decide +kernel, rfl, by decide +kernel, by decide +kernel⟩
theorem ok_check_way (T : Txt K mg CS CA) : Cal P w K mg base 3 "check_way" ["value"] spCheckWay := by
  have GI : Cal P w K mg base 2 "is_way" ["value"] spIsWay := ok_is_way T
  refine T.d_check_way.ok sc_check_way (fun vs H Q E h => ?_) (fun fa cdv Ar outer sh H vs Q E hr h => ?_)
  · obtain ⟨r, sp, rfl, _⟩ := h
    rfl
  · obtain ⟨t, sp, rfl, ht, k⟩ := h
    refine ⟨_, pss_one (ps_if (pt_not (pt_val (pe_cal GI hr rfl (pa_cons (pv 0) pa_nil)))) pss_never pss_nil), ?_⟩
    exact ⟨_, rfl, t, sp, rfl, ht, fun H' s => ⟨_, rfl, iteF (k H' s)⟩⟩
end
end Hs
/-! ## part HsWA -/
set_option Elab.async false
set_option linter.all false
set_option maxRecDepth 100000
set_option maxHeartbeats 4000000
namespace Hs
open PySem PySem.Spec PyProof.Rows L2
/-! ### a way on a row -/
theorem ne_heap_part : ¬ (V.str "heap" = V.str "part") := by decide +kernel
theorem ne_heap_sparing : ¬ (V.str "heap" = V.str "sparing") := by decide +kernel
/-- what heap, ordered, played_by promise -/
def HeapEnd (CS CA : Addr) (A : AP) (H : Hp) (Q : VK) : Prop := ∀ (H' : Hp) (a : Addr), Ask CS CA A H' (heapF (ltf A.f) A.n).2 → H' a = some (.lst (vN (heapF (ltf A.f) A.n).1)) → H a = none → (∀ b o, H b = some o → b ∉ A.fp → H' b = some o) → Q (.ref a) H'
def spOrdered (CS CA : Addr) : Sp := fun vs H Q _ => ∃ (A : AP) (th t : Addr), vs = [.ref A.p, .ref th, .ref t] ∧ H t = some (.tup [.str "heap"]) ∧ Ask CS CA A H [] ∧ H th = some (.lst (vN (List.range A.n))) ∧ HeapEnd CS CA A H Q
def spPlayedBy (CS CA : Addr) : Sp := fun vs H Q _ => ∃ (A : AP) (t : Addr) (sp : Bool), vs = [.ref A.p, .ref t, .int (A.n : Int)] ∧ WayAt H t sp ∧ Ask CS CA A H [] ∧ HeapEnd CS CA A H Q
/-- a list of questions with their answers -/
def LogAt (H : Hp) (l : Addr) (sp : Bool) (f : Nat → Int) (cs : Cs) : Prop := ∃ ts : List (Addr × (Nat × Nat)), H l = some (.lst (ts.map fun t => V.ref t.1)) ∧ (∀ t ∈ ts, H t.1 = some (.tup [.int (t.2.1 : Int), .int (t.2.2 : Int), .bl (ltf f t.2.1 t.2.2)])) ∧ (sp = false → ts.map (·.2) = cs) ∧ ts.length ≤ cs.length
theorem LogAt.same {H H' : Hp} {l : Addr} {sp : Bool} {f : Nat → Int} {cs : Cs} (h : LogAt H l sp f cs) (s : Same H H') : LogAt H' l sp f cs := by
  obtain ⟨ts, h1, h2, h3, h4⟩ := h
  exact ⟨ts, s _ _ h1, fun t ht => s _ _ (h2 t ht), h3, h4⟩
abbrev ordF (n : Nat) (f : Nat → Int) : List Nat := (heapF (ltf f) n).1
abbrev qsF (n : Nat) (f : Nat → Int) : Cs := (heapF (ltf f) n).2
def RowAt (H : Hp) (r : Addr) (n : Nat) (f : Nat → Int) : Prop := H r = some (.lst (ro n fun i => .int (f i)))
theorem RowAt.same {H H' : Hp} {r : Addr} {n : Nat} {f : Nat → Int} (h : RowAt H r n f) (s : Same H H') : RowAt H' r n f := s _ _ h
def spPlayed : Sp := fun vs H Q _ => ∃ (t r : Addr) (sp : Bool) (n : Nat) (f : Nat → Int), vs = [.ref t, .ref r] ∧ WayAt H t sp ∧ RowAt H r n f ∧ n ≤ 30 ∧
  ∀ (H' : Hp) (u l o : Addr), Same H H' → H' u = some (.tup [.ref l, .ref o]) → LogAt H' l sp f (qsF n f) → H' o = some (.lst (vN (ordF n f))) → Q (.ref u) H'
def spRun : Sp := fun vs H Q _ => ∃ (t r : Addr) (sp : Bool) (n : Nat) (f : Nat → Int), vs = [.ref t, .ref r] ∧ WayAt H t sp ∧ RowAt H r n f ∧ RowIn n f ∧ ∀ (H' : Hp) (l : Addr), Same H H' → LogAt H' l sp f (qsF n f) → Q (.ref l) H'
def spTold : Sp := fun vs H Q _ => ∃ (t r : Addr) (sp : Bool) (n : Nat) (f : Nat → Int), vs = [.ref t, .ref r] ∧ WayAt H t sp ∧ RowAt H r n f ∧ RowIn n f ∧ ∀ (H' : Hp) (o : Addr), Same H H' → H' o = some (.lst (vN (ordF n f))) → Q (.ref o) H'
def spSortedRow : Sp := fun vs H Q _ => ∃ (t r : Addr) (sp : Bool) (n : Nat) (f : Nat → Int), vs = [.ref t, .ref r] ∧ WayAt H t sp ∧ RowAt H r n f ∧ RowIn n f ∧ ∀ (H' : Hp) (o : Addr), Same H H' → H' o = some (.lst ((ordF n f).map fun x => .int (f x))) → Q (.ref o) H'
def spCount : Sp := fun vs H Q _ => ∃ (t r : Addr) (n : Nat) (f : Nat → Int), vs = [.ref t, .ref r] ∧ WayAt H t false ∧ RowAt H r n f ∧ RowIn n f ∧ ∀ H' : Hp, Same H H' → Q (.int ((qsF n f).length : Nat)) H'
section
variable {P : Program} {w : World} {K : PySem.W.Frag} {mg : Str → Option Value} {base : Heap} {CS CA : Addr}
abbrev N_ordered : List Str := ["asker", "things", "way", "kind", "doers"]
theorem sc_ordered : FnScope N_ordered ["asker", "things", "way"] (defScope s_ordered) := ⟨rfl, rfl, rfl, by decide +kernel, rfl, by decide +kernel, by decide +kernel⟩
theorem ok_ordered (T : Txt K mg CS CA) : Cal P w K mg base 6 "ordered" ["asker", "things", "way"] (spOrdered CS CA) := by
  have GH : Cal P w K mg base 5 "heap" ["asker", "things"] (spHeap CS CA) := ok_heap T
  refine T.d_ordered.ok sc_ordered (fun vs H Q E h => ?_) (fun fa cdv Ar outer sh H vs Q E hr h => ?_)
  · obtain ⟨A, th, t, rfl, _⟩ := h
    rfl
  · obtain ⟨A, th, t, rfl, ht, S, hth, k⟩ := h
    refine ⟨_, pss_cons (ps_set (i := 3) sc_ordered.nd rfl (Or.inl rfl) (pe_ix ix_tup (pv 2) pe_int (fun _ _ => rfl)))
      (pss_cons (ps_if (pt_cmpR op_eq (pv 3) pe_str (nomark _)) pss_never pss_nil)
      (pss_cons (ps_if (pt_cmpR op_eq (pv 3) pe_str (nomark _)) (pss_one (ps_ret (pe_cal GH hr rfl (pa_cons (pv 0) (pa_cons (pv 1) pa_nil))))) pss_nil) pss_never)), ?_⟩
    refine ⟨_, rfl, t, _, _, _, rfl, rfl, SqT.of ht, at_of (j := 0) rfl rfl, ?_⟩
    refine ⟨_, rfl, rfl, _, rfl, ?_⟩
    rw [decide_eq_false ne_heap_part]
    refine iteF ?_
    refine ⟨_, rfl, rfl, _, rfl, ?_⟩
    rw [decide_eq_true (rfl : V.str "heap" = V.str "heap")]
    refine iteT ?_
    exact ⟨_, rfl, _, rfl, A, th, rfl, S, hth, k⟩
theorem sc_played_by : FnScope ["asker", "way", "size"] ["asker", "way", "size"] (defScope s_played_by) := ⟨rfl, rfl, rfl, by decide +kernel, rfl, by decide +kernel, by decide +kernel⟩
theorem ok_played_by (T : Txt K mg CS CA) : Cal P w K mg base 7 "played_by" ["asker", "way", "size"] (spPlayedBy CS CA) := by
  have GO : Cal P w K mg base 6 "ordered" ["asker", "things", "way"] (spOrdered CS CA) := ok_ordered T
  refine T.d_played_by.ok sc_played_by (fun vs H Q E h => ?_) (fun fa cdv Ar outer sh H vs Q E hr h => ?_)
  · obtain ⟨A, t, sp, rfl, _⟩ := h
    rfl
  · obtain ⟨A, t, sp, rfl, ht, S, k⟩ := h
    refine ⟨_, pss_one (ps_ret (pe_cal GO hr rfl (pa_cons (pv 0) (pa_cons (pe_listRg rfl rfl T.f_list (prg_1 rfl T.f_range (pv 2)))
      (pa_cons (pe_ifExp (pt_cmpR op_eq (pe_ix ix_tup (pv 1) pe_int (fun _ _ => rfl)) pe_str (nomark _)) (pe_ix ix_tup (pv 1) pe_int (fun _ _ => rfl)) (pv 1)) pa_nil))))), ?_⟩
    have hn := S.sz
    refine ⟨_, rfl, _, rfl, (A.n : Int), rfl, RgOk.of_le (by omega) (by omega) (by omega) (by omega), fun th hth => ?_⟩
    rw [rgV_zero]
    have s : Same H (upd H th (.lst (vN (List.range A.n)))) := Same.new hth
    have S2 := S.kp (Kp.same s)
    have k2 : HeapEnd CS CA A (upd H th (.lst (vN (List.range A.n)))) Q := fun H' a h1 h2 h3 h4 => k H' a h1 h2 (s.free h3) fun b o e1 e2 => h4 b o (s _ _ e1) e2
    cases sp with
    | false =>
      have ht' : H t = some (.tup [.str "heap"]) := ht
      refine ⟨_, rfl, t, _, _, _, rfl, rfl, SqT.of (s _ _ ht'), at_of (j := 0) rfl rfl, rfl, _, rfl, ?_⟩
      rw [decide_eq_false ne_heap_sparing]
      refine iteF ?_
      exact ⟨_, rfl, A, th, t, rfl, s _ _ ht', S2, upd_same, k2⟩
    | true =>
      obtain ⟨u, ht', hu'⟩ := ht
      refine ⟨_, rfl, t, _, _, _, rfl, rfl, SqT.of (s _ _ ht'), at_of (j := 0) rfl rfl, rfl, _, rfl, ?_⟩
      rw [decide_eq_true (rfl : V.str "sparing" = V.str "sparing")]
      refine iteT ?_
      exact ⟨_, rfl, t, _, _, _, rfl, rfl, SqT.of (s _ _ ht'), at_of (j := 1) rfl rfl, A, th, u, rfl, s _ _ hu', S2, upd_same, k2⟩
abbrev N_played : List Str := ["way", "row", "asker", "order"]
theorem sc_played : FnScope N_played ["way", "row"] (defScope s_played) := ⟨rfl, rfl, rfl, by decide +kernel, rfl, by decide +kernel, by decide +kernel⟩
theorem ok_played (T : Txt K mg CS CA) : Cal P w K mg base 8 "played" ["way", "row"] spPlayed := by
  have GP : Cal P w K mg base 7 "played_by" ["asker", "way", "size"] (spPlayedBy CS CA) := ok_played_by T
  have GI : CalI P w K mg base 3 "Asker" CA ["self", "row", "sparing"] (spAInit CS CA) := ok_ainit T
  refine T.d_played.ok sc_played (fun vs H Q E h => ?_) (fun fa cdv Ar outer sh H vs Q E hr h => ?_)
  · obtain ⟨t, r, sp, n, f, rfl, _⟩ := h
    rfl
  · obtain ⟨t, r, sp, n, f, rfl, ht, hrw, hn, k⟩ := h
    have hr4 : Room 4 _ := hr.mono (by decide)
    refine ⟨_, pss_cons (ps_set (i := 2) sc_played.nd rfl (Or.inl rfl) (pe_calI GI hr4 rfl (pa_cons (pv 1) (pa_cons (pe_cmpR op_eq (pe_ix ix_tup (pv 0) pe_int (fun _ _ => rfl)) pe_str (nomark _)) pa_nil))))
      (pss_cons (ps_set (i := 3) sc_played.nd rfl (Or.inl rfl) (pe_cal GP hr rfl (pa_cons (pv 2) (pa_cons (pv 0) (pa_cons (pe_callB call_len_seq (by rfl) T.f_len PySem.boot_len (pa_cons (pv 1) pa_nil)) pa_nil)))))
      (pss_one (ps_ret (pe_tup (pa_cons (pe_fld (pv 2) rfl) (pa_cons (pv 3) pa_nil)))))), ?_⟩
    obtain ⟨xs0, s0, h0, h1⟩ : ∃ (rest : List V) (x0 : Str), H t = some (.tup (.str x0 :: rest)) ∧ decide (V.str x0 = V.str "sparing") = sp := by
      cases sp with
      | false => exact ⟨[], _, ht, decide_eq_false ne_heap_sparing⟩
      | true =>
        obtain ⟨u, ht', _⟩ := ht
        exact ⟨[.ref u], _, ht', decide_eq_true rfl⟩
    refine ⟨_, rfl, _, rfl, t, _, _, _, rfl, rfl, SqT.of h0, at_of (j := 0) rfl rfl, rfl, fun p dx np ndx nex => ?_⟩
    have sA : Same H (upd (upd H dx (.own p)) p (.ins CA dx [])) := fun b o e => by
      rw [upd_ne (ne_of_none e np), upd_ne (ne_of_none e ndx)]
      exact e
    refine ⟨p, dx, r, sp, n, f, by rw [h1]; rfl, hn, upd_same, sA _ _ hrw, fun H1 l fp S hfp fr => ⟨rfl, ?_⟩⟩
    have s1 : Same H H1 := fun b o e => fr b o (sA b o e) (ne_of_none e np)
    refine ⟨_, rfl, _, rfl, _, rfl, r, _, rfl, .inl (SqL.of (s1 _ _ hrw)), ?_⟩
    rw [ro_length]
    refine ⟨⟨sp, n, f, p, r, l, fp⟩, t, sp, rfl, ht.same s1, S, fun H2 o S2 ho hno fr2 => ?_⟩
    have s2 : Same H H2 := fun b ob e => by
      by_cases hb : b ∈ fp
      · rcases hfp b hb with rfl | z
        · have e2 : ob = .lst (ro n fun i => .int (f i)) := by
            rw [show H b = some (.lst (ro n fun i => .int (f i))) from hrw] at e
            exact (Option.some.inj e).symm
          rw [e2]
          exact S2.row
        · rw [sA b ob e] at z
          cases z
      · exact fr2 b ob (s1 b ob e) hb
    obtain ⟨dx2, sv, hp2, _⟩ := S2.ins
    refine ⟨_, rfl, p, CA, dx2, _, _, rfl, hp2, T.clA, T.nA_log, fA_log _ _ _, _, rfl, (by show 2 ≤ sizeLine; decide), fun u hu => ?_⟩
    have s3 : Same H2 (upd H2 u (.tup [.ref l, .ref o])) := Same.new hu
    exact k _ u l o (s2.trans s3) upd_same (LogAt.same S2.log s3) (s3 _ _ ho)
theorem sc_run : FnScope ["way", "row"] ["way", "row"] (defScope s_run) := ⟨rfl, rfl, rfl, by decide +kernel, rfl, by decide +kernel, by decide +kernel⟩
theorem ok_run (T : Txt K mg CS CA) : Cal P w K mg base 9 "run" ["way", "row"] spRun := by
  have GP : Cal P w K mg base 8 "played" ["way", "row"] spPlayed := ok_played T
  have GW : Cal P w K mg base 3 "check_way" ["value"] spCheckWay := ok_check_way T
  have GR : Cal P w K mg base 3 "check_row" ["value"] spCheckRow := ok_check_row T
  refine T.d_run.ok sc_run (fun vs H Q E h => ?_) (fun fa cdv Ar outer sh H vs Q E hr h => ?_)
  · obtain ⟨t, r, sp, n, f, rfl, _⟩ := h
    rfl
  · obtain ⟨t, r, sp, n, f, rfl, ht, hrw, hin, k⟩ := h
    have hr3 : Room 3 _ := hr.mono (by decide)
    refine ⟨_, pss_cons (ps_expr (pe_cal GW hr3 rfl (pa_cons (pv 0) pa_nil))) (pss_cons (ps_expr (pe_cal GR hr3 rfl (pa_cons (pv 1) pa_nil)))
      (pss_one (ps_ret (pe_ix ix_tup (pe_cal GP hr rfl (pa_cons (pv 0) (pa_cons (pv 1) pa_nil))) pe_int (fun _ _ => rfl))))), ?_⟩
    refine ⟨_, rfl, t, sp, rfl, ht, fun H1 s1 => ⟨_, rfl, r, n, f, rfl, s1 _ _ hrw, hin, fun H2 s2 => ?_⟩⟩
    have s12 := s1.trans s2
    refine ⟨_, rfl, _, rfl, t, r, sp, n, f, rfl, ht.same s12, hrw.same s12, hin.1, fun H3 u l o s3 hu hl ho => ?_⟩
    exact ⟨u, _, _, _, rfl, rfl, SqT.of hu, at_of (j := 0) rfl rfl, k H3 l (s12.trans s3) hl⟩
theorem sc_told : FnScope ["way", "row"] ["way", "row"] (defScope s_told_order) := ⟨rfl, rfl, rfl, by decide +kernel, rfl, by decide +kernel, by decide +kernel⟩
theorem ok_told (T : Txt K mg CS CA) : Cal P w K mg base 9 "told_order" ["way", "row"] spTold := by
  have GP : Cal P w K mg base 8 "played" ["way", "row"] spPlayed := ok_played T
  have GW : Cal P w K mg base 3 "check_way" ["value"] spCheckWay := ok_check_way T
  have GR : Cal P w K mg base 3 "check_row" ["value"] spCheckRow := ok_check_row T
  refine T.d_told_order.ok sc_told (fun vs H Q E h => ?_) (fun fa cdv Ar outer sh H vs Q E hr h => ?_)
  · obtain ⟨t, r, sp, n, f, rfl, _⟩ := h
    rfl
  · obtain ⟨t, r, sp, n, f, rfl, ht, hrw, hin, k⟩ := h
    have hr3 : Room 3 _ := hr.mono (by decide)
    refine ⟨_, pss_cons (ps_expr (pe_cal GW hr3 rfl (pa_cons (pv 0) pa_nil))) (pss_cons (ps_expr (pe_cal GR hr3 rfl (pa_cons (pv 1) pa_nil)))
      (pss_one (ps_ret (pe_callTy call_list_of (by rfl) T.f_list (by decide +kernel) (pa_cons (pe_ix ix_tup (pe_cal GP hr rfl (pa_cons (pv 0) (pa_cons (pv 1) pa_nil))) pe_int (fun _ _ => rfl)) pa_nil))))), ?_⟩
    refine ⟨_, rfl, t, sp, rfl, ht, fun H1 s1 => ⟨_, rfl, r, n, f, rfl, s1 _ _ hrw, hin, fun H2 s2 => ?_⟩⟩
    have s12 := s1.trans s2
    refine ⟨_, rfl, _, rfl, t, r, sp, n, f, rfl, ht.same s12, hrw.same s12, hin.1, fun H3 u l o s3 hu hl ho => ?_⟩
    refine ⟨u, _, _, _, rfl, rfl, SqT.of hu, at_of (j := 1) rfl rfl, o, _, rfl, .inl (SqL.of ho), fun q hq => ?_⟩
    exact k _ q ((s12.trans s3).trans (Same.new hq)) upd_same
abbrev N_sorted_row : List Str := ["way", "row", "thing"]
theorem sc_sorted_row : FnScope N_sorted_row ["way", "row"] (defScope s_sorted_row) := ⟨rfl, rfl, rfl, by decide +kernel, rfl, by decide +kernel, by decide +kernel⟩
theorem ord_mem {n : Nat} {f : Nat → Int} {x : Nat} (h : x ∈ ordF n f) : x < n := List.mem_range.mp ((heap_ok f n).2.1.mem_iff.mp h)
theorem ok_sorted_row (T : Txt K mg CS CA) : Cal P w K mg base 10 "sorted_row" ["way", "row"] spSortedRow := by
  have GP : Cal P w K mg base 9 "told_order" ["way", "row"] spTold := ok_told T
  refine T.d_sorted_row.ok sc_sorted_row (fun vs H Q E h => ?_) (fun fa cdv Ar outer sh H vs Q E hr h => ?_)
  · obtain ⟨t, r, sp, n, f, rfl, _⟩ := h
    rfl
  · obtain ⟨t, r, sp, n, f, rfl, ht, hrw, hin, k⟩ := h
    refine ⟨_, pss_one (ps_ret (pe_lc (own := [("thing", 2)]) (g := gName 2) (tt := tYes) (te := tOp (rIxL K) (tVar 1) (tVar 2)) rfl sc_sorted_row.nd (pi_list (pe_cal GP hr rfl (pa_cons (pv 0) (pa_cons (pv 1) pa_nil))))
      (blkOk_by (N := N_sorted_row) (sc := defScope s_sorted_row) (by decide +kernel)) (fun _ _ _ _ _ => pg_name (i := 2) sc_sorted_row.nd rfl (Or.inl rfl)) (fun _ _ _ _ _ => pts_nil) (fun _ _ _ _ _ => pe_ix ix_list (pv 1) (pv 2) (fun _ _ => rfl)))), ?_⟩
    refine ⟨_, rfl, _, rfl, t, r, sp, n, f, rfl, ht, hrw, hin, fun H1 o s1 ho => ⟨o, rfl, ⟨_, SqL.of ho⟩, fun D hD => ?_⟩⟩
    refine lc_list (K := K) (a := o) (xs := vN (ordF n f)) (fun i Hc => Hc = upd H1 D (.lst (((ordF n f).take i).map fun x => .int (f x)))) rfl (fun i Hc _ e => by rw [e]; exact SqL.of ((Same.new hD) _ _ ho)) ?_ ?_
    · rintro i x Hc hi rfl
      have hil : i < (ordF n f).length := by
        have := (List.getElem?_eq_some_iff.mp hi).1
        rw [vN_length] at this
        exact this
      have hix := vN_at hil
      rw [hi] at hix
      have ex := Option.some.inj hix
      subst ex
      have hxn : nth (ordF n f) i < n := ord_mem (nth_mem hil)
      refine ⟨rfl, ?_⟩
      refine ⟨_, rfl, _, rfl, r, _, _, _, rfl, rfl, SqL.of ((Same.new hD) _ _ (s1 _ _ hrw)), ro_atI hxn, ?_⟩
      have hlen : (ordF n f).length = n := (heap_ok f n).1
      have hn30 := hin.1
      refine ⟨_, upd_same, small1000 (by rw [List.length_map, List.length_take]; omega), ?_⟩
      rw [upd_upd, List.take_add_one, nth_lt hil, List.map_append]
      rfl
    · rintro Hc rfl
      rw [vN_length, List.take_length]
      exact k _ D (s1.trans (Same.new hD)) upd_same
theorem sc_count : FnScope ["way", "row"] ["way", "row"] (defScope s_count) := ⟨rfl, rfl, rfl, by decide +kernel, rfl, by decide +kernel, by decide +kernel⟩
theorem ok_count (T : Txt K mg CS CA) : Cal P w K mg base 10 "count" ["way", "row"] spCount := by
  have GP : Cal P w K mg base 9 "run" ["way", "row"] spRun := ok_run T
  refine T.d_count.ok sc_count (fun vs H Q E h => ?_) (fun fa cdv Ar outer sh H vs Q E hr h => ?_)
  · obtain ⟨t, r, n, f, rfl, _⟩ := h
    rfl
  · obtain ⟨t, r, n, f, rfl, ht, hrw, hin, k⟩ := h
    refine ⟨_, pss_one (ps_ret (pe_callB call_len_seq (by rfl) T.f_len PySem.boot_len (pa_cons (pe_cal GP hr rfl (pa_cons (pv 0) (pa_cons (pv 1) pa_nil))) pa_nil))), ?_⟩
    refine ⟨_, rfl, _, rfl, t, r, false, n, f, rfl, ht, hrw, hin, fun H1 l s1 ⟨ts, h1, h2, h3, h4⟩ => ⟨l, _, rfl, .inl (SqL.of h1), ?_⟩⟩
    have e : ts.length = (qsF n f).length := by rw [← h3 rfl, List.length_map]
    rw [List.length_map, e]
    exact k H1 s1
end
end Hs
/-! ## part HsX1 -/
set_option Elab.async false
set_option linter.all false
set_option maxRecDepth 100000
set_option maxHeartbeats 4000000
namespace Hs
open PySem PySem.Spec PyProof.Rows L2
section
variable {P : Program} {w : World} {A : Around} {E : Value → Shared → Prop} {s : Shared}
/-- C(args) of a built-in class C: its __new__, then its __init__ whatever that one's check asks -/
theorem typ_call {T nid iid : String} {args : List Value} {Q Q₁ : Value → Shared → Prop} (C : TypeCalled T nid iid) (ck : checkTypeCall T ⟨args, []⟩ = pure ())
    (mk : codeAny (model P w) A.in1 (.call (.builtin nid) ⟨.type T :: args, []⟩) (wants Q₁ E) s)
    (ini : ∀ x t, Q₁ x t → t.TypeIs x T ∧ codeAny (model P w) A.in1 (.call (.builtin iid) ⟨x :: args, []⟩) (wants (fun r u => r = .none ∧ Q x u) E) t) :
    wpAny (model P w) A (call (.type T) args) Q E s := by
  have c1 := C.notType
  have c2 := C.canCreate
  obtain ⟨_, _, c3⟩ := C.mro
  have c4 := C.made
  have c5 := C.sub
  apply wpAny_call
  apply codeAny_of_tree
  show wpAny _ _ (callAny (.type T) ⟨args, []⟩) _ _ s
  apply wpAny_pure
  refine ⟨Code.quiet_builtin _ (by decide +kernel), ?_⟩
  apply codeAny_builtin F.entry_type_call
  rw [Around.under_plain (weight_type_call_type T args []) rfl]
  repeat (any_goals (first | assumption | wp_step))
  refine codeAny_mono mk (fun r t hr => ?_)
  cases r with
  | error e => exact hr
  | ok f =>
    cases f with
    | ret x =>
      obtain ⟨ty, go⟩ := ini x t hr
      have d1 := C.init.lookup
      have d2 := C.init.bind x
      repeat (any_goals (first | assumption | wp_step))
      refine codeAny_mono go (fun r' u hu => ?_)
      cases r' with
      | error e' => exact hu
      | ok f' =>
        cases f' with
        | ret y =>
          obtain ⟨rfl, fin⟩ := hu
          repeat (any_goals (first | assumption | wp_step))
        | _ => exact False.elim hu
    | _ => exact False.elim hr
/-- set(xs) of a list of ints: a new set of them -/
theorem set_of_ints {l : Addr} {items : Array Value} (ns : List Int) {Q : Value → Shared → Prop} (hh : A.handled = none) (hl : s.heap.IsList l items) (hit : IntsAre items.toList ns) (hb : ns.length + 1 < scanBound)
    (h : ∀ (h' : Heap) (tk c : Nat), SetR w h' s.heap.objs.size (fun j => decide (j ∈ ns)) c → c ≤ ns.length → (∀ b o, s.heap.get? b = some o → h'.get? b = some o) → Q (.ref s.heap.objs.size) { s with heap := h', toks := tk }) :
    wpAny (model P w) A (call (.type "set") [.ref l]) Q E s := by
  generalize hF : ({ cls := .type "set", dict := none, data := .set #[] 0 (.fresh 0 0 (!w.params.followText "set-order")) } : Obj) = Fr
  have cnt : items.size = ns.length := by
    have := IntsAre.length hit
    rwa [Array.length_toList] at this
  refine typ_call (Q₁ := fun x t => x = .ref s.heap.objs.size ∧ t = { s with heap := s.heap.push Fr }) F.called_set (F.typeCall_set_1 _) ?_ ?_
  · subst hF
    exact code_set_led1 (.ref l) ⟨rfl, rfl⟩
  · rintro x t ⟨rfl, rfl⟩
    have there : (s.heap.push Fr).get? s.heap.objs.size = some Fr := by
      subst hF
      exact Heap.get?_push_size _ rfl
    have ty : Shared.TypeIs { s with heap := s.heap.push Fr } (.ref s.heap.objs.size) "set" := ⟨Fr, there, by subst hF; rfl⟩
    refine ⟨ty, codeAny_call_builtin F.called_set.init.plain F.entry_set_init (check_set_init_1 ty ?_)⟩
    have hlp : (s.heap.push Fr).IsList l items := hl.push _
    obtain ⟨⟨q1, q2, q3, q4⟩, hol, hcl, nl, hdl⟩ := id hlp
    simp only at hcl hdl
    subst hcl hdl hF
    have z1 := F.sub_list_set
    have z2 := F.sub_list_frozenset
    have z3 : (Value.type "list" == Value.type "dict") = false := by decide
    unfold Builtin.«set.__init__» noKeywords Builtin.Frozenset.updateFrom
    generalize hPI : pyIter = PI
    wp_walk
    subst hPI
    generalize hG : s.heap.push { cls := .type "set", dict := none, data := .set #[] 0 (.fresh 0 0 (!w.params.followText "set-order")) } = G at there hlp hol ty
    have gs : G.objs.size = s.heap.objs.size + 1 := by
      rw [← hG]
      exact Heap.size_push ..
    have old : ∀ b o, s.heap.get? b = some o → G.get? b = some o := fun b o e => by
      rw [← hG]
      exact Heap.get?_push_of_some _ e
    have lt_l : l < G.objs.size := Heap.lt_size hol
    have l_S : l ≠ s.heap.objs.size := by
      intro z
      rw [z, there] at hol
      have q : Value.type "set" = Value.type "list" := congrArg (fun o : Obj => o.cls) (Option.some.inj hol)
      exact absurd (Value.type.inj q) (by decide)
    refine wpAny_pyIter_list hlp (wpAny_bind (wpAny_runValue ?_))
    have hd3 : A.in1.in1.in1.handled = none := hh
    have vals : ∀ (i : Nat) (v : Value), items[i]? = some v → ∃ k t, ns[i]? = some k ∧ v = .int k t := fun i v hv => by
      have hi : i < items.size := (Array.getElem?_eq_some_iff.mp hv).1
      obtain ⟨t, e⟩ := PyProof.Rows.IntsAre.int_at hit i v (by rw [Array.getElem?_toList]; exact hv)
      rw [cnt] at hi
      have hk := List.getElem?_eq_getElem hi
      refine ⟨_, t, hk, ?_⟩
      rw [e, List.getD_eq_getElem?_getD, hk]
      rfl
    have nS : s.heap.objs.size ∉ [G.objs.size, l] := by
      rw [gs]
      simp only [List.mem_cons, List.not_mem_nil, or_false, not_or]
      exact ⟨Nat.ne_of_lt (Nat.lt_succ_self _), l_S.symm⟩
    refine set_update_ints ((Walks.list hd3 G.objs.size l (Nat.ne_of_lt lt_l) items).toS) s.heap.objs.size nS ns cnt hb vals (items.size - 0) 0 _ (by omega) (Nat.zero_le _) ⟨⟨_, Heap.get?_push_size _ rfl, rfl, rfl⟩, hlp.push _⟩
      ⟨0, Nat.le_refl 0, setR_new_at (Heap.get?_push_of_some _ there)⟩ ?_
    rintro ⟨h2, g2, d2, t2, o2⟩ c mv hc R
    obtain rfl : g2 = s.gens := mv.gens
    obtain rfl : d2 = s.drawn := mv.drawn
    obtain rfl : o2 = s.os := mv.os
    rw [cnt] at hc
    refine wpAny_pure ?_
    show wpAny _ _ (ret Value.none) _ _ _
    refine wpAny_pure ⟨rfl, h h2 t2 c R hc fun b o e => ?_⟩
    have hbs : b < s.heap.objs.size := Heap.lt_size e
    refine mv.heap b o ?_ (Heap.get?_push_of_some _ (old b o e))
    simp only [List.mem_cons, List.not_mem_nil, or_false, not_or]
    exact ⟨Nat.ne_of_lt hbs, by rw [gs]; exact Nat.ne_of_lt (Nat.lt_succ_of_lt hbs)⟩
end
/-- set(xs) as a rule -/
def rSetI (K : PySem.W.Frag) (w : World) : List V → Hp → VK → Prop := fun xs H Q => ∃ (l : Addr) (ns : List Int), xs = [.ref l] ∧ SqL K H l (ns.map V.int) ∧ ns.length + 1 < scanBound ∧
  ∀ (p : Addr) (c : Nat), H p = none → c ≤ ns.length → Q (.ref p) (upd H p (SetO w p (fun j => decide (j ∈ ns)) c))
theorem cr_setI {X : Cx} (hc : X.calm = true) : CallR X (.type "set") (rSetI X.K X.w) := by
  intro pins s σ H xs us Q I r h
  obtain ⟨l, ns, rfl, hl, hb, q⟩ := h
  rw [Vals.ref1 r]
  obtain ⟨its, rv, pl, hz⟩ := I.list hl
  refine set_of_ints ns (I.ok.hd hc) pl.isList (ints_of_vals rv) hb fun h' tk c R hcl k => ?_
  have hn : H s.heap.objs.size = none := I.hok.fresh (Nat.le_refl _)
  exact ⟨.ref s.heap.objs.size, upd H s.heap.objs.size (SetO X.w s.heap.objs.size (fun j => decide (j ∈ ns)) c), I.laid (t' := tk) k (Nat.le_refl _) (setO_new R), rfl, q _ c hn hcl⟩
end Hs
/-! ## part HsWB -/
set_option Elab.async false
set_option linter.all false
set_option maxRecDepth 100000
set_option maxHeartbeats 4000000
namespace Hs
open PySem PySem.Spec PyProof.Rows L2
/-! ### the plain row of a row: the mathematics -/
def ins1 (x : Int) : List Int → List Int
  | [] => [x]
  | y :: r => if x < y then x :: y :: r else if x = y then y :: r else y :: ins1 x r
def uniq (ns : List Int) : List Int := ns.foldr ins1 []
theorem ins1_mem (x : Int) : ∀ (l : List Int) (k : Int), k ∈ ins1 x l ↔ k = x ∨ k ∈ l
  | [], k => by simp [ins1]
  | y :: r, k => by
    unfold ins1
    split
    · rw [List.mem_cons]
    · split
      · rename_i h1 h2
        subst h2
        rw [List.mem_cons]
        constructor
        · exact fun q => .inr q
        · rintro (q | q)
          · exact .inl q
          · exact q
      · rw [List.mem_cons, List.mem_cons, ins1_mem x r k]
        constructor
        · rintro (q | q | q)
          · exact .inr (.inl q)
          · exact .inl q
          · exact .inr (.inr q)
        · rintro (q | q | q)
          · exact .inr (.inl q)
          · exact .inl q
          · exact .inr (.inr q)
theorem ins1_up (x : Int) : ∀ l : List Int, l.Pairwise (· < ·) → (ins1 x l).Pairwise (· < ·)
  | [], _ => by simp [ins1]
  | y :: r, h => by
    obtain ⟨h1, h2⟩ := List.pairwise_cons.mp h
    unfold ins1
    split
    · rename_i hx
      refine List.pairwise_cons.mpr ⟨fun k hk => ?_, h⟩
      rcases List.mem_cons.mp hk with q | q
      · rw [q]; exact hx
      · have := h1 k q; omega
    · split
      · exact h
      · rename_i hx hy
        refine List.pairwise_cons.mpr ⟨fun k hk => ?_, ins1_up x r h2⟩
        rcases (ins1_mem x r k).mp hk with q | q
        · omega
        · exact h1 k q
theorem uniq_mem : ∀ (ns : List Int) (k : Int), k ∈ uniq ns ↔ k ∈ ns
  | [], k => Iff.rfl
  | x :: r, k => by
    show k ∈ ins1 x (uniq r) ↔ _
    rw [ins1_mem, uniq_mem r k, List.mem_cons]
theorem uniq_up : ∀ ns : List Int, (uniq ns).Pairwise (· < ·)
  | [] => List.Pairwise.nil
  | x :: r => ins1_up x _ (uniq_up r)
/-- strictly rising lists of the same members are one -/
theorem up_unique : ∀ {a b : List Int}, a.Pairwise (· < ·) → b.Pairwise (· < ·) → (∀ k, k ∈ a ↔ k ∈ b) → a = b
  | [], [], _, _, _ => rfl
  | [], y :: r, _, _, h => absurd ((h y).mpr List.mem_cons_self) (by simp)
  | x :: r, [], _, _, h => absurd ((h x).mp List.mem_cons_self) (by simp)
  | x :: r, y :: q, ha, hb, h => by
    obtain ⟨a1, a2⟩ := List.pairwise_cons.mp ha
    obtain ⟨b1, b2⟩ := List.pairwise_cons.mp hb
    have e : x = y := by
      have p1 := (h x).mp List.mem_cons_self
      have p2 := (h y).mpr List.mem_cons_self
      rcases List.mem_cons.mp p1 with z | z
      · exact z
      · rcases List.mem_cons.mp p2 with z2 | z2
        · exact z2.symm
        · have := b1 x z
          have := a1 y z2
          omega
    subst e
    have := up_unique a2 b2 (fun k => by
      constructor
      · intro hk
        have q1 := (h k).mp (List.mem_cons_of_mem _ hk)
        rcases List.mem_cons.mp q1 with z | z
        · have := a1 k hk; omega
        · exact z
      · intro hk
        have q1 := (h k).mpr (List.mem_cons_of_mem _ hk)
        rcases List.mem_cons.mp q1 with z | z
        · have := b1 k hk; omega
        · exact z)
    rw [this]
def plainL (ns : List Int) : List Int := ns.map fun x => (((uniq ns).idxOf x : Nat) : Int)
theorem plainL_length (ns : List Int) : (plainL ns).length = ns.length := by unfold plainL; rw [List.length_map]

/-! ### plain_of -/
theorem vI_at {ns : List Int} {i : Nat} {v : V} (h : (ns.map V.int)[i]? = some v) : ∃ z, ns[i]? = some z ∧ v = V.int z := by
  rw [List.getElem?_map] at h
  cases e : ns[i]? with
  | none =>
    rw [e] at h
    cases h
  | some z =>
    rw [e] at h
    exact ⟨z, rfl, (Option.some.inj h).symm⟩
theorem flat_ints (ns : List Int) : (ns.map V.int).all flatV = true := by
  rw [List.all_map, List.all_eq_true]
  exact fun _ _ => rfl
theorem eqV_int (a b : Int) : eqV (.int a) (.int b) = (a == b) := rfl
def spPlainOf : Sp := fun vs H Q _ => ∃ (r : Addr) (ns : List Int), vs = [.ref r] ∧ H r = some (.lst (ns.map V.int)) ∧ ns.length ≤ 30 ∧ ∀ (H' : Hp) (p : Addr), Same H H' → H' p = some (.lst ((plainL ns).map V.int)) → Q (.ref p) H'
section
variable {P : Program} {w : World} {K : PySem.W.Frag} {mg : Str → Option Value} {base : Heap} {CS CA : Addr}
abbrev N_plain_of : List Str := ["row", "unlike", "one"]
theorem sc_plain_of : FnScope N_plain_of ["row"] (defScope s_plain_of) := ⟨rfl, rfl, rfl, by decide +kernel, rfl, by decide +kernel, by decide +kernel⟩
theorem ok_plain_of (T : Txt K mg CS CA) : Cal P w K mg base 1 "plain_of" ["row"] spPlainOf := by
  refine T.d_plain_of.ok sc_plain_of (fun vs H Q E h => ?_) (fun fa cdv Ar outer sh H vs Q E hr h => ?_)
  · obtain ⟨r, ns, rfl, _⟩ := h
    rfl
  · obtain ⟨r, ns, rfl, hrw, hl, k⟩ := h
    refine ⟨_, pss_cons (ps_set (i := 1) sc_plain_of.nd rfl (Or.inr rfl) (pe_callB (cr_sortedSet rfl) (by rfl) T.f_sorted (by decide +kernel) (pa_cons (pe_callTy (cr_setI rfl) (by rfl) T.f_set (by decide +kernel) (pa_cons (pv 0) pa_nil)) pa_nil)))
      (pss_one (ps_ret (pe_lc (own := [("one", 2)]) (g := gName 2) (tt := tYes) (te := tBM K "list" (rIndex K) (tVar 1) (tCons (tVar 2) tNil)) rfl sc_plain_of.nd (pi_list (pv 0)) (blkOk_by (N := N_plain_of) (sc := defScope s_plain_of) (by decide +kernel))
        (fun _ _ _ _ _ => pg_name (i := 2) sc_plain_of.nd rfl (Or.inl rfl)) (fun _ _ _ _ _ => pts_nil)
        (fun _ _ _ _ _ => pe_bm PySem.F.plainAttrs_list PySem.F.slot_list_index PySem.F.type_list_index mt_index (pv 1) (pa_cons (pv 2) pa_nil))))), ?_⟩
    refine ⟨_, rfl, r, ns, rfl, SqL.of hrw, by unfold scanBound; omega, fun q c hq hc => ?_⟩
    refine ⟨q, _, c, rfl, upd_same, by omega, fun us p up mem hlen hp => ?_⟩
    have eu : us = uniq ns := up_unique up (uniq_up ns) fun z => by
      rw [mem z, uniq_mem]
      exact decide_eq_true_iff
    subst eu
    generalize SetO _ q (fun j => decide (j ∈ ns)) c = so at hp ⊢
    generalize hH1 : upd (upd H q so) p (.lst ((uniq ns).map V.int)) = H1
    have s1 : Same H H1 := by
      rw [← hH1]
      exact (Same.new hq).trans (Same.new hp)
    have hu : H1 p = some (.lst ((uniq ns).map V.int)) := by
      rw [← hH1]
      exact upd_same
    refine ⟨_, rfl, r, rfl, ⟨_, SqL.of (s1 _ _ hrw)⟩, fun D hD => lc_list (K := K) (a := r) (xs := ns.map V.int) (fun i Hc => Hc = upd H1 D (.lst (((plainL ns).take i).map V.int))) rfl
      (fun i Hc _ e => by rw [e]; exact SqL.of ((Same.new hD) _ _ (s1 _ _ hrw))) ?_ ?_⟩
    · rintro i x Hc hi rfl
      obtain ⟨z, hz, rfl⟩ := vI_at hi
      have hzm : z ∈ uniq ns := (uniq_mem ns z).mpr (List.mem_of_getElem? hz)
      have hil : i < ns.length := (List.getElem?_eq_some_iff.mp hz).1
      have hix : (uniq ns).idxOf z < (uniq ns).length := List.idxOf_lt_length_of_mem hzm
      refine ⟨rfl, ?_⟩
      refine ⟨_, rfl, .inl ⟨rfl, _, SqL.of ((Same.new hD) _ _ hu)⟩, _, rfl, p, (uniq ns).map V.int, .int z, (uniq ns).idxOf z, .int z, rfl, rfl, SqL.of ((Same.new hD) _ _ hu), rfl, flat_ints _, ?_, by rw [eqV_int]; simp, fun m z' hm hz' => ?_, ?_⟩
      · rw [List.getElem?_map, List.getElem?_eq_getElem hix, List.getElem_idxOf]
        rfl
      · obtain ⟨y, hy, rfl⟩ := vI_at hz'
        rw [eqV_int]
        have hml : m < (uniq ns).length := (List.getElem?_eq_some_iff.mp hy).1
        have hne : (uniq ns)[m] ≠ z := fun q => by
          have := List.not_of_lt_findIdx (xs := uniq ns) (p := (· == z)) (i := m) hm
          simp [q] at this
        rw [List.getElem?_eq_getElem hml] at hy
        rw [← Option.some.inj hy]
        simpa using hne
      · refine ⟨_, upd_same, small1000 (by rw [List.length_map, List.length_take, plainL_length]; omega), ?_⟩
        have hpl : (plainL ns)[i]? = some (((uniq ns).idxOf z : Nat) : Int) := by
          unfold plainL
          rw [List.getElem?_map, hz]
          rfl
        rw [upd_upd, List.take_add_one, hpl, List.map_append]
        rfl
    · rintro Hc rfl
      rw [List.length_map, List.take_of_length_le (by rw [plainL_length]; exact Nat.le_refl _)]
      exact k _ D (s1.trans (Same.new hD)) upd_same
end
end Hs
/-! ## part HsWC -/
set_option Elab.async false
set_option linter.all false
set_option maxRecDepth 100000
set_option maxHeartbeats 4000000
namespace Hs
open PySem PySem.Spec PyProof.Rows L2
/-! ### the plain rows of a size: the mathematics -/
def rowSt (n : Nat) (r : List Int) : List (List Int) := (List.range n).map fun k : Nat => r ++ [(k : Int)]
def rowsN (n : Nat) : Nat → List (List Int)
  | 0 => [[]]
  | i + 1 => (rowsN n i).flatMap (rowSt n)
def allPl (n : Nat) : List (List Int) := (rowsN n n).filter fun r => decide (plainL r = r)
theorem rowsN_few : ∀ n, n ≤ 2 → ∀ i, i ≤ n → (rowsN n i).length ≤ 4 ∧ ∀ r ∈ rowsN n i, r.length ≤ 2 := by decide +kernel
theorem eqvAll_ints : ∀ a b : List Int, PyData.eqvAll (a.map PyData.int) (b.map PyData.int) = decide (a = b)
  | [], [] => by simp [PyData.eqvAll]
  | [], _ :: _ => by simp [PyData.eqvAll]
  | _ :: _, [] => by simp [PyData.eqvAll]
  | x :: a, y :: b => by
    have ih := eqvAll_ints a b
    show (PyData.eqv (.int x) (.int y) && PyData.eqvAll (a.map PyData.int) (b.map PyData.int)) = _
    rw [ih]
    show ((x == y) && decide (a = b)) = _
    by_cases h1 : x = y
    · subst h1
      by_cases h2 : a = b
      · subst h2; simp
      · simp [h2]
    · simp [h1]
theorem eqv_ints (a b : List Int) : PyData.eqv (.list (a.map PyData.int)) (.list (b.map PyData.int)) = decide (a = b) := by
  rw [← eqvAll_ints]
  rfl
theorem dpAll_ints (K : PySem.W.Frag) (H : Hp) : ∀ ns : List Int, DpAll K H (ns.map V.int) (ns.map PyData.int)
  | [] => .nil
  | x :: r => .cons (.int x) (dpAll_ints K H r)
theorem dp_ints {K : PySem.W.Frag} {H : Hp} {a : Addr} {ns : List Int} (h : SqL K H a (ns.map V.int)) : Dp K H (.ref a) (.list (ns.map PyData.int)) := .lst h (dpAll_ints K H ns)
theorem depth_ints : ∀ ns : List Int, PyData.depthAll (ns.map PyData.int) = 0
  | [] => rfl
  | x :: r => by
    show max (PyData.depth (.int x)) (PyData.depthAll (r.map PyData.int)) = 0
    rw [depth_ints r]
    rfl
theorem lay_ints : ∀ ns : List Int, PyData.canLayAll0 (ns.map PyData.int) = true
  | [] => rfl
  | x :: r => by
    show (PyData.canLay0 (.int x) && PyData.canLayAll0 (r.map PyData.int)) = true
    rw [lay_ints r]
    rfl
theorem shaped_ints (ns : List Int) : SeqAt.shaped (.list (ns.map PyData.int)) = true := by
  unfold SeqAt.shaped
  have h1 : PyData.canLay0 (.list (ns.map PyData.int)) = true := lay_ints ns
  have h2 : PyData.depth (.list (ns.map PyData.int)) = 1 := by
    show PyData.depthAll (ns.map PyData.int) + 1 = 1
    rw [depth_ints]
  rw [h1, h2]
  rfl
/-- a list of rows -/
def rowD (rs : List (List Int)) : List PyData := rs.map fun r => .list (r.map PyData.int)
theorem lay_rows : ∀ rs : List (List Int), PyData.canLayAll0 (rowD rs) = true
  | [] => rfl
  | x :: r => by
    show (PyData.canLayAll0 (x.map PyData.int) && PyData.canLayAll0 (rowD r)) = true
    rw [lay_rows r, lay_ints x]
    rfl
theorem depth_rows : ∀ rs : List (List Int), PyData.depthAll (rowD rs) ≤ 1
  | [] => Nat.zero_le _
  | x :: r => by
    show max (PyData.depthAll (x.map PyData.int) + 1) (PyData.depthAll (rowD r)) ≤ 1
    have := depth_rows r
    rw [depth_ints x]
    omega
theorem shaped_rows (rs : List (List Int)) : SeqAt.shaped (.list (rowD rs)) = true := by
  unfold SeqAt.shaped
  have h1 : PyData.canLay0 (.list (rowD rs)) = true := lay_rows rs
  have h2 : PyData.depth (.list (rowD rs)) ≤ 64 := by
    show PyData.depthAll (rowD rs) + 1 ≤ 64
    have := depth_rows rs
    omega
  rw [h1, decide_eq_true h2]
  rfl
/-- a list of rows in the heap: the addresses with their rows -/
def RowsAt (H : Hp) (a : Addr) (ps : List (Addr × List Int)) : Prop := H a = some (.lst (ps.map fun p => V.ref p.1)) ∧ ∀ p ∈ ps, H p.1 = some (.lst (p.2.map V.int))
theorem RowsAt.same {H H' : Hp} {a : Addr} {ps : List (Addr × List Int)} (h : RowsAt H a ps) (s : Same H H') : RowsAt H' a ps := ⟨s _ _ h.1, fun p hp => s _ _ (h.2 p hp)⟩
theorem dpAll_rows {K : PySem.W.Frag} {H : Hp} : ∀ ps : List (Addr × List Int), (∀ p ∈ ps, H p.1 = some (.lst (p.2.map V.int))) → DpAll K H (ps.map fun p => V.ref p.1) (rowD (ps.map (·.2)))
  | [], _ => .nil
  | p :: r, h => .cons (dp_ints (SqL.of (h p List.mem_cons_self))) (dpAll_rows r fun q hq => h q (List.mem_cons_of_mem _ hq))
theorem RowsAt.dp {K : PySem.W.Frag} {H : Hp} {a : Addr} {ps : List (Addr × List Int)} (h : RowsAt H a ps) : Dp K H (.ref a) (.list (rowD (ps.map (·.2)))) := .lst (SqL.of h.1) (dpAll_rows ps h.2)
/-! ### all_plain -/
def spAllPlain : Sp := fun vs H Q _ => ∃ n : Nat, vs = [.int (n : Int)] ∧ n ≤ 2 ∧ ∀ (H' : Hp) (a : Addr) (ps : List (Addr × List Int)), Same H H' → RowsAt H' a ps → ps.map (·.2) = allPl n → Q (.ref a) H'
theorem refs_at {ps : List (Addr × List Int)} {i : Nat} {v : V} (h : (ps.map fun p => V.ref p.1)[i]? = some v) : ∃ p, ps[i]? = some p ∧ v = V.ref p.1 := by
  rw [List.getElem?_map] at h
  cases e : ps[i]? with
  | none =>
    rw [e] at h
    cases h
  | some p =>
    rw [e] at h
    exact ⟨p, rfl, (Option.some.inj h).symm⟩
theorem take_snd {ps : List (Addr × List Int)} {rows : List (List Int)} (h : ps.map (·.2) = rows) {i : Nat} {p : Addr × List Int} (hp : ps[i]? = some p) : rows[i]? = some p.2 := by
  rw [← h, List.getElem?_map, hp]
  rfl
section
variable {P : Program} {w : World} {K : PySem.W.Frag} {mg : Str → Option Value} {base : Heap} {CS CA : Addr}
abbrev N_all_plain : List Str := ["size", "found", "place", "longer", "row", "one"]
theorem sc_all_plain : FnScope N_all_plain ["size"] (defScope s_all_plain) := ⟨rfl, rfl, rfl, by decide +kernel, rfl, by decide +kernel, by decide +kernel⟩
theorem ok_all_plain (T : Txt K mg CS CA) : Cal P w K mg base 2 "all_plain" ["size"] spAllPlain := by
  have GP : Cal P w K mg base 1 "plain_of" ["row"] spPlainOf := ok_plain_of T
  refine T.d_all_plain.ok sc_all_plain (fun vs H Q E h => ?_) (fun fa cdv Ar outer sh H vs Q E hr h => ?_)
  · obtain ⟨n, rfl, _⟩ := h
    rfl
  · obtain ⟨n, rfl, hn, k⟩ := h
    refine ⟨_, pss_cons (ps_set (i := 1) sc_all_plain.nd rfl (Or.inl rfl) (pe_lst (pa_cons (pe_lst pa_nil) pa_nil)))
      (pss_cons (ps_for PassesOwn.never rfl (pi_range1 rfl T.f_range (pa_cons (pv 0) pa_nil)) (pg_name (i := 2) sc_all_plain.nd rfl (Or.inl rfl))
        (pss_cons (ps_set (i := 3) sc_all_plain.nd rfl (Or.inl rfl) (pe_lst pa_nil))
        (pss_cons (ps_for PassesOwn.never rfl (pi_list (pv 1)) (pg_name (i := 4) sc_all_plain.nd rfl (Or.inr rfl))
          (pss_one (ps_aug (i := 3) sc_all_plain.nd rfl (Or.inl rfl) (pe_lc (own := [("one", 5)]) (g := gName 5) (tt := tYes) (te := tOp rCat (tVar 4) (tLst (tCons (tVar 5) tNil))) rfl sc_all_plain.nd (pi_range1 rfl T.f_range (pa_cons (pv 0) pa_nil))
            (blkOk_by (N := N_all_plain) (sc := defScope s_all_plain) (by decide +kernel)) (fun _ _ _ _ _ => pg_name (i := 5) sc_all_plain.nd rfl (Or.inl rfl)) (fun _ _ _ _ _ => pts_nil) (fun _ _ _ _ _ => pe_op op_cat (pv 4) (pe_lst (pa_cons (pv 5) pa_nil)))) iop_ext)))
        (pss_one (ps_set (i := 1) sc_all_plain.nd rfl (Or.inl rfl) (pv 3))))))
      (pss_one (ps_ret (pe_lc (own := [("row", 4)]) (g := gName 4) (tt := tTest (tOp (rEqD K) (tCall spPlainOf [] E0 (tCons (tVar 4) tNil)) (tVar 4))) (te := tVar 4) rfl sc_all_plain.nd (pi_list (pv 1))
        (blkOk_by (N := N_all_plain) (sc := defScope s_all_plain) (by decide +kernel)) (fun _ _ _ _ _ => pg_name (i := 4) sc_all_plain.nd rfl (Or.inl rfl))
        (fun _ _ _ _ _ => pts_one (pt_cmpR (op_eqD hr.units) (pe_cal GP hr rfl (pa_cons (pv 4) pa_nil)) (pv 4) (nomark _))) (fun _ _ _ _ _ => pv 4))))), ?_⟩
    have few := rowsN_few n hn
    refine ⟨(by show 0 ≤ sizeLine; decide), fun e0 he0 => ⟨(by show 1 ≤ sizeLine; decide), fun f0 hf0 => ?_⟩⟩
    have s0 : Same H (upd (upd H e0 (.lst [])) f0 (.lst [.ref e0])) := (Same.new he0).trans (Same.new hf0)
    have r0 : RowsAt (upd (upd H e0 (.lst [])) f0 (.lst [.ref e0])) f0 [(e0, [])] := ⟨upd_same, fun p hp => by
      rw [List.mem_singleton.mp hp]
      exact (Same.new hf0) _ _ upd_same⟩
    refine ⟨_, rfl, (n : Int), rfl, by omega, by omega, for_range (lo := 0) (n := n) (fun i σ Hc => ∃ (fa : Addr) (ps : List (Addr × List Int)) (v2 v3 v4 : Option V), σ = [some (.int n), some (.ref fa), v2, v3, v4, none] ∧ RowsAt Hc fa ps ∧ ps.map (·.2) = rowsN n i ∧ Same H Hc)
      ⟨f0, _, none, none, none, rfl, r0, rfl, s0⟩ ?_ ?_⟩
    · rintro i σ Hc hi ⟨fa, ps, v2, v3, v4, rfl, hra, hps, hs⟩
      refine ⟨Nat.zero_le _, fun la hla => ?_⟩
      have hra1 := hra.same (Same.new (o := .lst []) hla)
      have nfl : fa ≠ la := ne_of_none hra.1 hla
      have npl : ∀ p ∈ ps, p.1 ≠ la := fun p hp => ne_of_none (hra.2 p hp) hla
      have hHla : H la = none := hs.free hla
      have lfew := few i (by omega)
      have hlen : ps.length ≤ 4 := by
        have : (ps.map (·.2)).length ≤ 4 := by rw [hps]; exact lfew.1
        rw [List.length_map] at this
        exact this
      refine ⟨_, rfl, fa, rfl, ⟨_, SqL.of hra1.1⟩, for_list (K := K) (a := fa) (xs := ps.map fun p => V.ref p.1) (fun j σ Hd => ∃ (qs : List (Addr × List Int)) (v4 : Option V), σ = [some (.int n), some (.ref fa), some (.int ((0 : Int) + (i : Nat))), some (.ref la), v4, none] ∧
        RowsAt Hd la qs ∧ qs.map (·.2) = ((rowsN n i).take j).flatMap (rowSt n) ∧ RowsAt Hd fa ps ∧ Same H Hd ∧ qs.length = j * n ∧ ∀ q ∈ qs, q.1 ≠ la) ⟨[], v4, rfl, ⟨upd_same, fun _ z => nomatch z⟩, rfl, hra1, hs.trans (Same.new hla), by simp, fun _ z => nomatch z⟩
        (fun j σ Hd _ ⟨_, _, _, _, _, q, _⟩ => SqL.of q.1) ?_ ?_⟩
      · rintro j v σ Hd hj ⟨qs, v4', rfl, hq, hqs, hf, hsd, hql, hqn⟩
        obtain ⟨p, hp, rfl⟩ := refs_at hj
        have hpm : p ∈ ps := List.mem_of_getElem? hp
        have hjl : j < ps.length := (List.getElem?_eq_some_iff.mp hp).1
        have hrj := take_snd hps hp
        have hp2 : p.2.length ≤ 2 := lfew.2 p.2 (List.mem_of_getElem? hrj)
        have hpH : Hd p.1 = some (.lst (p.2.map V.int)) := hf.2 p hpm
        refine ⟨_, rfl, _, rfl, (n : Int), rfl, by omega, by omega, fun D hD => lc_range (lo := 0) (n := n) (fun m He => ∃ rs : List (Addr × List Int), RowsAt He D rs ∧ rs.map (·.2) = (List.range m).map (fun k : Nat => p.2 ++ [(k : Int)]) ∧ Same Hd He ∧ ∀ r ∈ rs, Hd r.1 = none ∧ r.1 ≠ D)
          ⟨[], ⟨upd_same, fun _ z => nomatch z⟩, rfl, Same.new hD, fun _ z => nomatch z⟩ ?_ ?_⟩
        · rintro m He hm ⟨rs, hrs, hr2, hse, hrn⟩
          refine ⟨rfl, ?_⟩
          refine ⟨_, rfl, _, rfl, (by show 1 ≤ sizeLine; decide), fun q1 hq1 => ?_⟩
          have t1 := Same.new (o := .lst [.int ((0 : Int) + (m : Nat))]) hq1
          refine ⟨p.1, q1, _, _, rfl, rfl, t1 _ _ (hse _ _ hpH), upd_same, ?_, fun q2 hq2 => ?_⟩
          · rw [List.length_map, List.length_singleton]
            exact Nat.le_trans (Nat.add_le_add_right hp2 1) (by decide)
          have t2 := Same.new (o := .lst (p.2.map V.int ++ [.int ((0 : Int) + (m : Nat))])) hq2
          have hrl : rs.length = m := by
            have := congrArg List.length hr2
            simpa using this
          have nD : D ≠ q2 := ne_of_none (t1 _ _ hrs.1) hq2
          refine ⟨_, t2 _ _ (t1 _ _ hrs.1), small1000 (by rw [List.length_map, hrl]; omega), rs ++ [(q2, p.2 ++ [((m : Nat) : Int)])], ⟨?_, fun u hu => ?_⟩, ?_, fun b o e => ?_, fun u hu => ?_⟩
          · rw [upd_same, List.map_append]
            rfl
          · rcases List.mem_append.mp hu with z | z
            · rw [upd_ne (hrn u z).2]
              exact t2 _ _ (t1 _ _ (hrs.2 u z))
            · rw [List.mem_singleton.mp z]
              show upd _ D _ q2 = _
              rw [upd_ne nD.symm, upd_same, List.map_append, zc]
              rfl
          · rw [List.map_append, hr2, List.range_succ, List.map_append]
            rfl
          · rw [upd_ne (fun y => by rw [y, hD] at e; cases e)]
            exact t2 _ _ (t1 _ _ (hse _ _ e))
          · rcases List.mem_append.mp hu with z | z
            · exact hrn u z
            · rw [List.mem_singleton.mp z]
              exact ⟨hse.free (t1.free hq2), nD.symm⟩
        · rintro He ⟨rs, hrs, hr2, hse, hrn⟩
          have hrl : rs.length = n := by
            have := congrArg List.length hr2
            simpa using this
          have hjn : j * n ≤ 4 * 2 := Nat.mul_le_mul (by omega) hn
          refine ⟨la, D, _, _, rfl, rfl, hse _ _ hq.1, hrs.1, ?_, ?_⟩
          · rw [List.length_map, List.length_map, hql, hrl]
            exact Nat.le_trans (Nat.add_le_add hjn hn) (by decide)
          refine ⟨qs ++ rs, _, rfl, ⟨?_, fun u hu => ?_⟩, ?_, ⟨?_, fun u hu => ?_⟩, fun b o e => ?_, ?_, fun u hu => ?_⟩
          · rw [upd_same, List.map_append]
          · rcases List.mem_append.mp hu with z | z
            · rw [upd_ne (hqn u z)]
              exact hse _ _ (hq.2 u z)
            · rw [upd_ne (fun y => by have q := (hrn u z).1; rw [y, hq.1] at q; cases q)]
              exact hrs.2 u z
          · rw [List.map_append, hqs, hr2, List.take_add_one, hrj, List.flatMap_append]
            simp [rowSt]
          · rw [upd_ne nfl]
            exact hse _ _ hf.1
          · rw [upd_ne (npl u hu)]
            exact hse _ _ (hf.2 u hu)
          · rw [upd_ne (ne_of_none e hHla)]
            exact hse _ _ (hsd _ _ e)
          · rw [List.length_append, hql, hrl, Nat.add_mul, Nat.one_mul]
          · rcases List.mem_append.mp hu with z | z
            · exact hqn u z
            · exact fun y => by have q := (hrn u z).1; rw [y, hq.1] at q; cases q
      · rintro σ Hd ⟨qs, v4', rfl, hq, hqs, hf, hsd, hql, hqn⟩
        refine ⟨_, rfl, la, qs, _, _, _, rfl, hq, ?_, hsd⟩
        have e1 : (ps.map fun p => V.ref p.1).length = (rowsN n i).length := by
          rw [← hps, List.length_map, List.length_map]
        rw [hqs, e1, List.take_length]
        rfl
    · rintro σ Hc ⟨fa, ps, v2, v3, v4, rfl, hra, hps, hs⟩
      refine ⟨_, rfl, fa, rfl, ⟨_, SqL.of hra.1⟩, fun D hD => lc_list (K := K) (a := fa) (xs := ps.map fun p => V.ref p.1) (fun i Hd => ∃ rs : List (Addr × List Int), RowsAt Hd D rs ∧ rs.map (·.2) = ((rowsN n n).take i).filter (fun r => decide (plainL r = r)) ∧ Same Hc Hd ∧ (∀ r ∈ rs, r.1 ≠ D) ∧ rs.length ≤ i)
        ⟨[], ⟨upd_same, fun _ z => nomatch z⟩, rfl, Same.new hD, (fun _ z => nomatch z), Nat.le_refl _⟩ (fun i Hd _ ⟨_, _, _, q, _⟩ => SqL.of (q _ _ hra.1)) ?_ ?_⟩
      · rintro i v Hd hi ⟨rs, hrs, hr2, hse, hrn, hrl⟩
        obtain ⟨p, hp, rfl⟩ := refs_at hi
        have hpm : p ∈ ps := List.mem_of_getElem? hp
        have hil : i < ps.length := (List.getElem?_eq_some_iff.mp hp).1
        have hlen : ps.length ≤ 4 := by
          have : (ps.map (·.2)).length ≤ 4 := by rw [hps]; exact (few n (Nat.le_refl _)).1
          rw [List.length_map] at this
          exact this
        have hrj := take_snd hps hp
        have hp2 : p.2.length ≤ 2 := (few n (Nat.le_refl _)).2 p.2 (List.mem_of_getElem? hrj)
        have hpc := hra.2 p hpm
        have npD : p.1 ≠ D := ne_of_none hpc hD
        refine ⟨rfl, ?_⟩
        refine ⟨_, rfl, p.1, p.2, rfl, hse _ _ hpc, by omega, fun He q s1 hq => ?_⟩
        refine ⟨_, rfl, _, _, dp_ints (SqL.of hq), dp_ints (SqL.of (s1 _ _ (hse _ _ hpc))), shaped_ints _, shaped_ints _, _, rfl, ?_⟩
        rw [eqv_ints]
        refine ite2 (fun e => ?_) (fun e => ?_)
        · refine ⟨_, rfl, _, s1 _ _ hrs.1, small1000 (by rw [List.length_map]; omega), rs ++ [p], ⟨?_, fun u hu => ?_⟩, ?_, fun b o z => ?_, fun u hu => ?_, by rw [List.length_append, List.length_singleton]; omega⟩
          · rw [upd_same, List.map_append]
            rfl
          · rcases List.mem_append.mp hu with z | z
            · rw [upd_ne (hrn u z)]
              exact s1 _ _ (hrs.2 u z)
            · rw [List.mem_singleton.mp z, upd_ne npD]
              exact s1 _ _ (hse _ _ hpc)
          · rw [List.map_append, hr2, List.take_add_one, hrj, List.filter_append]
            simp [of_decide_eq_true e]
          · rw [upd_ne (ne_of_none z hD)]
            exact s1 _ _ (hse _ _ z)
          · rcases List.mem_append.mp hu with z | z
            · exact hrn u z
            · rw [List.mem_singleton.mp z]
              exact npD
        · refine ⟨rs, hrs.same s1, ?_, hse.trans s1, hrn, by omega⟩
          rw [hr2, List.take_add_one, hrj, List.filter_append]
          have e' : ¬ plainL p.2 = p.2 := fun z => e (decide_eq_true z)
          simp [e']
      · rintro Hd ⟨rs, hrs, hr2, hse, hrn, hrl⟩
        refine k Hd D rs (hs.trans hse) hrs ?_
        have e1 : (ps.map fun p => V.ref p.1).length = (rowsN n n).length := by
          rw [← hps, List.length_map, List.length_map]
        rw [hr2, e1, List.take_length]
        rfl
end
end Hs
/-! ## part HsWD -/
set_option Elab.async false
set_option linter.all false
set_option maxRecDepth 100000
set_option maxHeartbeats 4000000
namespace Hs
open PySem PySem.Spec PyProof.Rows L2
/-! ### keeps_of, broken_rows, is_keeping -/
def kpB (f : Nat → Int) (o : List Nat) (i : Nat) : Bool := decide (nth o i < nth o (i + 1)) || decide (f (nth o i) < f (nth o (i + 1)))
def keepsB (f : Nat → Int) (o : List Nat) : Bool := (List.range (o.length - 1)).all (kpB f o)
theorem cut_one (xs : List V) : cutV xs (some 1) none = xs.drop 1 := by
  unfold cutV
  rw [HT.sIx_none, show HT.sIx xs.length 0 (some 1) = min 1 xs.length from HT.sIx_nat xs.length 0 1]
  rcases xs with _ | ⟨x, r⟩
  · rfl
  · have e : min 1 (x :: r).length = 1 := by
      rw [List.length_cons]
      omega
    rw [e, List.drop_one, List.length_cons, Nat.add_sub_cancel]
    exact List.take_length
def spKeepsOf : Sp := fun vs H Q _ => ∃ (t r : Addr) (sp : Bool) (n : Nat) (f : Nat → Int), vs = [.ref t, .ref r] ∧ WayAt H t sp ∧ RowAt H r n f ∧ n ≤ 30 ∧ ∀ H' : Hp, Same H H' → Q (.bl (keepsB f (ordF n f))) H'
def rowF (r : List Int) : Nat → Int := fun i => r.getD i 0
theorem row_ro (r : List Int) : r.map V.int = ro r.length (fun i => .int (rowF r i)) := by
  refine ro_ext (by rw [List.length_map]) fun i hi => ?_
  rw [List.getElem?_map, List.getElem?_eq_getElem hi]
  unfold rowF
  rw [List.getD_eq_getElem?_getD, List.getElem?_eq_getElem hi]
  rfl
def brokenL (n : Nat) : List (List Int) := (allPl n).filter fun r => !keepsB (rowF r) (ordF r.length (rowF r))
theorem broken1 : brokenL 1 = [] := by decide +kernel
theorem broken2 : brokenL 2 ≠ [] := by decide +kernel
theorem allPl_few : ∀ n, n ≤ 2 → (allPl n).length ≤ 4 ∧ ∀ r ∈ allPl n, r.length ≤ 30 := by decide +kernel
def spBroken : Sp := fun vs H Q _ => ∃ (t : Addr) (n : Nat), vs = [.ref t, .int (n : Int)] ∧ WayAt H t false ∧ 1 ≤ n ∧ n ≤ 2 ∧ ∀ (H' : Hp) (a : Addr) (ps : List (Addr × List Int)), Same H H' → RowsAt H' a ps → ps.map (·.2) = brokenL n → Q (.ref a) H'
def spIsKeeping : Sp := fun vs H Q _ => ∃ (t : Addr) (n : Nat), vs = [.ref t, .int (n : Int)] ∧ WayAt H t false ∧ (n = 1 ∨ n = 2) ∧ ∀ H' : Hp, Same H H' → Q (.bl (decide (n = 1))) H'
section
variable {P : Program} {w : World} {K : PySem.W.Frag} {mg : Str → Option Value} {base : Heap} {CS CA : Addr}
abbrev N_keeps_of : List Str := ["way", "row", "order", "one", "other"]
theorem sc_keeps_of : FnScope N_keeps_of ["way", "row"] (defScope s_keeps_of) := ⟨rfl, rfl, rfl, by decide +kernel, rfl, by decide +kernel, by decide +kernel⟩
theorem ok_keeps_of (T : Txt K mg CS CA) : Cal P w K mg base 9 "keeps_of" ["way", "row"] spKeepsOf := by
  have GP : Cal P w K mg base 8 "played" ["way", "row"] spPlayed := ok_played T
  refine T.d_keeps_of.ok sc_keeps_of (fun vs H Q E h => ?_) (fun fa cdv Ar outer sh H vs Q E hr h => ?_)
  · obtain ⟨t, r, sp, n, f, rfl, _⟩ := h
    rfl
  · obtain ⟨t, r, sp, n, f, rfl, ht, hrw, hn, k⟩ := h
    refine ⟨_, pss_cons (ps_set (i := 2) sc_keeps_of.nd rfl (Or.inl rfl) (pe_ix ix_tup (pe_cal GP hr rfl (pa_cons (pv 0) (pa_cons (pv 1) pa_nil))) pe_int (fun _ _ => rfl)))
      (pss_one (ps_ret (pe_callB (cr_all rfl) (by rfl) T.f_all (by decide +kernel) (pa_cons
        (pe_lc (own := [("one", 3), ("other", 4)]) (g := gTup K 2 (gCons (gName 3) (gCons (gName 4) gNil))) (tt := tYes) (te := tOrV (tOp rLtI (tVar 3) (tVar 4)) (tOp rLtI (tOp (rIxL K) (tVar 1) (tVar 3)) (tOp (rIxL K) (tVar 1) (tVar 4)))) rfl sc_keeps_of.nd
          (pi_zip (by rfl) T.f_zip (pa_cons (pv 2) (pa_cons (pe_slice sl_list (pv 2) (po_some pe_int) po_none) pa_nil))) (blkOk_by (N := N_keeps_of) (sc := defScope s_keeps_of) (by decide +kernel))
          (fun _ _ _ _ _ => pg_tup rfl (pgs_cons (pg_name (i := 3) sc_keeps_of.nd rfl (Or.inl rfl)) (pgs_cons (pg_name (i := 4) sc_keeps_of.nd rfl (Or.inl rfl)) pgs_nil))) (fun _ _ _ _ _ => pts_nil)
          (fun _ _ _ _ _ => pe_or (pe_cmpR op_lt (pv 3) (pv 4) (nomark _)) (pe_one (pe_cmpR op_lt (pe_ix ix_list (pv 1) (pv 3) (fun _ _ => rfl)) (pe_ix ix_list (pv 1) (pv 4) (fun _ _ => rfl)) (nomark _))))) pa_nil)))), ?_⟩
    refine ⟨_, rfl, _, rfl, t, r, sp, n, f, rfl, ht, hrw, hn, fun H1 u l o s1 hu hl ho => ?_⟩
    have hlen : (ordF n f).length = n := (heap_ok f n).1
    refine ⟨u, _, _, _, rfl, rfl, SqT.of hu, at_of (j := 1) rfl rfl, ?_⟩
    refine ⟨_, rfl, _, rfl, 1, rfl, o, _, rfl, SqL.of ho, fun c hc => ?_⟩
    have s2 := s1.trans (Same.new (o := .lst (cutV (vN (ordF n f)) (some 1) none)) hc)
    have ho2 := (Same.new (o := .lst (cutV (vN (ordF n f)) (some 1) none)) hc) _ _ ho
    refine ⟨o, c, _, _, rfl, SqL.of ho2, SqL.of upd_same, fun D hD => ?_⟩
    have hc2 : upd H1 c (.lst (cutV (vN (ordF n f)) (some 1) none)) c = some (.lst (cutV (vN (ordF n f)) (some 1) none)) := upd_same
    generalize upd H1 c (.lst (cutV (vN (ordF n f)) (some 1) none)) = H2 at s2 ho2 hD hc2
    rw [cut_one] at hc2
    have hdl : ((vN (ordF n f)).drop 1).length = n - 1 := by rw [List.length_drop, vN_length, hlen]
    refine ⟨fun i m Hc => m = n - 1 - i ∧ i ≤ n - 1 ∧ Hc D = some (.lst (ro i fun i => .bl (kpB f (ordF n f) i))) ∧ Same H2 Hc, ⟨n - 1, rfl, Nat.zero_le _, upd_same, Same.new hD⟩, ?_⟩
    rintro i m Hc ⟨rfl, hi, hDc, hs⟩
    by_cases hlt : i < n - 1
    · have i1 : i < (ordF n f).length := by omega
      have i2 : i + 1 < (ordF n f).length := by omega
      have at2 : ((vN (ordF n f)).drop 1)[i]? = some (V.int (nth (ordF n f) (i + 1) : Nat)) := by
        rw [List.getElem?_drop, Nat.add_comm]
        exact vN_at i2
      refine .inr ⟨⟨_, _, _, _, SqL.of (hs _ _ ho2), SqL.of (hs _ _ hc2), vN_at i1, at2⟩, fun Hd => Hd D = some (.lst (ro (i + 1) fun i => .bl (kpB f (ordF n f) i))) ∧ Same H2 Hd, fun Hd ⟨q1, q2⟩ => ⟨n - 1 - (i + 1), by omega, rfl, hlt, q1, q2⟩, ?_⟩
      rintro x Hd ⟨p, y1, y2, rfl, hp, rfl, e1, e2⟩
      have f1 := e1 _ (SqL.of (hs _ _ ho2))
      have f2 := e2 _ (SqL.of (hs _ _ hc2))
      rw [vN_at i1] at f1
      rw [at2] at f2
      have g1 := Option.some.inj f1
      have g2 := Option.some.inj f2
      subst g1 g2
      have tp := Same.new (o := .tup [V.int (nth (ordF n f) i : Nat), V.int (nth (ordF n f) (i + 1) : Nat)]) hp
      have b1 : nth (ordF n f) i < n := ord_mem (nth_mem i1)
      have b2 : nth (ordF n f) (i + 1) < n := ord_mem (nth_mem i2)
      have hrow := (s2.trans (hs.trans tp)) _ _ hrw
      refine ⟨p, _, rfl, SqT.of upd_same, rfl, _, _, rfl, _, _, rfl, rfl, rfl, ?_⟩
      have fin : ∀ b : Bool, b = kpB f (ordF n f) i → ∃ acc, upd Hc p (.tup [V.int (nth (ordF n f) i : Nat), V.int (nth (ordF n f) (i + 1) : Nat)]) D = some (.lst acc) ∧ acc.length < sizeLine ∧
          upd (upd Hc p (.tup [V.int (nth (ordF n f) i : Nat), V.int (nth (ordF n f) (i + 1) : Nat)])) D (.lst (acc ++ [V.bl b])) D = some (.lst (ro (i + 1) fun i => .bl (kpB f (ordF n f) i))) ∧
          Same H2 (upd (upd Hc p (.tup [V.int (nth (ordF n f) i : Nat), V.int (nth (ordF n f) (i + 1) : Nat)])) D (.lst (acc ++ [V.bl b]))) := fun b hb =>
        ⟨_, tp _ _ hDc, small1000 (by rw [ro_length]; omega), by rw [upd_same, ro_succ, hb], fun c o e => by rw [upd_ne (fun z => by rw [z, hD] at e; cases e)]; exact tp _ _ (hs _ _ e)⟩
      refine ⟨_, rfl, _, rfl, _, _, rfl, rfl, _, rfl, ite2 (fun e => ?_) (fun e => ?_)⟩
      · refine fin true ?_
        unfold kpB
        rw [decide_eq_true (Int.ofNat_lt.mp (of_decide_eq_true e))]
        rfl
      · refine ⟨_, rfl, _, rfl, r, _, _, _, rfl, rfl, SqL.of hrow, ro_atI b1, _, rfl, _, rfl, r, _, _, _, rfl, rfl, SqL.of hrow, ro_atI b2, _, _, rfl, rfl, fin _ ?_⟩
        unfold kpB
        rw [decide_eq_false (fun z => e (decide_eq_true (Int.ofNat_lt.mpr z)))]
        rfl
    · have hin : i = n - 1 := by omega
      subst hin
      refine .inl ⟨⟨_, _, SqL.of (hs _ _ ho2), SqL.of (hs _ _ hc2), .inr (by rw [hdl]; exact Nat.le_refl _)⟩, ?_⟩
      refine ⟨D, (List.range (n - 1)).map (kpB f (ordF n f)), rfl, SqL.of ?_, ?_⟩
      · rw [hDc, List.map_map]
        rfl
      · have e : ((List.range (n - 1)).map (kpB f (ordF n f))).all id = keepsB f (ordF n f) := by
          unfold keepsB
          rw [hlen, List.all_map]
          rfl
        rw [e]
        exact k Hc (s2.trans hs)
abbrev N_broken : List Str := ["way", "size", "row"]
theorem sc_broken : FnScope N_broken ["way", "size"] (defScope s_broken_rows) := ⟨rfl, rfl, rfl, by decide +kernel, rfl, by decide +kernel, by decide +kernel⟩
theorem ok_broken (T : Txt K mg CS CA) : Cal P w K mg base 10 "broken_rows" ["way", "size"] spBroken := by
  have GW : Cal P w K mg base 3 "check_way" ["value"] spCheckWay := ok_check_way T
  have GN : Cal P w K mg base 2 "check_number" ["value", "low", "high"] spCheckNumber := ok_check_number T
  have GA : Cal P w K mg base 2 "all_plain" ["size"] spAllPlain := ok_all_plain T
  have GK : Cal P w K mg base 9 "keeps_of" ["way", "row"] spKeepsOf := ok_keeps_of T
  refine T.d_broken_rows.ok sc_broken (fun vs H Q E h => ?_) (fun fa cdv Ar outer sh H vs Q E hr h => ?_)
  · obtain ⟨t, n, rfl, _⟩ := h
    rfl
  · obtain ⟨t, n, rfl, ht, h1, h2, k⟩ := h
    have hr3 : Room 3 _ := hr.mono (by decide)
    have hr2 : Room 2 _ := hr.mono (by decide)
    refine ⟨_, pss_cons (ps_expr (pe_cal GW hr3 rfl (pa_cons (pv 0) pa_nil))) (pss_cons (ps_expr (pe_cal GN hr2 rfl (pa_cons (pv 1) (pa_cons pe_int (pa_cons pe_int pa_nil)))))
      (pss_one (ps_ret (pe_lc (own := [("row", 2)]) (g := gName 2) (tt := tNot (tB (tCall spKeepsOf [] E0 (tCons (tVar 0) (tCons (tVar 2) tNil))))) (te := tVar 2) rfl sc_broken.nd (pi_list (pe_cal GA hr2 rfl (pa_cons (pv 1) pa_nil)))
        (blkOk_by (N := N_broken) (sc := defScope s_broken_rows) (by decide +kernel)) (fun _ _ _ _ _ => pg_name (i := 2) sc_broken.nd rfl (Or.inl rfl)) (fun _ _ _ _ _ => pts_one (pt_not (pt_val (pe_cal GK hr rfl (pa_cons (pv 0) (pa_cons (pv 2) pa_nil)))))) (fun _ _ _ _ _ => pv 2))))), ?_⟩
    refine ⟨_, rfl, t, false, rfl, ht, fun H1 s1 => ?_⟩
    refine ⟨_, rfl, n, 1, 5, rfl, by omega, by omega, ?_⟩
    refine ⟨_, rfl, n, rfl, h2, fun H2 fa ps s2 hra hps => ⟨fa, rfl, ⟨_, SqL.of hra.1⟩, fun D hD => ?_⟩⟩
    have s12 := s1.trans s2
    obtain ⟨few1, few2⟩ := allPl_few n h2
    have hlen : ps.length ≤ 4 := by
      have : (ps.map (·.2)).length ≤ 4 := by rw [hps]; exact few1
      rw [List.length_map] at this
      exact this
    refine lc_list (K := K) (a := fa) (xs := ps.map fun p => V.ref p.1) (fun i Hd => ∃ rs : List (Addr × List Int), RowsAt Hd D rs ∧ rs.map (·.2) = ((allPl n).take i).filter (fun r => !keepsB (rowF r) (ordF r.length (rowF r))) ∧ Same H2 Hd ∧ (∀ r ∈ rs, r.1 ≠ D) ∧ rs.length ≤ i)
      ⟨[], ⟨upd_same, fun _ z => nomatch z⟩, rfl, Same.new hD, (fun _ z => nomatch z), Nat.le_refl _⟩ (fun i Hd _ ⟨_, _, _, q, _⟩ => SqL.of (q _ _ hra.1)) ?_ ?_
    · rintro i v Hd hi ⟨rs, hrs, hr2', hse, hrn, hrl⟩
      obtain ⟨p, hp, rfl⟩ := refs_at hi
      have hpm : p ∈ ps := List.mem_of_getElem? hp
      have hil : i < ps.length := (List.getElem?_eq_some_iff.mp hp).1
      have hrj := take_snd hps hp
      have hp30 := few2 p.2 (List.mem_of_getElem? hrj)
      have hpc := hra.2 p hpm
      have npD : p.1 ≠ D := ne_of_none hpc hD
      have hpd : Hd p.1 = some (.lst (ro p.2.length fun i => .int (rowF p.2 i))) := by
        rw [← row_ro]
        exact hse _ _ hpc
      refine ⟨rfl, ?_⟩
      refine ⟨_, rfl, _, rfl, t, p.1, false, p.2.length, rowF p.2, rfl, (ht.same s12).same hse, hpd, hp30, fun He s3 => ⟨_, rfl, ?_⟩⟩
      cases e : keepsB (rowF p.2) (ordF p.2.length (rowF p.2)) with
      | false =>
        refine iteT ?_
        refine ⟨_, rfl, _, s3 _ _ hrs.1, small1000 (by rw [List.length_map]; omega), rs ++ [p], ⟨?_, fun u hu => ?_⟩, ?_, fun b o z => ?_, fun u hu => ?_, by rw [List.length_append, List.length_singleton]; omega⟩
        · rw [upd_same, List.map_append]
          rfl
        · rcases List.mem_append.mp hu with z | z
          · rw [upd_ne (hrn u z)]
            exact s3 _ _ (hrs.2 u z)
          · rw [List.mem_singleton.mp z, upd_ne npD]
            exact s3 _ _ (hse _ _ hpc)
        · rw [List.map_append, hr2', List.take_add_one, hrj, List.filter_append]
          simp [e]
        · rw [upd_ne (ne_of_none z hD)]
          exact s3 _ _ (hse _ _ z)
        · rcases List.mem_append.mp hu with z | z
          · exact hrn u z
          · rw [List.mem_singleton.mp z]
            exact npD
      | true =>
        refine iteF ?_
        refine ⟨rs, hrs.same s3, ?_, hse.trans s3, hrn, by omega⟩
        rw [hr2', List.take_add_one, hrj, List.filter_append]
        simp [e]
    · rintro Hd ⟨rs, hrs, hr2', hse, hrn, hrl⟩
      refine k Hd D rs (s12.trans hse) hrs ?_
      have e1 : (ps.map fun p => V.ref p.1).length = (allPl n).length := by
        rw [← hps, List.length_map, List.length_map]
      rw [hr2', e1, List.take_length]
      rfl
theorem sc_is_keeping : FnScope ["way", "size"] ["way", "size"] (defScope s_is_keeping) := ⟨rfl, rfl, rfl, by decide +kernel, rfl, by decide +kernel, by decide +kernel⟩
theorem ok_is_keeping (T : Txt K mg CS CA) : Cal P w K mg base 11 "is_keeping" ["way", "size"] spIsKeeping := by
  have GB : Cal P w K mg base 10 "broken_rows" ["way", "size"] spBroken := ok_broken T
  refine T.d_is_keeping.ok sc_is_keeping (fun vs H Q E h => ?_) (fun fa cdv Ar outer sh H vs Q E hr h => ?_)
  · obtain ⟨t, n, rfl, _⟩ := h
    rfl
  · obtain ⟨t, n, rfl, ht, hn, k⟩ := h
    refine ⟨_, pss_one (ps_ret (pe_cmpR (op_eqD hr.units) (pe_cal GB hr rfl (pa_cons (pv 0) (pa_cons (pv 1) pa_nil))) (pe_lst pa_nil) (nomark _))), ?_⟩
    refine ⟨_, rfl, _, rfl, t, n, rfl, ht, by omega, by omega, fun H1 a ps s1 hra hps => ?_⟩
    refine ⟨(by show 0 ≤ sizeLine; decide), fun q hq => ?_⟩
    have t1 := Same.new (o := .lst []) hq
    refine ⟨_, .list [], (hra.same t1).dp, .lst (SqL.of upd_same) .nil, shaped_rows _, rfl, ?_⟩
    have e : PyData.eqv (.list (rowD (ps.map (·.2)))) (.list []) = decide (n = 1) := by
      rw [hps]
      rcases hn with rfl | rfl
      · rw [broken1]
        rfl
      · have b2 := broken2
        generalize brokenL 2 = bl at b2
        cases bl with
        | nil => exact absurd rfl b2
        | cons x y => rfl
    rw [e]
    exact k _ (s1.trans t1)
end
end Hs
/-! ## part HsWE -/
set_option Elab.async false
set_option linter.all false
set_option maxRecDepth 100000
set_option maxHeartbeats 4000000
namespace Hs
open PySem PySem.Spec PyProof.Rows L2
/-! ### the law's draws -/
structure Drw (H : Hp) (d nu : Addr) : Prop where
  ex : ∃ (ns : List Int) (k : Int), H d = some (.lst [.ref nu, .int k]) ∧ H nu = some (.lst (ns.map V.int)) ∧ 0 < ns.length ∧ ns.length ≤ 63
theorem Drw.ne {H : Hp} {d nu : Addr} (D : Drw H d nu) : nu ≠ d := by
  obtain ⟨ns, k, h1, h2, h3, _⟩ := D.ex
  refine ne_of h2 h1 fun z => ?_
  have e := HO.lst.inj z
  cases ns with
  | nil => cases h3
  | cons x r => exact nomatch (List.cons.inj e).1
theorem Drw.kept {H H' : Hp} {d nu : Addr} (D : Drw H d nu) (s : Same H H') : Drw H' d nu := by
  obtain ⟨ns, k, h1, h2, h3, h4⟩ := D.ex
  exact ⟨ns, k, s _ _ h1, s _ _ h2, h3, h4⟩
/-- all but the draws is as it was -/
def Off (d nu : Addr) (H H' : Hp) : Prop := ∀ b o, H b = some o → b ≠ d → b ≠ nu → H' b = some o
theorem Off.trans {d nu : Addr} {H H1 H2 : Hp} (a : Off d nu H H1) (b : Off d nu H1 H2) : Off d nu H H2 := fun c o e q1 q2 => b c o (a c o e q1 q2) q1 q2
theorem Off.same {d nu : Addr} {H H' : Hp} (s : Same H H') : Off d nu H H' := fun c o e _ _ => s c o e
theorem Off.refl (d nu : Addr) (H : Hp) : Off d nu H H := fun _ _ e _ _ => e
def spStart (K : PySem.W.Frag) : Sp := fun vs H Q _ => ∃ (a : Addr) (ns : List Int), vs = [.ref a] ∧ SqL K H a (ns.map V.int) ∧ ns.length ≤ 63 ∧ ∀ (H' : Hp) (d nu : Addr), Same H H' → Drw H' d nu → H d = none → H nu = none → Q (.ref d) H'
def spDraw : Sp := fun vs H Q _ => ∃ (d nu : Addr) (lim : Int), vs = [.ref d, .int lim] ∧ Drw H d nu ∧ 0 < lim ∧ lim < 1073741824 ∧ ∀ (H' : Hp) (z : Int), 0 ≤ z → z < lim → Drw H' d nu → Off d nu H H' → Q (.int z) H'
def spPick : Sp := fun vs H Q _ => ∃ (d nu c : Addr) (cs : List Int), vs = [.ref d, .ref c] ∧ Drw H d nu ∧ H c = some (.lst (cs.map V.int)) ∧ c ≠ d ∧ c ≠ nu ∧ 0 < cs.length ∧ cs.length < 1000 ∧
  ∀ (H' : Hp) (z : Int), z ∈ cs → Drw H' d nu → Off d nu H H' → Q (.int z) H'
def spLawRow : Sp := fun vs H Q _ => ∃ (d nu : Addr), vs = [.ref d, .int 25] ∧ Drw H d nu ∧ ∀ (H' : Hp) (r : Addr) (zs : List Int), H' r = some (.lst (zs.map V.int)) → zs.length ≤ 25 → (∀ z ∈ zs, -99 ≤ z ∧ z ≤ 99) → Off d nu H H' → Q (.ref r) H'
def spStep : Sp := fun vs H Q _ => ∃ (r m : Nat), vs = [.int (r : Int), .int (m : Int)] ∧ Q (.int (stepN r m : Nat)) H
theorem emod_range {a b : Int} (h : 0 < b) : 0 ≤ a % b ∧ a % b < b := ⟨Int.emod_nonneg a (by omega), Int.emod_lt_of_pos a h⟩
section
variable {P : Program} {w : World} {K : PySem.W.Frag} {mg : Str → Option Value} {base : Heap} {CS CA : Addr}
theorem sc_law_start : FnScope ["_law_script"] ["_law_script"] (defScope s_law_start) := ⟨rfl, rfl, rfl, by decide +kernel, rfl, by decide +kernel, by decide +kernel⟩
theorem ok_law_start (T : Txt K mg CS CA) : Cal P w K mg base 1 "_law_start" ["_law_script"] (spStart K) := by
  refine T.d_law_start.ok sc_law_start (fun vs H Q E h => ?_) (fun fa cdv Ar outer sh H vs Q E hr h => ?_)
  · obtain ⟨a, ns, rfl, _⟩ := h
    rfl
  · obtain ⟨a, ns, rfl, hS, hl, k⟩ := h
    refine ⟨_, pss_one (ps_ret (pe_lst (pa_cons (pe_ifExp (pt_cmpR (op_neD hr.units) (pv 0) (pe_lst pa_nil) (nomark _)) (pe_callTy call_list_of (by rfl) T.f_list (by decide +kernel) (pa_cons (pv 0) pa_nil)) (pe_lst (pa_cons pe_int pa_nil))) (pa_cons pe_int pa_nil)))), ?_⟩
    refine ⟨_, rfl, (by show 0 ≤ sizeLine; decide), fun q hq => ?_⟩
    have t1 := Same.new (o := .lst []) hq
    refine ⟨.list (ns.map PyData.int), .list [], dp_ints (t1.seq hS), .lst (SqL.of upd_same) .nil, shaped_ints _, rfl, _, rfl, ?_⟩
    have e : PyData.eqv (.list (ns.map PyData.int)) (.list []) = decide (ns = []) := eqv_ints ns []
    rw [e]
    have fin : ∀ (xs : List Int), 0 < xs.length → xs.length ≤ 63 → ∀ l, upd H q (.lst []) l = none → ([V.ref l, V.int 0].length ≤ sizeLine ∧ ∀ p, upd (upd H q (.lst [])) l (.lst (xs.map V.int)) p = none → Q (.ref p) (upd (upd (upd H q (.lst [])) l (.lst (xs.map V.int))) p (.lst [V.ref l, V.int 0]))) := fun xs h1 h2 l hl' => by
      refine ⟨by show 2 ≤ sizeLine; decide, fun p hp => ?_⟩
      have t2 := Same.new (o := .lst (xs.map V.int)) hl'
      have t3 := Same.new (o := .lst [V.ref l, V.int 0]) hp
      exact k _ p l (t1.trans (t2.trans t3)) ⟨xs, 0, upd_same, t3 _ _ upd_same, h1, h2⟩ (t1.free (t2.free hp)) (t1.free hl')
    refine ite2 (fun q2 => ?_) (fun q2 => ?_)
    · have hne : ns ≠ [] := by simpa using q2
      refine ⟨_, rfl, a, _, rfl, .inl (t1.seq hS), fun l hl' => ?_⟩
      exact fin ns (List.length_pos_iff.mpr hne) hl l hl'
    · exact ⟨(by show 1 ≤ sizeLine; decide), fun l hl' => fin [0] (by decide) (by decide) l hl'⟩
abbrev N_law_draw : List Str := ["_law_draws", "_law_limit", "_law_numbers", "_law_at", "_law_cell", "_law_mixed"]
theorem sc_law_draw : FnScope N_law_draw ["_law_draws", "_law_limit"] (defScope s_law_draw) := ⟨rfl, rfl, rfl, by decide +kernel, rfl, by decide +kernel, by decide +kernel⟩
theorem ok_law_draw (T : Txt K mg CS CA) : Cal P w K mg base 1 "_law_draw" ["_law_draws", "_law_limit"] spDraw := by
  refine T.d_law_draw.ok sc_law_draw (fun vs H Q E h => ?_) (fun fa cdv Ar outer sh H vs Q E hr h => ?_)
  · obtain ⟨d, nu, lim, rfl, _⟩ := h
    rfl
  · obtain ⟨d, nu, lim, rfl, D, l1, l2, k⟩ := h
    have N : N_law_draw.Nodup := sc_law_draw.nd
    refine ⟨_, pss_cons (ps_set (i := 2) N rfl (Or.inl rfl) (pe_ix ix_list (pv 0) pe_int (fun _ _ => rfl)))
      (pss_cons (ps_asg (pe_op op_add (pe_ix ix_list (pv 0) pe_int (fun _ _ => rfl)) pe_int) (pg_sub (pv 0) pe_int set_list))
      (pss_cons (ps_set (i := 3) N rfl (Or.inl rfl) (pe_op op_mod (pe_ix ix_list (pv 0) pe_int (fun _ _ => rfl)) (pe_callB call_len_seq (by rfl) T.f_len PySem.boot_len (pa_cons (pv 2) pa_nil))))
      (pss_cons (ps_set (i := 4) N rfl (Or.inl rfl) (pe_ix ix_list (pv 2) (pv 3) (fun _ _ => rfl)))
      (pss_cons (ps_if (pt_cmpR op_ge (pv 4) pe_int (nomark _)) (pss_cons (ps_asg (pe_op op_fdiv (pv 4) (pv 1)) (pg_sub (pv 2) (pv 3) set_list)) (pss_one (ps_ret (pe_op op_mod (pv 4) (pv 1))))) pss_nil)
      (pss_cons (ps_set (i := 5) N rfl (Or.inl rfl) (pe_op op_mod (pe_op op_add (pv 4) (pe_op op_mul pe_int (pe_ix ix_list (pv 0) pe_int (fun _ _ => rfl)))) pe_int))
      (pss_cons (ps_set (i := 5) N rfl (Or.inl rfl) (pe_op op_mod (pe_op op_pow (pv 5) pe_int) pe_int))
      (pss_one (ps_ret (pe_op op_mod (pe_op op_fdiv (pe_op op_mod (pe_op op_add (pe_op op_mul (pe_op op_fdiv (pv 5) pe_int) pe_int) (pv 5)) pe_int) pe_int) (pv 1)))))))))), ?_⟩
    have hne := D.ne
    obtain ⟨ns, c, h1, h2, h3, h4⟩ := D.ex
    refine ⟨_, rfl, d, _, _, _, rfl, rfl, SqL.of h1, at_of (j := 0) rfl rfl, ?_⟩
    refine ⟨_, rfl, d, _, _, _, rfl, rfl, SqL.of h1, at_of (j := 1) rfl rfl, _, _, rfl, rfl, ?_⟩
    refine ⟨_, rfl, d, _, _, 1, rfl, rfl, h1, ixN_nat rfl (by show 1 < 2; decide), ?_⟩
    have h1' : upd H d (.lst [V.ref nu, V.int (c + 1)]) d = some (.lst [V.ref nu, V.int (c + 1)]) := upd_same
    have h2' : upd H d (.lst [V.ref nu, V.int (c + 1)]) nu = some (.lst (ns.map V.int)) := by rw [upd_ne hne]; exact h2
    have off1 : Off d nu H (upd H d (.lst [V.ref nu, V.int (c + 1)])) := fun b o e q1 q2 => by rw [upd_ne q1]; exact e
    have hlen : (ns.map V.int).length = ns.length := List.length_map ..
    refine ⟨_, rfl, d, _, _, _, rfl, rfl, SqL.of h1', at_of (j := 1) rfl rfl, _, rfl, nu, _, rfl, .inl (SqL.of h2'), ?_⟩
    rw [hlen]
    refine ⟨_, _, rfl, rfl, (by omega), ?_⟩
    obtain ⟨a1, a2⟩ := emod_range (a := c + 1) (b := (ns.length : Int)) (by omega)
    obtain ⟨j, hj0⟩ : ∃ j : Nat, (c + 1) % (ns.length : Int) = (j : Int) := ⟨((c + 1) % (ns.length : Int)).toNat, by omega⟩
    have hj : j < ns.length := by omega
    have hjv : (ns.map V.int)[j]? = some (V.int ns[j]) := by
      rw [List.getElem?_map, List.getElem?_eq_getElem hj]
      rfl
    generalize hcell : ns[j] = cell at hjv
    refine ⟨_, rfl, _, rfl, nu, _, _, _, rfl, rfl, SqL.of h2', at_of hj0 hjv, ?_⟩
    refine ⟨_, rfl, _, _, rfl, rfl, _, rfl, ite2 (fun e => ?_) (fun e => ?_)⟩
    · refine ⟨_, rfl, _, rfl, _, _, rfl, rfl, ⟨l1, l2⟩, ?_⟩
      refine ⟨_, rfl, _, rfl, nu, _, _, j, rfl, rfl, h2', ixN_nat hj0 (by rw [hlen]; exact hj), ?_⟩
      obtain ⟨z1, z2⟩ := emod_range (a := cell) l1
      refine ⟨_, rfl, _, rfl, _, _, rfl, rfl, l1, k _ _ z1 z2 ⟨ns.set j (cell / lim), c + 1, ?_, ?_, by rw [List.length_set]; exact h3, by rw [List.length_set]; exact h4⟩ fun b o q q1 q2 => ?_⟩
      · rw [upd_ne hne.symm]
        exact h1'
      · rw [upd_same, List.map_set]
      · rw [upd_ne q2]
        exact off1 b o q q1 q2
    · refine ⟨_, rfl, _, rfl, d, _, _, _, rfl, rfl, SqL.of h1', at_of (j := 1) rfl rfl, _, _, rfl, rfl, .inl ⟨by decide, by decide⟩, _, _, rfl, rfl, _, _, rfl, rfl, (by show (0 : Int) < 4294967291; decide), ?_⟩
      have m1 := emod_range (a := cell + 104729 * (c + 1)) (b := 4294967291) (by decide)
      refine ⟨_, rfl, _, _, rfl, rfl, ⟨by decide, by decide, by omega⟩, _, _, rfl, rfl, (by show (0 : Int) < 4294967279; decide), ?_⟩
      refine ⟨_, rfl, _, _, rfl, rfl, ⟨by decide, by decide⟩, _, _, rfl, rfl, .inr ⟨by decide, by decide⟩, _, rfl, _, _, rfl, rfl, _, _, rfl, rfl, (by show (0 : Int) < 4294967231; decide), _, _, rfl, rfl, ⟨by decide, by decide⟩, _, rfl, _, _, rfl, rfl, l1, ?_⟩
      exact k _ _ (emod_range l1).1 (emod_range l1).2 ⟨ns, c + 1, h1', h2', h3, h4⟩ off1
theorem sc_law_pick : FnScope ["_law_draws", "_law_choices"] ["_law_draws", "_law_choices"] (defScope s_law_pick) := ⟨rfl, rfl, rfl, by decide +kernel, rfl, by decide +kernel, by decide +kernel⟩
theorem ok_law_pick (T : Txt K mg CS CA) : Cal P w K mg base 2 "_law_pick" ["_law_draws", "_law_choices"] spPick := by
  have GD : Cal P w K mg base 1 "_law_draw" ["_law_draws", "_law_limit"] spDraw := ok_law_draw T
  refine T.d_law_pick.ok sc_law_pick (fun vs H Q E h => ?_) (fun fa cdv Ar outer sh H vs Q E hr h => ?_)
  · obtain ⟨d, nu, c, cs, rfl, _⟩ := h
    rfl
  · obtain ⟨d, nu, c, cs, rfl, D, hc, n1, n2, p1, p2, k⟩ := h
    refine ⟨_, pss_one (ps_ret (pe_ix ix_list (pv 1) (pe_cal GD hr rfl (pa_cons (pv 0) (pa_cons (pe_callB call_len_seq (by rfl) T.f_len PySem.boot_len (pa_cons (pv 1) pa_nil)) pa_nil))) (fun _ _ => rfl))), ?_⟩
    refine ⟨_, rfl, _, rfl, _, rfl, c, _, rfl, .inl (SqL.of hc), ?_⟩
    rw [List.length_map]
    refine ⟨d, nu, _, rfl, D, by omega, by omega, fun H1 z z1 z2 D1 off => ?_⟩
    obtain ⟨j, rfl⟩ : ∃ j : Nat, z = (j : Int) := ⟨z.toNat, by omega⟩
    have hj : j < cs.length := by omega
    refine ⟨c, _, _, _, rfl, rfl, SqL.of (off _ _ hc n1 n2), at_of rfl (by rw [List.getElem?_map, List.getElem?_eq_getElem hj]; rfl), k H1 _ (List.getElem_mem hj) D1 off⟩
theorem sc_law_step : FnScope ["_law_root", "_law_many"] ["_law_root", "_law_many"] (defScope s_law_step) := ⟨rfl, rfl, rfl, by decide +kernel, rfl, by decide +kernel, by decide +kernel⟩
theorem ok_law_step (T : Txt K mg CS CA) : Cal P w K mg base 1 "_law_step" ["_law_root", "_law_many"] spStep := by
  refine T.d_law_step.ok sc_law_step (fun vs H Q E h => ?_) (fun fa cdv Ar outer sh H vs Q E hr h => ?_)
  · obtain ⟨r, m, rfl, _⟩ := h
    rfl
  · obtain ⟨r, m, rfl, k⟩ := h
    refine ⟨_, pss_one (ps_ret (pe_op op_add (pe_ifExp (pt_cmpR op_lt (pe_op op_add (pe_op op_mul pe_int (pv 0)) pe_int) (pv 1) (nomark _)) pe_int pe_int) (pe_ifExp (pt_cmpR op_lt (pe_op op_add (pe_op op_mul pe_int (pv 0)) pe_int) (pv 1) (nomark _)) pe_int pe_int))), ?_⟩
    have two : ∀ a b : Int, a = (if 2 * r + 1 < m then 1 else 0) → b = (if 2 * r + 2 < m then 1 else 0) → Q (.int (a + b)) H := fun a b ha hb => by
      have e : a + b = ((stepN r m : Nat) : Int) := by
        unfold stepN
        rw [ha, hb]
        split <;> split <;> rfl
      rw [e]
      exact k
    have second : ∀ a : Int, a = (if 2 * r + 1 < m then 1 else 0) → tIf (tTest (tOp rLtI (tOp rAddI (tOp (rI CMul fun i j => .int (i * j)) (tC (.int 2)) (tVar 0)) (tC (.int 2))) (tVar 1))) (tC (.int 1)) (tC (.int 0)) [some (.int (r : Int)), some (.int (m : Int))] H (fun y H2 => ∃ i j, V.int a = .int i ∧ y = .int j ∧ Q (.int (i + j)) H2) := fun a ha => by
      refine ⟨_, rfl, _, _, rfl, rfl, .inl ⟨by decide, by decide⟩, _, _, rfl, rfl, _, rfl, _, _, rfl, rfl, _, rfl, ite2 (fun e => ?_) (fun e => ?_)⟩
      · have e2 : 2 * (r : Int) + 2 < (m : Int) := of_decide_eq_true e
        exact ⟨_, _, rfl, rfl, two a 1 ha (by rw [if_pos (by omega)])⟩
      · have e2 : ¬ 2 * (r : Int) + 2 < (m : Int) := fun z => e (decide_eq_true z)
        exact ⟨_, _, rfl, rfl, two a 0 ha (by rw [if_neg (by omega)])⟩
    refine ⟨_, rfl, _, _, rfl, rfl, .inl ⟨by decide, by decide⟩, _, _, rfl, rfl, _, rfl, _, _, rfl, rfl, _, rfl, ite2 (fun e => ?_) (fun e => ?_)⟩
    · have e2 : 2 * (r : Int) + 1 < (m : Int) := of_decide_eq_true e
      exact second 1 (by rw [if_pos (by omega)])
    · have e2 : ¬ 2 * (r : Int) + 1 < (m : Int) := fun z => e (decide_eq_true z)
      exact second 0 (by rw [if_neg (by omega)])
end
end Hs
/-! ## part HsWF -/
set_option Elab.async false
set_option linter.all false
set_option maxRecDepth 100000
set_option maxHeartbeats 4000000
namespace Hs
open PySem PySem.Spec PyProof.Rows L2
/-! ### the law's row -/
theorem pick_bounds {v z : Int} (h : v ∈ ([1, 2, 4, 40, 199] : List Int)) (h1 : 0 ≤ z) (h2 : z < v) : -99 ≤ z - v / 2 ∧ z - v / 2 ≤ 99 := by
  simp only [List.mem_cons, List.not_mem_nil, or_false] at h
  rcases h with rfl | rfl | rfl | rfl | rfl <;> omega
theorem pick_pos {v : Int} (h : v ∈ ([1, 2, 4, 40, 199] : List Int)) : 0 < v ∧ v < 1073741824 := by
  simp only [List.mem_cons, List.not_mem_nil, or_false] at h
  rcases h with rfl | rfl | rfl | rfl | rfl <;> omega
theorem Off.kept {d nu : Addr} {H H' : Hp} (f : Off d nu H H') {a : Addr} {o : HO} (h : H a = some o) (n1 : a ≠ d) (n2 : a ≠ nu) : H' a = some o := f a o h n1 n2
section
variable {P : Program} {w : World} {K : PySem.W.Frag} {mg : Str → Option Value} {base : Heap} {CS CA : Addr}
abbrev N_law_row : List Str := ["_law_draws", "_law_most", "_law_size", "_law_wide", "_law_row_here", "_law_shape", "_law_k"]
theorem sc_law_row : FnScope N_law_row ["_law_draws", "_law_most"] (defScope s_law_row) := ⟨rfl, rfl, rfl, by decide +kernel, rfl, by decide +kernel, by decide +kernel⟩
theorem ok_law_row (T : Txt K mg CS CA) : Cal P w K mg base 3 "_law_row" ["_law_draws", "_law_most"] spLawRow := by
  have GD : Cal P w K mg base 1 "_law_draw" ["_law_draws", "_law_limit"] spDraw := ok_law_draw T
  have GP : Cal P w K mg base 2 "_law_pick" ["_law_draws", "_law_choices"] spPick := ok_law_pick T
  refine T.d_law_row.ok sc_law_row (fun vs H Q E h => ?_) (fun fa cdv Ar outer sh H vs Q E hr h => ?_)
  · obtain ⟨d, nu, rfl, _⟩ := h
    rfl
  · obtain ⟨d, nu, rfl, D0, k⟩ := h
    have hr1 : Room 1 _ := hr.mono (by decide)
    have N : N_law_row.Nodup := sc_law_row.nd
    refine ⟨_, pss_cons (ps_asg (pe_tup (pa_cons (pe_cal GD hr1 rfl (pa_cons (pv 0) (pa_cons (pe_op op_add (pv 1) pe_int) pa_nil)))
        (pa_cons (pe_cal GP hr rfl (pa_cons (pv 0) (pa_cons (pe_lst (pa_cons pe_int (pa_cons pe_int (pa_cons pe_int (pa_cons pe_int (pa_cons pe_int pa_nil)))))) pa_nil))) pa_nil)))
        (pg_tup rfl (pgs_cons (pg_name (i := 2) N rfl (Or.inl rfl)) (pgs_cons (pg_name (i := 3) N rfl (Or.inr rfl)) pgs_nil))))
      (pss_cons (ps_setLc (i := 4) (own := [("_law_k", 6)]) (g := gName 6) (tt := tYes) (te := tOp (rI0 fun i j => .int (i - j)) (tCall spDraw [] E0 (tCons (tVar 0) (tCons (tVar 3) tNil))) (tOp (rI CDiv fun i j => .int (i / j)) (tVar 3) (tC (.int 2))))
          rfl N rfl rfl (sw_true rfl rfl rfl (by decide +kernel)) (pi_range1 rfl T.f_range (pa_cons (pv 2) pa_nil)) (blkOk_by (N := N_law_row) (sc := defScope s_law_row) (by decide +kernel)) (fun _ _ _ _ _ => pg_name (i := 6) N rfl (Or.inl rfl)) (fun _ _ _ _ _ => pts_nil)
          (fun _ _ _ _ _ => pe_op op_sub (pe_cal GD hr1 rfl (pa_cons (pv 0) (pa_cons (pv 3) pa_nil))) (pe_op op_fdiv (pv 3) pe_int)))
      (pss_cons (ps_set (i := 5) N rfl (Or.inl rfl) (pe_cal GD hr1 rfl (pa_cons (pv 0) (pa_cons pe_int pa_nil))))
      (pss_cons (ps_if (pt_cmpR op_eq (pv 5) pe_int (nomark _)) (pss_one (ps_set (i := 4) N rfl (Or.inl rfl) (pe_callB cr_sorted (by rfl) T.f_sorted (by decide +kernel) (pa_cons (pv 4) pa_nil)))) pss_nil)
      (pss_cons (ps_if (pt_cmpR op_eq (pv 5) pe_int (nomark _)) (pss_one (ps_set (i := 4) N rfl (Or.inl rfl) (pe_revL (pe_callB cr_sorted (by rfl) T.f_sorted (by decide +kernel) (pa_cons (pv 4) pa_nil))))) pss_nil)
      (pss_one (ps_ret (pv 4))))))), ?_⟩
    refine ⟨_, rfl, _, rfl, _, _, rfl, rfl, d, nu, 26, rfl, D0, by decide, by decide, fun H1 sz z1 z2 D1 o1 => ?_⟩
    refine ⟨_, rfl, (by show 5 ≤ sizeLine; decide), fun c hc => ?_⟩
    have t1 := Same.new (o := .lst [V.int 1, V.int 2, V.int 4, V.int 40, V.int 199]) hc
    obtain ⟨ns1, k1, q1, q2, _, _⟩ := D1.ex
    have ncd : c ≠ d := (ne_of_none q1 hc).symm
    have ncn : c ≠ nu := (ne_of_none q2 hc).symm
    refine ⟨d, nu, c, [1, 2, 4, 40, 199], rfl, D1.kept t1, upd_same, ncd, ncn, by decide, by decide, fun H2 wd hw D2 o2 => ?_⟩
    have o12 : Off d nu H H2 := o1.trans ((Off.same t1).trans o2)
    refine ⟨(by show 2 ≤ sizeLine; decide), fun p hp => ?_⟩
    have t2 := Same.new (o := .tup [V.int sz, V.int wd]) hp
    refine ⟨p, _, rfl, SqT.of upd_same, rfl, _, _, rfl, _, _, rfl, rfl, ?_⟩
    have D3 := D2.kept t2
    have o3 : Off d nu H (upd H2 p (.tup [V.int sz, V.int wd])) := o12.trans (Off.same t2)
    generalize upd H2 p (.tup [V.int sz, V.int wd]) = H3 at D3 o3
    obtain ⟨wp1, wp2⟩ := pick_pos hw
    refine ⟨_, rfl, sz, rfl, by omega, by omega, fun D hD => ?_⟩
    obtain ⟨ns3, k3, q3, q4, _, _⟩ := D3.ex
    have nDd : D ≠ d := (ne_of_none q3 hD).symm
    have nDn : D ≠ nu := (ne_of_none q4 hD).symm
    refine lc_range (lo := 0) (n := sz.toNat) (fun i Hc => ∃ zs : List Int, Hc D = some (.lst (zs.map V.int)) ∧ zs.length = i ∧ (∀ z ∈ zs, -99 ≤ z ∧ z ≤ 99) ∧ Drw Hc d nu ∧ Off d nu H3 Hc)
      ⟨[], upd_same, rfl, (fun _ z => nomatch z), D3.kept (Same.new hD), Off.same (Same.new hD)⟩ ?_ ?_
    · rintro i Hc hi ⟨zs, l1, l2, l3, l4, l5⟩
      refine ⟨rfl, ?_⟩
      refine ⟨_, rfl, _, rfl, d, nu, wd, rfl, l4, wp1, wp2, fun Hd z y1 y2 Dd od => ?_⟩
      refine ⟨_, rfl, _, _, rfl, rfl, ⟨by decide, by decide⟩, _, _, rfl, rfl, _, od.kept l1 nDd nDn, small1000 (by rw [List.length_map, l2]; omega), ?_⟩
      refine ⟨zs ++ [z - wd / 2], ?_, by rw [List.length_append, List.length_singleton, l2], fun y hy => ?_, ?_, fun b o e n1 n2 => ?_⟩
      · rw [upd_same, List.map_append]
        rfl
      · rcases List.mem_append.mp hy with e | e
        · exact l3 y e
        · rw [List.mem_singleton.mp e]
          exact pick_bounds hw y1 y2
      · obtain ⟨ns, c', g1, g2, g3, g4⟩ := Dd.ex
        exact ⟨ns, c', by rw [upd_ne nDd.symm]; exact g1, by rw [upd_ne nDn.symm]; exact g2, g3, g4⟩
      · rw [upd_ne (fun y => by rw [y, hD] at e; cases e)]
        exact od _ _ (l5 b o e n1 n2) n1 n2
    · rintro Hc ⟨zs, l1, l2, l3, l4, l5⟩
      refine ⟨_, rfl, d, nu, 6, rfl, l4, by decide, by decide, fun H5 shp _ _ D5 o5 => ?_⟩
      have o05 : Off d nu H H5 := o3.trans (l5.trans o5)
      have h5 := o5.kept l1 nDd nDn
      have hzl : zs.length ≤ 25 := by omega
      refine ⟨_, rfl, rfl, _, rfl, ?_⟩
      have sorted_end : ∀ (ys : List Int) (q : Addr), ys.Perm zs → H5 q = none → Q (.ref q) (upd H5 q (.lst (ys.map V.int))) := fun ys q pm hq =>
        k _ q ys upd_same (by rw [pm.length_eq]; exact hzl) (fun z hz => l3 z (pm.mem_iff.mp hz)) (o05.trans (Off.same (Same.new hq)))
      refine ite2 (fun e => ?_) (fun e => ?_)
      · have e0 : V.int shp = V.int 0 := of_decide_eq_true e
        have e1 : shp = 0 := V.int.inj e0
        subst e1
        refine ⟨_, rfl, D, zs, rfl, SqL.of h5, by omega, fun ys q pm _ hq => ?_⟩
        exact ⟨_, rfl, rfl, _, rfl, iteF ⟨_, rfl, sorted_end ys q pm hq⟩⟩
      · refine ⟨_, rfl, rfl, _, rfl, ite2 (fun e2 => ?_) (fun e2 => ?_)⟩
        · refine ⟨_, rfl, D, zs, rfl, SqL.of h5, by omega, fun ys q pm _ hq => ?_⟩
          refine ⟨q, _, rfl, SqL.of upd_same, fun q2 hq2 => ⟨_, rfl, ?_⟩⟩
          have t5 := Same.new (o := .lst (ys.map V.int)) hq
          rw [← List.map_reverse]
          exact k _ q2 ys.reverse upd_same (by rw [List.length_reverse, pm.length_eq]; exact hzl) (fun z hz => l3 z (pm.mem_iff.mp (List.mem_reverse.mp hz))) (o05.trans (Off.same (t5.trans (Same.new hq2))))
        · exact ⟨_, rfl, k _ D zs h5 hzl l3 o05⟩
end
end Hs
/-! ## part HsWG -/
set_option Elab.async false
set_option linter.all false
set_option maxRecDepth 100000
set_option maxHeartbeats 4000000
namespace Hs
open PySem PySem.Spec PyProof.Rows L2
/-! ### the law: what it leans on -/
abbrev N_law : List Str := ["_law_script", "_law_draws", "_law_size", "_law_even", "_law_root", "_law_many", "_law_due", "_law_row_here", "_law_log", "_law_child", "_law_levels", "_law_power", "_law_sparing_log", "_law_greatest", "_law_one", "_law_k"]
theorem sc_law : FnScope N_law ["_law_script"] (defScope s_law) := ⟨rfl, rfl, rfl, by decide +kernel, rfl, by decide +kernel, by decide +kernel⟩
theorem cut10 (xs : List Int) : cutV (xs.map V.int) none (some 10) = (xs.take 10).map V.int := by
  unfold cutV
  rw [HT.sIx_none, show HT.sIx (xs.map V.int).length (xs.map V.int).length (some 10) = min 10 (xs.map V.int).length from HT.sIx_nat _ _ 10, List.drop_zero, Nat.sub_zero, List.map_take]
  by_cases h : 10 ≤ (xs.map V.int).length
  · rw [Nat.min_eq_left h]
  · rw [Nat.min_eq_right (by omega), List.take_of_length_le (Nat.le_refl _), List.take_of_length_le (by omega)]
/-- a law's row in the heap -/
structure ZRow (H : Hp) (r : Addr) (zs : List Int) : Prop where
  at_ : H r = some (.lst (zs.map V.int))
  len : zs.length ≤ 25
  bnd : ∀ z ∈ zs, -99 ≤ z ∧ z ≤ 99
theorem ZRow.same {H H' : Hp} {r : Addr} {zs : List Int} (Z : ZRow H r zs) (s : Same H H') : ZRow H' r zs := ⟨s _ _ Z.at_, Z.len, Z.bnd⟩
theorem ZRow.row {H : Hp} {r : Addr} {zs : List Int} (Z : ZRow H r zs) : RowAt H r zs.length (rowF zs) := by
  show H r = some (.lst (ro zs.length fun i => .int (rowF zs i)))
  rw [← row_ro]
  exact Z.at_
theorem rowF_mem {zs : List Int} {i : Nat} (h : i < zs.length) : rowF zs i ∈ zs := by
  unfold rowF
  rw [List.getD_eq_getElem?_getD, List.getElem?_eq_getElem h]
  exact List.getElem_mem h
theorem ZRow.rin {H : Hp} {r : Addr} {zs : List Int} (Z : ZRow H r zs) : RowIn zs.length (rowF zs) := ⟨Nat.le_trans Z.len (by decide), fun i hi => Z.bnd _ (rowF_mem hi)⟩
theorem rowF_at {zs : List Int} {i : Nat} (h : i < zs.length) : (zs.map V.int)[i]? = some (V.int (rowF zs i)) := by
  rw [row_ro, ro_at h]
theorem map_rowF (zs : List Int) : (List.range zs.length).map (rowF zs) = zs := by
  refine List.ext_getElem? fun i => ?_
  rw [List.getElem?_map]
  by_cases hi : i < zs.length
  · rw [List.getElem?_range hi, List.getElem?_eq_getElem hi]
    show some (rowF zs i) = _
    unfold rowF
    rw [List.getD_eq_getElem?_getD, List.getElem?_eq_getElem hi]
    rfl
  · rw [List.getElem?_eq_none (by rw [List.length_range]; omega), List.getElem?_eq_none (by omega)]
    rfl
theorem ZRow.cut {zs : List Int} {H H' : Hp} {r c : Addr} (Z : ZRow H r zs) : ZRow (upd H' c (.lst (cutV (zs.map V.int) none (some 10)))) c (zs.take 10) :=
  ⟨by rw [upd_same, cut10], by rw [List.length_take]; have := Z.len; omega, fun z hz => Z.bnd z (List.mem_of_mem_take hz)⟩
theorem ord_len (n : Nat) (f : Nat → Int) : (ordF n f).length = n := (heap_ok f n).1
/-- the order told, as integers, is the sorted row -/
theorem ord_sorted {zs ys : List Int} (pm : ys.Perm zs) (up : ys.Pairwise (· ≤ ·)) : (ordF zs.length (rowF zs)).map (rowF zs) = ys := by
  obtain ⟨h1, h2, h3⟩ := heap_ok (rowF zs) zs.length
  refine List.Perm.eq_of_pairwise (le := (· ≤ ·)) (fun a b _ _ x y => Int.le_antisymm x y) ?_ up ?_
  · rw [List.pairwise_map, List.pairwise_iff_getElem]
    intro i j hi hj hij
    have q := h3 i j (Nat.le_of_lt hij) (Nat.lt_of_lt_of_eq hj h1)
    have ei : nth (heapF (ltf (rowF zs)) zs.length).1 i = (heapF (ltf (rowF zs)) zs.length).1[i] := nth_of (List.getElem?_eq_getElem hi)
    have ej : nth (heapF (ltf (rowF zs)) zs.length).1 j = (heapF (ltf (rowF zs)) zs.length).1[j] := nth_of (List.getElem?_eq_getElem hj)
    rw [ei, ej] at q
    exact q
  · have := h2.map (rowF zs)
    rw [map_rowF] at this
    exact this.trans pm.symm
/-- the last thing of the order told is a greatest one -/
theorem ord_last {zs : List Int} (h : 0 < zs.length) : ∀ y ∈ zs, y ≤ rowF zs (nth (ordF zs.length (rowF zs)) (zs.length - 1)) := by
  intro y hy
  obtain ⟨h1, h2, h3⟩ := heap_ok (rowF zs) zs.length
  rw [← map_rowF zs] at hy
  obtain ⟨i, hi, rfl⟩ := List.mem_map.mp hy
  have hio : i ∈ ordF zs.length (rowF zs) := h2.mem_iff.mpr hi
  obtain ⟨j, hj, e⟩ := List.getElem_of_mem hio
  have ej : nth (ordF zs.length (rowF zs)) j = i := by rw [← e]; exact nth_of (List.getElem?_eq_getElem hj)
  have hjl : j < zs.length := by
    have q := ord_len zs.length (rowF zs)
    rw [q] at hj
    exact hj
  have q := h3 j (zs.length - 1) (by omega) (by omega)
  rw [ej] at q
  exact q
theorem vN_ints (xs : List Nat) : vN xs = (xs.map fun x : Nat => (x : Int)).map V.int := by
  unfold vN
  rw [List.map_map]
  rfl
theorem dp_things {K : PySem.W.Frag} {H : Hp} {a : Addr} {xs : List Nat} (h : H a = some (.lst (vN xs))) : Dp K H (.ref a) (.list ((xs.map fun x : Nat => (x : Int)).map PyData.int)) := dp_ints (SqL.of (by rw [h, vN_ints]))
theorem eqv_self (a : List Int) : PyData.eqv (.list (a.map PyData.int)) (.list (a.map PyData.int)) = true := by rw [eqv_ints]; exact decide_eq_true rfl
theorem inV_thing {x : Nat} {xs : List Nat} (h : x ∈ xs) : inV (.int (x : Int)) (vN xs) = true := by
  unfold inV vN
  rw [List.any_map, List.any_eq_true]
  exact ⟨x, h, by show ((x : Int) == (x : Int)) = true; simp⟩
theorem flat_things (xs : List Nat) : (vN xs).all flatV = true := by
  unfold vN
  rw [List.all_map, List.all_eq_true]
  exact fun _ _ => rfl
theorem atI_end {xs : List Nat} (h : 0 < xs.length) : atI (vN xs) (-1) = some (V.int (nth xs (xs.length - 1) : Nat)) := by
  have e : xs = xs.dropLast ++ [nth xs (xs.length - 1)] := by
    have hne : xs ≠ [] := List.ne_nil_of_length_pos h
    have q := List.dropLast_concat_getLast hne
    rw [List.getLast_eq_getElem] at q
    rw [nth_of (List.getElem?_eq_getElem (show xs.length - 1 < xs.length by omega))]
    exact q.symm
  generalize nth xs (xs.length - 1) = z at e
  rw [e]
  unfold vN
  rw [List.map_append]
  exact atI_last _ _
section
variable {P : Program} {w : World} {K : PySem.W.Frag} {mg : Str → Option Value} {base : Heap} {CS CA : Addr}
/-- the law's context -/
abbrev XL (P : Program) (w : World) (K : PySem.W.Frag) (mg : Str → Option Value) (base : Heap) (f : Addr) (cdv : Value) (A : Around) (outer : List Env) (s : Shared) (H : Hp) (E : XK) : Cx := (cxOf CX0 P w K mg base N_law "law" (defScope s_law) f cdv A outer s H E).nox
/-- behind the count of levels -/
structure StC (σ : L2.St) (H : Hp) : Prop where
  ex : ∃ (r lg : Addr) (zs : List Int) (L : Nat) (v0 v1 v2 v3 v4 v6 v9 v11 v12 v13 v14 v15 : Option V), σ = [v0, v1, v2, v3, v4, some (.int ((zs.length : Nat) : Int)), v6, some (.ref r), some (.ref lg), v9, some (.int (L : Int)), v11, v12, v13, v14, v15] ∧
    ZRow H r zs ∧ 2 ≤ zs.length ∧ LogAt H lg false (rowF zs) (qsF zs.length (rowF zs)) ∧ L < 6 ∧ zs.length < 2 ^ L
set_option maxHeartbeats 16000000 in
theorem law_c (T : Txt K mg CS CA) {f : Addr} {cdv : Value} {A : Around} {outer : List Env} {s : Shared} {H0 : Hp} {E : XK} (hr : Room 11 (A.deeper (envOfC "law" (defScope s_law) s.heap.objs.size f cdv))) :
    ∃ t, PSs (XL P w K mg base f cdv A outer s H0 E) ((defBody s_law).drop 13) t ∧ ∀ (D : Ends) (σ : L2.St) (H : Hp), StC σ H → (∀ H', D.rt (.bl true) H') → t D σ H := by
  have GR : Cal P w K mg base 9 "run" ["way", "row"] spRun := ok_run T
  have GT : Cal P w K mg base 9 "told_order" ["way", "row"] spTold := ok_told T
  have GS : Cal P w K mg base 10 "sorted_row" ["way", "row"] spSortedRow := ok_sorted_row T
  have GK : Cal P w K mg base 11 "is_keeping" ["way", "size"] spIsKeeping := ok_is_keeping T
  have hr9 : Room 9 (A.deeper (envOfC "law" (defScope s_law) s.heap.objs.size f cdv)) := hr.mono (by decide)
  have hr10 : Room 10 (A.deeper (envOfC "law" (defScope s_law) s.heap.objs.size f cdv)) := hr.mono (by decide)
  have N : N_law.Nodup := sc_law.nd
  refine ⟨_, pss_cons (ps_if (PW.pt (pw_or (pt_cmpR op_gt (pe_callB call_len_seq (by rfl) T.f_len PySem.boot_len (pa_cons (pv 8) pa_nil)) (pe_op op_mul (pe_op op_mul pe_int (pv 5)) (pv 10)) (nomark _))
        (pw_or1 (pt_cmpR (op_neD hr.units) (pe_cal GS hr10 rfl (pa_cons (pe_tup (pa_cons pe_str pa_nil)) (pa_cons (pv 7) pa_nil))) (pe_callB cr_sorted (by rfl) T.f_sorted (by decide +kernel) (pa_cons (pv 7) pa_nil)) (nomark _))))) pss_never pss_nil)
    (pss_cons (ps_set (i := 12) N rfl (Or.inl rfl) (pe_cal GR hr9 rfl (pa_cons (pe_tup (pa_cons pe_str (pa_cons (pe_tup (pa_cons pe_str pa_nil)) pa_nil))) (pa_cons (pe_slice sl_list (pv 7) po_none (po_some pe_int)) pa_nil))))
    (pss_cons (ps_if (PW.pt (pw_or (pt_cmpR op_gt (pe_callB call_len_seq (by rfl) T.f_len PySem.boot_len (pa_cons (pv 12) pa_nil))
          (pe_callB call_len_seq (by rfl) T.f_len PySem.boot_len (pa_cons (pe_cal GR hr9 rfl (pa_cons (pe_tup (pa_cons pe_str pa_nil)) (pa_cons (pe_slice sl_list (pv 7) po_none (po_some pe_int)) pa_nil))) pa_nil)) (nomark _))
        (pw_or1 (pt_cmpR (op_neD hr.units) (pe_cal GT hr9 rfl (pa_cons (pe_tup (pa_cons pe_str (pa_cons (pe_tup (pa_cons pe_str pa_nil)) pa_nil))) (pa_cons (pe_slice sl_list (pv 7) po_none (po_some pe_int)) pa_nil)))
          (pe_cal GT hr9 rfl (pa_cons (pe_tup (pa_cons pe_str pa_nil)) (pa_cons (pe_slice sl_list (pv 7) po_none (po_some pe_int)) pa_nil))) (nomark _))))) pss_never pss_nil)
    (pss_cons (ps_setLc (i := 13) (own := [("_law_k", 15)]) (g := gName 15) (tt := tTest (tOp rEq (tOp (rIxL K) (tVar 7) (tVar 15)) (tCB (rMax K) (tCons (tVar 7) tNil)))) (te := tVar 15) rfl N rfl rfl (sw_true rfl rfl rfl (by decide +kernel)) (pi_range1 rfl T.f_range (pa_cons (pv 5) pa_nil))
        (blkOk_by (N := N_law) (sc := defScope s_law) (by decide +kernel)) (fun _ _ _ _ _ => pg_name (i := 15) N rfl (Or.inl rfl))
        (fun _ _ _ _ _ => pts_one (pt_cmpR op_eq (pe_ix ix_list (pv 7) (pv 15) (fun _ _ => rfl)) (pe_callB (cr_max rfl) (by rfl) T.f_max (by decide +kernel) (pa_cons (pv 7) pa_nil)) (nomark _))) (fun _ _ _ _ _ => pv 15))
    (pss_one (ps_ret (pe_and (pe_cmpR op_in_seq (pe_ix ix_list (pe_cal GT hr9 rfl (pa_cons (pe_tup (pa_cons pe_str pa_nil)) (pa_cons (pv 7) pa_nil))) (pe_un un_neg pe_int) (fun _ _ => rfl)) (pv 13) rfl)
      (pe_and (pe_cmpR op_isBl (pe_cal GK hr rfl (pa_cons (pe_tup (pa_cons pe_str pa_nil)) (pa_cons pe_int pa_nil))) pe_bl (nomark _))
        (pe_one (pe_cmpR op_isBl (pe_cal GK hr rfl (pa_cons (pe_tup (pa_cons pe_str pa_nil)) (pa_cons pe_int pa_nil))) pe_bl (nomark _)))))))))), fun D σ H S hQ => ?_⟩
  obtain ⟨r, lg, zs, L, v0, v1, v2, v3, v4, v6, v9, v11, v12, v13, v14, v15, rfl, Z, h2, hlg, hL, hpw⟩ := S.ex
  have hlen25 := Z.len
  -- if len(log) > 2 * many * levels
  obtain ⟨ts, g1, g2, g3, g4⟩ := id hlg
  have hcl : (qsF zs.length (rowF zs)).length ≤ 2 * zs.length * L := heap_len _ (by omega) hL hpw
  have hts : ts.length = (qsF zs.length (rowF zs)).length := by rw [← g3 rfl, List.length_map]
  refine ⟨_, rfl, lg, _, rfl, .inl (SqL.of g1), ?_⟩
  rw [List.length_map, hts]
  refine ⟨_, rfl, _, _, rfl, rfl, .inl ⟨by decide, by decide⟩, _, rfl, _, _, rfl, rfl, .inl ⟨by omega, by omega⟩, _, _, rfl, rfl, ?_⟩
  have c1 : decide ((2 : Int) * ((zs.length : Nat) : Int) * (L : Int) < (((qsF zs.length (rowF zs)).length : Nat) : Int)) = false := by
    refine decide_eq_false ?_
    have e : (2 : Int) * ((zs.length : Nat) : Int) * (L : Int) = ((2 * zs.length * L : Nat) : Int) := by
      rw [Int.natCast_mul, Int.natCast_mul]
      rfl
    rw [e]
    omega
  refine ⟨false, congrArg V.bl c1, iteF ?_⟩
  -- or sorted_row(..) != sorted(row)
  refine ⟨(by show 1 ≤ sizeLine; decide), fun w1 hw1 => ?_⟩
  have t1 := Same.new (o := .tup [V.str "heap"]) hw1
  refine ⟨_, rfl, w1, r, false, _, _, rfl, upd_same, (Z.same t1).row, Z.rin, fun H1 o1 s1 ho1 => ?_⟩
  have s01 := t1.trans s1
  refine ⟨_, rfl, r, zs, rfl, SqL.of (s01 _ _ Z.at_), by omega, fun ys q1 pm up hq1 => ?_⟩
  have t2 := Same.new (o := .lst (ys.map V.int)) hq1
  have e1 : ((ordF zs.length (rowF zs)).map fun x => V.int (rowF zs x)) = ys.map V.int := by
    rw [← ord_sorted pm up, List.map_map]
    rfl
  rw [e1] at ho1
  refine ⟨_, _, dp_ints (SqL.of (t2 _ _ ho1)), dp_ints (SqL.of upd_same), shaped_ints _, shaped_ints _, false, congrArg V.bl (by rw [eqv_self]; rfl), iteF ?_⟩
  have s02 := s01.trans t2
  generalize upd H1 q1 (.lst (ys.map V.int)) = H2 at s02
  -- sparing_log
  have Z2 := Z.same s02
  have rin10 := (Z.cut (H' := H) (c := r)).rin
  refine ⟨(by show 1 ≤ sizeLine; decide), fun u hu => ⟨(by show 2 ≤ sizeLine; decide), fun t ht => ?_⟩⟩
  have t3 := Same.new (o := .tup [V.str "heap"]) hu
  have t4 := Same.new (o := .tup [V.str "sparing", V.ref u]) ht
  refine ⟨_, rfl, 10, rfl, r, _, rfl, SqL.of (t4 _ _ (t3 _ _ Z2.at_)), fun c hc => ?_⟩
  have t5 := Same.new (o := .lst (cutV (zs.map V.int) none (some 10))) hc
  refine ⟨t, c, true, _, _, rfl, ⟨u, t5 _ _ upd_same, t5 _ _ (t4 _ _ upd_same)⟩, Z2.cut.row, rin10, fun H3 l3 s3 hl3 => ?_⟩
  have s23 := t3.trans (t4.trans (t5.trans s3))
  -- len(sparing_log) > len(run(heap, row[:10]))
  obtain ⟨ts3, k1, k2, _, k4⟩ := id hl3
  refine ⟨_, rfl, l3, _, rfl, .inl (SqL.of k1), ?_⟩
  refine ⟨(by show 1 ≤ sizeLine; decide), fun w2 hw2 => ?_⟩
  have t6 := Same.new (o := .tup [V.str "heap"]) hw2
  have Z3 := Z2.same s23
  refine ⟨_, rfl, 10, rfl, r, _, rfl, SqL.of (t6 _ _ Z3.at_), fun c4 hc4 => ?_⟩
  have t7 := Same.new (o := .lst (cutV (zs.map V.int) none (some 10))) hc4
  refine ⟨w2, c4, false, _, _, rfl, t7 _ _ upd_same, Z3.cut.row, rin10, fun H4 l4 s4 hl4 => ?_⟩
  have s34 := t6.trans (t7.trans s4)
  obtain ⟨ts4, m1, m2, m3, m4⟩ := id hl4
  refine ⟨l4, _, rfl, .inl (SqL.of m1), _, _, rfl, rfl, ?_⟩
  have hts4 : ts4.length = (qsF (zs.take 10).length (rowF (zs.take 10))).length := by rw [← m3 rfl, List.length_map]
  refine ⟨false, congrArg V.bl (decide_eq_false ?_), iteF ?_⟩
  · rw [List.length_map, List.length_map, hts4]
    omega
  -- told_order(sparing) != told_order(heap)
  have Z4 := Z3.same s34
  refine ⟨(by show 1 ≤ sizeLine; decide), fun u5 hu5 => ⟨(by show 2 ≤ sizeLine; decide), fun w5 hw5 => ?_⟩⟩
  have a1 := Same.new (o := .tup [V.str "heap"]) hu5
  have a2 := Same.new (o := .tup [V.str "sparing", V.ref u5]) hw5
  refine ⟨_, rfl, 10, rfl, r, _, rfl, SqL.of (a2 _ _ (a1 _ _ Z4.at_)), fun c5 hc5 => ?_⟩
  have a3 := Same.new (o := .lst (cutV (zs.map V.int) none (some 10))) hc5
  refine ⟨w5, c5, true, _, _, rfl, ⟨u5, a3 _ _ upd_same, a3 _ _ (a2 _ _ upd_same)⟩, Z4.cut.row, rin10, fun H5 o5 s5 ho5 => ?_⟩
  have s45 := a1.trans (a2.trans (a3.trans s5))
  have Z5 := Z4.same s45
  refine ⟨(by show 1 ≤ sizeLine; decide), fun w6 hw6 => ?_⟩
  have b1 := Same.new (o := .tup [V.str "heap"]) hw6
  refine ⟨_, rfl, 10, rfl, r, _, rfl, SqL.of (b1 _ _ Z5.at_), fun c6 hc6 => ?_⟩
  have b2 := Same.new (o := .lst (cutV (zs.map V.int) none (some 10))) hc6
  refine ⟨w6, c6, false, _, _, rfl, b2 _ _ upd_same, Z5.cut.row, rin10, fun H6 o6 s6 ho6 => ?_⟩
  have s56 := b1.trans (b2.trans s6)
  refine ⟨_, _, dp_things (s56 _ _ ho5), dp_things ho6, shaped_ints _, shaped_ints _, false, congrArg V.bl (by rw [eqv_self]; rfl), iteF ?_⟩
  have Z6 := Z5.same s56
  clear hl3 k1 k2 k4 hl4 m1 m2 m3 m4 hts4
  -- greatest
  refine ⟨_, rfl, ((zs.length : Nat) : Int), rfl, by omega, by omega, fun DD hD => lc_range (lo := 0) (n := zs.length) (fun i Hc => ∃ ks : List Nat, Hc = upd H6 DD (.lst (vN ks)) ∧ ks.length ≤ i ∧ ∀ j, j < i → (∀ y ∈ zs, y ≤ rowF zs j) → j ∈ ks)
    ⟨[], rfl, Nat.le_refl _, fun j z => absurd z (Nat.not_lt_zero _)⟩ ?_ ?_⟩
  · rintro i Hc hi ⟨ks, rfl, kl, kin⟩
    have Zd := Z6.same (Same.new (o := .lst (vN ks)) hD)
    refine ⟨rfl, ?_⟩
    refine ⟨_, rfl, _, rfl, r, _, _, _, rfl, rfl, SqL.of Zd.at_, at_of (Int.zero_add _) (rowF_at hi), _, rfl, r, zs, rfl, SqL.of Zd.at_, by omega, fun m hm hmx => ⟨rfl, _, rfl, ite2 (fun e => ?_) (fun e => ?_)⟩⟩
    · refine ⟨_, rfl, vN ks, upd_same, small1000 (by rw [vN_length]; omega), ks ++ [i], by rw [upd_upd, vN_app], by rw [List.length_append, List.length_singleton]; omega, fun j hj hmax => ?_⟩
      by_cases ji : j = i
      · rw [ji]
        exact List.mem_append_right _ List.mem_cons_self
      · exact List.mem_append_left _ (kin j (by omega) hmax)
    · refine ⟨ks, rfl, by omega, fun j hj hmax => ?_⟩
      by_cases ji : j = i
      · rw [ji] at hmax
        have x1 := hmax m hm
        have x2 := hmx _ (rowF_mem hi)
        exact absurd (decide_eq_true (congrArg V.int (Int.le_antisymm x2 x1))) e
      · exact kin j (by omega) hmax
  · rintro Hc ⟨ks, rfl, kl, kin⟩
    have d1 := Same.new (o := .lst (vN ks)) hD
    have Z7 := Z6.same d1
    refine ⟨(by show 1 ≤ sizeLine; decide), fun w7 hw7 => ?_⟩
    have d2 := Same.new (o := .tup [V.str "heap"]) hw7
    refine ⟨_, rfl, w7, r, false, _, _, rfl, upd_same, (Z7.same d2).row, Z.rin, fun H7 o7 s7 ho7 => ?_⟩
    have hol : 0 < (ordF zs.length (rowF zs)).length := by rw [ord_len]; omega
    refine ⟨1, rfl, o7, _, _, _, rfl, rfl, SqL.of ho7, atI_end hol, _, rfl, DD, vN ks, rfl, .inl (SqL.of (s7 _ _ (d2 _ _ upd_same))), rfl, flat_things _, ?_⟩
    have hin : nth (ordF zs.length (rowF zs)) ((ordF zs.length (rowF zs)).length - 1) ∈ ks := by
      rw [ord_len]
      have hxl : nth (ordF zs.length (rowF zs)) (zs.length - 1) < zs.length := ord_mem (nth_mem (by rw [ord_len]; omega))
      exact kin _ hxl (ord_last (by omega))
    refine ⟨true, congrArg V.bl (show inV _ _ = true from inV_thing hin), iteT ?_⟩
    refine ⟨(by show 1 ≤ sizeLine; decide), fun w8 hw8 => ?_⟩
    refine ⟨w8, 1, rfl, upd_same, .inl rfl, fun H8 s8 => ⟨_, _, rfl, rfl, true, congrArg V.bl (by decide), iteT ?_⟩⟩
    refine ⟨(by show 1 ≤ sizeLine; decide), fun w9 hw9 => ?_⟩
    refine ⟨w9, 2, rfl, upd_same, .inr rfl, fun H9 s9 => ⟨_, _, rfl, rfl, ?_⟩⟩
    have e9 : decide (decide ((2 : Nat) = 1) = false) = true := by decide
    show D.rt (.bl (decide (decide ((2 : Nat) = 1) = false))) H9
    rw [e9]
    exact hQ H9
end
end Hs
/-! ## part HsWH -/
set_option Elab.async false
set_option linter.all false
set_option maxRecDepth 100000
set_option maxHeartbeats 4000000
namespace Hs
open PySem PySem.Spec PyProof.Rows L2
/-! ### the law: the first questions, the levels -/
abbrev rMulI : R2 := rI CMul fun i j => .int (i * j)
theorem pick_child {b : Bool} {r : Nat} {σ : L2.St} {H : Hp} {Q : VK} (e4 : σ[4]? = some (some (V.int (r : Int)))) (g : Q (.int ((if b = true then 2 * r + 2 else 2 * r + 1 : Nat) : Int)) H) :
    if b = true then tOp rAddI (tOp rMulI (tC (.int 2)) (tVar 4)) (tC (.int 2)) σ H Q else tOp rAddI (tOp rMulI (tC (.int 2)) (tVar 4)) (tC (.int 1)) σ H Q := by
  cases b with
  | true =>
    rw [if_pos rfl]
    refine ⟨_, e4, _, _, rfl, rfl, .inl ⟨by decide, by decide⟩, _, _, rfl, rfl, ?_⟩
    have e : (2 * (r : Int) + 2) = ((2 * r + 2 : Nat) : Int) := by omega
    show Q (.int (2 * (r : Int) + 2)) H
    rw [e]
    exact g
  | false =>
    rw [if_neg Bool.false_ne_true]
    refine ⟨_, e4, _, _, rfl, rfl, .inl ⟨by decide, by decide⟩, _, _, rfl, rfl, ?_⟩
    have e : (2 * (r : Int) + 1) = ((2 * r + 1 : Nat) : Int) := by omega
    show Q (.int (2 * (r : Int) + 1)) H
    rw [e]
    exact g
theorem rd2 {c k : Nat} {σ : L2.St} {H : Hp} {Q : VK} (e4 : σ[4]? = some (some (V.int (k : Int)))) (g : Q (.int ((2 * k + c : Nat) : Int)) H) :
    tOp rAddI (tOp rMulI (tC (.int 2)) (tVar 4)) (tC (.int (c : Int))) σ H Q := by
  refine ⟨_, e4, _, _, rfl, rfl, .inl ⟨by decide, by decide⟩, _, _, rfl, rfl, ?_⟩
  have e : (2 * (k : Int) + (c : Int)) = ((2 * k + c : Nat) : Int) := by omega
  show Q (.int (2 * (k : Int) + (c : Int))) H
  rw [e]
  exact g
/-- a question with its answer, as data -/
def qD (x y : Nat) (b : Bool) : PyData := .tuple [.int (x : Int), .int (y : Int), .bool b]
theorem dp_q {K : PySem.W.Frag} {H : Hp} {a : Addr} {x y : Nat} {b : Bool} (h : H a = some (.tup [.int (x : Int), .int (y : Int), .bl b])) : Dp K H (.ref a) (qD x y b) := .tup (SqT.of h) (.cons (.int _) (.cons (.int _) (.cons (.bl _) .nil)))
theorem shaped_q (x y : Nat) (b : Bool) : SeqAt.shaped (qD x y b) = true := rfl
theorem eqv_q (x y : Nat) (b : Bool) : PyData.eqv (qD x y b) (qD x y b) = true := by
  show ((x : Int) == (x : Int) && ((y : Int) == (y : Int) && ((b == b) && true))) = true
  simp
theorem lev4 : ∀ L, L ≤ 5 → 2 ^ L ≤ 25 → L ≤ 4 := by decide
section
variable {P : Program} {w : World} {K : PySem.W.Frag} {mg : Str → Option Value} {base : Heap} {CS CA : Addr}
/-- ahead of the first questions -/
structure StR (σ : L2.St) (H : Hp) : Prop where
  ex : ∃ (r lg : Addr) (zs : List Int) (k : Nat) (v0 v1 v2 v3 v6 v9 v10 v11 v12 v13 v14 v15 : Option V), σ = [v0, v1, v2, v3, some (.int (k : Int)), some (.int ((zs.length : Nat) : Int)), v6, some (.ref r), some (.ref lg), v9, v10, v11, v12, v13, v14, v15] ∧
    ZRow H r zs ∧ 2 ≤ zs.length ∧ LogAt H lg false (rowF zs) (qsF zs.length (rowF zs)) ∧ k + 1 = zs.length / 2
/-- behind them -/
structure StL (σ : L2.St) (H : Hp) : Prop where
  ex : ∃ (r lg : Addr) (zs : List Int) (v0 v1 v2 v3 v4 v6 v9 v10 v11 v12 v13 v14 v15 : Option V), σ = [v0, v1, v2, v3, v4, some (.int ((zs.length : Nat) : Int)), v6, some (.ref r), some (.ref lg), v9, v10, v11, v12, v13, v14, v15] ∧
    ZRow H r zs ∧ 2 ≤ zs.length ∧ LogAt H lg false (rowF zs) (qsF zs.length (rowF zs))
theorem law_l (T : Txt K mg CS CA) {f : Addr} {cdv : Value} {A : Around} {outer : List Env} {s : Shared} {H0 : Hp} {E : XK} (hr : Room 11 (A.deeper (envOfC "law" (defScope s_law) s.heap.objs.size f cdv))) :
    ∃ t, PSs (XL P w K mg base f cdv A outer s H0 E) ((defBody s_law).drop 11) t ∧ ∀ (D : Ends) (σ : L2.St) (H : Hp), StL σ H → (∀ H', D.rt (.bl true) H') → t D σ H := by
  obtain ⟨tC, hC, kC⟩ := law_c (P := P) (w := w) (base := base) (outer := outer) (s := s) (H0 := H0) (E := E) T hr
  have N : N_law.Nodup := sc_law.nd
  refine ⟨_, pss_cons (ps_asg (pe_tup (pa_cons pe_int (pa_cons pe_int pa_nil))) (pg_tup rfl (pgs_cons (pg_name (i := 10) N rfl (Or.inl rfl)) (pgs_cons (pg_name (i := 11) N rfl (Or.inl rfl)) pgs_nil))))
    (pss_cons (ps_while PassesOwn.never (pt_cmpR op_le (pv 11) (pv 5) (nomark _)) (pss_one (ps_par (i := 11) (j := 10) rfl N rfl rfl (by decide) rfl rfl (pa_cons (pe_op op_mul (pv 11) pe_int) (pa_cons (pe_op op_add (pv 10) pe_int) pa_nil)) (by rfl)))) hC), fun D σ H S hQ => ?_⟩
  obtain ⟨r, lg, zs, v0, v1, v2, v3, v4, v6, v9, v10, v11, v12, v13, v14, v15, rfl, Z, h2, hlg⟩ := S.ex
  have h25 := Z.len
  refine ⟨(by show 2 ≤ sizeLine; decide), fun p hp => ⟨p, _, rfl, SqT.of upd_same, rfl, _, _, rfl, _, _, rfl, rfl, ?_⟩⟩
  have t1 := Same.new (o := .tup [V.int 0, V.int 1]) hp
  have Z1 := Z.same t1
  have hlg1 := hlg.same t1
  generalize upd H p (.tup [V.int 0, V.int 1]) = H1 at Z1 hlg1
  refine ⟨fun m σ Hc => ∃ L : Nat, m = 6 - L ∧ L ≤ 5 ∧ σ = [v0, v1, v2, v3, v4, some (.int ((zs.length : Nat) : Int)), v6, some (.ref r), some (.ref lg), v9, some (.int (L : Int)), some (.int ((2 ^ L : Nat) : Int)), v12, v13, v14, v15] ∧ Hc = H1, ⟨6, 0, rfl, by decide, rfl, rfl⟩, ?_⟩
  rintro m σ Hc ⟨L, rfl, hL, rfl, rfl⟩
  refine ⟨_, rfl, _, rfl, _, _, rfl, rfl, _, rfl, ite2 (fun e => ?_) (fun e => ?_)⟩
  · have e1 : ((2 ^ L : Nat) : Int) ≤ ((zs.length : Nat) : Int) := of_decide_eq_true e
    have hL4 : L ≤ 4 := lev4 L hL (by omega)
    refine ⟨fun σ Hd => σ = [v0, v1, v2, v3, v4, some (.int ((zs.length : Nat) : Int)), v6, some (.ref r), some (.ref lg), v9, some (.int ((L + 1 : Nat) : Int)), some (.int ((2 ^ (L + 1) : Nat) : Int)), v12, v13, v14, v15] ∧ Hd = Hc,
      fun σ' H' ⟨q1, q2⟩ => ⟨6 - (L + 1), by omega, L + 1, rfl, by omega, q1, q2⟩, ?_⟩
    refine ⟨_, rfl, _, _, rfl, rfl, .inr ⟨by decide, by decide⟩, _, rfl, _, _, rfl, rfl, _, _, rfl, ?_, rfl⟩
    have p1 : ((2 ^ L : Nat) : Int) * 2 = ((2 ^ (L + 1) : Nat) : Int) := by
      rw [Nat.pow_succ, Int.natCast_mul]
      rfl
    have p2 : (L : Int) + 1 = ((L + 1 : Nat) : Int) := by omega
    show [v0, v1, v2, v3, v4, some (.int ((zs.length : Nat) : Int)), v6, some (.ref r), some (.ref lg), v9, some (.int ((L : Int) + 1)), some (.int (((2 ^ L : Nat) : Int) * 2)), v12, v13, v14, v15] = _
    rw [p1, p2]
  · have e1 : ¬ ((2 ^ L : Nat) : Int) ≤ ((zs.length : Nat) : Int) := fun z => e (decide_eq_true z)
    exact kC D _ _ ⟨r, lg, zs, L, _, _, _, _, _, _, _, _, _, _, _, _, rfl, Z1, h2, hlg1, by omega, by omega⟩ hQ
set_option maxHeartbeats 16000000 in
theorem law_r (T : Txt K mg CS CA) {f : Addr} {cdv : Value} {A : Around} {outer : List Env} {s : Shared} {H0 : Hp} {E : XK} (hr : Room 11 (A.deeper (envOfC "law" (defScope s_law) s.heap.objs.size f cdv))) :
    ∃ t, PSs (XL P w K mg base f cdv A outer s H0 E) ((defBody s_law).drop 10) t ∧ ∀ (D : Ends) (σ : L2.St) (H : Hp), StR σ H → (∀ H', D.rt (.bl true) H') → t D σ H := by
  obtain ⟨tL, hL, kL⟩ := law_l (P := P) (w := w) (base := base) (outer := outer) (s := s) (H0 := H0) (E := E) T hr
  have N : N_law.Nodup := sc_law.nd
  refine ⟨_, pss_cons (ps_if (pt_cmpR op_lt (pe_op op_add (pe_op op_mul pe_int (pv 4)) pe_int) (pv 5) (nomark _))
      (pss_cons (ps_if (pt_cmpR (op_neD hr.units) (pe_ix ix_list (pv 8) pe_int (fun _ _ => rfl)) (pe_tup (pa_cons (pe_op op_add (pe_op op_mul pe_int (pv 4)) pe_int) (pa_cons (pe_op op_add (pe_op op_mul pe_int (pv 4)) pe_int)
            (pa_cons (pe_cmpR op_lt (pe_ix ix_list (pv 7) (pe_op op_add (pe_op op_mul pe_int (pv 4)) pe_int) (fun _ _ => rfl)) (pe_ix ix_list (pv 7) (pe_op op_add (pe_op op_mul pe_int (pv 4)) pe_int) (fun _ _ => rfl)) (nomark _)) pa_nil)))) (nomark _)) pss_never pss_nil)
        (pss_cons (ps_set (i := 9) N rfl (Or.inl rfl) (pe_ifExp (pt_val (pe_ix ix_tup (pe_ix ix_list (pv 8) pe_int (fun _ _ => rfl)) pe_int (fun _ _ => rfl))) (pe_op op_add (pe_op op_mul pe_int (pv 4)) pe_int) (pe_op op_add (pe_op op_mul pe_int (pv 4)) pe_int)))
        (pss_one (ps_if (pt_cmpR (op_neD hr.units) (pe_ix ix_list (pv 8) pe_int (fun _ _ => rfl)) (pe_tup (pa_cons (pv 4) (pa_cons (pv 9)
            (pa_cons (pe_cmpR op_lt (pe_ix ix_list (pv 7) (pv 4) (fun _ _ => rfl)) (pe_ix ix_list (pv 7) (pv 9) (fun _ _ => rfl)) (nomark _)) pa_nil)))) (nomark _)) pss_never pss_nil))))
      (pss_one (ps_if (pt_cmpR (op_neD hr.units) (pe_ix ix_list (pv 8) pe_int (fun _ _ => rfl)) (pe_tup (pa_cons (pv 4) (pa_cons (pe_op op_add (pe_op op_mul pe_int (pv 4)) pe_int)
            (pa_cons (pe_cmpR op_lt (pe_ix ix_list (pv 7) (pv 4) (fun _ _ => rfl)) (pe_ix ix_list (pv 7) (pe_op op_add (pe_op op_mul pe_int (pv 4)) pe_int) (fun _ _ => rfl)) (nomark _)) pa_nil)))) (nomark _)) pss_never pss_nil)))
    hL, fun D σ H S hQ => ?_⟩
  obtain ⟨r, lg, zs, k, v0, v1, v2, v3, v6, v9, v10, v11, v12, v13, v14, v15, rfl, Z, h2, hlg, hk⟩ := S.ex
  have h25 := Z.len
  obtain ⟨f1, f2⟩ := heap_first (ltf (rowF zs)) h2 hk
  obtain ⟨ts, g1, g2, g3, g4⟩ := id hlg
  have g3' := g3 rfl
  refine rd2 (c := 2) rfl ⟨_, rfl, _, _, rfl, rfl, _, rfl, ite2 (fun e => ?_) (fun e => ?_)⟩
  · have hm : 2 * k + 2 < zs.length := by
      have := of_decide_eq_true e
      omega
    obtain ⟨ds, hd⟩ := f1 hm
    rw [show qsF zs.length (rowF zs) = _ from hd] at g3'
    match ts, g1, g2, g3', g4 with
    | [], _, _, q, _ => exact nomatch q
    | [_], _, _, q, _ => exact nomatch (List.cons.inj q).2
    | t0 :: t1 :: tr, g1, g2, g3', g4 =>
      obtain ⟨q0, q1⟩ := List.cons.inj g3'
      obtain ⟨q2, _⟩ := List.cons.inj q1
      have h0 := g2 t0 List.mem_cons_self
      have h1 := g2 t1 (List.mem_cons_of_mem _ List.mem_cons_self)
      rw [show t0.2 = _ from q0] at h0
      rw [show t1.2 = _ from q2] at h1
      refine ⟨_, rfl, lg, _, _, _, rfl, rfl, SqL.of g1, at_of (j := 0) rfl rfl, ?_⟩
      refine rd2 (c := 1) rfl (rd2 (c := 2) rfl ⟨_, rfl, rd2 (c := 1) rfl ⟨r, _, _, _, rfl, rfl, SqL.of Z.at_, at_of rfl (rowF_at (by omega)), ⟨_, rfl, rd2 (c := 2) rfl ⟨r, _, _, _, rfl, rfl, SqL.of Z.at_, at_of rfl (rowF_at (by omega)), _, _, rfl, rfl, (by show 3 ≤ sizeLine; decide), fun p hp => ?_⟩⟩⟩⟩)
      have s1 := Same.new (o := .tup [V.int ((2 * k + 1 : Nat) : Int), V.int ((2 * k + 2 : Nat) : Int), V.bl (ltf (rowF zs) (2 * k + 1) (2 * k + 2))]) hp
      refine ⟨_, _, dp_q (s1 _ _ h0), dp_q upd_same, shaped_q _ _ _, shaped_q _ _ _, false, congrArg V.bl (congrArg not (eqv_q _ _ _)), iteF ?_⟩
      have Z1 := Z.same s1
      have hlg1 := hlg.same s1
      have g11 := s1 _ _ g1
      have h01 := s1 _ _ h0
      have h11 := s1 _ _ h1
      clear h0 h1
      refine ⟨_, rfl, lg, _, _, _, rfl, rfl, SqL.of g11, at_of (j := 0) rfl rfl, t0.1, _, _, _, rfl, rfl, SqT.of h01, at_of (j := 2) rfl rfl, ltf (rowF zs) (2 * k + 1) (2 * k + 2), rfl, pick_child rfl ⟨_, rfl, ?_⟩⟩
      have hc : (if ltf (rowF zs) (2 * k + 1) (2 * k + 2) = true then 2 * k + 2 else 2 * k + 1) < zs.length := by
        split <;> omega
      generalize (if ltf (rowF zs) (2 * k + 1) (2 * k + 2) = true then 2 * k + 2 else 2 * k + 1) = c at h11 hc
      refine ⟨lg, _, _, _, rfl, rfl, SqL.of g11, at_of (j := 1) rfl rfl, ?_⟩
      refine ⟨_, rfl, _, rfl, _, rfl, _, rfl, r, _, _, _, rfl, rfl, SqL.of Z1.at_, at_of rfl (rowF_at (by omega)), _, rfl, _, rfl, r, _, _, _, rfl, rfl, SqL.of Z1.at_, at_of rfl (rowF_at hc), _, _, rfl, rfl, (by show 3 ≤ sizeLine; decide), fun p2 hp2 => ?_⟩
      have s2 := Same.new (o := .tup [V.int (k : Int), V.int (c : Int), V.bl (ltf (rowF zs) k c)]) hp2
      refine ⟨_, _, dp_q (s2 _ _ h11), dp_q upd_same, shaped_q _ _ _, shaped_q _ _ _, false, congrArg V.bl (congrArg not (eqv_q _ _ _)), iteF ?_⟩
      exact kL D _ _ ⟨r, lg, zs, _, _, _, _, _, _, _, _, _, _, _, _, _, rfl, Z1.same s2, h2, hlg1.same s2⟩ hQ
  · have hm : ¬ 2 * k + 2 < zs.length := fun z => e (decide_eq_true (by omega))
    obtain ⟨ds, hd⟩ := f2 hm
    rw [show qsF zs.length (rowF zs) = _ from hd] at g3'
    match ts, g1, g2, g3', g4 with
    | [], _, _, q, _ => exact nomatch q
    | t0 :: tr, g1, g2, g3', g4 =>
      obtain ⟨q0, q1⟩ := List.cons.inj g3'
      have h0 := g2 t0 List.mem_cons_self
      rw [show t0.2 = _ from q0] at h0
      refine ⟨_, rfl, lg, _, _, _, rfl, rfl, SqL.of g1, at_of (j := 0) rfl rfl, ?_⟩
      refine ⟨_, rfl, rd2 (c := 1) rfl ⟨_, rfl, _, rfl, r, _, _, _, rfl, rfl, SqL.of Z.at_, at_of rfl (rowF_at (by omega)), _, rfl, rd2 (c := 1) rfl ⟨r, _, _, _, rfl, rfl, SqL.of Z.at_, at_of rfl (rowF_at (by omega)), _, _, rfl, rfl, (by show 3 ≤ sizeLine; decide), fun p hp => ?_⟩⟩⟩
      have s1 := Same.new (o := .tup [V.int (k : Int), V.int ((2 * k + 1 : Nat) : Int), V.bl (ltf (rowF zs) k (2 * k + 1))]) hp
      refine ⟨_, _, dp_q (s1 _ _ h0), dp_q upd_same, shaped_q _ _ _, shaped_q _ _ _, false, congrArg V.bl (congrArg not (eqv_q _ _ _)), iteF ?_⟩
      exact kL D _ _ ⟨r, lg, zs, _, _, _, _, _, _, _, _, _, _, _, _, _, rfl, Z.same s1, h2, hlg.same s1⟩ hQ
end
end Hs
/-! ## part HsWI -/
set_option Elab.async false
set_option linter.all false
set_option maxRecDepth 100000
set_option maxHeartbeats 4000000
namespace Hs
open PySem PySem.Spec PyProof.Rows L2
/-! ### the law: a short row -/
section
variable {P : Program} {w : World} {K : PySem.W.Frag} {mg : Str → Option Value} {base : Heap} {CS CA : Addr}
/-- ahead of the question whether the row is short -/
structure StB (σ : L2.St) (H : Hp) : Prop where
  ex : ∃ (r lg : Addr) (zs : List Int) (v0 v1 v2 v3 v4 v6 v9 v10 v11 v12 v13 v14 v15 : Option V), σ = [v0, v1, v2, v3, v4, some (.int ((zs.length : Nat) : Int)), v6, some (.ref r), some (.ref lg), v9, v10, v11, v12, v13, v14, v15] ∧
    ZRow H r zs ∧ LogAt H lg false (rowF zs) (qsF zs.length (rowF zs))
set_option maxHeartbeats 16000000 in
theorem law_b (T : Txt K mg CS CA) {f : Addr} {cdv : Value} {A : Around} {outer : List Env} {s : Shared} {H0 : Hp} {E : XK} (hr : Room 11 (A.deeper (envOfC "law" (defScope s_law) s.heap.objs.size f cdv))) :
    ∃ t, PSs (XL P w K mg base f cdv A outer s H0 E) ((defBody s_law).drop 8) t ∧ ∀ (D : Ends) (σ : L2.St) (H : Hp), StB σ H → (∀ H', D.rt (.bl true) H') → t D σ H := by
  obtain ⟨tR, hR, kR⟩ := law_r (P := P) (w := w) (base := base) (outer := outer) (s := s) (H0 := H0) (E := E) T hr
  have GT : Cal P w K mg base 9 "told_order" ["way", "row"] spTold := ok_told T
  have hr9 : Room 9 (A.deeper (envOfC "law" (defScope s_law) s.heap.objs.size f cdv)) := hr.mono (by decide)
  have N : N_law.Nodup := sc_law.nd
  refine ⟨_, pss_cons (ps_if (pt_cmpR op_lt (pv 5) pe_int (nomark _))
      (pss_one (ps_ret (pe_and (pe_cmpR (op_eqD hr.units) (pv 8) (pe_lst pa_nil) (nomark _))
        (pe_one (pe_cmpR (op_eqD hr.units) (pe_cal GT hr9 rfl (pa_cons (pe_tup (pa_cons pe_str pa_nil)) (pa_cons (pv 7) pa_nil))) (pe_listRg rfl rfl T.f_list (prg_1 rfl T.f_range (pv 5))) (nomark _)))))) pss_nil)
    (pss_cons (ps_set (i := 4) N rfl (Or.inl rfl) (pe_op op_sub (pe_op op_fdiv (pv 5) pe_int) pe_int)) hR), fun D σ H S hQ => ?_⟩
  obtain ⟨r, lg, zs, v0, v1, v2, v3, v4, v6, v9, v10, v11, v12, v13, v14, v15, rfl, Z, hlg⟩ := S.ex
  have h25 := Z.len
  refine ⟨_, rfl, _, _, rfl, rfl, _, rfl, ite2 (fun e => ?_) (fun e => ?_)⟩
  · have hm : zs.length < 2 := by
      have := of_decide_eq_true e
      omega
    have hs := heap_small (ltf (rowF zs)) hm
    obtain ⟨ts, g1, g2, g3, g4⟩ := hlg
    rw [show qsF zs.length (rowF zs) = [] from congrArg Prod.snd hs] at g4
    have e0 : ts = [] := List.length_eq_zero_iff.mp (Nat.le_zero.mp g4)
    subst e0
    refine ⟨_, rfl, (by show 0 ≤ sizeLine; decide), fun q hq => ?_⟩
    have t1 := Same.new (o := .lst []) hq
    have g1' : H lg = some (.lst []) := g1
    refine ⟨.list [], .list [], .lst (SqL.of (t1 _ _ g1')) .nil, .lst (SqL.of upd_same) .nil, rfl, rfl, true, rfl, iteT ?_⟩
    refine ⟨(by show 1 ≤ sizeLine; decide), fun w1 hw1 => ?_⟩
    have t2 := Same.new (o := .tup [V.str "heap"]) hw1
    have s1 := t1.trans t2
    refine ⟨_, rfl, w1, r, false, _, _, rfl, upd_same, (Z.same s1).row, Z.rin, fun H1 o1 s2 ho1 => ?_⟩
    refine ⟨_, rfl, _, rfl, RgOk.of_le (by omega) (by omega) (by omega) (by omega), fun th hth => ?_⟩
    rw [rgV_zero]
    have t3 := Same.new (o := .lst (vN (List.range zs.length))) hth
    rw [show ordF zs.length (rowF zs) = List.range zs.length from congrArg Prod.fst hs] at ho1
    refine ⟨_, _, dp_things (t3 _ _ ho1), dp_things upd_same, shaped_ints _, shaped_ints _, ?_⟩
    rw [eqv_self]
    exact hQ _
  · have hm : 2 ≤ zs.length := by
      have : ¬ ((zs.length : Nat) : Int) < 2 := fun z => e (decide_eq_true z)
      omega
    refine ⟨_, rfl, _, _, rfl, rfl, ⟨by decide, by decide⟩, _, _, rfl, rfl, ?_⟩
    have hk : ((zs.length : Nat) : Int) / 2 - 1 = ((zs.length / 2 - 1 : Nat) : Int) := by omega
    refine kR D _ _ ⟨r, lg, zs, zs.length / 2 - 1, v0, v1, v2, v3, v6, v9, v10, v11, v12, v13, v14, v15, ?_, Z, hm, hlg, by omega⟩ hQ
    show [v0, v1, v2, v3, some (.int (((zs.length : Nat) : Int) / 2 - 1)), some (.int ((zs.length : Nat) : Int)), v6, some (.ref r), some (.ref lg), v9, v10, v11, v12, v13, v14, v15] = _
    rw [hk]
end
end Hs
/-! ## part HsWJ -/
set_option Elab.async false
set_option linter.all false
set_option maxRecDepth 100000
set_option maxHeartbeats 4000000
namespace Hs
open PySem PySem.Spec PyProof.Rows L2
/-! ### the law, whole -/
theorem cast_sum (g : Nat → Nat) : ∀ xs : List Nat, (xs.map fun x => ((g x : Nat) : Int)).sum = (((xs.map g).sum : Nat) : Int)
  | [] => rfl
  | x :: r => by
    rw [List.map_cons, List.map_cons, List.sum_cons, List.sum_cons, cast_sum g r, Int.natCast_add]
theorem due_even {n : Nat} (c : Int) (h : n ≤ 30) : ((List.range (n / 2)).map fun r => ((stepN r n : Nat) : Int)).sum + ((List.range (n - 1)).map fun m => ((stepN 0 (m + 1) : Nat) : Int)).sum = (((qsF n fun _ => c).length : Nat) : Int) := by
  have e : (qsF n fun _ => c).length = ((List.range (n / 2)).map fun r => stepN r n).sum + ((List.range (n - 1)).map fun m => stepN 0 (m + 1)).sum := by
    rw [← even_all n (by omega)]
    show (heapF (ltf fun _ => c) n).2.length = _
    rw [ltf_even]
  rw [e, Int.natCast_add, cast_sum (fun r => stepN r n), cast_sum (fun m => stepN 0 (m + 1))]
theorem rep_ro (n : Nat) (v : V) : (List.replicate ((n : Nat) : Int).toNat [v]).flatten = ro n fun _ => v := by
  rw [List.flatten_replicate_singleton, Int.toNat_natCast]
  refine ro_ext List.length_replicate fun i hi => ?_
  rw [List.getElem?_replicate, if_pos hi]
def spLaw (K : PySem.W.Frag) : Sp := fun vs H Q _ => ∃ (a : Addr) (ns : List Int), vs = [.ref a] ∧ SqL K H a (ns.map V.int) ∧ ns.length ≤ 63 ∧ ∀ H', Q (.bl true) H'
section
variable {P : Program} {w : World} {K : PySem.W.Frag} {mg : Str → Option Value} {base : Heap} {CS CA : Addr}
set_option maxHeartbeats 16000000 in
theorem law_a (T : Txt K mg CS CA) {f : Addr} {cdv : Value} {A : Around} {outer : List Env} {s : Shared} {H0 : Hp} {E : XK} (hr : Room 11 (A.deeper (envOfC "law" (defScope s_law) s.heap.objs.size f cdv))) :
    ∃ t, PSs (XL P w K mg base f cdv A outer s H0 E) (defBody s_law) t ∧ ∀ (D : Ends) (a : Addr) (ns : List Int) (H : Hp), SqL K H a (ns.map V.int) → ns.length ≤ 63 → (∀ H', D.rt (.bl true) H') → t D (start N_law [.ref a]) H := by
  obtain ⟨tB', hB, kB⟩ := law_b (P := P) (w := w) (base := base) (outer := outer) (s := s) (H0 := H0) (E := E) T hr
  have GS : Cal P w K mg base 1 "_law_start" ["_law_script"] (spStart K) := ok_law_start T
  have GD : Cal P w K mg base 1 "_law_draw" ["_law_draws", "_law_limit"] spDraw := ok_law_draw T
  have GL : Cal P w K mg base 3 "_law_row" ["_law_draws", "_law_most"] spLawRow := ok_law_row T
  have GT : Cal P w K mg base 1 "_law_step" ["_law_root", "_law_many"] spStep := ok_law_step T
  have GR : Cal P w K mg base 9 "run" ["way", "row"] spRun := ok_run T
  have GC : Cal P w K mg base 10 "count" ["way", "row"] spCount := ok_count T
  have hr1 : Room 1 (A.deeper (envOfC "law" (defScope s_law) s.heap.objs.size f cdv)) := hr.mono (by decide)
  have hr3 : Room 3 (A.deeper (envOfC "law" (defScope s_law) s.heap.objs.size f cdv)) := hr.mono (by decide)
  have hr9 : Room 9 (A.deeper (envOfC "law" (defScope s_law) s.heap.objs.size f cdv)) := hr.mono (by decide)
  have hr10 : Room 10 (A.deeper (envOfC "law" (defScope s_law) s.heap.objs.size f cdv)) := hr.mono (by decide)
  have N : N_law.Nodup := sc_law.nd
  refine ⟨_, pss_cons (ps_set (i := 1) N rfl (Or.inl rfl) (pe_cal GS hr1 rfl (pa_cons (pv 0) pa_nil)))
    (pss_cons (ps_set (i := 2) N rfl (Or.inr rfl) (pe_cal GD hr1 rfl (pa_cons (pv 1) (pa_cons pe_int pa_nil))))
    (pss_cons (ps_set (i := 3) N rfl (Or.inl rfl) (pe_op op_rep (pe_lst (pa_cons (pe_cal GD hr1 rfl (pa_cons (pv 1) (pa_cons pe_int pa_nil))) pa_nil)) (pv 2)))
    (pss_cons (ps_set (i := 6) N rfl (Or.inl rfl) (pe_op op_add
        (pe_callB (cr_sum rfl) (by rfl) T.f_sum (by decide +kernel) (pa_cons (pe_lc (own := [("_law_root", 4)]) (g := gName 4) (tt := tYes) (te := tCall spStep [] E0 (tCons (tVar 4) (tCons (tVar 2) tNil))) rfl N (pi_range1 rfl T.f_range (pa_cons (pe_op op_fdiv (pv 2) pe_int) pa_nil))
          (blkOk_by (N := N_law) (sc := defScope s_law) (by decide +kernel)) (fun _ _ _ _ _ => pg_name (i := 4) N rfl (Or.inl rfl)) (fun _ _ _ _ _ => pts_nil) (fun _ _ _ _ _ => pe_cal GT hr1 rfl (pa_cons (pv 4) (pa_cons (pv 2) pa_nil)))) pa_nil))
        (pe_callB (cr_sum rfl) (by rfl) T.f_sum (by decide +kernel) (pa_cons (pe_lc (own := [("_law_many", 5)]) (g := gName 5) (tt := tYes) (te := tCall spStep [] E0 (tCons (tC (.int 0)) (tCons (tVar 5) tNil))) rfl N (pi_range2 rfl T.f_range (pa_cons pe_int (pa_cons (pv 2) pa_nil)))
          (blkOk_by (N := N_law) (sc := defScope s_law) (by decide +kernel)) (fun _ _ _ _ _ => pg_name (i := 5) N rfl (Or.inl rfl)) (fun _ _ _ _ _ => pts_nil) (fun _ _ _ _ _ => pe_cal GT hr1 rfl (pa_cons pe_int (pa_cons (pv 5) pa_nil)))) pa_nil))))
    (pss_cons (ps_if (PW.pt (pw_or (pt_cmpR op_ne (pe_cal GC hr10 rfl (pa_cons (pe_tup (pa_cons pe_str pa_nil)) (pa_cons (pv 3) pa_nil))) (pv 6) (nomark _))
        (pw_or1 (pt_cmpR (op_neD hr.units) (pe_lc (own := [("_law_one", 14)]) (g := gName 14) (tt := tB (tOp (rIxT K) (tVar 14) (tC (.int 2)))) (te := tVar 14) rfl N (pi_list (pe_cal GR hr9 rfl (pa_cons (pe_tup (pa_cons pe_str pa_nil)) (pa_cons (pv 3) pa_nil))))
          (blkOk_by (N := N_law) (sc := defScope s_law) (by decide +kernel)) (fun _ _ _ _ _ => pg_name (i := 14) N rfl (Or.inl rfl)) (fun _ _ _ _ _ => pts_one (pt_val (pe_ix ix_tup (pv 14) pe_int (fun _ _ => rfl)))) (fun _ _ _ _ _ => pv 14)) (pe_lst pa_nil) (nomark _))))) pss_never pss_nil)
    (pss_cons (ps_set (i := 7) N rfl (Or.inr rfl) (pe_cal GL hr3 rfl (pa_cons (pv 1) (pa_cons pe_int pa_nil))))
    (pss_cons (ps_set (i := 5) N rfl (Or.inl rfl) (pe_callB call_len_seq (by rfl) T.f_len PySem.boot_len (pa_cons (pv 7) pa_nil)))
    (pss_cons (ps_set (i := 8) N rfl (Or.inl rfl) (pe_cal GR hr9 rfl (pa_cons (pe_tup (pa_cons pe_str pa_nil)) (pa_cons (pv 7) pa_nil)))) hB))))))), fun D a ns H hS hl hQ => ?_⟩
  refine ⟨_, rfl, a, ns, rfl, hS, hl, fun H1 d nu s1 D1 _ _ => ?_⟩
  refine ⟨_, rfl, d, nu, 31, rfl, D1, by decide, by decide, fun H2 sz z1 z2 D2 _ => ?_⟩
  obtain ⟨n, rfl⟩ := Int.eq_ofNat_of_zero_le z1
  have hn : n ≤ 30 := by omega
  refine ⟨_, rfl, d, nu, 50, rfl, D2, by decide, by decide, fun H3 c c1 c2 D3 _ => ?_⟩
  refine ⟨(by show 1 ≤ sizeLine; decide), fun q hq => ?_⟩
  refine ⟨_, rfl, q, (n : Int), [.int c], rfl, rfl, upd_same, by omega, by omega, Nat.le_trans (m := 30) (by show 1 * ((n : Nat) : Int).toNat ≤ 30; omega) (by decide), fun ev hev => ?_⟩
  rw [rep_ro]
  have t1 := Same.new (o := .lst [V.int c]) hq
  have t2 := Same.new (o := .lst (ro n fun _ => V.int c)) hev
  have D4 := (D3.kept t1).kept t2
  have R4 : RowAt (upd (upd H3 q (.lst [V.int c])) ev (.lst (ro n fun _ => V.int c))) ev n (fun _ => c) := upd_same
  have Rin : RowIn n (fun _ => c) := ⟨hn, fun _ _ => ⟨by show -99 ≤ c; omega, by show c ≤ 99; omega⟩⟩
  generalize upd (upd H3 q (.lst [V.int c])) ev (.lst (ro n fun _ => V.int c)) = H4 at D4 R4
  -- due
  refine ⟨_, rfl, _, _, rfl, rfl, ⟨by decide, by decide⟩, _, rfl, by omega, by omega, fun L1 hL1 => ?_⟩
  rw [show (((n : Nat) : Int) / 2).toNat = n / 2 by omega]
  refine lc_range (lo := 0) (n := n / 2) (fun i Hc => Hc = upd H4 L1 (.lst (((List.range i).map fun r => ((stepN r n : Nat) : Int)).map V.int))) rfl ?_ ?_
  · rintro i Hc hi rfl
    refine ⟨rfl, ?_⟩
    refine ⟨_, rfl, _, rfl, i, n, by rw [Int.zero_add]; rfl, _, upd_same, small1000 (by rw [List.length_map, List.length_map, List.length_range]; omega), ?_⟩
    rw [upd_upd, List.range_succ, List.map_append, List.map_append]
    rfl
  rintro Hc rfl
  have t3 := Same.new (o := .lst (((List.range (n / 2)).map fun r => ((stepN r n : Nat) : Int)).map V.int)) hL1
  have D5 := D4.kept t3
  have R5 := R4.same t3
  refine ⟨L1, _, rfl, SqL.of upd_same, ?_⟩
  generalize upd H4 L1 (.lst (((List.range (n / 2)).map fun r => ((stepN r n : Nat) : Int)).map V.int)) = H5 at D5 R5
  refine ⟨_, rfl, 1, (n : Int), rfl, ⟨by omega, by omega, by omega, by omega⟩, fun L2 hL2 => ?_⟩
  rw [show (((n : Nat) : Int) - 1).toNat = n - 1 by omega]
  refine lc_range (lo := 1) (n := n - 1) (fun i Hc => Hc = upd H5 L2 (.lst (((List.range i).map fun m => ((stepN 0 (m + 1) : Nat) : Int)).map V.int))) rfl ?_ ?_
  · rintro i Hc hi rfl
    refine ⟨rfl, ?_⟩
    refine ⟨_, rfl, 0, i + 1, ?_, _, upd_same, small1000 (by rw [List.length_map, List.length_map, List.length_range]; omega), ?_⟩
    · show [V.int 0, V.int (1 + (i : Int))] = [V.int ((0 : Nat) : Int), V.int ((i + 1 : Nat) : Int)]
      rw [show (1 + (i : Int)) = ((i + 1 : Nat) : Int) by omega]
      rfl
    · rw [upd_upd, List.range_succ, List.map_append, List.map_append]
      rfl
  rintro Hc rfl
  have t4 := Same.new (o := .lst (((List.range (n - 1)).map fun m => ((stepN 0 (m + 1) : Nat) : Int)).map V.int)) hL2
  have D6 := D5.kept t4
  have R6 := R5.same t4
  refine ⟨L2, _, rfl, SqL.of upd_same, _, _, rfl, rfl, ?_⟩
  generalize upd H5 L2 (.lst (((List.range (n - 1)).map fun m => ((stepN 0 (m + 1) : Nat) : Int)).map V.int)) = H6 at D6 R6
  -- count(..) != due
  refine ⟨(by show 1 ≤ sizeLine; decide), fun w1 hw1 => ?_⟩
  have t5 := Same.new (o := .tup [V.str "heap"]) hw1
  refine ⟨_, rfl, w1, ev, n, fun _ => c, rfl, upd_same, R6.same t5, Rin, fun H7 s7 => ?_⟩
  refine ⟨_, rfl, rfl, false, congrArg V.bl ?_, iteF ?_⟩
  · have e := due_even c hn
    show (!decide (V.int (((qsF n fun _ => c).length : Nat) : Int) = V.int (((List.range (n / 2)).map fun r => ((stepN r n : Nat) : Int)).sum + ((List.range (n - 1)).map fun m => ((stepN 0 (m + 1) : Nat) : Int)).sum))) = false
    rw [e, decide_eq_true rfl]
    rfl
  have s67 := t5.trans s7
  have D7 := D6.kept s67
  have R7 := R6.same s67
  -- or [one ..] != []
  refine ⟨(by show 1 ≤ sizeLine; decide), fun w2 hw2 => ?_⟩
  have t6 := Same.new (o := .tup [V.str "heap"]) hw2
  refine ⟨_, rfl, w2, ev, false, n, fun _ => c, rfl, upd_same, R7.same t6, Rin, fun H8 l8 s8 hl8 => ?_⟩
  have s78 := t6.trans s8
  have D8 := D7.kept s78
  obtain ⟨ts, g1, g2, _, _⟩ := hl8
  refine ⟨l8, rfl, ⟨_, SqL.of g1⟩, fun L3 hL3 => ?_⟩
  have t7 := Same.new (o := .lst []) hL3
  refine lc_list (K := K) (a := l8) (xs := ts.map fun t => V.ref t.1) (fun i Hc => Hc = upd H8 L3 (.lst [])) rfl (fun i Hc _ e => by rw [e]; exact SqL.of (t7 _ _ g1)) ?_ ?_
  · rintro i x Hc hi rfl
    rw [List.getElem?_map] at hi
    cases et : ts[i]? with
    | none =>
      rw [et] at hi
      cases hi
    | some t =>
      rw [et] at hi
      have ex : V.ref t.1 = x := Option.some.inj hi
      subst ex
      have ht := t7 _ _ (g2 t (List.mem_of_getElem? et))
      refine ⟨rfl, ?_⟩
      refine ⟨_, rfl, t.1, _, _, _, rfl, rfl, SqT.of ht, at_of (j := 2) rfl rfl, false, congrArg V.bl (decide_eq_false (Int.lt_irrefl _)), iteF rfl⟩
  rintro Hc rfl
  refine ⟨(by show 0 ≤ sizeLine; decide), fun q2 hq2 => ?_⟩
  have t8 := Same.new (o := .lst []) hq2
  refine ⟨.list [], .list [], .lst (SqL.of (t8 _ _ upd_same)) .nil, .lst (SqL.of upd_same) .nil, rfl, rfl, false, rfl, iteF ?_⟩
  have D9 := D8.kept (t7.trans t8)
  generalize upd (upd H8 L3 (.lst [])) q2 (.lst []) = H9 at D9
  -- the row
  refine ⟨_, rfl, d, nu, rfl, D9, fun HA r zs a1 a2 a3 _ => ?_⟩
  have Z : ZRow HA r zs := ⟨a1, a2, a3⟩
  refine ⟨_, rfl, r, _, rfl, .inl (SqL.of a1), ?_⟩
  rw [List.length_map]
  refine ⟨(by show 1 ≤ sizeLine; decide), fun w3 hw3 => ?_⟩
  have t9 := Same.new (o := .tup [V.str "heap"]) hw3
  refine ⟨_, rfl, w3, r, false, _, _, rfl, upd_same, (Z.same t9).row, Z.rin, fun HB lg s9 hlg => ?_⟩
  exact kB D _ _ ⟨r, lg, zs, _, _, _, _, _, _, _, _, _, _, _, _, _, rfl, Z.same (t9.trans s9), hlg⟩ hQ
theorem ok_law (T : Txt K mg CS CA) {f : Addr} {fd : FuncData} (F : FnP K "law" "law" s_law f fd) : FnOk P w K mg base CX0 12 f fd ["_law_script"] (spLaw K) := by
  refine F.ok sc_law (fun vs H Q E h => ?_) (fun cdv A outer s H vs Q E hr h => ?_)
  · obtain ⟨a, ns, rfl, _⟩ := h
    rfl
  · obtain ⟨t, h1, h2⟩ := law_a (P := P) (w := w) (base := base) (outer := outer) (s := s) (H0 := H) (E := E) T hr
    obtain ⟨a, ns, rfl, hS, hl, hQ⟩ := h
    exact ⟨t, PSs.nox h1, h2 _ a ns H hS hl hQ⟩
end
end Hs
/-! ## part HsHead -/
set_option Elab.async false
set_option linter.all false
set_option maxRecDepth 100000
set_option maxHeartbeats 0
namespace Hs
open PySem PySem.Spec PyProof.Rows L2
def d0 : He.DefD := ⟨("exchange", none), "exchange", "exchange", defArgs s_exchange, defBody s_exchange, defScope s_exchange, [], []⟩
def d1 : He.DefD := ⟨("sink", none), "sink", "sink", defArgs s_sink, defBody s_sink, defScope s_sink, [], []⟩
def d2 : He.DefD := ⟨("heap", none), "heap", "heap", defArgs s_heap, defBody s_heap, defScope s_heap, [], []⟩
def d3 : He.DefD := ⟨("is_int", none), "is_int", "is_int", defArgs s_is_int, defBody s_is_int, defScope s_is_int, [], []⟩
def d4 : He.DefD := ⟨("check_number", none), "check_number", "check_number", defArgs s_check_number, defBody s_check_number, defScope s_check_number, [], []⟩
def d5 : He.DefD := ⟨("is_row", none), "is_row", "is_row", defArgs s_is_row, defBody s_is_row, defScope s_is_row, [], []⟩
def d6 : He.DefD := ⟨("check_row", none), "check_row", "check_row", defArgs s_check_row, defBody s_check_row, defScope s_check_row, [], []⟩
def d7 : He.DefD := ⟨("plain_of", none), "plain_of", "plain_of", defArgs s_plain_of, defBody s_plain_of, defScope s_plain_of, [], []⟩
def d8 : He.DefD := ⟨("all_plain", none), "all_plain", "all_plain", defArgs s_all_plain, defBody s_all_plain, defScope s_all_plain, [], []⟩
def d9 : He.DefD := ⟨("is_word", none), "is_word", "is_word", defArgs s_is_word, defBody s_is_word, defScope s_is_word, [], []⟩
def d10 : He.DefD := ⟨("is_plain", none), "is_plain", "is_plain", defArgs s_is_plain, defBody s_is_plain, defScope s_is_plain, [], []⟩
def d11 : He.DefD := ⟨("is_way", none), "is_way", "is_way", defArgs s_is_way, defBody s_is_way, defScope s_is_way, [], []⟩
def d12 : He.DefD := ⟨("check_way", none), "check_way", "check_way", defArgs s_check_way, defBody s_check_way, defScope s_check_way, [], []⟩
def d13 : He.DefD := ⟨("ordered", none), "ordered", "ordered", defArgs s_ordered, defBody s_ordered, defScope s_ordered, [], []⟩
def d14 : He.DefD := ⟨("played_by", none), "played_by", "played_by", defArgs s_played_by, defBody s_played_by, defScope s_played_by, [], []⟩
def d15 : He.DefD := ⟨("played", none), "played", "played", defArgs s_played, defBody s_played, defScope s_played, [], []⟩
def d16 : He.DefD := ⟨("run", none), "run", "run", defArgs s_run, defBody s_run, defScope s_run, [], []⟩
def d17 : He.DefD := ⟨("told_order", none), "told_order", "told_order", defArgs s_told_order, defBody s_told_order, defScope s_told_order, [], []⟩
def d18 : He.DefD := ⟨("sorted_row", none), "sorted_row", "sorted_row", defArgs s_sorted_row, defBody s_sorted_row, defScope s_sorted_row, [], []⟩
def d19 : He.DefD := ⟨("count", none), "count", "count", defArgs s_count, defBody s_count, defScope s_count, [], []⟩
def d20 : He.DefD := ⟨("keeps_of", none), "keeps_of", "keeps_of", defArgs s_keeps_of, defBody s_keeps_of, defScope s_keeps_of, [], []⟩
def d21 : He.DefD := ⟨("broken_rows", none), "broken_rows", "broken_rows", defArgs s_broken_rows, defBody s_broken_rows, defScope s_broken_rows, [], []⟩
def d22 : He.DefD := ⟨("is_keeping", none), "is_keeping", "is_keeping", defArgs s_is_keeping, defBody s_is_keeping, defScope s_is_keeping, [], []⟩
def d23 : He.DefD := ⟨("_law_start", none), "_law_start", "_law_start", defArgs s_law_start, defBody s_law_start, defScope s_law_start, [], []⟩
def d24 : He.DefD := ⟨("_law_draw", none), "_law_draw", "_law_draw", defArgs s_law_draw, defBody s_law_draw, defScope s_law_draw, [], []⟩
def d25 : He.DefD := ⟨("_law_pick", none), "_law_pick", "_law_pick", defArgs s_law_pick, defBody s_law_pick, defScope s_law_pick, [], []⟩
def d26 : He.DefD := ⟨("_law_row", none), "_law_row", "_law_row", defArgs s_law_row, defBody s_law_row, defScope s_law_row, [], []⟩
def d27 : He.DefD := ⟨("_law_step", none), "_law_step", "_law_step", defArgs s_law_step, defBody s_law_step, defScope s_law_step, [], []⟩
def d28 : He.DefD := ⟨("law", none), "law", "law", defArgs s_law, defBody s_law, defScope s_law, [], []⟩
def d29 : He.DefD := ⟨("Steps", some "__init__"), "__init__", "Steps.__init__", defArgs m_Steps_init, defBody m_Steps_init, defScope m_Steps_init, [], []⟩
def d30 : He.DefD := ⟨("Steps", some "tells"), "tells", "Steps.tells", defArgs m_Steps_tells, defBody m_Steps_tells, defScope m_Steps_tells, [], []⟩
def d31 : He.DefD := ⟨("Steps", some "add"), "add", "Steps.add", defArgs m_Steps_add, defBody m_Steps_add, defScope m_Steps_add, [], []⟩
def d32 : He.DefD := ⟨("Asker", some "__init__"), "__init__", "Asker.__init__", defArgs m_Asker_init, defBody m_Asker_init, defScope m_Asker_init, [], []⟩
def d33 : He.DefD := ⟨("Asker", some "less"), "less", "Asker.less", defArgs m_Asker_less, defBody m_Asker_less, defScope m_Asker_less, [], []⟩
def fn : List He.DefD := [d0, d1, d2, d3, d4, d5, d6, d7, d8, d9, d10, d11, d12, d13, d14, d15, d16, d17, d18, d19, d20, d21, d22, d23, d24, d25, d26, d27, d28, d29, d30, d31, d32, d33]
def fa : List He.Fa := [.glo "exchange", .glo "sink", .glo "heap", .glo "is_int", .glo "check_number", .glo "is_row", .glo "check_row", .glo "plain_of", .glo "all_plain", .glo "is_word", .glo "is_plain", .glo "is_way", .glo "check_way", .glo "ordered", .glo "played_by", .glo "played", .glo "run", .glo "told_order", .glo "sorted_row", .glo "count", .glo "keeps_of", .glo "broken_rows", .glo "is_keeping", .glo "_law_start", .glo "_law_draw", .glo "_law_pick", .glo "_law_row", .glo "_law_step", .glo "law", .glo "Steps", .glo "Asker", .free "zip", .free "len", .free "list", .free "range", .free "isinstance", .free "all", .free "sorted", .free "set", .free "max", .free "sum", .free "int", .free "bool", .free "tuple", .free "str", .int "MOST_THINGS" 30, .cls "Steps", .cls "Asker", .noat "Steps" "size", .noat "Steps" "rows", .noat "Asker" "row", .noat "Asker" "log", .noat "Asker" "steps", .meth "Steps" "tells", .meth "Steps" "add", .meth "Asker" "less", .mkr "Steps", .mkr "Asker"]
def loose0 : List Str := ["Steps", "Asker", "inserted", "inserted_up", "inserted_halves", "insert", "select", "exchanged", "upward", "downward", "bubble", "bubble_both", "by_gaps", "merged", "merge_above", "runs_of", "merge", "pivot_of", "part", "exchange", "swap", "sink", "heap", "tree", "walked", "ranks", "SortError", "BadWay", "BadRow", "BadNumber"]
def loose1 : List Str := ["is_int", "check_number", "MOST_THINGS", "is_row", "check_row", "plain_of", "all_plain", "KINDS", "PIVOTS", "are_gaps", "is_word", "is_plain", "is_way", "check_way", "ordered", "played_by", "played", "run", "told_order", "sorted_row", "count", "keeps_of", "broken_rows", "is_keeping", "_law_start", "_law_draw", "_law_pick", "_law_row", "_law_step"]
abbrev looseA : List Str := loose0 ++ loose1
abbrev R : PySem.W.OpenRow := PySem.W.OpenLaw.row PySem.Challenge.rw_hiddensorters_k37_whole_heaps
abbrev hk : PySem.W.Hook := He.hookD 4 fa fn
def ob (s : PySem.W.SharedT) : He.AlD := He.obsDG 4 fa fn (HandSHeadRun.getT s)
theorem ob_eq (s : PySem.W.SharedT) : ob s = hk.obs s.abs := He.obsDG_eq (HandSHeadRun.getT_eq s)
theorem run_no (w : World) : HandSHeadRun.RunEq R (PySem.W.view R.prog [69]) hk ob 4000 looseA (w.withFollow "special-get-raises" false) := by
  intro os
  kernel_rfl
theorem run_yes (w : World) : HandSHeadRun.RunEq R (PySem.W.view R.prog [69]) hk ob 4000 looseA (w.withFollow "special-get-raises" true) := by
  intro os
  kernel_rfl
theorem run_ (w : World) : HandSHeadRun.RunEq R (PySem.W.view R.prog [69]) hk ob 4000 looseA w := by
  have e := World.withFollow_self w "special-get-raises"
  cases hb : w.params.followText "special-get-raises" with
  | false =>
    rw [hb] at e
    rw [← e]
    exact run_no w
  | true =>
    rw [hb] at e
    rw [← e]
    exact run_yes w
theorem txt_ {K : PySem.W.Frag} {h : Heap} {mg : Str → Option Value} (X : K.In h) (G : h.Ns mainGlobals mg) (c : He.SaysD fa fn K) : Txt K mg (He.ga K "Steps") (He.ga K "Asker") where
  mgS := He.glo_ok X G (c.fact 29 (f := .glo "Steps") rfl)
  mgA := He.glo_ok X G (c.fact 30 (f := .glo "Asker") rfl)
  clS := He.cls_ok (c.fact 46 (f := .cls "Steps") rfl)
  clA := He.cls_ok (c.fact 47 (f := .cls "Asker") rfl)
  nS_size := He.noat_ok (c.fact 48 (f := .noat "Steps" "size") rfl)
  nS_rows := He.noat_ok (c.fact 49 (f := .noat "Steps" "rows") rfl)
  nA_row := He.noat_ok (c.fact 50 (f := .noat "Asker" "row") rfl)
  nA_log := He.noat_ok (c.fact 51 (f := .noat "Asker" "log") rfl)
  nA_steps := He.noat_ok (c.fact 52 (f := .noat "Asker" "steps") rfl)
  most := He.int_ok X G (c.fact 45 (f := .int "MOST_THINGS" 30) rfl)
  f_zip := He.free_ok X G (c.fact 31 (f := .free "zip") rfl)
  f_len := He.free_ok X G (c.fact 32 (f := .free "len") rfl)
  f_list := He.free_ok X G (c.fact 33 (f := .free "list") rfl)
  f_range := He.free_ok X G (c.fact 34 (f := .free "range") rfl)
  f_isinstance := He.free_ok X G (c.fact 35 (f := .free "isinstance") rfl)
  f_all := He.free_ok X G (c.fact 36 (f := .free "all") rfl)
  f_sorted := He.free_ok X G (c.fact 37 (f := .free "sorted") rfl)
  f_set := He.free_ok X G (c.fact 38 (f := .free "set") rfl)
  f_max := He.free_ok X G (c.fact 39 (f := .free "max") rfl)
  f_sum := He.free_ok X G (c.fact 40 (f := .free "sum") rfl)
  f_int := He.free_ok X G (c.fact 41 (f := .free "int") rfl)
  f_bool := He.free_ok X G (c.fact 42 (f := .free "bool") rfl)
  f_tuple := He.free_ok X G (c.fact 43 (f := .free "tuple") rfl)
  f_str := He.free_ok X G (c.fact 44 (f := .free "str") rfl)
  d_exchange := by
    obtain ⟨fd, F⟩ := c.def_ 0 (d := d0) rfl
    exact ⟨_, fd, F, He.glo_ok X G (c.fact 0 (f := .glo "exchange") rfl), FunD.bindsN F fun _ _ _ _ _ _ us hl => match us, hl with | [_, _, _], _ => rfl⟩
  d_sink := by
    obtain ⟨fd, F⟩ := c.def_ 1 (d := d1) rfl
    exact ⟨_, fd, F, He.glo_ok X G (c.fact 1 (f := .glo "sink") rfl), FunD.bindsN F fun _ _ _ _ _ _ us hl => match us, hl with | [_, _, _, _], _ => rfl⟩
  d_heap := by
    obtain ⟨fd, F⟩ := c.def_ 2 (d := d2) rfl
    exact ⟨_, fd, F, He.glo_ok X G (c.fact 2 (f := .glo "heap") rfl), FunD.bindsN F fun _ _ _ _ _ _ us hl => match us, hl with | [_, _], _ => rfl⟩
  d_is_int := by
    obtain ⟨fd, F⟩ := c.def_ 3 (d := d3) rfl
    exact ⟨_, fd, F, He.glo_ok X G (c.fact 3 (f := .glo "is_int") rfl), FunD.bindsN F fun _ _ _ _ _ _ us hl => match us, hl with | [_, _, _], _ => rfl⟩
  d_check_number := by
    obtain ⟨fd, F⟩ := c.def_ 4 (d := d4) rfl
    exact ⟨_, fd, F, He.glo_ok X G (c.fact 4 (f := .glo "check_number") rfl), FunD.bindsN F fun _ _ _ _ _ _ us hl => match us, hl with | [_, _, _], _ => rfl⟩
  d_is_row := by
    obtain ⟨fd, F⟩ := c.def_ 5 (d := d5) rfl
    exact ⟨_, fd, F, He.glo_ok X G (c.fact 5 (f := .glo "is_row") rfl), FunD.bindsN F fun _ _ _ _ _ _ us hl => match us, hl with | [_], _ => rfl⟩
  d_check_row := by
    obtain ⟨fd, F⟩ := c.def_ 6 (d := d6) rfl
    exact ⟨_, fd, F, He.glo_ok X G (c.fact 6 (f := .glo "check_row") rfl), FunD.bindsN F fun _ _ _ _ _ _ us hl => match us, hl with | [_], _ => rfl⟩
  d_plain_of := by
    obtain ⟨fd, F⟩ := c.def_ 7 (d := d7) rfl
    exact ⟨_, fd, F, He.glo_ok X G (c.fact 7 (f := .glo "plain_of") rfl), FunD.bindsN F fun _ _ _ _ _ _ us hl => match us, hl with | [_], _ => rfl⟩
  d_all_plain := by
    obtain ⟨fd, F⟩ := c.def_ 8 (d := d8) rfl
    exact ⟨_, fd, F, He.glo_ok X G (c.fact 8 (f := .glo "all_plain") rfl), FunD.bindsN F fun _ _ _ _ _ _ us hl => match us, hl with | [_], _ => rfl⟩
  d_is_word := by
    obtain ⟨fd, F⟩ := c.def_ 9 (d := d9) rfl
    exact ⟨_, fd, F, He.glo_ok X G (c.fact 9 (f := .glo "is_word") rfl), FunD.bindsN F fun _ _ _ _ _ _ us hl => match us, hl with | [_, _], _ => rfl⟩
  d_is_plain := by
    obtain ⟨fd, F⟩ := c.def_ 10 (d := d10) rfl
    exact ⟨_, fd, F, He.glo_ok X G (c.fact 10 (f := .glo "is_plain") rfl), FunD.bindsN F fun _ _ _ _ _ _ us hl => match us, hl with | [_], _ => rfl⟩
  d_is_way := by
    obtain ⟨fd, F⟩ := c.def_ 11 (d := d11) rfl
    exact ⟨_, fd, F, He.glo_ok X G (c.fact 11 (f := .glo "is_way") rfl), FunD.bindsN F fun _ _ _ _ _ _ us hl => match us, hl with | [_], _ => rfl⟩
  d_check_way := by
    obtain ⟨fd, F⟩ := c.def_ 12 (d := d12) rfl
    exact ⟨_, fd, F, He.glo_ok X G (c.fact 12 (f := .glo "check_way") rfl), FunD.bindsN F fun _ _ _ _ _ _ us hl => match us, hl with | [_], _ => rfl⟩
  d_ordered := by
    obtain ⟨fd, F⟩ := c.def_ 13 (d := d13) rfl
    exact ⟨_, fd, F, He.glo_ok X G (c.fact 13 (f := .glo "ordered") rfl), FunD.bindsN F fun _ _ _ _ _ _ us hl => match us, hl with | [_, _, _], _ => rfl⟩
  d_played_by := by
    obtain ⟨fd, F⟩ := c.def_ 14 (d := d14) rfl
    exact ⟨_, fd, F, He.glo_ok X G (c.fact 14 (f := .glo "played_by") rfl), FunD.bindsN F fun _ _ _ _ _ _ us hl => match us, hl with | [_, _, _], _ => rfl⟩
  d_played := by
    obtain ⟨fd, F⟩ := c.def_ 15 (d := d15) rfl
    exact ⟨_, fd, F, He.glo_ok X G (c.fact 15 (f := .glo "played") rfl), FunD.bindsN F fun _ _ _ _ _ _ us hl => match us, hl with | [_, _], _ => rfl⟩
  d_run := by
    obtain ⟨fd, F⟩ := c.def_ 16 (d := d16) rfl
    exact ⟨_, fd, F, He.glo_ok X G (c.fact 16 (f := .glo "run") rfl), FunD.bindsN F fun _ _ _ _ _ _ us hl => match us, hl with | [_, _], _ => rfl⟩
  d_told_order := by
    obtain ⟨fd, F⟩ := c.def_ 17 (d := d17) rfl
    exact ⟨_, fd, F, He.glo_ok X G (c.fact 17 (f := .glo "told_order") rfl), FunD.bindsN F fun _ _ _ _ _ _ us hl => match us, hl with | [_, _], _ => rfl⟩
  d_sorted_row := by
    obtain ⟨fd, F⟩ := c.def_ 18 (d := d18) rfl
    exact ⟨_, fd, F, He.glo_ok X G (c.fact 18 (f := .glo "sorted_row") rfl), FunD.bindsN F fun _ _ _ _ _ _ us hl => match us, hl with | [_, _], _ => rfl⟩
  d_count := by
    obtain ⟨fd, F⟩ := c.def_ 19 (d := d19) rfl
    exact ⟨_, fd, F, He.glo_ok X G (c.fact 19 (f := .glo "count") rfl), FunD.bindsN F fun _ _ _ _ _ _ us hl => match us, hl with | [_, _], _ => rfl⟩
  d_keeps_of := by
    obtain ⟨fd, F⟩ := c.def_ 20 (d := d20) rfl
    exact ⟨_, fd, F, He.glo_ok X G (c.fact 20 (f := .glo "keeps_of") rfl), FunD.bindsN F fun _ _ _ _ _ _ us hl => match us, hl with | [_, _], _ => rfl⟩
  d_broken_rows := by
    obtain ⟨fd, F⟩ := c.def_ 21 (d := d21) rfl
    exact ⟨_, fd, F, He.glo_ok X G (c.fact 21 (f := .glo "broken_rows") rfl), FunD.bindsN F fun _ _ _ _ _ _ us hl => match us, hl with | [_, _], _ => rfl⟩
  d_is_keeping := by
    obtain ⟨fd, F⟩ := c.def_ 22 (d := d22) rfl
    exact ⟨_, fd, F, He.glo_ok X G (c.fact 22 (f := .glo "is_keeping") rfl), FunD.bindsN F fun _ _ _ _ _ _ us hl => match us, hl with | [_, _], _ => rfl⟩
  d_law_start := by
    obtain ⟨fd, F⟩ := c.def_ 23 (d := d23) rfl
    exact ⟨_, fd, F, He.glo_ok X G (c.fact 23 (f := .glo "_law_start") rfl), FunD.bindsN F fun _ _ _ _ _ _ us hl => match us, hl with | [_], _ => rfl⟩
  d_law_draw := by
    obtain ⟨fd, F⟩ := c.def_ 24 (d := d24) rfl
    exact ⟨_, fd, F, He.glo_ok X G (c.fact 24 (f := .glo "_law_draw") rfl), FunD.bindsN F fun _ _ _ _ _ _ us hl => match us, hl with | [_, _], _ => rfl⟩
  d_law_pick := by
    obtain ⟨fd, F⟩ := c.def_ 25 (d := d25) rfl
    exact ⟨_, fd, F, He.glo_ok X G (c.fact 25 (f := .glo "_law_pick") rfl), FunD.bindsN F fun _ _ _ _ _ _ us hl => match us, hl with | [_, _], _ => rfl⟩
  d_law_row := by
    obtain ⟨fd, F⟩ := c.def_ 26 (d := d26) rfl
    exact ⟨_, fd, F, He.glo_ok X G (c.fact 26 (f := .glo "_law_row") rfl), FunD.bindsN F fun _ _ _ _ _ _ us hl => match us, hl with | [_, _], _ => rfl⟩
  d_law_step := by
    obtain ⟨fd, F⟩ := c.def_ 27 (d := d27) rfl
    exact ⟨_, fd, F, He.glo_ok X G (c.fact 27 (f := .glo "_law_step") rfl), FunD.bindsN F fun _ _ _ _ _ _ us hl => match us, hl with | [_, _], _ => rfl⟩
  i_Steps := by
    obtain ⟨fd, F⟩ := c.def_ 29 (d := d29) rfl
    exact ⟨_, fd, F, He.mkr_ok (c.fact 56 (f := .mkr "Steps") rfl), He.glo_ok X G (c.fact 29 (f := .glo "Steps") rfl), FunD.bindsN F fun _ _ _ _ _ _ us hl => match us, hl with | [_, _], _ => rfl⟩
  m_Steps_tells := by
    obtain ⟨fd, F⟩ := c.def_ 30 (d := d30) rfl
    exact ⟨_, fd, F, He.meth_ok (c.fact 53 (f := .meth "Steps" "tells") rfl), FunD.bindsN F fun _ _ _ _ _ _ us hl => match us, hl with | [_, _, _], _ => rfl⟩
  m_Steps_add := by
    obtain ⟨fd, F⟩ := c.def_ 31 (d := d31) rfl
    exact ⟨_, fd, F, He.meth_ok (c.fact 54 (f := .meth "Steps" "add") rfl), FunD.bindsN F fun _ _ _ _ _ _ us hl => match us, hl with | [_, _, _, _], _ => rfl⟩
  i_Asker := by
    obtain ⟨fd, F⟩ := c.def_ 32 (d := d32) rfl
    exact ⟨_, fd, F, He.mkr_ok (c.fact 57 (f := .mkr "Asker") rfl), He.glo_ok X G (c.fact 30 (f := .glo "Asker") rfl), FunD.bindsN F fun _ _ _ _ _ _ us hl => match us, hl with | [_, _, _], _ => rfl⟩
  m_Asker_less := by
    obtain ⟨fd, F⟩ := c.def_ 33 (d := d33) rfl
    exact ⟨_, fd, F, He.meth_ok (c.fact 55 (f := .meth "Asker" "less") rfl), FunD.bindsN F fun _ _ _ _ _ _ us hl => match us, hl with | [_, _, _], _ => rfl⟩
/-- the law's def -/
theorem law_ {K : PySem.W.Frag} {h : Heap} {mg : Str → Option Value} {f : Addr} (X : K.In h) (G : h.Ns mainGlobals mg) (hfa : mg ("law" : Str) = some (.ref f)) (c : He.SaysD fa fn K) :
    ∃ fd : FuncData, FnP K "law" "law" s_law f fd ∧ ∀ (s : Shared) (v : Value), BindsTo s fd ⟨[v], []⟩ [("_law_script", v)] := by
  obtain ⟨fd, F⟩ := c.def_ 28 (d := d28) rfl
  have e := hfa.symm.trans (He.glo_ok X G (c.fact 28 (f := .glo "law") rfl))
  cases e
  have b := FunD.bindsA (ps := ["_law_script"]) F fun _ _ _ _ _ _ us hl => match us, hl with | [_], _ => rfl
  exact ⟨fd, F, fun s v => b s [v] rfl⟩
end Hs
/-! ## part HsEnd -/
set_option Elab.async false
set_option linter.all false
set_option maxRecDepth 100000
set_option maxHeartbeats 4000000
namespace Hs
open PySem PySem.Spec PyProof.Rows L2
theorem facts {P : Program} {w : World} {K : PySem.W.Frag} {h : Heap} {mg : Str → Option Value} {f : Addr} (X : K.In h) (G : h.Ns mainGlobals mg) (hfa : mg ("law" : Str) = some (.ref f)) (c : He.SaysD fa fn K) :
    ∃ fd : FuncData, (∀ (s : Shared) (v : Value), BindsTo s fd ⟨[v], []⟩ [("_law_script", v)]) ∧ ∀ base : Heap, K.In base → base.Ns mainGlobals mg → FnOk P w K mg base CX0 12 f fd ["_law_script"] (spLaw K) := by
  obtain ⟨fd, F, b⟩ := law_ X G hfa c
  exact ⟨fd, b, fun base _ _ => ok_law (txt_ X G c) F⟩
end Hs
open PySem PySem.W PySem.Calls PyProof.Rows
theorem PySem.Challenge.cw_hiddensorters_k37_whole_heaps_holds : PySem.Challenge.rw_hiddensorters_k37_whole_heaps.Holds := by
  w_on; o_law
  refine HandSHeadRun.head_any (r := OpenLaw.row PySem.Challenge.rw_hiddensorters_k37_whole_heaps) (q := view (OpenLaw.row PySem.Challenge.rw_hiddensorters_k37_whole_heaps).prog [69]) (H := Hs.hk) (ob := Hs.ob) (M := 4000) (loose := Hs.looseA) (d := HandSHeadRun.topDef (OpenLaw.row PySem.Challenge.rw_hiddensorters_k37_whole_heaps).prog 69) (kwd := []) Hs.ob_eq
    (by kernel_rfl) (fun s => by kernel_rfl) Hs.run_ (by kernel_rfl) (by kernel_rfl) (by kernel_rfl) (by rfl) (by first | assumption | decide +kernel) (by decide +kernel) ⟨rfl, rfl, rfl, rfl, rfl, by decide +kernel⟩ ?hw ?hc
  case hw => w_witness2
  case hc =>
    refine L2.walk_ofE (l := PySem.Challenge.rw_hiddensorters_k37_whole_heaps) (n := 63) (k := 12) (x := "_law_script") (CX := L2.CX0) rfl (by decide) (by kernel_rfl) ⟨rfl, by decide, by decide⟩ ?F (fun _ _ _ _ z => z)
    intro w mg fa h Y G hmg0
    obtain ⟨K, KX, c⟩ := Y
    have hmg : mg ("law" : PySem.Str) = some (.ref fa) := by
      have e : (HandSHeadRun.topDef (OpenLaw.row PySem.Challenge.rw_hiddensorters_k37_whole_heaps).prog 69).name = ("law" : PySem.Str) := by kernel_rfl
      rw [← e]
      exact hmg0
    obtain ⟨fd, hb, hF⟩ := Hs.facts (P := (PySem.Challenge.rw_hiddensorters_k37_whole_heaps).prog) (w := w) KX G hmg c
    exact ⟨K, fd, Hs.spLaw K, KX, hb, fun H a ns hl _ hS => ⟨a, ns, rfl, hS, hl, fun _ => rfl⟩, hF⟩
