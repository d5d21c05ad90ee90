import PyProof.Rows.All
import Wide.All
import OpenK.AllK
import Wide.FinOn
import HandS.ForMost
import HandS.IsInst
import HandS.Style
import HandS.TupAny
import HandS.RaiseMore
import PyProof.P3In
import PyProof.ReprRoads
import PyProof.ReprLen
import HandS.Codes
import PySem.Challenge.RW_wrecktold_k26_whole_the_newest_is_found
set_option Elab.async false
set_option linter.all false
set_option maxRecDepth 100000
set_option maxHeartbeats 4000000
/-! k26: rings in plain Lean. -/
namespace K26
open PySem L2

/-! ### what lies in a slot -/
def lastV (m c s : Int) : V := if (c - 1 - s) % m < c then .int (c - 1 - (c - 1 - s) % m) else .non
def rowV (m c : Nat) : List V := (List.range m).map fun (s : Nat) => lastV (m : Int) (c : Int) (s : Int)
abbrev tornT : Str := "torn"
def tornV (m c : Nat) : List V := (rowV m c).set (c % m) (.str tornT)
theorem rowV_len (m c : Nat) : (rowV m c).length = m := by simp [rowV]
theorem tornV_len (m c : Nat) : (tornV m c).length = m := by simp [tornV, rowV_len]
theorem rowV_get {m c s : Nat} (h : s < m) : (rowV m c)[s]? = some (lastV m c s) := by
  simp [rowV, h]
theorem rowV_ge {m c s : Nat} (h : m ≤ s) : (rowV m c)[s]? = none := by
  apply List.getElem?_eq_none
  rw [rowV_len]; exact h

/-- a rest by its place -/
theorem rest_is {x m q r : Int} (h : x = m * q + r) (h0 : 0 ≤ r) (h1 : r < m) : x % m = r := by
  subst h
  rw [Int.mul_add_emod_self_left]
  exact Int.emod_eq_of_lt h0 h1

theorem lastV_lo {m q k s : Nat} (hs : s < k) (hk : k ≤ m) : lastV m ((m * q + k : Nat) : Int) s = .int ((m * q + s : Nat) : Int) := by
  unfold lastV
  have e : (((m * q + k : Nat) : Int) - 1 - (s : Int)) % (m : Int) = (k : Int) - 1 - s :=
    rest_is (q := (q : Int)) (by push_cast; omega) (by omega) (by omega)
  rw [e]
  have p : (0 : Int) ≤ (m : Int) * (q : Int) := Int.mul_nonneg (Int.natCast_nonneg _) (Int.natCast_nonneg _)
  rw [if_pos (by push_cast; omega)]
  congr 1
  push_cast
  omega
theorem lastV_hi0 {m k s : Nat} (hs : k ≤ s) (hm : s < m) : lastV m (k : Int) s = .non := by
  unfold lastV
  have e : ((k : Int) - 1 - (s : Int)) % (m : Int) = (k : Int) - 1 - s + m :=
    rest_is (q := -1) (by omega) (by omega) (by omega)
  rw [e, if_neg (by omega)]
theorem lastV_hi {m q k s : Nat} (hs : k ≤ s) (hm : s < m) : lastV m ((m * (q + 1) + k : Nat) : Int) s = .int ((m * q + s : Nat) : Int) := by
  unfold lastV
  have p : (0 : Int) ≤ (m : Int) * (q : Int) := Int.mul_nonneg (Int.natCast_nonneg _) (Int.natCast_nonneg _)
  have e : (((m * (q + 1) + k : Nat) : Int) - 1 - (s : Int)) % (m : Int) = (k : Int) - 1 - s + m :=
    rest_is (q := (q : Int)) (by push_cast; rw [Int.mul_add]; omega) (by omega) (by omega)
  rw [e, if_pos (by push_cast; rw [Int.mul_add]; omega)]
  congr 1
  push_cast
  rw [Int.mul_add]
  omega
/-- one block more -/
theorem lastV_succ {m i s : Nat} (hm : s < m) : lastV m ((i + 1 : Nat) : Int) s = if i % m = s then .int (i : Int) else lastV m (i : Int) s := by
  have hq := Nat.div_add_mod i m
  have hr := Nat.mod_lt i (show 0 < m by omega)
  generalize i / m = q at hq
  generalize i % m = r at hq hr
  subst hq
  split
  · rename_i e
    subst e
    rw [show m * q + r + 1 = m * q + (r + 1) from rfl, lastV_lo (Nat.lt_succ_self _) (by omega)]
  · rename_i e
    rw [show m * q + r + 1 = m * q + (r + 1) from rfl]
    by_cases h : s < r
    · rw [lastV_lo (by omega) (by omega), lastV_lo h (by omega)]
    · cases q with
      | zero =>
        rw [show m * 0 + (r + 1) = r + 1 by omega, show m * 0 + r = r by omega, lastV_hi0 (by omega) hm, lastV_hi0 (by omega) hm]
      | succ q => rw [lastV_hi (by omega) hm, lastV_hi (by omega) hm]
theorem rowV_zero (m : Nat) : rowV m 0 = List.replicate m .non := by
  apply List.ext_getElem?
  intro s
  by_cases h : s < m
  · rw [rowV_get h, show lastV m ((0 : Nat) : Int) s = .non from lastV_hi0 (Nat.zero_le _) h]
    simp [h]
  · rw [rowV_ge (by omega)]
    simp [h]
theorem rowV_succ {m : Nat} (hm : 0 < m) (i : Nat) : rowV m (i + 1) = (rowV m i).set (i % m) (.int (i : Int)) := by
  have hr := Nat.mod_lt i hm
  apply List.ext_getElem?
  intro s
  by_cases h : s < m
  · rw [rowV_get h, lastV_succ h, List.getElem?_set, rowV_len]
    split
    · rfl
    · rw [rowV_get h]
  · rw [rowV_ge (by omega), List.getElem?_eq_none]
    rw [List.length_set, rowV_len]
    omega

/-! ### what an item of a row can be -/
inductive Rowy : V → Prop
  | non : Rowy .non
  | torn : Rowy (.str tornT)
  | int (n : Nat) : Rowy (.int (n : Int))
/-- the shape of a count: so many whole laps and a part -/
theorem shape {m c : Nat} (hm : 0 < m) (hc : 0 < c) : ∃ q k, c = m * q + k ∧ 0 < k ∧ k ≤ m := by
  refine ⟨(c - 1) / m, (c - 1) % m + 1, ?_, Nat.succ_pos _, Nat.mod_lt _ hm⟩
  have := Nat.div_add_mod (c - 1) m
  omega
theorem lastV_rowy {m c s : Nat} (hm : s < m) : lastV m c s = .non ∨ ∃ n : Nat, lastV m c s = .int (n : Int) ∧ n < c := by
  by_cases hc : 0 < c
  · obtain ⟨q, k, rfl, h0, h1⟩ := shape (m := m) (by omega) hc
    by_cases h : s < k
    · exact .inr ⟨_, lastV_lo h h1, by omega⟩
    · cases q with
      | zero =>
        left
        rw [show m * 0 + k = k by omega]
        exact lastV_hi0 (by omega) hm
      | succ q =>
        refine .inr ⟨_, lastV_hi (by omega) hm, ?_⟩
        rw [Nat.mul_succ]
        omega
  · left
    have : c = 0 := by omega
    subst this
    exact lastV_hi0 (Nat.zero_le _) hm
theorem rowV_mem {m c : Nat} {v : V} (h : v ∈ rowV m c) : v = .non ∨ ∃ n : Nat, v = .int (n : Int) ∧ n < c := by
  unfold rowV at h
  rw [List.mem_map] at h
  obtain ⟨s, hs, rfl⟩ := h
  exact lastV_rowy (List.mem_range.mp hs)
theorem tornV_mem {m c : Nat} {v : V} (h : v ∈ tornV m c) : v = .str tornT ∨ v = .non ∨ ∃ n : Nat, v = .int (n : Int) ∧ n < c := by
  unfold tornV at h
  rcases List.mem_or_eq_of_mem_set h with h | h
  · exact .inr (rowV_mem h)
  · exact .inl h
theorem rowV_rowy {m c : Nat} : ∀ v ∈ rowV m c, Rowy v := fun v h => by
  rcases rowV_mem h with rfl | ⟨n, rfl, _⟩
  · exact .non
  · exact .int n
theorem tornV_rowy {m c : Nat} : ∀ v ∈ tornV m c, Rowy v := fun v h => by
  rcases tornV_mem h with rfl | rfl | ⟨n, rfl, _⟩
  · exact .torn
  · exact .non
  · exact .int n

/-! ### how many blocks a row tells -/
/-- n is what count_of tells: no number and 0, or one more than the greatest -/
def IsCount (xs : List V) (n : Int) : Prop := (n = 0 ∧ ∀ i : Int, V.int i ∉ xs) ∨ (V.int (n - 1) ∈ xs ∧ ∀ i : Int, V.int i ∈ xs → i ≤ n - 1)
theorem rowV_count {m c : Nat} (hm : 0 < m) : IsCount (rowV m c) c := by
  by_cases hc : 0 < c
  · right
    obtain ⟨q, k, e, h0, h1⟩ := shape hm hc
    refine ⟨?_, fun i hi => ?_⟩
    · refine List.mem_of_getElem? (i := k - 1) ?_
      rw [rowV_get (by omega), e, lastV_lo (by omega) h1]
      congr 2
      omega
    · rcases rowV_mem hi with h | ⟨n, h, hn⟩
      · cases h
      · cases h
        omega
  · left
    have : c = 0 := by omega
    subst this
    refine ⟨rfl, fun i hi => ?_⟩
    rcases rowV_mem hi with h | ⟨n, h, hn⟩
    · cases h
    · omega
theorem shape_mod {m q k : Nat} (h0 : 0 < k) (h1 : k ≤ m) : (m * q + k) % m = if k = m then 0 else k := by
  split
  · rename_i e
    subst e
    simp
  · rw [Nat.mul_add_mod, Nat.mod_eq_of_lt (by omega)]
theorem tornV_count {m c : Nat} (hm : 2 ≤ m) : IsCount (tornV m c) c := by
  by_cases hc : 0 < c
  · right
    obtain ⟨q, k, e, h0, h1⟩ := shape (m := m) (by omega) hc
    refine ⟨?_, fun i hi => ?_⟩
    · refine List.mem_of_getElem? (i := k - 1) ?_
      unfold tornV
      rw [List.getElem?_set_ne, rowV_get (by omega), e, lastV_lo (by omega) h1]
      · congr 2
        omega
      · rw [e, shape_mod h0 h1]
        split <;> omega
    · rcases tornV_mem hi with h | h | ⟨n, h, hn⟩
      · cases h
      · cases h
      · cases h
        omega
  · left
    have : c = 0 := by omega
    subst this
    refine ⟨rfl, fun i hi => ?_⟩
    rcases tornV_mem hi with h | h | ⟨n, h, hn⟩
    · cases h
    · cases h
    · omega

/-! ### the search -/
def srch (p : Nat → Bool) (lo hi : Nat) : Nat × List Nat :=
  if h : 1 < hi - lo then
    if p ((lo + hi) / 2) = true then ((srch p ((lo + hi) / 2) hi).1, (lo + hi) / 2 :: (srch p ((lo + hi) / 2) hi).2)
    else ((srch p lo ((lo + hi) / 2)).1, (lo + hi) / 2 :: (srch p lo ((lo + hi) / 2)).2)
  else (lo, [])
termination_by hi - lo
decreasing_by all_goals omega
theorem srch_stop {p : Nat → Bool} {lo hi : Nat} (h : ¬ 1 < hi - lo) : srch p lo hi = (lo, []) := by
  rw [srch, dif_neg h]
theorem srch_up {p : Nat → Bool} {lo hi : Nat} (h : 1 < hi - lo) (hp : p ((lo + hi) / 2) = true) : srch p lo hi = ((srch p ((lo + hi) / 2) hi).1, (lo + hi) / 2 :: (srch p ((lo + hi) / 2) hi).2) := by
  rw [srch, dif_pos h, if_pos hp]
theorem srch_down {p : Nat → Bool} {lo hi : Nat} (h : 1 < hi - lo) (hp : p ((lo + hi) / 2) = false) : srch p lo hi = ((srch p lo ((lo + hi) / 2)).1, (lo + hi) / 2 :: (srch p lo ((lo + hi) / 2)).2) := by
  rw [srch, dif_pos h, if_neg (by rw [hp]; exact Bool.false_ne_true)]
theorem srch_in (p : Nat → Bool) : ∀ (n lo hi : Nat), hi - lo ≤ n → ∀ x ∈ (srch p lo hi).2, lo < x ∧ x < hi
  | 0, lo, hi, h, x, hx => by
    rw [srch_stop (by omega)] at hx
    cases hx
  | n + 1, lo, hi, h, x, hx => by
    by_cases h1 : 1 < hi - lo
    · cases hp : p ((lo + hi) / 2) with
      | true =>
        rw [srch_up h1 hp] at hx
        rcases List.mem_cons.mp hx with e | hx
        · omega
        · have := srch_in p n _ _ (by omega) x hx
          omega
      | false =>
        rw [srch_down h1 hp] at hx
        rcases List.mem_cons.mp hx with e | hx
        · omega
        · have := srch_in p n _ _ (by omega) x hx
          omega
    · rw [srch_stop h1] at hx
      cases hx
theorem srch_len (p : Nat → Bool) : ∀ (e lo hi : Nat), hi - lo ≤ 2 ^ e → (srch p lo hi).2.length ≤ e
  | 0, lo, hi, h => by
    rw [srch_stop (by simp at h; omega)]
    exact Nat.le_refl _
  | e + 1, lo, hi, h => by
    rw [Nat.pow_succ] at h
    by_cases h1 : 1 < hi - lo
    · cases hp : p ((lo + hi) / 2) with
      | true =>
        rw [srch_up h1 hp]
        have := srch_len p e ((lo + hi) / 2) hi (by omega)
        simp only [List.length_cons]
        omega
      | false =>
        rw [srch_down h1 hp]
        have := srch_len p e lo ((lo + hi) / 2) (by omega)
        simp only [List.length_cons]
        omega
    · rw [srch_stop h1]
      exact Nat.zero_le _
theorem srch_val {k : Nat} : ∀ (n lo hi : Nat), hi - lo ≤ n → lo < k → k ≤ hi → (srch (fun s => decide (s < k)) lo hi).1 = k - 1
  | 0, lo, hi, h, h1, h2 => by omega
  | n + 1, lo, hi, h, h1, h2 => by
    by_cases h3 : 1 < hi - lo
    · by_cases hp : (lo + hi) / 2 < k
      · rw [srch_up h3 (decide_eq_true hp)]
        exact srch_val n _ _ (by omega) hp h2
      · rw [srch_down h3 (decide_eq_false hp)]
        exact srch_val n _ _ (by omega) h1 (by omega)
    · rw [srch_stop h3]
      show lo = k - 1
      omega

/-! ### the least number of doublings -/
def IsDbl (m e : Nat) : Prop := m ≤ 2 ^ e ∧ ∀ j, j < e → 2 ^ j < m
theorem dbl_uniq {m e i : Nat} (h : IsDbl m e) (h1 : m ≤ 2 ^ i) (h2 : ∀ j, j < i → 2 ^ j < m) : i = e := by
  rcases Nat.lt_trichotomy i e with l | l | l
  · have := h.2 i l
    omega
  · exact l
  · have := h2 e l
    have := h.1
    omega
theorem dbl_ex (m : Nat) : ∃ e, IsDbl m e := by
  have up : ∀ n, (∀ j, j < n → 2 ^ j < m) ∨ ∃ e, IsDbl m e := by
    intro n
    induction n with
    | zero => exact .inl fun j h => by omega
    | succ n ih =>
      rcases ih with h | h
      · by_cases hn : 2 ^ n < m
        · refine .inl fun j hj => ?_
          rcases Nat.lt_succ_iff_lt_or_eq.mp hj with l | rfl
          · exact h j l
          · exact hn
        · exact .inr ⟨n, by omega, h⟩
      · exact .inr h
  rcases up (m + 1) with h | h
  · have h1 := h m (Nat.lt_succ_self _)
    have h2 : m < 2 ^ m := Nat.lt_two_pow_self
    omega
  · exact h
theorem dbl_le {m e : Nat} (h : IsDbl m e) (hm : m ≤ 64) : e ≤ 6 := by
  by_cases he : e ≤ 6
  · exact he
  · have := h.2 6 (by omega)
    omega
theorem dbl_pos {m e : Nat} (h : IsDbl m e) (hm : 2 ≤ m) : 1 ≤ e := by
  cases e with
  | zero =>
    have := h.1
    simp at this
    omega
  | succ e => omega

/-! ### what is seen of a row -/
def plainV : V → Prop
  | .non => True
  | .int _ => True
  | .str _ => True
  | _ => False
/-- the newest block (or none), the number to go on with, the slots looked at -/
inductive Sees (xs : List V) : V → Int → List Nat → Prop
  | empty (h : xs[0]? = some .non) : Sees xs .non 0 [0]
  | torn0 (h : xs[0]? = some (.str tornT)) (hl : xs[xs.length - 1]? = some .non) : Sees xs .non 0 [0, xs.length - 1]
  | torn1 (n : Int) (h : xs[0]? = some (.str tornT)) (hl : xs[xs.length - 1]? = some (.int n)) : Sees xs (.int n) (n + 1) [0, xs.length - 1]
  | lap (b : Int) (p : Nat → Bool) (h : xs[0]? = some (.int b)) (hs : ∀ x ∈ (srch p 0 xs.length).2, ∃ v, xs[x]? = some v ∧ plainV v ∧ decide (v = V.int (b + (x : Int))) = p x) :
      Sees xs (.int (b + ((srch p 0 xs.length).1 : Int))) (b + ((srch p 0 xs.length).1 : Int) + 1) (0 :: (srch p 0 xs.length).2)
/-- what stands in the other slots does not matter -/
theorem Sees.other {xs ys : List V} {d : V} {n : Int} {L : List Nat} (h : Sees xs d n L) (hl : ys.length = xs.length) (he : ∀ x ∈ L, ys[x]? = xs[x]?) : Sees ys d n L := by
  cases h with
  | empty h => exact .empty (by rw [he 0 (by simp)]; exact h)
  | torn0 h h2 =>
    rw [← hl] at h2 he ⊢
    exact .torn0 (by rw [he 0 (by simp)]; exact h) (by rw [he _ (by simp)]; exact h2)
  | torn1 n h h2 =>
    rw [← hl] at h2 he ⊢
    exact .torn1 n (by rw [he 0 (by simp)]; exact h) (by rw [he _ (by simp)]; exact h2)
  | lap b p h hs =>
    rw [← hl] at hs he ⊢
    refine .lap b p (by rw [he 0 (by simp)]; exact h) fun x hx => ?_
    rw [he x (List.mem_cons_of_mem _ hx)]
    exact hs x hx
theorem Sees.lt {xs : List V} {d : V} {n : Int} {L : List Nat} (h : Sees xs d n L) (h0 : 0 < xs.length) : ∀ x ∈ L, x < xs.length := by
  intro x hx
  cases h with
  | empty h => simp at hx; omega
  | torn0 h h2 => simp at hx; omega
  | torn1 n h h2 => simp at hx; omega
  | lap b p h hs =>
    rcases List.mem_cons.mp hx with e | hx
    · omega
    · exact (srch_in p _ _ _ (Nat.le_refl _) x hx).2
theorem Sees.len {xs : List V} {d : V} {n : Int} {L : List Nat} {e : Nat} (h : Sees xs d n L) (he : IsDbl xs.length e) (h2 : 2 ≤ xs.length) : L.length ≤ 1 + e := by
  have e1 := dbl_pos he h2
  cases h with
  | empty h => simp
  | torn0 h h2 => simp; omega
  | torn1 n h h2 => simp; omega
  | lap b p h hs =>
    have := srch_len p e 0 xs.length (by have := he.1; omega)
    simp only [List.length_cons]
    omega
def dueV (c : Nat) : V := if 0 < c then .int ((c : Int) - 1) else .non
theorem dueV_pos {c : Nat} (h : 0 < c) : dueV c = .int ((c : Int) - 1) := if_pos h
theorem lap_of {xs : List V} {m q k : Nat} (hl : xs.length = m) (h0 : 0 < k) (h1 : k ≤ m) (lo : ∀ s, s < k → xs[s]? = some (.int ((m * q + s : Nat) : Int)))
    (hi : ∀ s, k ≤ s → s < m → ∃ v, xs[s]? = some v ∧ plainV v ∧ v ≠ V.int ((m * q + s : Nat) : Int)) : ∃ L, Sees xs (dueV (m * q + k)) ((m * q + k : Nat) : Int) L := by
  have hv : (srch (fun s => decide (s < k)) 0 xs.length).1 = k - 1 := srch_val _ 0 _ (Nat.le_refl _) h0 (by omega)
  have S : Sees xs _ _ _ := Sees.lap ((m * q : Nat) : Int) (fun s => decide (s < k)) (by rw [lo 0 h0]; simp) (fun x hx => by
    have hx2 := (srch_in _ _ _ _ (Nat.le_refl _) x hx).2
    have ex : ((m * q : Nat) : Int) + (x : Int) = ((m * q + x : Nat) : Int) := by push_cast; rfl
    rw [ex]
    by_cases h : x < k
    · exact ⟨_, lo x h, trivial, by rw [decide_eq_true h]; simp⟩
    · obtain ⟨v, e1, e2, e3⟩ := hi x (by omega) (by omega)
      exact ⟨v, e1, e2, by rw [decide_eq_false h, decide_eq_false e3]⟩)
  rw [hv] at S
  have e1 : ((m * q : Nat) : Int) + ((k - 1 : Nat) : Int) = ((m * q + k : Nat) : Int) - 1 := by push_cast; omega
  rw [e1] at S
  have e2 : ((m * q + k : Nat) : Int) - 1 + 1 = ((m * q + k : Nat) : Int) := by omega
  rw [e2] at S
  rw [dueV_pos (by omega)]
  exact ⟨_, S⟩
theorem row_hi {m q k s : Nat} (h : k ≤ s) (hm : s < m) : ∃ v, (rowV m (m * q + k))[s]? = some v ∧ plainV v ∧ v ≠ V.int ((m * q + s : Nat) : Int) := by
  rw [rowV_get hm]
  cases q with
  | zero =>
    refine ⟨_, rfl, ?_⟩
    rw [show m * 0 + k = k by omega, lastV_hi0 h hm]
    exact ⟨trivial, fun e => by cases e⟩
  | succ q =>
    refine ⟨_, rfl, ?_⟩
    rw [lastV_hi h hm]
    refine ⟨trivial, fun e => ?_⟩
    have e' := V.int.inj e
    rw [Nat.mul_succ] at e'
    omega
theorem rowV_sees {m c : Nat} (hm : 2 ≤ m) : ∃ L, Sees (rowV m c) (dueV c) c L := by
  by_cases hc : 0 < c
  · obtain ⟨q, k, rfl, h0, h1⟩ := shape (m := m) (by omega) hc
    exact lap_of (rowV_len _ _) h0 h1 (fun s hs => by rw [rowV_get (by omega), lastV_lo hs h1]) fun s hs hm' => row_hi hs hm'
  · have : c = 0 := by omega
    subst this
    exact ⟨_, .empty (by rw [rowV_get (by omega)]; exact congrArg some (lastV_hi0 (Nat.zero_le _) (by omega)))⟩
theorem tornV_sees {m c : Nat} (hm : 2 ≤ m) : ∃ L, Sees (tornV m c) (dueV c) c L := by
  have hl := tornV_len m c
  by_cases hz : c % m = 0
  · have h0 : (tornV m c)[0]? = some (.str tornT) := by
      unfold tornV
      rw [hz, List.getElem?_set_self (by rw [rowV_len]; omega)]
    have hlast : (tornV m c)[(tornV m c).length - 1]? = some (lastV m c ((m - 1 : Nat) : Int)) := by
      rw [hl]
      unfold tornV
      rw [hz, List.getElem?_set_ne (by omega), rowV_get (by omega)]
    by_cases hc : 0 < c
    · obtain ⟨q, k, rfl, hk0, hk1⟩ := shape (m := m) (by omega) hc
      rw [shape_mod hk0 hk1] at hz
      have hkm : k = m := by
        by_cases e : k = m
        · exact e
        · rw [if_neg e] at hz
          omega
      subst hkm
      rw [lastV_lo (by omega) (Nat.le_refl _)] at hlast
      have S := Sees.torn1 _ h0 hlast
      have e2 : ((k * q + (k - 1) : Nat) : Int) + 1 = ((k * q + k : Nat) : Int) := by push_cast; omega
      have e1 : ((k * q + (k - 1) : Nat) : Int) = ((k * q + k : Nat) : Int) - 1 := by push_cast; omega
      rw [e2, e1] at S
      rw [dueV_pos hc]
      exact ⟨_, S⟩
    · have : c = 0 := by omega
      subst this
      rw [show lastV m ((0 : Nat) : Int) ((m - 1 : Nat) : Int) = .non from lastV_hi0 (Nat.zero_le _) (by omega)] at hlast
      exact ⟨_, .torn0 h0 hlast⟩
  · have hc : 0 < c := by
      rcases Nat.eq_zero_or_pos c with e | e
      · subst e
        simp at hz
      · exact e
    obtain ⟨q, k, rfl, hk0, hk1⟩ := shape (m := m) (by omega) hc
    have hmod := shape_mod (q := q) hk0 hk1
    have hkm : k ≠ m := fun e => by
      rw [if_pos e] at hmod
      exact hz hmod
    rw [if_neg hkm] at hmod
    refine lap_of hl hk0 hk1 (fun s hs => ?_) fun s hs hm' => ?_
    · unfold tornV
      rw [hmod, List.getElem?_set_ne (by omega), rowV_get (by omega), lastV_lo hs hk1]
    · unfold tornV
      rw [hmod]
      by_cases e : k = s
      · subst e
        refine ⟨.str tornT, by rw [List.getElem?_set_self (by rw [rowV_len]; omega)], trivial, fun e => by cases e⟩
      · rw [List.getElem?_set_ne e]
        exact row_hi hs hm'
end K26

/-! k26: rules beside the layer's. -/
namespace K26
open PySem PySem.Spec PyProof.Rows L2

/-! ### repr of data, where no repr is under way -/
def rShow (K : PySem.W.Frag) : List V → Hp → VK → Prop := fun zs H Q =>
  ∃ (b : Addr) (d : PyData), zs = [.ref b] ∧ Dp K H (.ref b) d ∧ d.showable = true ∧ d.hasDict = false ∧ d.depth ≤ 60 ∧ d.shown.length ≤ sizeLine ∧ Q (.str d.shown) H
theorem call_show {X : Cx} (hg : X.A.guards = some []) (hu : X.A.units + 64 < cLine) : CallR X (.builtin "repr") (rShow X.K) := by
  intro pins s σ H zs us Q I r h
  obtain ⟨b, d, rfl, hd, h1, h2, h3, h4, q⟩ := h
  obtain ⟨u, rfl, ru⟩ := vals1 r
  cases (show u = Value.ref b from ru)
  obtain ⟨as, rd⟩ := Dp.reads I d _ _ hd rfl
  exact PySem.repr_of_reads' rd h1 (PyData.noDict_hsm h2) hg (by omega) (fun _ _ e => e) (fun g t tk kept => ⟨.str _, H, I.kept kept, ⟨t, rfl⟩, q⟩) h4

/-! ### x in (t, u) of data -/
def rInTup (K : PySem.W.Frag) : R2 := fun x y H Q =>
  ∃ d ds, Dp K H x d ∧ Dp K H y (.tuple ds) ∧ SeqAt.shaped d = true ∧ SeqAt.shaped (.tuple ds) = true ∧ Q (.bl (ds.any fun z => PyData.eqv z d)) H
theorem op_inTup {X : Cx} (hu : X.A.units + 65 < cLine) : OpR X (compareOp .In) (rInTup X.K) := by
  intro pins s σ H x y v u Q I rx ry h
  obtain ⟨d, ds, hd, he, sd, se, q⟩ := h
  obtain ⟨l1, r1⟩ := Dp.reads I d x v hd rx
  obtain ⟨l2, r2⟩ := Dp.reads I (.tuple ds) y u he ry
  have lay := SeqAt.canLay_of_shaped se
  have room : X.A.units + 1 + min (PyData.depthAll ds) d.depth < cLine := by
    have z : (d.canLay0 && decide (d.depth ≤ 64)) = true := sd
    simp only [Bool.and_eq_true, decide_eq_true_eq] at z
    have := Nat.min_le_right (PyData.depthAll ds) d.depth
    omega
  exact SeqAt.in_tuple_reads r2 r1 (by simpa only [PyData.canLay0] using lay) (SeqAt.canLay_of_shaped sd) room ⟨.bl _, H, I, rfl, q⟩

/-! ### what is walked is one of two -/
def iEither (w1 w2 : TI) : TI := fun σ H R => w1 σ H R ∨ w2 σ H R
theorem pi_either {X : Cx} {tg it : Expr} {w1 w2 : TI} (h1 : PI X tg it w1) (h2 : PI X tg it w2) : PI X tg it (iEither w1 w2) :=
  ⟨fun pins s σ H R I h => h.elim (h1.run pins s σ H R I) (h2.run pins s σ H R I)⟩

/-! ### f(k = v, ..), keywords alone -/
section
variable {X : Cx} {CX : CXT} {k : Nat} {f : Addr} {fd : FuncData} {ps ks : List Str} {sp : Sp} {E : XK} {x : Str} {p pos : Pos} {kws : List Keyword} {tk : TA} {g : List Value → List Value → List Value} {gV : List V → List V → List V}
theorem pe_callKw (F : FnOk X.prog X.w X.K X.mg X.base CX k f fd ps sp) (room : Room k X.A) (gl : Gl X x) (at_ : X.mg x = some (.ref f)) (kp : PySem.W.keepIn X.K (.ref f) = true) (kb : KBinds X.K fd ps ks g gV) (px : Passes CX X E)
    (vals : PK X kws tk) (named : (backToKw pos (keywordEach kws X.env)).all (·.1.isSome) = true := by rfl) (are : (backToKw pos (keywordEach kws X.env)).filterMap (·.1) = ks := by rfl)
    (nd : (x == ("__debug__" : Str)) = false := by decide) (pl : ((backTo pos (starEach [] X.env)).any (·.1) || (backToKw pos (keywordEach kws X.env)).any (·.1.isNone)) = false := by rfl) :
    PE X (.Call (.Name x p) [] kws pos) (tCallK sp gV E tNil tk) := by
  refine ⟨fun pins s σ H Q I h => wpAny_Call_Name_kw (ld_glob I gl at_ ?_ nd)⟩
  refine PySem.W.callWith_KW0 (h₀ := X.base) I.ok.mod.kin kp named (thn (vals.run pos pins s σ H _ I h) fun ws s2 ⟨zs, H2, I2, rz, q2⟩ => ⟨I2.kIn, ?_⟩) pl
  rw [are]
  exact run_fnk (us := []) (vs := []) F room kb px I2 .nil rz q2
end

/-! ### contracts of defs that show data: no repr is under way where they are called -/
structure FnG (P : Program) (w : World) (K : PySem.W.Frag) (mg : Str → Option Value) (base : Heap) (k : Nat) (f : Addr) (sp : Sp) : Prop where
  run : ∀ (A : Around) (fs : List Env) (s : Shared) (H : Hp) (us : List Value) (vs : List V) (Q : VK), Room k A → A.guards = some [] → Env0 P w K mg base A fs s H → Vals vs us → sp vs H Q E0 →
    codeAny (model P w) A (.call (.ref f) ⟨us, []⟩) (CR CX0 fs P w H s Q E0) s
section
variable {P : Program} {w : World} {K : PySem.W.Frag} {mg : Str → Option Value} {base : Heap}
theorem fnG_of {x qual : Str} {st : Stmt} {f : Addr} {fd : FuncData} {N ps : List Str} {k : Nat} {sp : Sp} (F : Fun K x qual st f fd) (bd : Binds K fd ps []) (S : FnScope N ps (defScope st)) (len : ∀ vs H Q E, sp vs H Q E → vs.length = ps.length)
    (body : ∀ (cdv : Value) (A : Around) (fs : List Env) (s : Shared) (H : Hp) (vs : List V) (Q : VK), Room k (A.deeper (envOfC qual (defScope st) s.heap.objs.size f cdv)) → A.guards = some [] → sp vs H Q E0 →
      ∃ t, PSs (cxOf CX0 P w K mg base N qual (defScope st) f cdv A fs s H E0).nox (defBody st) t ∧ t { nx := fun _ H' => Q .non H', rt := Q } (start N vs) H) :
    FnG P w K mg base (k + 1) f sp := by
  obtain ⟨oc, od, kV, doc, pm, an, cdv, ct, osl, rfl, lk, hcd⟩ := F.ex
  refine ⟨fun A fs s H us vs Q room gs e0 rv want => ?_⟩
  have hvl : vs.length = ps.length := len _ _ _ _ want
  have hul : us.length = ps.length := by rw [← rv.length]; exact hvl
  have stay : ∀ b o, base.get? b = some o → s.heap.get? b = some o := fun b o z => (e0.bs b o z).1
  have hK : K.In s.heap := e0.mod.kin.keeps stay
  have hb := bd s us hK (by rw [List.append_nil]; exact hul)
  rw [List.append_nil] at hb
  have kinds : ∀ y ∈ ps.zip us, (defScope st).names.lookup y.1 = some .local ∨ ((defScope st).names.lookup y.1 = some .cell ∧ ((cellsFrom (s.heap.objs.size + 1) (defScope st).names []).lookup y.1).isSome = true) := by
    intro y hy
    rcases S.par y.1 (List.of_mem_zip (show (y.1, y.2) ∈ ps.zip us from hy)).1 with z | z
    · exact Or.inl z
    · exact Or.inr ⟨z, PySem.W.cellsFrom_some _ _ _ (Or.inl z)⟩
  refine codeAny_call_function room.depth (hK _ _ lk) rfl S.co S.gen rfl (PySem.W.codeRec_of hK hcd) (hb _ _ _ _ (wpAny_newFunctionEnv_cells S.kind kinds fun env he s1 inn => ?_))
  subst he
  refine ⟨(e0.mod.nolimit.keeps stay).keeps inn.toInCall.keep, codeAny_func ?_⟩
  obtain ⟨t, ht, tq⟩ := body cdv A fs s H vs Q (room.deeper _) gs want
  have J := inv_start (CX := CX0) (N := N) (E := E0) S room.hd e0 hvl rv inn
  refine wpAny_mono (ht.nox.run [] s1 (start N vs) H _ J tq) (fun fl s' z => ?_) fun e s' z => z
  cases fl with
  | ret u =>
    obtain ⟨v, σ', H', J', rv', q'⟩ := z
    exact ⟨v, H', J'.os, J'.bare, J'.base, J'.hok, rv', q'⟩
  | next =>
    obtain ⟨σ', H', J', q'⟩ := z
    exact ⟨V.non, H', J'.os, J'.bare, J'.base, J'.hok, rfl, q'⟩
  | brk => exact (let ⟨_, _, _, q'⟩ := z; False.elim q')
  | cont => exact (let ⟨_, _, _, q'⟩ := z; False.elim q')
end
def tKeep (sp : Sp) (t : TA) : TE := fun σ H Q => t σ H fun vs H1 => sp vs H1 Q E0
theorem pe_callG {X : Cx} {k : Nat} {f : Addr} {sp : Sp} {x : Str} {p pos : Pos} {e : Expr} {es : List Expr} {t : TA} (G : FnG X.prog X.w X.K X.mg X.base k f sp) (room : Room k X.A) (gs : X.A.guards = some []) (gl : Gl X x) (at_ : X.mg x = some (.ref f))
    (kp : PySem.W.keepIn X.K (.ref f) = true) (args : PA X (e :: es) t) (nd : (x == ("__debug__" : Str)) = false := by decide) (st : starEach (e :: es) X.env = (false, eval e X.env) :: starEach es X.env := by rfl)
    (pl : (backTo pos (starEach es X.env)).any (·.1) = false := by rfl) : PE X (.Call (.Name x p) (e :: es) [] pos) (tKeep sp t) := by
  refine ⟨fun pins s σ H Q I h => wpAny_Call_Name_kw (ld_glob I gl at_ ?_ nd)⟩
  refine PySem.W.callWith_K (h₀ := X.base) I.ok.mod.kin kp (thn (args.run pos pins s σ H _ I h) fun us s1 ⟨vs, H1, J, rv, q⟩ => ⟨J.kIn, wpAny_call ?_⟩) st pl
  refine codeAny_mono (G.run X.A X.stack s1 H1 us vs Q room gs J.env0 rv q) fun r s' z => ?_
  cases r with
  | error er => exact False.elim z
  | ok fl =>
    cases fl with
    | ret u => exact J.after z
    | next => exact False.elim z
    | brk => exact False.elim z
    | cont => exact False.elim z
end K26

/-! k26: the end of the row over a contract that knows that no repr is under way. -/
namespace K26
open PySem PySem.Spec PyProof.Rows L2

/-- the script alone, where it is no object of the written part -/
def seen (K : PySem.W.Frag) (a : Addr) (o : Obj) (zs : List V) : Hp := fun b => if b = a ∧ K.lookup a = none then some (.frz o (.lst zs)) else none
theorem seen_at {K : PySem.W.Frag} {a b : Addr} {o : Obj} {zs : List V} {u : HO} (h : seen K a o zs b = some u) : b = a ∧ K.lookup a = none ∧ u = .frz o (.lst zs) := by
  unfold seen at h
  split at h
  · rename_i z
    exact ⟨z.1, z.2, (Option.some.inj h).symm⟩
  · cases h
theorem seen_none {K : PySem.W.Frag} {a b : Addr} {o : Obj} {zs : List V} (h : b ≠ a ∨ ∃ z, K.lookup a = some z) : seen K a o zs b = none := by
  unfold seen
  rw [if_neg]
  rintro ⟨h1, h2⟩
  rcases h with h | ⟨z, h⟩
  · exact h h1
  · rw [h2] at h
    cases h

theorem callG {P : Program} {w : World} {K : PySem.W.Frag} {mg mb : Str → Option Value} {k : Nat} {fa a : Addr} {sp : Sp} {s : Shared} {vs : List Value} {ns : List Int} (kin : K.In s.heap) (glb : s.heap.Ns mainGlobals mg) (blt : s.heap.Ns builtinsNs mb)
    (boot : ∀ y : Str, y ≠ "__name__" → mb y = bootBuiltins y) (lim : s.heap.NoLimit) (gens : s.gens = #[]) (obj : s.heap.get? a = some { cls := .type "list", data := .seq vs.toArray }) (isI : IntsAre vs ns) (short : ns.length ≤ sizeLine) (room : Room k callerA)
    (F : ∀ base : Heap, K.In base → base.Ns mainGlobals mg → FnG P w K mg base k fa sp) (want : ∀ H : Hp, SqL K H a (ns.map V.int) → sp [.ref a] H (fun v _ => v = .bl true) E0) :
    codeAny (model P w) callerA (.call (.ref fa) ⟨[.ref a], []⟩) (fun r s' => r = .ok (.ret (.bool true)) ∧ OldK s.heap s'.heap ∧ s'.os = s.os ∧ AllBare s'.gens) s := by
  have rv : Vals (ns.map V.int) vs := vals_ints isI
  have same : vs.length = ns.length := by rw [← rv.length, List.length_map]
  generalize hH : seen K a { cls := .type "list", data := .seq vs.toArray } (ns.map V.int) = H
  have at_ : ∀ b u, H b = some u → b = a ∧ K.lookup a = none ∧ u = .frz { cls := .type "list", data := .seq vs.toArray } (.lst (ns.map V.int)) := fun b u z => seen_at (by rw [hH]; exact z)
  have good : HOk P w H s.heap := fun b u z => by
    obtain ⟨rfl, _, rfl⟩ := at_ b u z
    exact ⟨obj, by rw [List.length_map]; exact short, vs, _, rv, obj⟩
  have seq : SqL K H a (ns.map V.int) := by
    cases z : K.lookup a with
    | none =>
      refine Or.inl (Or.inr ⟨{ cls := .type "list", data := .seq vs.toArray }, ?_⟩)
      rw [← hH]
      exact if_pos ⟨rfl, z⟩
    | some o =>
      have e := kin a o z
      rw [obj] at e
      cases e
      exact Or.inr ⟨_, vs.toArray, _, z, rfl, rfl, rfl, by simp only [List.size_toArray]; omega, by simpa using rv⟩
  have off : ∀ {b : Addr} {o : Obj}, s.heap.get? b = some o → H b = none → (hidT s.heap H).get? b = some o := fun {b o} e n => hidT_get e n
  have dict : ∀ {b : Addr} {m : Str → Option Value}, s.heap.Ns b m → (hidT s.heap H).Ns b m := by
    rintro b m ⟨o, es, ep, e, d, r⟩
    refine ⟨o, es, ep, off e ?_, d, r⟩
    cases z : H b with
    | none => rfl
    | some u =>
      obtain ⟨rfl, _, _⟩ := at_ b u z
      rw [obj] at e
      cases e
      cases d
  have kin' : K.In (hidT s.heap H) := fun b o e => off (kin b o e) (by
    cases z : H b with
    | none => rfl
    | some u =>
      obtain ⟨rfl, n, _⟩ := at_ b u z
      rw [n] at e
      cases e)
  have lim' : (hidT s.heap H).NoLimit := by
    obtain ⟨mc, z1, z2⟩ := lim
    exact ⟨mc, dict z1, z2⟩
  have env : Env0 P w K mg (hidT s.heap H) callerA [] s H := {
    frames := rfl
    mod := ⟨kin', dict glb, ⟨mb, dict blt, boot⟩, lim'⟩
    bs := fun b o e => of_hidT e
    bsz := Nat.le_of_eq (hidT_size _ _)
    funs := trivial
    frf := fun b z => by cases (show b ∈ ([] : List Addr) from z)
    hok := good
    bare := .of_eq gens }
  refine codeAny_mono ((F _ kin' (dict glb)).run callerA [] s H [.ref a] [.ref a] _ room rfl env (.cons rfl .nil) (want H seq)) fun r s' z => ?_
  cases r with
  | error e => exact False.elim z
  | ok fl =>
    cases fl with
    | next => exact False.elim z
    | brk => exact False.elim z
    | cont => exact False.elim z
    | ret u =>
      obtain ⟨v, H', os, bare, un, good', ru, ev⟩ := z
      have ev' : v = .bl true := ev
      subst ev'
      cases (show u = Value.bool true from ru)
      refine ⟨rfl, OldK.of_keep fun b o e => ?_, os, bare⟩
      cases z : H b with
      | none => exact un.keep b o e z (fun m => by cases (show b ∈ ([] : List Addr) from m)) (fun m => by cases m)
      | some u =>
        obtain ⟨rfl, _, rfl⟩ := at_ b u z
        obtain ⟨e2, _⟩ := good' _ _ (un.frzs _ _ _ z)
        rw [obj] at e
        cases e
        exact e2

theorem walkG {l : PySem.W.OpenLaw} {n k : Nat} {q : Program} {loose : List Str} {XP : (Str → Option Value) → Heap → Prop} {YP : World → Heap → Prop} {d : DefRec} {K : Params → PySem.W.Frag} {sp : PySem.W.Frag → Sp}
    (hn : l.most = some n) (short : n ≤ sizeLine) (plain : d.params.defaults = []) (room : Room k callerA) (kin : ∀ (w : World) (h : Heap), YP w h → (K w.params).In h)
    (F : ∀ (w : World) (mg : Str → Option Value) (fa : Addr) (h : Heap), (K w.params).In h → h.Ns mainGlobals mg → mg d.name = some (.ref fa) →
      ∀ base : Heap, (K w.params).In base → base.Ns mainGlobals mg → FnG l.prog w (K w.params) mg base k fa (sp (K w.params)))
    (want : ∀ (K : PySem.W.Frag) (H : Hp) (a : Addr) (ns : List Int), ns.length ≤ n → SqL K H a (ns.map V.int) → sp K [.ref a] H (fun v _ => v = .bl true) E0) :
    PySem.W.WalkO q loose XP YP l.row.toRowW d [] (fun f vs => PySem.call f vs) := by
  refine Att.attach_call hn plain fun w s₀ s₁ mg mb fa o pm cd doc a vs ns G Y ho hd hcd named obj isI few gens => ?_
  exact callG (kin w _ Y) G.T.g G.T.b G.T.builtins G.T.nolimit gens obj isI (Nat.le_trans few short) room (fun base => F w mg fa _ (kin w _ Y) G.T.g named base) fun H z => want _ H a ns few z
end K26

/-! k26: words.py and the small defs of slots.py. -/
namespace K26
open PySem PySem.Spec PyProof.Rows L2

/-! ### the text by places -/
def tops (i : Nat) : Stmt := PySem.Challenge.pw_wrecktold_k26_whole_the_newest_is_found.main.body.getD i (.Pass ⟨0, 0, 0, 0⟩)
abbrev dInteger : Stmt := tops 4
abbrev dNumber : Stmt := tops 5
abbrev dBelow : Stmt := tops 6
abbrev dSequence : Stmt := tops 7
abbrev dSlots : Stmt := tops 11
abbrev dCount : Stmt := tops 12
abbrev dSlotOf : Stmt := tops 13
abbrev dLast : Stmt := tops 14
abbrev dRing : Stmt := tops 15
abbrev dTorn : Stmt := tops 16
abbrev dCountOf : Stmt := tops 17
abbrev dForm : Stmt := tops 18
abbrev dIsRing : Stmt := tops 19
abbrev dMost : Stmt := tops 20
abbrev dNewest : Stmt := tops 21
abbrev dGoes : Stmt := tops 22
abbrev dBox : Stmt := tops 24
abbrev dTake : Stmt := tops 25
abbrev dPick : Stmt := tops 26
abbrev dLaid : Stmt := tops 27
abbrev dDbl : Stmt := tops 28
abbrev dLooks : Stmt := tops 29
abbrev dRight : Stmt := tops 30
abbrev dLaw : Stmt := tops 31

/-! ### a def that stands there, a def that keeps its promise -/
def Stands (K : PySem.W.Frag) (mg : Str → Option Value) (x : Str) (st : Stmt) (ps : List Str) : Prop := ∃ f fd, Fun K x x st f fd ∧ mg x = some (.ref f) ∧ Binds K fd ps []
def Keeps (P : Program) (w : World) (K : PySem.W.Frag) (mg : Str → Option Value) (base : Heap) (k : Nat) (x : Str) (ps : List Str) (sp : Sp) : Prop :=
  ∃ f fd, mg x = some (.ref f) ∧ PySem.W.keepIn K (.ref f) = true ∧ Binds K fd ps [] ∧ FnOk P w K mg base CX0 k f fd ps sp
/-- .. and it is called by keywords alone, told from the last parameter to the first -/
abbrev KRev (K : PySem.W.Frag) (fd : FuncData) (ps : List Str) : Prop := KBinds K fd ps ps.reverse (fun us ws => us ++ ws.reverse) (fun vs zs => vs ++ zs.reverse)
def StandsK (K : PySem.W.Frag) (mg : Str → Option Value) (x : Str) (st : Stmt) (ps : List Str) : Prop := ∃ f fd, Fun K x x st f fd ∧ mg x = some (.ref f) ∧ Binds K fd ps [] ∧ KRev K fd ps
def KeepsK (P : Program) (w : World) (K : PySem.W.Frag) (mg : Str → Option Value) (base : Heap) (k : Nat) (x : Str) (ps : List Str) (sp : Sp) : Prop :=
  ∃ f fd, mg x = some (.ref f) ∧ PySem.W.keepIn K (.ref f) = true ∧ Binds K fd ps [] ∧ KRev K fd ps ∧ FnOk P w K mg base CX0 k f fd ps sp
section
variable {P : Program} {w : World} {K : PySem.W.Frag} {mg : Str → Option Value} {base : Heap}
theorem KeepsK.plain {k : Nat} {x : Str} {ps : List Str} {sp : Sp} (h : KeepsK P w K mg base k x ps sp) : Keeps P w K mg base k x ps sp := by
  obtain ⟨f, fd, h1, h2, h3, _, h4⟩ := h
  exact ⟨f, fd, h1, h2, h3, h4⟩
theorem Keeps.mono {j k : Nat} {x : Str} {ps : List Str} {sp : Sp} (h : Keeps P w K mg base j x ps sp) (le : j ≤ k) : Keeps P w K mg base k x ps sp := by
  obtain ⟨f, fd, h1, h2, h3, h4⟩ := h
  exact ⟨f, fd, h1, h2, h3, h4.mono le⟩
theorem Stands.keeps {x : Str} {st : Stmt} {N ps : List Str} {k : Nat} {sp : Sp} (D : Stands K mg x st ps) (S : FnScope N ps (defScope st)) (len : ∀ vs H Q E, sp vs H Q E → vs.length = ps.length)
    (body : ∀ (f : Addr) (cdv : Value) (A : Around) (fs : List Env) (s : Shared) (H : Hp) (vs : List V) (Q : VK) (E : XK), Room k (A.deeper (envOfC x (defScope st) s.heap.objs.size f cdv)) → sp vs H Q E →
      ∃ t, PSs (cxOf CX0 P w K mg base N x (defScope st) f cdv A fs s H E).nox (defBody st) t ∧ t { nx := fun _ H' => Q .non H', rt := Q } (start N vs) H) : Keeps P w K mg base (k + 1) x ps sp := by
  obtain ⟨f, fd, F, m, b⟩ := D
  exact ⟨f, fd, m, F.kp, b, F.ok S len (body f)⟩
theorem StandsK.keeps {x : Str} {st : Stmt} {N ps : List Str} {k : Nat} {sp : Sp} (D : StandsK K mg x st ps) (S : FnScope N ps (defScope st)) (len : ∀ vs H Q E, sp vs H Q E → vs.length = ps.length)
    (body : ∀ (f : Addr) (cdv : Value) (A : Around) (fs : List Env) (s : Shared) (H : Hp) (vs : List V) (Q : VK) (E : XK), Room k (A.deeper (envOfC x (defScope st) s.heap.objs.size f cdv)) → sp vs H Q E →
      ∃ t, PSs (cxOf CX0 P w K mg base N x (defScope st) f cdv A fs s H E).nox (defBody st) t ∧ t { nx := fun _ H' => Q .non H', rt := Q } (start N vs) H) : KeepsK P w K mg base (k + 1) x ps sp := by
  obtain ⟨f, fd, F, m, b, kb⟩ := D
  exact ⟨f, fd, m, F.kp, b, kb, F.ok S len (body f)⟩
end
def tKeepK (sp : Sp) (tk : TA) : TE := fun σ H Q => tk σ H fun zs H1 => sp zs.reverse H1 Q E0
theorem pe_keepsK {X : Cx} {k : Nat} {x : Str} {ps : List Str} {sp : Sp} {p pos : Pos} {kws : List Keyword} {tk : TA} (O : KeepsK X.prog X.w X.K X.mg X.base k x ps sp) (room : Room k X.A) (gl : Gl X x) (vals : PK X kws tk)
    (named : (backToKw pos (keywordEach kws X.env)).all (·.1.isSome) = true := by rfl) (are : (backToKw pos (keywordEach kws X.env)).filterMap (·.1) = ps.reverse := by rfl)
    (nd : (x == ("__debug__" : Str)) = false := by decide) (pl : ((backTo pos (starEach [] X.env)).any (·.1) || (backToKw pos (keywordEach kws X.env)).any (·.1.isNone)) = false := by rfl) :
    PE X (.Call (.Name x p) [] kws pos) (tKeepK sp tk) := by
  obtain ⟨f, fd, h1, h2, h3, h4, h5⟩ := O
  exact ⟨fun pins s σ H Q I h => (pe_callKw h5 room gl h1 h2 h4 pass0 vals named are nd pl).run pins s σ H Q I h⟩
theorem pe_keeps {X : Cx} {k : Nat} {x : Str} {ps : List Str} {sp : Sp} {p pos : Pos} {e : Expr} {es : List Expr} {t : TA} (O : Keeps X.prog X.w X.K X.mg X.base k x ps sp) (room : Room k X.A) (gl : Gl X x) (args : PA X (e :: es) t)
    (nd : (x == ("__debug__" : Str)) = false := by decide) (st : starEach (e :: es) X.env = (false, eval e X.env) :: starEach es X.env := by rfl) (pl : (backTo pos (starEach es X.env)).any (·.1) = false := by rfl) :
    PE X (.Call (.Name x p) (e :: es) [] pos) (tKeep sp t) := by
  obtain ⟨f, fd, h1, h2, h3, h4⟩ := O
  refine ⟨fun pins s σ H Q I h => (pe_call h4 room gl h1 h2 h3 .nil pass0 args nd st pl).run pins s σ H Q I ?_⟩
  show t σ H fun vs H1 => sp (vs ++ []) H1 Q E0
  have e0 : (fun (vs : List V) (H1 : Hp) => sp (vs ++ []) H1 Q E0) = fun vs H1 => sp vs H1 Q E0 := by
    funext vs H1
    rw [List.append_nil]
  rw [e0]
  exact h

/-! ### the names of the text -/
structure Text (K : PySem.W.Frag) (mg : Str → Option Value) : Prop where
  integer : Stands K mg "is_integer" dInteger ["value"]
  number : Stands K mg "is_number" dNumber ["value"]
  below : Stands K mg "is_below" dBelow ["value", "most"]
  sequence : Stands K mg "is_sequence" dSequence ["value"]
  slots : Stands K mg "need_slots" dSlots ["value"]
  count : Stands K mg "need_count" dCount ["value"]
  slotOf : Stands K mg "slot_of" dSlotOf ["many", "number"]
  last : Stands K mg "last_in" dLast ["many", "count", "slot"]
  ring : StandsK K mg "ring_row" dRing ["many", "count"]
  torn : Stands K mg "torn_row" dTorn ["many", "count"]
  countOf : Stands K mg "count_of" dCountOf ["row"]
  form : Stands K mg "is_row_form" dForm ["value"]
  isRing : Stands K mg "is_ring_row" dIsRing ["value"]
  most : Stands K mg "most_looks" dMost ["many"]
  newest : Stands K mg "newest" dNewest ["row"]
  goes : Stands K mg "goes_on" dGoes ["row"]
  box : Stands K mg "_law_box" dBox ["_law_script", "_law_k"]
  take : Stands K mg "_law_take" dTake ["_law_box_here", "_law_many"]
  pick : Stands K mg "_law_pick" dPick ["_law_box_here", "_law_some"]
  laid : Stands K mg "_law_laid" dLaid ["_law_many", "_law_count"]
  dbl : Stands K mg "_law_doublings" dDbl ["_law_many"]
  looks : Stands K mg "_law_looks" dLooks ["_law_row"]
  right : Stands K mg "_law_right" dRight ["_law_box_here", "_law_many", "_law_count", "_law_is_torn"]
  law : Stands K mg "law" dLaw ["_law_script"]
  mostN : ∃ t, mg "MOST_SLOTS" = some (.int 64 t)
  tornN : ∃ t, mg "TORN" = some (.str tornT t)
  isinstance : mg "isinstance" = none
  int : mg "int" = none
  bool : mg "bool" = none
  str : mg "str" = none
  list : mg "list" = none
  tuple : mg "tuple" = none
  range : mg "range" = none
  len : mg "len" = none
  max : mg "max" = none
  min : mg "min" = none
  all : mg "all" = none
  abs : mg "abs" = none
  repr : mg "repr" = none

/-! ### tests whose answer is known -/
theorem iteDT {c A B : Prop} [Decidable c] (hc : c) (h : A) : if decide c = true then A else B := by
  rw [decide_eq_true hc]
  exact iteT h
theorem iteDF {c A B : Prop} [Decidable c] (hc : ¬ c) (h : B) : if decide c = true then A else B := by
  rw [decide_eq_false hc]
  exact iteF h

section
variable {P : Program} {w : World} {K : PySem.W.Frag} {mg : Str → Option Value} {base : Heap}

/-! ### is_integer, is_number, is_below, is_sequence -/
def isI : V → Bool
  | .int _ => true
  | _ => false
def isN : V → Bool
  | .int i => decide (0 ≤ i)
  | _ => false
def spInteger : Sp := fun vs H Q _ => ∃ v, vs = [v] ∧ plainV v ∧ Q (.bl (isI v)) H
theorem scInteger : FnScope ["value"] ["value"] (defScope dInteger) := ⟨rfl, rfl, rfl, by decide +kernel, rfl, by decide +kernel, by decide +kernel⟩
theorem ok_integer (T : Text K mg) : Keeps P w K mg base 1 "is_integer" ["value"] spInteger := by
  refine T.integer.keeps scInteger (fun vs H Q E h => ?_) (fun f cdv A fs s H vs Q E hr h => ?_)
  · obtain ⟨v, rfl, _⟩ := h
    rfl
  · obtain ⟨v, rfl, pv', q⟩ := h
    refine ⟨_, pss_one (ps_ret (pe_and (pe_callB call_isi (by rfl) T.isinstance (by decide +kernel) (pa_cons (pv 0) (pa_cons (pe_bltn (v := .ty "int") (u := .type "int") (by rfl) T.int (by decide +kernel) rfl) pa_nil)))
      (pe_one (pe_not (pe_callB call_isi (by rfl) T.isinstance (by decide +kernel) (pa_cons (pv 0) (pa_cons (pe_bltn (v := .ty "bool") (u := .type "bool") (by rfl) T.bool (by decide +kernel) rfl) pa_nil))))))), ?_⟩
    cases v with
    | non => exact ⟨_, rfl, _, _, _, _, false, rfl, .ty _, .base .non, kit_ty (by decide +kernel), false, rfl, iteF q⟩
    | int i => exact ⟨_, rfl, _, _, _, _, true, rfl, .ty _, .base (.int i), kit_ty (by decide +kernel), true, rfl, iteT ⟨_, rfl, _, _, _, _, false, rfl, .ty _, .base (.int i), kit_ty (by decide +kernel), false, rfl, q⟩⟩
    | str x => exact ⟨_, rfl, _, _, _, _, false, rfl, .ty _, .base (.str x), kit_ty (by decide +kernel), false, rfl, iteF q⟩
    | _ => exact pv'.elim
def spNumber : Sp := fun vs H Q _ => ∃ v, vs = [v] ∧ plainV v ∧ Q (.bl (isN v)) H
theorem scNumber : FnScope ["value"] ["value"] (defScope dNumber) := ⟨rfl, rfl, rfl, by decide +kernel, rfl, by decide +kernel, by decide +kernel⟩
theorem ok_number (T : Text K mg) : Keeps P w K mg base 2 "is_number" ["value"] spNumber := by
  have O := ok_integer (P := P) (w := w) (base := base) T
  refine T.number.keeps scNumber (fun vs H Q E h => ?_) (fun f cdv A fs s H vs Q E hr h => ?_)
  · obtain ⟨v, rfl, _⟩ := h
    rfl
  · obtain ⟨v, rfl, pv', q⟩ := h
    refine ⟨_, pss_one (ps_ret (pe_and (pe_keeps O hr (by rfl) (pa_cons (pv 0) pa_nil)) (pe_one (pe_cmp (pc_ge (pv 0) pe_int))))), ?_⟩
    refine ⟨_, rfl, _, rfl, pv', _, rfl, ?_⟩
    cases v with
    | int i => exact iteT ⟨_, rfl, i, 0, rfl, rfl, q⟩
    | non => exact iteF q
    | str x => exact iteF q
    | _ => exact pv'.elim
def spBelow : Sp := fun vs H Q _ => ∃ i n : Int, vs = [.int i, .int n] ∧ 0 ≤ i ∧ i < n ∧ Q (.bl true) H
theorem scBelow : FnScope ["value", "most"] ["value", "most"] (defScope dBelow) := ⟨rfl, rfl, rfl, by decide +kernel, rfl, by decide +kernel, by decide +kernel⟩
theorem ok_below (T : Text K mg) : Keeps P w K mg base 3 "is_below" ["value", "most"] spBelow := by
  have O := ok_number (P := P) (w := w) (base := base) T
  refine T.below.keeps scBelow (fun vs H Q E h => ?_) (fun f cdv A fs s H vs Q E hr h => ?_)
  · obtain ⟨i, n, rfl, _⟩ := h
    rfl
  · obtain ⟨i, n, rfl, h0, h1, q⟩ := h
    refine ⟨_, pss_one (ps_ret (pe_and (pe_keeps O hr (by rfl) (pa_cons (pv 0) pa_nil)) (pe_one (pe_cmp (pc_lt (pv 0) (pv 1)))))), ?_⟩
    refine ⟨_, rfl, _, rfl, trivial, _, rfl, iteDT h0 ?_⟩
    refine ⟨_, rfl, _, rfl, i, n, rfl, rfl, ?_⟩
    show Q (.bl (decide (i < n))) H
    rw [decide_eq_true h1]
    exact q
def spSequence : Sp := fun vs H Q _ => ∃ (a : Addr) (xs : List V), vs = [.ref a] ∧ (H a = some (.lst xs) ∨ H a = some (.tup xs)) ∧ ∀ H', Same H H' → Q (.bl true) H'
theorem same_upd {H : Hp} {p : Addr} {o : HO} (h : H p = none) : Same H (upd H p o) := fun b u e => by
  rw [upd_ne (ne_of_none e h)]
  exact e
theorem scSequence : FnScope ["value"] ["value"] (defScope dSequence) := ⟨rfl, rfl, rfl, by decide +kernel, rfl, by decide +kernel, by decide +kernel⟩
theorem ok_sequence (T : Text K mg) : Keeps P w K mg base 1 "is_sequence" ["value"] spSequence := by
  refine T.sequence.keeps scSequence (fun vs H Q E h => ?_) (fun f cdv A fs s H vs Q E hr h => ?_)
  · obtain ⟨a, xs, rfl, _⟩ := h
    rfl
  · obtain ⟨a, xs, rfl, ha, q⟩ := h
    refine ⟨_, pss_one (ps_ret (pe_callB call_isiT (by rfl) T.isinstance (by decide +kernel) (pa_cons (pv 0) (pa_cons (pe_tup (pa_cons (pe_bltn (v := .ty "list") (u := .type "list") (by rfl) T.list (by decide +kernel) rfl)
      (pa_cons (pe_bltn (v := .ty "tuple") (u := .type "tuple") (by rfl) T.tuple (by decide +kernel) rfl) pa_nil))) pa_nil)))), ?_⟩
    refine ⟨_, rfl, by show 2 ≤ sizeLine; decide, fun p hp => ?_⟩
    have S := same_upd (o := .tup [.ty "list", .ty "tuple"]) hp
    rcases ha with ha | ha
    · exact ⟨_, p, _, .type "list", [.type "list", .type "tuple"], true, rfl, upd_same, .cons (.ty _) (.cons (.ty _) .nil), .base (.lst (S _ _ ha)), kitAny_cons (b := true) (kit_ty (by decide +kernel)) (fun z => by cases z) (fun _ => rfl), q _ S⟩
    · exact ⟨_, p, _, .type "tuple", [.type "list", .type "tuple"], true, rfl, upd_same, .cons (.ty _) (.cons (.ty _) .nil), .base (.tup (S _ _ ha)),
        kitAny_cons (b := false) (kit_ty (by decide +kernel)) (fun _ => kitAny_cons (b := true) (kit_ty (by decide +kernel)) (fun z => by cases z) (fun _ => rfl)) (fun z => by cases z), q _ S⟩

/-! ### need_slots, need_count, slot_of, last_in -/
def spSlots : Sp := fun vs H Q _ => ∃ m : Int, vs = [.int m] ∧ 2 ≤ m ∧ m ≤ 64 ∧ Q (.int m) H
theorem scSlots : FnScope ["value"] ["value"] (defScope dSlots) := ⟨rfl, rfl, rfl, by decide +kernel, rfl, by decide +kernel, by decide +kernel⟩
theorem ok_slots (T : Text K mg) : Keeps P w K mg base 4 "need_slots" ["value"] spSlots := by
  have O := ok_below (P := P) (w := w) (base := base) T
  obtain ⟨tk, hM⟩ := T.mostN
  refine T.slots.keeps scSlots (fun vs H Q E h => ?_) (fun f cdv A fs s H vs Q E hr h => ?_)
  · obtain ⟨i, rfl, _⟩ := h
    rfl
  · obtain ⟨m, rfl, h0, h1, q⟩ := h
    refine ⟨_, pss_cons (ps_if (PW.pt (pw_or (pt_not (pt_val (pe_keeps O hr (by rfl) (pa_cons (pv 0) (pa_cons (pe_op op_add (pe_glob (v := .int 64) (by rfl) hM ⟨_, rfl⟩) pe_int) pa_nil))))) (pw_or1 (pt_cmpR op_lt (pv 0) pe_int (nomark _)))))
      (pss_one ps_never) pss_nil) (pss_one (ps_ret (pv 0))), ?_⟩
    refine ⟨_, rfl, _, _, rfl, rfl, m, 65, rfl, by omega, by omega, true, rfl, iteF ?_⟩
    refine ⟨_, rfl, m, 2, rfl, rfl, _, rfl, iteDF (by omega) ?_⟩
    exact ⟨_, rfl, q⟩
def spCount : Sp := fun vs H Q _ => ∃ c : Int, vs = [.int c] ∧ 0 ≤ c ∧ Q (.int c) H
theorem scCount : FnScope ["value"] ["value"] (defScope dCount) := ⟨rfl, rfl, rfl, by decide +kernel, rfl, by decide +kernel, by decide +kernel⟩
theorem ok_count (T : Text K mg) : Keeps P w K mg base 3 "need_count" ["value"] spCount := by
  have O := ok_number (P := P) (w := w) (base := base) T
  refine T.count.keeps scCount (fun vs H Q E h => ?_) (fun f cdv A fs s H vs Q E hr h => ?_)
  · obtain ⟨i, rfl, _⟩ := h
    rfl
  · obtain ⟨c, rfl, h0, q⟩ := h
    refine ⟨_, pss_cons (ps_if (pt_not (pt_val (pe_keeps O hr (by rfl) (pa_cons (pv 0) pa_nil)))) (pss_one ps_never) pss_nil) (pss_one (ps_ret (pv 0))), ?_⟩
    refine ⟨_, rfl, _, rfl, trivial, _, rfl, ?_⟩
    have e : isN (.int c) = true := decide_eq_true h0
    rw [e]
    exact iteF ⟨_, rfl, q⟩
def spSlotOf : Sp := fun vs H Q _ => ∃ m c : Int, vs = [.int m, .int c] ∧ 2 ≤ m ∧ m ≤ 64 ∧ 0 ≤ c ∧ Q (.int (c % m)) H
theorem scSlotOf : FnScope ["many", "number"] ["many", "number"] (defScope dSlotOf) := ⟨rfl, rfl, rfl, by decide +kernel, rfl, by decide +kernel, by decide +kernel⟩
theorem ok_slotOf (T : Text K mg) : Keeps P w K mg base 5 "slot_of" ["many", "number"] spSlotOf := by
  have O1 := ok_slots (P := P) (w := w) (base := base) T
  have O2 := ok_count (P := P) (w := w) (base := base) T
  refine T.slotOf.keeps scSlotOf (fun vs H Q E h => ?_) (fun f cdv A fs s H vs Q E hr h => ?_)
  · obtain ⟨m, c, rfl, _⟩ := h
    rfl
  · obtain ⟨m, c, rfl, h0, h1, h2, q⟩ := h
    refine ⟨_, pss_cons (ps_expr (pe_keeps O1 hr (by rfl) (pa_cons (pv 0) pa_nil))) (pss_one (ps_ret (pe_op op_mod (pe_callTy call_int1 (by rfl) T.int (by decide +kernel) (pa_cons (pe_keeps O2 (hr.mono (by decide)) (by rfl) (pa_cons (pv 1) pa_nil)) pa_nil)) (pv 0)))), ?_⟩
    refine ⟨_, rfl, m, rfl, h0, h1, ?_⟩
    refine ⟨_, rfl, c, rfl, h2, .inl ⟨c, rfl, _, rfl, c, m, rfl, rfl, by show 0 < m; omega, q⟩⟩
def spLast : Sp := fun vs H Q _ => ∃ m c s : Int, vs = [.int m, .int c, .int s] ∧ 0 < m ∧ Q (lastV m c s) H
theorem scLast : FnScope ["many", "count", "slot", "back"] ["many", "count", "slot"] (defScope dLast) := ⟨rfl, rfl, rfl, by decide +kernel, rfl, by decide +kernel, by decide +kernel⟩
theorem ok_last (T : Text K mg) : Keeps P w K mg base 1 "last_in" ["many", "count", "slot"] spLast := by
  refine T.last.keeps scLast (fun vs H Q E h => ?_) (fun f cdv A fs s H vs Q E hr h => ?_)
  · obtain ⟨m, c, s, rfl, _⟩ := h
    rfl
  · obtain ⟨m, c, z, rfl, h0, q⟩ := h
    refine ⟨_, pss_cons (ps_set (i := 3) scLast.nd rfl (.inl rfl) (pe_op op_mod (pe_callTy call_int1 (by rfl) T.int (by decide +kernel) (pa_cons (pe_op op_sub (pe_op op_sub (pv 1) pe_int) (pv 2)) pa_nil)) (pv 0)))
      (pss_one (ps_ret (pe_ifExp (pt_cmpR op_lt (pv 3) (pv 1) (nomark _)) (pe_op op_sub (pe_op op_sub (pv 1) pe_int) (pv 3)) pe_non))), ?_⟩
    refine ⟨_, rfl, c, 1, rfl, rfl, _, rfl, _, _, rfl, rfl, .inl ⟨_, rfl, _, rfl, _, _, rfl, rfl, h0, ?_⟩⟩
    refine ⟨_, rfl, _, rfl, _, _, rfl, rfl, _, rfl, ?_⟩
    unfold lastV at q
    by_cases h : (c - 1 - z) % m < c
    · rw [if_pos h] at q
      exact iteDT h ⟨_, rfl, _, _, rfl, rfl, _, rfl, _, _, rfl, rfl, q⟩
    · rw [if_neg h] at q
      exact iteDF h q
end
end K26

/-! k26: rows made and looked at (slots.py). -/
namespace K26
open PySem PySem.Spec PyProof.Rows L2

/-! ### heaps -/
theorem _root_.L2.Same.put {H H1 : Hp} {a : Addr} {o : HO} (S : Same H H1) (n : H a = none) : Same H (upd H1 a o) := fun b u e => by
  rw [upd_ne (ne_of_none e n)]
  exact S b u e
theorem _root_.L2.Same.new {H H1 : Hp} {p : Addr} {o : HO} (S : Same H H1) (n : H1 p = none) : Same H (upd H1 p o) := S.put (S.free n)
theorem small64' {n : Nat} (h : n ≤ 1000) : n ≤ sizeLine := Nat.le_of_lt (small1000 h)

/-! ### rules that say: some tuple -/
section
variable {X : Cx}
def rTupT : List V → Hp → VK → Prop := fun zs H Q => ∃ (a : Addr) (ys : List V), zs = [.ref a] ∧ (H a = some (.lst ys) ∨ H a = some (.tup ys)) ∧ ∀ H' p, Same H H' → H' p = some (.tup ys) → Q (.ref p) H'
theorem call_tup : CallR X (.type "tuple") rTupT := by
  intro pins s σ H zs us Q I r h
  obtain ⟨a, ys, rfl, ha, q⟩ := h
  refine call_tuple_of pins s σ H _ us Q I r ⟨a, ys, rfl, ?_⟩
  rcases ha with ha | ha
  · exact .inl ⟨SqL.of ha, fun l hl => q _ _ (same_upd hl) upd_same⟩
  · exact .inr ⟨SqT.of ha, q _ _ (Same.refl _) ha⟩
def rCatP : R2 := fun x y H Q => ∃ (a b : Addr) (xs ys : List V), x = .ref a ∧ y = .ref b ∧ H a = some (.tup xs) ∧ H b = some (.tup ys) ∧ xs.length + ys.length ≤ 1000 ∧ ∀ H' p, Same H H' → H' p = some (.tup (xs ++ ys)) → Q (.ref p) H'
theorem op_catP : OpR X (binaryOp .Add) rCatP := by
  intro pins s σ H x y v u Q I rx ry h
  obtain ⟨a, b, xs, ys, rfl, rfl, ha, hb, hz, q⟩ := h
  refine op_catA pins s σ H _ _ v u Q I rx ry ⟨a, b, xs, ys, rfl, rfl, SqT.of ha, SqT.of hb, small64' hz, fun e => ?_, fun _ e => ?_, fun _ _ p hp => q _ _ (same_upd hp) upd_same⟩
  · subst e
    exact q _ _ (Same.refl _) hb
  · subst e
    exact q _ _ (Same.refl _) (by rw [List.append_nil]; exact ha)
def rSlP : V → Option Int → Option Int → Hp → VK → Prop := fun x lo hi H Q => ∃ (a : Addr) (xs : List V), x = .ref a ∧ H a = some (.tup xs) ∧ ∀ H' p, Same H H' → H' p = some (.tup (cutV xs lo hi)) → Q (.ref p) H'
theorem sl_tupP : SlR X rSlP := by
  intro pins s σ H x v vl vu lo hi sl Q I rx hs pl pu h
  obtain ⟨a, xs, rfl, ha, q⟩ := h
  refine sl_tupA pins s σ H _ v vl vu lo hi sl Q I rx hs pl pu ⟨a, xs, rfl, SqT.of ha, fun z => ?_, fun _ p hp => q _ _ (same_upd hp) upd_same⟩
  refine q _ _ (Same.refl _) ?_
  unfold cutV
  rw [z.1, z.2, List.drop_zero, Nat.sub_zero, List.take_length]
  exact ha
theorem op_modNat : OpR X (binaryOp .Mod) (fun x y H Q => ∃ a b : Nat, x = .int (a : Int) ∧ y = .int (b : Int) ∧ 0 < b ∧ Q (.int ((a % b : Nat) : Int)) H) := by
  intro pins s σ H x y v u Q I rx ry h
  obtain ⟨a, b, rfl, rfl, h0, q⟩ := h
  refine op_mod pins s σ H _ _ v u Q I rx ry ⟨a, b, rfl, rfl, by show (0 : Int) < b; omega, ?_⟩
  rw [Int.natCast_emod] at q
  exact q
end
theorem cut_take {xs : List V} {t : Nat} (h : t ≤ xs.length) : cutV xs none (some (t : Int)) = xs.take t := by
  unfold cutV
  rw [HT.sIx_none, HT.sIx_nat, Nat.min_eq_left h, List.drop_zero, Nat.sub_zero]
theorem cut_drop {xs : List V} {t : Nat} (h : t ≤ xs.length) : cutV xs (some (t : Int)) none = xs.drop t := by
  unfold cutV
  rw [HT.sIx_none, HT.sIx_nat, Nat.min_eq_left h, List.take_of_length_le (by rw [List.length_drop]; exact Nat.le_refl _)]
theorem set_cut {xs : List V} {t : Nat} (v : V) (h : t < xs.length) : (xs.take t ++ [v]) ++ xs.drop (t + 1) = xs.set t v := by
  rw [List.set_eq_take_append_cons_drop, if_pos h, List.append_assoc]
  rfl

/-! ### rows as data -/
def datV : V → PyData
  | .int i => .int i
  | .str x => .str x
  | .bl b => .bool b
  | _ => .none
theorem dp_of {K : PySem.W.Frag} {H : Hp} {v : V} (h : plainV v) : Dp K H v (datV v) := by
  cases v with
  | non => exact .non
  | int i => exact .int i
  | str x => exact .str x
  | _ => exact h.elim
theorem dps_of {K : PySem.W.Frag} {H : Hp} : ∀ {xs : List V}, (∀ v ∈ xs, plainV v) → DpAll K H xs (xs.map datV)
  | [], _ => .nil
  | v :: xs, h => .cons (dp_of (h v List.mem_cons_self)) (dps_of fun u hu => h u (List.mem_cons_of_mem _ hu))
theorem Rowy.plain {v : V} (h : Rowy v) : plainV v := by
  cases h <;> exact trivial
theorem lay_torn : PyData.canLay0 (.str tornT) = true := by decide +kernel
theorem lay_row : ∀ {xs : List V}, (∀ v ∈ xs, Rowy v) → PyData.canLayAll0 (xs.map datV) = true
  | [], _ => rfl
  | v :: xs, h => by
    have h1 : PyData.canLay0 (datV v) = true := by
      cases h v List.mem_cons_self with
      | non => rfl
      | torn => exact lay_torn
      | int n => rfl
    show (PyData.canLay0 (datV v) && PyData.canLayAll0 (xs.map datV)) = true
    rw [h1, lay_row fun u hu => h u (List.mem_cons_of_mem _ hu)]
    rfl
theorem depth_row : ∀ xs : List V, PyData.depthAll (xs.map datV) = 0
  | [] => rfl
  | v :: xs => by
    have h1 : PyData.depth (datV v) = 0 := by cases v <;> rfl
    show max (PyData.depth (datV v)) (PyData.depthAll (xs.map datV)) = 0
    rw [h1, depth_row xs]
    rfl
theorem shaped_row {xs : List V} (h : ∀ v ∈ xs, Rowy v) : SeqAt.shaped (.tuple (xs.map datV)) = true := by
  show (PyData.canLayAll0 (xs.map datV) && decide (PyData.depthAll (xs.map datV) + 1 ≤ 64)) = true
  rw [lay_row h, depth_row]
  rfl
theorem shaped_rows {xs ys : List V} (h : ∀ v ∈ xs, Rowy v) (g : ∀ v ∈ ys, Rowy v) : SeqAt.shaped (.tuple [.tuple (xs.map datV), .tuple (ys.map datV)]) = true := by
  show ((PyData.canLayAll0 (xs.map datV) && (PyData.canLayAll0 (ys.map datV) && true)) && decide (max (PyData.depthAll (xs.map datV) + 1) (max (PyData.depthAll (ys.map datV) + 1) 0) + 1 ≤ 64)) = true
  rw [lay_row h, lay_row g, depth_row, depth_row]
  rfl

section
variable {P : Program} {w : World} {K : PySem.W.Frag} {mg : Str → Option Value} {base : Heap}
/-! ### ring_row -/
def spRing : Sp := fun vs H Q _ => ∃ m c : Nat, vs = [.int (m : Int), .int (c : Int)] ∧ 2 ≤ m ∧ m ≤ 64 ∧ ∀ H' p, Same H H' → H' p = some (.tup (rowV m c)) → Q (.ref p) H'
theorem scRing : FnScope ["many", "count", "slot"] ["many", "count"] (defScope dRing) := ⟨rfl, rfl, rfl, by decide +kernel, rfl, by decide +kernel, by decide +kernel⟩
theorem okK_ring (T : Text K mg) : KeepsK P w K mg base 5 "ring_row" ["many", "count"] spRing := by
  have O1 := ok_slots (P := P) (w := w) (base := base) T
  have O2 := ok_count (P := P) (w := w) (base := base) T
  have O3 := ok_last (P := P) (w := w) (base := base) T
  refine T.ring.keeps scRing (fun vs H Q E h => ?_) (fun f cdv A fs s H vs Q E hr h => ?_)
  · obtain ⟨m, c, rfl, _⟩ := h
    rfl
  · obtain ⟨m, c, rfl, h0, h1, q⟩ := h
    have r1 : Room 1 (A.deeper (envOfC "ring_row" (defScope dRing) s.heap.objs.size f cdv)) := hr.mono (by decide)
    refine ⟨_, pss_cons (ps_expr (pe_keeps O1 hr (by rfl) (pa_cons (pv 0) pa_nil))) (pss_cons (ps_expr (pe_keeps O2 (hr.mono (by decide)) (by rfl) (pa_cons (pv 1) pa_nil)))
      (pss_one (ps_ret (pe_callTy call_tup (by rfl) T.tuple (by decide +kernel) (pa_cons (pe_lc (own := [("slot", 2)]) (g := gName 2) (tt := tYes) rfl scRing.nd (pi_range1 rfl T.range (pa_cons (pv 0) pa_nil))
        (blkOk_by (N := ["many", "count", "slot"]) (sc := defScope dRing) (by decide +kernel)) (fun _ _ _ _ _ => pg_name (i := 2) scRing.nd rfl (Or.inl rfl)) (fun _ _ _ _ _ => pts_nil)
        (fun _ _ _ _ _ => pe_keeps O3 r1 (by rfl) (pa_cons (pv 0) (pa_cons (pv 1) (pa_cons (pv 2) pa_nil))))) pa_nil))))), ?_⟩
    refine ⟨_, rfl, m, rfl, by omega, by omega, ?_⟩
    refine ⟨_, rfl, c, rfl, by omega, ?_⟩
    refine ⟨_, rfl, m, rfl, by omega, by omega, fun D hD => ?_⟩
    refine lc_range (lo := 0) (n := ((m : Nat) : Int).toNat) (fun i H' => Same H H' ∧ H' D = some (.lst ((List.range i).map fun (s : Nat) => lastV m c s))) ⟨same_upd hD, upd_same⟩ ?_ ?_
    · rintro i H1 hi ⟨S, hL⟩
      refine ⟨rfl, ?_⟩
      refine ⟨_, rfl, _, rfl, _, rfl, m, c, 0 + (i : Int), rfl, by omega, _, hL, ?_, S.put hD, ?_⟩
      · rw [List.length_map, List.length_range]
        exact small1000 (by rw [Int.toNat_natCast] at hi; omega)
      · rw [upd_same, List.range_succ, List.map_append, Int.zero_add]
        rfl
    · rintro H1 ⟨S, hL⟩
      rw [Int.toNat_natCast] at hL
      exact ⟨D, _, rfl, .inl hL, fun H2 p S2 hp => q H2 p (S.trans S2) hp⟩
theorem ok_ring (T : Text K mg) : Keeps P w K mg base 5 "ring_row" ["many", "count"] spRing := (okK_ring T).plain
/-! ### torn_row -/
def spTorn : Sp := fun vs H Q _ => ∃ m c : Nat, vs = [.int (m : Int), .int (c : Int)] ∧ 2 ≤ m ∧ m ≤ 64 ∧ ∀ H' p, Same H H' → H' p = some (.tup (tornV m c)) → Q (.ref p) H'
theorem scTorn : FnScope ["many", "count", "found", "here"] ["many", "count"] (defScope dTorn) := ⟨rfl, rfl, rfl, by decide +kernel, rfl, by decide +kernel, by decide +kernel⟩
theorem ok_torn (T : Text K mg) : Keeps P w K mg base 6 "torn_row" ["many", "count"] spTorn := by
  have O := ok_ring (P := P) (w := w) (base := base) T
  obtain ⟨tk, hN⟩ := T.tornN
  refine T.torn.keeps scTorn (fun vs H Q E h => ?_) (fun f cdv A fs s H vs Q E hr h => ?_)
  · obtain ⟨m, c, rfl, _⟩ := h
    rfl
  · obtain ⟨m, c, rfl, h0, h1, q⟩ := h
    refine ⟨_, pss_cons (ps_set (i := 2) scTorn.nd rfl (.inl rfl) (pe_keeps O hr (by rfl) (pa_cons (pv 0) (pa_cons (pv 1) pa_nil))))
      (pss_cons (ps_set (i := 3) scTorn.nd rfl (.inl rfl) (pe_op op_modNat (pe_callTy call_int1 (by rfl) T.int (by decide +kernel) (pa_cons (pv 1) pa_nil)) (pv 0)))
      (pss_one (ps_ret (pe_op op_catP (pe_op op_catP (pe_slice sl_tupP (pv 2) po_none (po_some (pv 3))) (pe_tup (pa_cons (pe_glob (v := .str tornT) (by rfl) hN ⟨_, rfl⟩) pa_nil)))
        (pe_slice sl_tupP (pv 2) (po_some (pe_op op_add (pv 3) pe_int)) po_none))))), ?_⟩
    refine ⟨_, rfl, _, rfl, m, c, rfl, h0, h1, fun H1 p S1 hp => ?_⟩
    refine ⟨_, rfl, .inl ⟨_, rfl, _, rfl, c, m, rfl, rfl, by omega, ?_⟩⟩
    have ht : c % m < m := Nat.mod_lt _ (by omega)
    have hl := rowV_len m c
    refine ⟨_, rfl, _, rfl, _, rfl, p, _, rfl, hp, fun H2 p2 S2 hp2 => ?_⟩
    rw [cut_take (by omega)] at hp2
    refine ⟨by show 1 ≤ sizeLine; decide, fun p3 hp3 => ?_⟩
    have S3 := S2.new (o := .tup [.str tornT]) hp3
    refine ⟨p2, p3, _, _, rfl, rfl, same_upd hp3 _ _ hp2, upd_same, ?_, fun H4 p4 S4 hp4 => ?_⟩
    · rw [List.length_take, List.length_singleton]
      omega
    · have S5 := S3.trans S4
      refine ⟨_, rfl, _, rfl, _, _, rfl, rfl, _, rfl, p, _, rfl, S5 _ _ hp, fun H6 p6 S6 hp6 => ?_⟩
      have e1 : ((c % m : Nat) : Int) + 1 = ((c % m + 1 : Nat) : Int) := by push_cast; rfl
      rw [e1, cut_drop (by omega)] at hp6
      refine ⟨p4, p6, _, _, rfl, rfl, S6 _ _ hp4, hp6, ?_, fun H7 p7 S7 hp7 => ?_⟩
      · rw [List.length_append, List.length_take, List.length_drop, List.length_singleton]
        omega
      · refine q H7 p7 ((S1.trans S5).trans (S6.trans S7)) ?_
        rw [hp7, set_cut _ (by omega)]
        rfl
end
end K26

/-! k26: count_of, is_row_form, is_ring_row. -/
namespace K26
open PySem PySem.Spec PyProof.Rows L2

/-- a list or a tuple stands there -/
def RowAt (H : Hp) (a : Addr) (xs : List V) : Prop := H a = some (.lst xs) ∨ H a = some (.tup xs)
theorem RowAt.to {H H' : Hp} {a : Addr} {xs : List V} (S : Same H H') (h : RowAt H a xs) : RowAt H' a xs := h.elim (fun z => .inl (S _ _ z)) fun z => .inr (S _ _ z)
theorem RowAt.seq {K : PySem.W.Frag} {H : Hp} {a : Addr} {xs : List V} (h : RowAt H a xs) : SqL K H a xs ∨ SqT K H a xs := h.elim (fun z => .inl (SqL.of z)) fun z => .inr (SqT.of z)

section
variable {P : Program} {w : World} {K : PySem.W.Frag} {mg : Str → Option Value} {base : Heap}
theorem take_next {α : Type} {xs : List α} {i : Nat} {x : α} (h : xs[i]? = some x) : xs.take (i + 1) = xs.take i ++ [x] := by
  rw [List.take_succ, h]
  rfl
theorem ints_of : ∀ {xs : List V}, ∃ ns : List Int, xs.filter isN = ns.map V.int
  | [] => ⟨[], rfl⟩
  | v :: xs => by
    obtain ⟨ns, e⟩ := ints_of (xs := xs)
    cases h : isN v with
    | false => exact ⟨ns, by rw [List.filter_cons, h]; exact e⟩
    | true =>
      cases v with
      | int n => exact ⟨n :: ns, by rw [List.filter_cons, h, if_pos rfl, e]; rfl⟩
      | _ => cases h
/-! ### count_of -/
def spCountOf : Sp := fun vs H Q _ => ∃ (a : Addr) (xs : List V) (n : Int), vs = [.ref a] ∧ RowAt H a xs ∧ xs.length ≤ 64 ∧ (∀ v ∈ xs, Rowy v) ∧ IsCount xs n ∧ ∀ H', Same H H' → Q (.int n) H'
theorem scCountOf : FnScope ["row", "numbers", "one"] ["row"] (defScope dCountOf) := ⟨rfl, rfl, rfl, by decide +kernel, rfl, by decide +kernel, by decide +kernel⟩
theorem ok_countOf (T : Text K mg) : Keeps P w K mg base 3 "count_of" ["row"] spCountOf := by
  have O := ok_number (P := P) (w := w) (base := base) T
  refine T.countOf.keeps scCountOf (fun vs H Q E h => ?_) (fun f cdv A fs s H vs Q E hr h => ?_)
  · obtain ⟨a, xs, n, rfl, _⟩ := h
    rfl
  · obtain ⟨a, xs, n, rfl, ha, hl, hx, hn, q⟩ := h
    refine ⟨_, pss_cons (ps_setLc (i := 1) (own := [("one", 2)]) (g := gName 2) rfl scCountOf.nd rfl rfl (sw_true rfl rfl rfl (by decide +kernel)) (pi_either (pi_list (pv 0)) (pi_tup (pv 0)))
        (blkOk_by (N := ["row", "numbers", "one"]) (sc := defScope dCountOf) (by decide +kernel)) (fun _ _ _ _ _ => pg_name (i := 2) scCountOf.nd rfl (Or.inl rfl)) (fun _ _ _ _ _ => pts_one (pt_val (pe_keeps O hr (by rfl) (pa_cons (pv 2) pa_nil)))) (fun _ _ _ _ _ => pv 2))
      (pss_one (ps_ret (pe_ifExp (pt_cmpR op_gt (pe_callB call_len_seq (by rfl) T.len PySem.boot_len (pa_cons (pv 1) pa_nil)) pe_int (nomark _)) (pe_op op_add (pe_callB (cr_max rfl) (by rfl) T.max (by decide +kernel) (pa_cons (pv 1) pa_nil)) pe_int) pe_int))), ?_⟩
    -- what one turn does
    have turn : ∀ (D : Addr), H D = none → ∀ (i : Nat) (x : V) (H1 : Hp), xs[i]? = some x → (Same H H1 ∧ H1 D = some (.lst ((xs.take i).filter isN))) →
        ∃ c, V.bl (isN x) = .bl c ∧ (if c = true then ∃ v, (some (some x) : Option (Option V)) = some (some v) ∧ ∃ acc, H1 D = some (.lst acc) ∧ acc.length < sizeLine ∧ (Same H (upd H1 D (.lst (acc ++ [v]))) ∧ upd H1 D (.lst (acc ++ [v])) D = some (.lst ((xs.take (i + 1)).filter isN)))
          else (Same H H1 ∧ H1 D = some (.lst ((xs.take (i + 1)).filter isN)))) := by
      rintro D hD i x H1 hi ⟨S, hL⟩
      refine ⟨_, rfl, ?_⟩
      rw [take_next hi, List.filter_append]
      cases e : isN x with
      | true =>
        refine iteT ⟨_, rfl, _, hL, ?_, S.put hD, ?_⟩
        · have h1 := List.length_filter_le isN (xs.take i)
          have h2 := List.length_take_le i xs
          exact small1000 (by rw [List.length_take] at h1; omega)
        · rw [upd_same, List.filter_cons, e]
          rfl
      | false =>
        refine iteF ⟨S, ?_⟩
        rw [hL, List.filter_cons, e]
        simp
    have tail : ∀ (D : Addr) (H1 : Hp), Same H H1 → H1 D = some (.lst (xs.filter isN)) → tRet (tIf (tTest (tOp (rI0 fun i j => .bl (decide (j < i))) (tCB (fun zs H Q => ∃ p ys, zs = [.ref p] ∧ (SqL K H p ys ∨ SqT K H p ys) ∧ Q (.int ys.length) H) (tCons (tVar 1) tNil)) (tC (.int 0))))
        (tOp (rI0 fun i j => .int (i + j)) (tCB (rMax K) (tCons (tVar 1) tNil)) (tC (.int 1))) (tC (.int 0))) { nx := fun _ H' => Q .non H', rt := Q } [some (.ref a), some (.ref D), none] H1 := by
      intro D H1 S hL
      obtain ⟨ns, e⟩ := ints_of (xs := xs)
      rw [e] at hL
      have mem : ∀ i : Int, i ∈ ns ↔ V.int i ∈ xs := fun i => by
        have h1 : V.int i ∈ xs.filter isN ↔ i ∈ ns := by
          rw [e, List.mem_map]
          constructor
          · rintro ⟨j, hj, z⟩
            cases z
            exact hj
          · exact fun z => ⟨i, z, rfl⟩
        rw [← h1, List.mem_filter]
        constructor
        · exact fun z => z.1
        · refine fun z => ⟨z, ?_⟩
          cases hx _ z with
          | int k => exact (show decide ((0 : Int) ≤ (k : Int)) = true from decide_eq_true (Int.natCast_nonneg k))
      refine ⟨_, rfl, D, _, rfl, .inl (SqL.of hL), _, _, rfl, rfl, _, rfl, ?_⟩
      rcases hn with ⟨rfl, none⟩ | ⟨h1, h2⟩
      · have : ns = [] := by
          cases ns with
          | nil => rfl
          | cons z zs => exact absurd ((mem z).mp List.mem_cons_self) (none z)
        subst this
        exact iteDF (by simp) (q _ S)
      · have h3 := (mem (n - 1)).mpr h1
        have h4 : 0 < ns.length := List.length_pos_of_mem h3
        refine iteDT (by rw [List.length_map]; omega) ?_
        refine ⟨_, rfl, D, ns, rfl, SqL.of hL, h4, fun m hm hle => ?_⟩
        have e1 : m = n - 1 := by
          have a1 := h2 m ((mem m).mp hm)
          have a2 := hle _ h3
          omega
        refine ⟨m, 1, rfl, rfl, ?_⟩
        have e2 : m + 1 = n := by omega
        show Q (.int (m + 1)) H1
        rw [e2]
        exact q _ S
    rcases ha with ha | ha
    · refine .inl ⟨_, rfl, a, rfl, ⟨_, SqL.of ha⟩, fun D hD => ?_⟩
      refine lc_list (K := K) (a := a) (xs := xs) (fun i H' => Same H H' ∧ H' D = some (.lst ((xs.take i).filter isN))) ⟨same_upd hD, upd_same⟩ (fun i H' _ z => SqL.of (z.1 _ _ ha)) (fun i x H1 hi z => ?_) (fun H1 z => ?_)
      · exact ⟨rfl, _, rfl, _, rfl, (hx x (List.mem_of_getElem? hi)).plain, turn D hD i x H1 hi z⟩
      · refine tail D H1 z.1 ?_
        rw [z.2, List.take_length]
    · refine .inr ⟨_, rfl, a, rfl, ⟨_, SqT.of ha⟩, fun D hD => ?_⟩
      refine lc_tup (K := K) (a := a) (xs := xs) (fun i H' => Same H H' ∧ H' D = some (.lst ((xs.take i).filter isN))) ⟨same_upd hD, upd_same⟩ (fun i H' _ z => SqT.of (z.1 _ _ ha)) (fun i x H1 hi z => ?_) (fun H1 z => ?_)
      · exact ⟨rfl, _, rfl, _, rfl, (hx x (List.mem_of_getElem? hi)).plain, turn D hD i x H1 hi z⟩
      · refine tail D H1 z.1 ?_
        rw [z.2, List.take_length]
/-! ### a comprehension over a row -/
theorem row_walk {a : Addr} {xs : List V} {g : TG} {tt : TT} {te : TE} {ws : List Nat} {σ : L2.St} {H : Hp} {Qd : VK} {j : Nat} (ha : RowAt H a xs) (hj : σ[j]? = some (some (.ref a))) (Pv : Addr → Nat → Hp → Prop) (h0 : ∀ D, H D = none → Pv D 0 (upd H D (.lst [])))
    (stay : ∀ D i H', Pv D i H' → Same H H') (hs : ∀ D, H D = none → ∀ i x H', xs[i]? = some x → Pv D i H' → g x (wipe σ ws) H' fun σ2 H2 => wipe σ2 ws = wipe σ ws ∧ tt σ2 H2 fun b H3 =>
      if b = true then te σ2 H3 fun y H4 => ∃ acc, H4 D = some (.lst acc) ∧ acc.length < sizeLine ∧ Pv D (i + 1) (upd H4 D (.lst (acc ++ [y]))) else Pv D (i + 1) H3)
    (hd : ∀ D, H D = none → ∀ H', Pv D xs.length H' → Qd (.ref D) H') : tLc (iEither (iList K (tVar j)) (iTup K (tVar j))) g tt te ws σ H Qd := by
  rcases ha with ha | ha
  · exact .inl ⟨_, hj, a, rfl, ⟨_, SqL.of ha⟩, fun D hD => lc_list (K := K) (a := a) (xs := xs) (Pv D) (h0 D hD) (fun i H' _ z => SqL.of (stay _ _ _ z _ _ ha)) (hs D hD) (hd D hD)⟩
  · exact .inr ⟨_, hj, a, rfl, ⟨_, SqT.of ha⟩, fun D hD => lc_tup (K := K) (a := a) (xs := xs) (Pv D) (h0 D hD) (fun i H' _ z => SqT.of (stay _ _ _ z _ _ ha)) (hs D hD) (hd D hD)⟩
theorem qDT {c : Prop} [Decidable c] {Q : VK} {H : Hp} (hc : c) (h : Q (.bl true) H) : Q (.bl (decide c)) H := by
  rw [decide_eq_true hc]
  exact h
theorem qDF {c : Prop} [Decidable c] {Q : VK} {H : Hp} (hc : ¬ c) (h : Q (.bl false) H) : Q (.bl (decide c)) H := by
  rw [decide_eq_false hc]
  exact h
theorem call_isiK {X : Cx} {K : PySem.W.Frag} (h : X.K = K) : CallR X (.builtin "isinstance") (rIsi K) := by
  subst h
  exact call_isi
theorem ret_cb1 {r : List V → Hp → VK → Prop} {te : TE} {D : Ends} {σ : L2.St} {H : Hp} (h : te σ H fun x H1 => r [x] H1 D.rt) : tRet (tCB r (tCons te tNil)) D σ H := h
/-! ### is_row_form -/
def spForm : Sp := fun vs H Q _ => ∃ (a : Addr) (xs : List V), vs = [.ref a] ∧ RowAt H a xs ∧ 2 ≤ xs.length ∧ xs.length ≤ 64 ∧ (∀ v ∈ xs, Rowy v) ∧ ∀ H', Same H H' → Q (.bl true) H'
theorem scForm : FnScope ["value", "one"] ["value"] (defScope dForm) := ⟨rfl, rfl, rfl, by decide +kernel, rfl, by decide +kernel, by decide +kernel⟩
theorem ok_form (T : Text K mg) : Keeps P w K mg base 3 "is_row_form" ["value"] spForm := by
  have O1 := ok_sequence (P := P) (w := w) (base := base) T
  have O2 := ok_number (P := P) (w := w) (base := base) T
  obtain ⟨tM, hM⟩ := T.mostN
  obtain ⟨tN, hN⟩ := T.tornN
  refine T.form.keeps scForm (fun vs H Q E h => ?_) (fun f cdv A fs s H vs Q E hr h => ?_)
  · obtain ⟨a, xs, rfl, _⟩ := h
    rfl
  · obtain ⟨a, xs, rfl, ha, h2, hl, hx, q⟩ := h
    refine ⟨_, pss_cons (ps_if (PW.pt (pw_or (pt_not (pt_val (pe_keeps O1 (hr.mono (by decide)) (by rfl) (pa_cons (pv 0) pa_nil)))) (pw_or1 (pt_not (pt_chain op_le op_le pe_int (pe_callB call_len_seq (by rfl) T.len PySem.boot_len (pa_cons (pv 0) pa_nil)) (pe_glob (v := .int 64) (by rfl) hM ⟨_, rfl⟩))))))
        (pss_one ps_never) pss_nil)
      (pss_one (ps_ret (pe_callB (cr_all rfl) (by rfl) T.all (by decide +kernel) (pa_cons (pe_lc (own := [("one", 1)]) (g := gName 1) (tt := tYes) rfl scForm.nd (pi_either (pi_list (pv 0)) (pi_tup (pv 0)))
        (blkOk_by (N := ["value", "one"]) (sc := defScope dForm) (by decide +kernel)) (fun _ _ _ _ _ => pg_name (i := 1) scForm.nd rfl (Or.inl rfl)) (fun _ _ _ _ _ => pts_nil)
        (fun _ _ _ _ _ => pe_or (pe_cmp (pc_isN (pv 1))) (pe_or (pe_keeps O2 hr (by rfl) (pa_cons (pv 1) pa_nil))
          (pe_one (pe_and (pe_callB (id := "isinstance") (call_isiK (K := K) rfl) (by rfl) T.isinstance (by decide +kernel) (pa_cons (pv 1) (pa_cons (pe_bltn (v := .ty "str") (u := .type "str") (by rfl) T.str (by decide +kernel) rfl) pa_nil)))
            (pe_one (pe_cmpR op_eq (pv 1) (pe_glob (v := .str tornT) (by rfl) hN ⟨_, rfl⟩) (nomark _)))))))) pa_nil)))), ?_⟩
    refine ⟨_, rfl, a, xs, rfl, ha, fun H1 S1 => ⟨true, rfl, iteF ?_⟩⟩
    have ha1 := ha.to S1
    refine ⟨_, rfl, a, _, rfl, ha1.seq, 2, _, rfl, rfl, _, rfl, iteDT (by omega) ?_⟩
    refine ⟨_, 64, rfl, rfl, _, rfl, ?_⟩
    refine iteNS (by omega) ?_
    dsimp only [tNext]
    refine ret_cb1 ?_
    refine row_walk (a := a) (xs := xs) ha1 rfl (fun D i H' => Same H1 H' ∧ H' D = some (.lst (List.replicate i (V.bl true)))) (fun D hD => ⟨same_upd hD, upd_same⟩) (fun D i H' z => z.1) ?_ ?_
    · rintro D hD i v H2 hi ⟨S, hL⟩
      have fin : ∃ acc, H2 D = some (.lst acc) ∧ acc.length < sizeLine ∧ Same H1 (upd H2 D (.lst (acc ++ [V.bl true]))) ∧ upd H2 D (.lst (acc ++ [V.bl true])) D = some (.lst (List.replicate (i + 1) (V.bl true))) := by
        have hil := (List.getElem?_eq_some_iff.mp hi).1
        refine ⟨_, hL, ?_, S.put hD, ?_⟩
        · rw [List.length_replicate]
          exact small1000 (by omega)
        · rw [upd_same, List.replicate_succ']
      refine ⟨rfl, ?_⟩
      cases hx v (List.mem_of_getElem? hi) with
      | non => exact ⟨_, rfl, _, rfl, iteDT rfl fin⟩
      | int n => exact ⟨_, rfl, _, rfl, iteDF (fun z => by cases z) ⟨_, rfl, _, rfl, trivial, _, rfl, iteDT (Int.natCast_nonneg n) fin⟩⟩
      | torn => exact ⟨_, rfl, _, rfl, iteDF (fun z => by cases z) ⟨_, rfl, _, rfl, trivial, _, rfl, iteF ⟨_, rfl, _, _, _, _, true, rfl, .ty _, .base (.str _), kit_ty (by decide +kernel), true, rfl, iteT ⟨_, rfl, rfl,
          qDT (Q := fun y H4 => ∃ acc, H4 D = some (.lst acc) ∧ acc.length < sizeLine ∧ Same H1 (upd H4 D (.lst (acc ++ [y]))) ∧ upd H4 D (.lst (acc ++ [y])) D = some (.lst (List.replicate (i + 1) (V.bl true)))) rfl fin⟩⟩⟩⟩
    · rintro D hD H2 ⟨S, hL⟩
      refine ⟨D, List.replicate xs.length true, rfl, SqL.of (by rw [hL, List.map_replicate]), ?_⟩
      have e : (List.replicate xs.length true).all id = true := by simp
      show Q (.bl ((List.replicate xs.length true).all id)) H2
      rw [e]
      exact q _ (S1.trans S)
/-! ### is_ring_row -/
/-- a row of a ring: so many slots, so many blocks, the next one's laying cut or not -/
def IsRow (m c : Nat) (xs : List V) : Prop := xs = rowV m c ∨ xs = tornV m c
theorem IsRow.len {m c : Nat} {xs : List V} (h : IsRow m c xs) : xs.length = m := by
  rcases h with rfl | rfl
  · exact rowV_len _ _
  · exact tornV_len _ _
theorem IsRow.rowy {m c : Nat} {xs : List V} (h : IsRow m c xs) : ∀ v ∈ xs, Rowy v := by
  rcases h with rfl | rfl
  · exact rowV_rowy
  · exact tornV_rowy
theorem IsRow.count {m c : Nat} {xs : List V} (h : IsRow m c xs) (hm : 2 ≤ m) : IsCount xs c := by
  rcases h with rfl | rfl
  · exact rowV_count (by omega)
  · exact tornV_count hm
theorem IsRow.sees {m c : Nat} {xs : List V} (h : IsRow m c xs) (hm : 2 ≤ m) : ∃ L, Sees xs (dueV c) c L := by
  rcases h with rfl | rfl
  · exact rowV_sees hm
  · exact tornV_sees hm
theorem IsRow.found {m c : Nat} {xs : List V} (h : IsRow m c xs) : ([PyData.tuple ((rowV m c).map datV), PyData.tuple ((tornV m c).map datV)].any fun z => PyData.eqv z (.tuple (xs.map datV))) = true := by
  have refl : PyData.eqv (.tuple (xs.map datV)) (.tuple (xs.map datV)) = true := SeqAt.eqv_refl _ (by show PyData.canLayAll0 (xs.map datV) = true; exact lay_row h.rowy)
  rw [List.any_cons, List.any_cons]
  rcases h with rfl | rfl
  · rw [refl]
    rfl
  · rw [refl, Bool.true_or, Bool.or_true]
def spIsRing : Sp := fun vs H Q _ => ∃ (a : Addr) (xs : List V) (m c : Nat), vs = [.ref a] ∧ RowAt H a xs ∧ IsRow m c xs ∧ 2 ≤ m ∧ m ≤ 64 ∧ ∀ H', Same H H' → Q (.bl true) H'
theorem scIsRing : FnScope ["value", "many", "count"] ["value"] (defScope dIsRing) := ⟨rfl, rfl, rfl, by decide +kernel, rfl, by decide +kernel, by decide +kernel⟩
theorem ok_isRing (T : Text K mg) : Keeps P w K mg base 7 "is_ring_row" ["value"] spIsRing := by
  have O1 := ok_form (P := P) (w := w) (base := base) T
  have O2 := ok_countOf (P := P) (w := w) (base := base) T
  have O3 := ok_ring (P := P) (w := w) (base := base) T
  have O4 := ok_torn (P := P) (w := w) (base := base) T
  refine T.isRing.keeps scIsRing (fun vs H Q E h => ?_) (fun f cdv A fs s H vs Q E hr h => ?_)
  · obtain ⟨a, xs, m, c, rfl, _⟩ := h
    rfl
  · obtain ⟨a, xs, m, c, rfl, ha, hrow, h2, hl, q⟩ := h
    have len := hrow.len
    have hu : (A.deeper (envOfC "is_ring_row" (defScope dIsRing) s.heap.objs.size f cdv)).units + 65 < cLine := by have := hr.un; omega
    refine ⟨_, pss_cons (ps_if (pt_not (pt_val (pe_keeps O1 (hr.mono (by decide)) (by rfl) (pa_cons (pv 0) pa_nil)))) (pss_one ps_never) pss_nil)
      (pss_cons (ps_par (i := 1) (j := 2) rfl scIsRing.nd rfl rfl (by decide) rfl rfl (pa_cons (pe_callB call_len_seq (by rfl) T.len PySem.boot_len (pa_cons (pv 0) pa_nil)) (pa_cons (pe_keeps O2 (hr.mono (by decide)) (by rfl) (pa_cons (pv 0) pa_nil)) pa_nil)) (by rfl))
      (pss_one (ps_ret (pe_cmpR (op_inTup hu) (pe_callTy call_tup (by rfl) T.tuple (by decide +kernel) (pa_cons (pv 0) pa_nil))
        (pe_tup (pa_cons (pe_keeps O3 (hr.mono (by decide)) (by rfl) (pa_cons (pv 1) (pa_cons (pv 2) pa_nil))) (pa_cons (pe_keeps O4 hr (by rfl) (pa_cons (pv 1) (pa_cons (pv 2) pa_nil))) pa_nil))) (by rfl))))), ?_⟩
    refine ⟨_, rfl, a, xs, rfl, ha, by omega, by omega, hrow.rowy, fun H1 S1 => ⟨true, rfl, iteF ?_⟩⟩
    refine ⟨_, rfl, a, _, rfl, (ha.to S1).seq, ?_⟩
    refine ⟨_, rfl, a, xs, (c : Int), rfl, ha.to S1, by omega, hrow.rowy, hrow.count h2, fun H2 S2 => ?_⟩
    refine ⟨_, _, rfl, ?_⟩
    have S12 := S1.trans S2
    refine ⟨_, rfl, a, xs, rfl, ha.to S12, fun H3 p3 S3 hp3 => ?_⟩
    rw [← len] at h2 hl
    refine ⟨_, rfl, _, rfl, xs.length, c, rfl, h2, hl, fun H4 p4 S4 hp4 => ?_⟩
    refine ⟨_, rfl, _, rfl, xs.length, c, rfl, h2, hl, fun H5 p5 S5 hp5 => ?_⟩
    rw [len] at hp4 hp5
    refine ⟨by show 2 ≤ sizeLine; decide, fun p6 hp6 => ?_⟩
    have S6 := same_upd (o := .tup [.ref p4, .ref p5]) hp6
    have d3 := S6 _ _ (S5 _ _ (S4 _ _ hp3))
    have d4 := S6 _ _ (S5 _ _ hp4)
    have d5 := S6 _ _ hp5
    refine ⟨.tuple (xs.map datV), [.tuple ((rowV m c).map datV), .tuple ((tornV m c).map datV)], .tup (SqT.of d3) (dps_of fun v hv => (hrow.rowy v hv).plain),
      .tup (SqT.of upd_same) (.cons (.tup (SqT.of d4) (dps_of fun v hv => (rowV_rowy v hv).plain)) (.cons (.tup (SqT.of d5) (dps_of fun v hv => (tornV_rowy v hv).plain)) .nil)), shaped_row hrow.rowy, shaped_rows rowV_rowy tornV_rowy, ?_⟩
    rw [hrow.found]
    exact q _ (S12.trans (S3.trans (S4.trans (S5.trans S6))))
end
end K26

/-! k26: most_looks, newest, goes_on. -/
namespace K26
open PySem PySem.Spec PyProof.Rows L2

abbrev natV (x : Nat) : V := .int (x : Int)
section
variable {X : Cx}
/-- an item of a list or of a tuple -/
def rIxR : R2 := fun x y H Q => ∃ (a : Addr) (xs : List V) (z : Int) (i : Nat) (v : V), x = .ref a ∧ y = .int z ∧ z = (i : Int) ∧ RowAt H a xs ∧ xs[i]? = some v ∧ Q v H
theorem ix_row : IxR X rIxR := by
  intro va vb pins s σ H x y v u Q I rx ry h
  obtain ⟨a, xs, z, i, v', rfl, rfl, e, ha, hv, q⟩ := h
  refine (ix_list.or ix_tup) va vb pins s σ H _ _ v u Q I rx ry ?_
  rcases ha with ha | ha
  · exact .inl ⟨a, xs, z, v', rfl, rfl, SqL.of ha, at_of e hv, q⟩
  · exact .inr ⟨a, xs, z, v', rfl, rfl, SqT.of ha, at_of e hv, q⟩
theorem op_half : OpR X (binaryOp .FloorDiv) (fun x y H Q => ∃ (z : Int) (a : Nat), x = .int z ∧ z = (a : Int) ∧ y = .int 2 ∧ Q (natV (a / 2)) H) := by
  intro pins s σ H x y v u Q I rx ry h
  obtain ⟨z, a, rfl, rfl, rfl, q⟩ := h
  refine op_fdiv pins s σ H _ _ v u Q I rx ry ⟨a, 2, rfl, rfl, ⟨by decide, by decide⟩, ?_⟩
  have e : (a : Int) / 2 = ((a / 2 : Nat) : Int) := by omega
  show Q (.int ((a : Int) / 2)) H
  rw [e]
  exact q
end
section
variable {P : Program} {w : World} {K : PySem.W.Frag} {mg : Str → Option Value} {base : Heap}
/-! ### most_looks -/
def spMost : Sp := fun vs H Q _ => ∃ m e : Nat, vs = [natV m] ∧ 2 ≤ m ∧ m ≤ 64 ∧ IsDbl m e ∧ ∀ H', Same H H' → Q (.int (1 + (e : Int))) H'
theorem scMost : FnScope ["many", "found", "reach"] ["many"] (defScope dMost) := ⟨rfl, rfl, rfl, by decide +kernel, rfl, by decide +kernel, by decide +kernel⟩
theorem ok_most (T : Text K mg) : Keeps P w K mg base 5 "most_looks" ["many"] spMost := by
  have O := ok_slots (P := P) (w := w) (base := base) T
  refine T.most.keeps scMost (fun vs H Q E h => ?_) (fun f cdv A fs s H vs Q E hr h => ?_)
  · obtain ⟨m, e, rfl, _⟩ := h
    rfl
  · obtain ⟨m, e, rfl, h2, hl, he, q⟩ := h
    refine ⟨_, pss_cons (ps_expr (pe_keeps O hr (by rfl) (pa_cons (pv 0) pa_nil))) (pss_cons (ps_asg (pe_tup (pa_cons pe_int (pa_cons pe_int pa_nil))) (pg_tup rfl (pgs_cons (pg_name (i := 1) scMost.nd rfl (.inl rfl)) (pgs_cons (pg_name (i := 2) scMost.nd rfl (.inl rfl)) pgs_nil))))
      (pss_cons (ps_while PassesOwn.never (pt_cmpR op_lt (pv 2) (pv 0) (nomark _))
        (pss_one (ps_par (i := 1) (j := 2) rfl scMost.nd rfl rfl (by decide) rfl rfl (pa_cons (pe_op op_add (pv 1) pe_int) (pa_cons (pe_op op_mul pe_int (pv 2)) pa_nil)) (by rfl))))
      (pss_one (ps_ret (pv 1))))), ?_⟩
    refine ⟨_, rfl, (m : Int), rfl, by omega, by omega, ?_⟩
    refine ⟨by show 2 ≤ sizeLine; decide, fun p0 hp0 => ⟨p0, _, rfl, SqT.of upd_same, rfl, _, _, rfl, _, _, rfl, rfl, ?_⟩⟩
    have S0 := same_upd (o := .tup [V.int 1, .int 1]) hp0
    refine ⟨fun n σ H' => Same H H' ∧ ∃ i : Nat, n = 64 - i ∧ σ = [some (natV m), some (.int (1 + (i : Int))), some (.int ((2 ^ i : Nat) : Int))] ∧ ∀ j, j < i → 2 ^ j < m, ⟨64, S0, 0, rfl, rfl, fun j hj => by omega⟩, ?_⟩
    rintro n σ H1 ⟨S, i, rfl, rfl, hi⟩
    refine ⟨_, rfl, _, rfl, _, _, rfl, rfl, _, rfl, ?_⟩
    by_cases h : 2 ^ i < m
    · refine iteDT (by omega) ?_
      have hi6 : i < 6 := by
        rcases Nat.lt_or_ge i 6 with z | z
        · exact z
        · have := Nat.pow_le_pow_right (show 0 < 2 by decide) z
          omega
      refine ⟨fun σ' H' => Same H H' ∧ σ' = [some (natV m), some (.int (1 + ((i + 1 : Nat) : Int))), some (.int ((2 ^ (i + 1) : Nat) : Int))], fun σ' H' z => ⟨64 - (i + 1), by omega, z.1, i + 1, rfl, z.2, fun j hj => ?_⟩, ?_⟩
      · rcases Nat.lt_succ_iff_lt_or_eq.mp hj with z | rfl
        · exact hi j z
        · exact h
      · refine ⟨_, rfl, _, _, rfl, rfl, _, rfl, _, _, rfl, rfl, .inl ⟨by decide, by decide⟩, ?_⟩
        refine ⟨_, _, rfl, S, ?_⟩
        have e1 : (1 : Int) + (i : Int) + 1 = 1 + ((i + 1 : Nat) : Int) := by push_cast; omega
        have e2 : (2 : Int) * ((2 ^ i : Nat) : Int) = ((2 ^ (i + 1) : Nat) : Int) := by rw [Nat.pow_succ]; push_cast; omega
        show [some (natV m), some (V.int (1 + (i : Int) + 1)), some (V.int (2 * ((2 ^ i : Nat) : Int)))] = _
        rw [e1, e2]
    · refine iteDF (by omega) ?_
      have := dbl_uniq he (by omega) hi
      subst this
      exact ⟨_, rfl, q _ S⟩
/-! ### newest -/
def spNewest : Sp := fun vs H Q _ => ∃ (a : Addr) (xs : List V) (d : V) (n : Int) (L : List Nat), vs = [.ref a] ∧ RowAt H a xs ∧ 2 ≤ xs.length ∧ xs.length ≤ 64 ∧ Sees xs d n L ∧
  ∀ H' p r, Same H H' → H' r = some (.tup (L.map natV)) → H' p = some (.tup [d, .int n, .ref r]) → Q (.ref p) H'
theorem scNewest : FnScope ["row", "many", "base", "last", "low", "high", "looked", "middle"] ["row"] (defScope dNewest) := ⟨rfl, rfl, rfl, by decide +kernel, rfl, by decide +kernel, by decide +kernel⟩
theorem len2 {α : Type} {xs : List α} {n : Nat} (h : xs.length ≤ n) (hn : n ≤ 1000) : xs.length ≤ sizeLine := small64' (Nat.le_trans h hn)
theorem scal_int {v : V} (h : plainV v) (j : Int) : scal v (.int j) = true := by
  cases v with
  | non => rfl
  | int i => rfl
  | str x => rfl
  | _ => exact h.elim
theorem ok_newest (T : Text K mg) : Keeps P w K mg base 1 "newest" ["row"] spNewest := by
  obtain ⟨tN, hN⟩ := T.tornN
  refine T.newest.keeps scNewest (fun vs H Q E h => ?_) (fun f cdv A fs s H vs Q E hr h => ?_)
  · obtain ⟨a, xs, d, n, L, rfl, _⟩ := h
    rfl
  · obtain ⟨a, xs, d, n, L, rfl, ha, h2, hl, hs, q⟩ := h
    refine ⟨_, pss_cons (ps_par (i := 1) (j := 2) rfl scNewest.nd rfl rfl (by decide) rfl rfl (pa_cons (pe_callB call_len_seq (by rfl) T.len PySem.boot_len (pa_cons (pv 0) pa_nil)) (pa_cons (pe_ix ix_row (pv 0) pe_int (fun _ _ => rfl)) pa_nil)) (by rfl))
      (pss_cons (ps_if (pt_cmp (pc_isN (pv 2))) (pss_one (ps_ret (pe_tup (pa_cons pe_non (pa_cons pe_int (pa_cons (pe_tup (pa_cons pe_int pa_nil)) pa_nil)))))) pss_nil)
      (pss_cons (ps_if (pt_cmpR op_eq (pv 2) (pe_glob (v := .str tornT) (by rfl) hN ⟨_, rfl⟩) (nomark _))
        (pss_cons (ps_set (i := 3) scNewest.nd rfl (.inl rfl) (pe_ix ix_row (pv 0) (pe_op op_sub (pv 1) pe_int) (fun _ _ => rfl)))
          (pss_one (ps_ret (pe_tup (pa_cons (pv 3) (pa_cons (pe_ifExp (pt_cmp (pc_isN (pv 3))) pe_int (pe_op op_add (pv 3) pe_int)) (pa_cons (pe_tup (pa_cons pe_int (pa_cons (pe_op op_sub (pv 1) pe_int) pa_nil))) pa_nil))))))) pss_nil)
      (pss_cons (ps_par3 (i := 4) (j := 5) (l := 6) rfl scNewest.nd rfl rfl rfl (by decide) (by decide) (by decide) rfl rfl rfl (pa_cons pe_int (pa_cons (pv 1) (pa_cons (pe_lst (pa_cons pe_int pa_nil)) pa_nil))) (by rfl))
      (pss_cons (ps_while PassesOwn.never (pt_cmpR op_gt (pe_op op_sub (pv 5) (pv 4)) pe_int (nomark _))
        (pss_cons (ps_set (i := 7) scNewest.nd rfl (.inl rfl) (pe_op op_half (pe_op op_add (pv 4) (pv 5)) pe_int))
        (pss_cons (ps_expr (pe_bm PySem.F.plainAttrs_list PySem.F.slot_list_append PySem.F.type_list_append mt_append (pv 6) (pa_cons (pv 7) pa_nil)))
        (pss_one (ps_if (pt_cmpR op_eq (pe_ix ix_row (pv 0) (pv 7) (fun _ _ => rfl)) (pe_op op_add (pv 2) (pv 7)) (nomark _))
          (pss_one (ps_set (i := 4) scNewest.nd rfl (.inl rfl) (pv 7))) (pss_one (ps_set (i := 5) scNewest.nd rfl (.inl rfl) (pv 7))))))))
      (pss_one (ps_ret (pe_tup (pa_cons (pe_op op_add (pv 2) (pv 4)) (pa_cons (pe_op op_add (pe_op op_add (pv 2) (pv 4)) pe_int) (pa_cons (pe_callTy call_tup (by rfl) T.tuple (by decide +kernel) (pa_cons (pv 6) pa_nil)) pa_nil)))))))))), ?_⟩
    refine ⟨_, rfl, a, _, rfl, ha.seq, ?_⟩
    have e1 : ((xs.length : Nat) : Int) - 1 = ((xs.length - 1 : Nat) : Int) := by omega
    cases hs with
    | empty h =>
      refine ⟨_, rfl, a, xs, 0, 0, _, rfl, rfl, rfl, ha, h, _, _, rfl, _, rfl, true, rfl, iteT ?_⟩
      refine ⟨by show 1 ≤ sizeLine; decide, fun r hr => ⟨by show 3 ≤ sizeLine; decide, fun p hp => ?_⟩⟩
      have S1 := same_upd (o := .tup [V.int 0]) hr
      have S2 := same_upd (o := .tup [V.non, .int 0, .ref r]) hp
      exact q _ p r (S1.trans S2) (S2 _ _ upd_same) upd_same
    | torn0 h hlast =>
      refine ⟨_, rfl, a, xs, 0, 0, _, rfl, rfl, rfl, ha, h, _, _, rfl, _, rfl, false, rfl, iteF ?_⟩
      refine ⟨_, rfl, rfl, _, rfl, iteDT rfl ?_⟩
      refine ⟨_, rfl, _, rfl, _, _, rfl, rfl, a, xs, _, xs.length - 1, _, rfl, rfl, e1, ha, hlast, ?_⟩
      refine ⟨_, rfl, _, rfl, true, rfl, iteT ?_⟩
      refine ⟨_, rfl, _, _, rfl, rfl, by show 2 ≤ sizeLine; decide, fun r hr => ⟨by show 3 ≤ sizeLine; decide, fun p hp => ?_⟩⟩
      have S1 := same_upd (o := .tup [V.int 0, .int (((xs.length : Nat) : Int) - 1)]) hr
      have S2 := same_upd (o := .tup [V.non, .int 0, .ref r]) hp
      refine q _ p r (S1.trans S2) (S2 _ _ ?_) upd_same
      rw [upd_same]
      show some (HO.tup [V.int 0, V.int (((xs.length : Nat) : Int) - 1)]) = _
      rw [e1]
      rfl
    | torn1 k h hlast =>
      refine ⟨_, rfl, a, xs, 0, 0, _, rfl, rfl, rfl, ha, h, _, _, rfl, _, rfl, false, rfl, iteF ?_⟩
      refine ⟨_, rfl, rfl, _, rfl, iteDT rfl ?_⟩
      refine ⟨_, rfl, _, rfl, _, _, rfl, rfl, a, xs, _, xs.length - 1, _, rfl, rfl, e1, ha, hlast, ?_⟩
      refine ⟨_, rfl, _, rfl, false, rfl, iteF ⟨_, rfl, k, 1, rfl, rfl, ?_⟩⟩
      refine ⟨_, rfl, _, _, rfl, rfl, by show 2 ≤ sizeLine; decide, fun r hr => ⟨by show 3 ≤ sizeLine; decide, fun p hp => ?_⟩⟩
      have S1 := same_upd (o := .tup [V.int 0, .int (((xs.length : Nat) : Int) - 1)]) hr
      have S2 := same_upd (o := .tup [V.int k, .int (k + 1), .ref r]) hp
      refine q _ p r (S1.trans S2) (S2 _ _ ?_) upd_same
      rw [upd_same]
      show some (HO.tup [V.int 0, V.int (((xs.length : Nat) : Int) - 1)]) = _
      rw [e1]
      rfl
    | lap b pr h hsee =>
      refine ⟨_, rfl, a, xs, 0, 0, _, rfl, rfl, rfl, ha, h, _, _, rfl, _, rfl, false, rfl, iteF ?_⟩
      refine ⟨_, rfl, rfl, _, rfl, iteDF (fun z => by cases z) ?_⟩
      refine ⟨_, rfl, by show 1 ≤ sizeLine; decide, fun D hD => ?_⟩
      refine ⟨_, _, _, rfl, ?_⟩
      have few : (srch pr 0 xs.length).2.length ≤ 6 := srch_len pr 6 0 xs.length (by show xs.length - 0 ≤ 64; omega)
      refine ⟨fun n σ H' => Same H H' ∧ ∃ (lo hi : Nat) (l : List Nat) (z : Option V), n = hi - lo ∧ σ = [some (.ref a), some (natV xs.length), some (.int b), none, some (natV lo), some (natV hi), some (.ref D), z] ∧
        H' D = some (.lst ((0 :: l).map natV)) ∧ hi ≤ xs.length ∧ l ++ (srch pr lo hi).2 = (srch pr 0 xs.length).2 ∧ (srch pr lo hi).1 = (srch pr 0 xs.length).1, ⟨xs.length, same_upd hD, 0, xs.length, [], none, rfl, rfl, upd_same, Nat.le_refl _, rfl, rfl⟩, ?_⟩
      rintro n σ H1 ⟨S, lo, hi, l, z, rfl, rfl, hL, hle, hrest, hval⟩
      refine ⟨_, rfl, _, rfl, _, _, rfl, rfl, _, _, rfl, rfl, _, rfl, ?_⟩
      by_cases hgo : 1 < hi - lo
      · refine iteDT (by show (1 : Int) < (hi : Int) - (lo : Int); omega) ?_
        refine ⟨fun σ' H' => Same H H' ∧ ∃ (lo' hi' : Nat), hi' - lo' < hi - lo ∧ σ' = [some (.ref a), some (natV xs.length), some (.int b), none, some (natV lo'), some (natV hi'), some (.ref D), some (natV ((lo + hi) / 2))] ∧
          H' D = some (.lst ((0 :: (l ++ [(lo + hi) / 2])).map natV)) ∧ hi' ≤ xs.length ∧ (l ++ [(lo + hi) / 2]) ++ (srch pr lo' hi').2 = (srch pr 0 xs.length).2 ∧ (srch pr lo' hi').1 = (srch pr 0 xs.length).1,
          fun σ' H' ⟨S', lo', hi', h1, h2', h3, h4, h5, h6⟩ => ⟨hi' - lo', h1, S', lo', hi', _, _, rfl, h2', h3, h4, h5, h6⟩, ?_⟩
        refine ⟨_, rfl, _, rfl, _, _, rfl, rfl, _, lo + hi, rfl, by push_cast; rfl, rfl, ?_⟩
        have hll : l.length ≤ 6 := by
          have := congrArg List.length hrest
          rw [List.length_append] at this
          omega
        refine ⟨_, rfl, .inl ⟨rfl, _, SqL.of hL⟩, _, rfl, D, _, _, rfl, rfl, hL, small1000 (by rw [List.length_map, List.length_cons]; omega), ?_⟩
        have hmem : (lo + hi) / 2 ∈ (srch pr 0 xs.length).2 := by
          rw [← hrest]
          refine List.mem_append_right _ ?_
          cases hp : pr ((lo + hi) / 2) with
          | true => rw [srch_up hgo hp]; exact List.mem_cons_self
          | false => rw [srch_down hgo hp]; exact List.mem_cons_self
        obtain ⟨v, hv, pl, hdec⟩ := hsee _ hmem
        have S2 : Same H (upd H1 D (.lst ((0 :: l).map natV ++ [natV ((lo + hi) / 2)]))) := S.put hD
        have eL : (0 :: l).map natV ++ [natV ((lo + hi) / 2)] = (0 :: (l ++ [(lo + hi) / 2])).map natV := by simp
        refine ⟨_, rfl, _, rfl, a, xs, _, (lo + hi) / 2, v, rfl, rfl, rfl, ha.to S2, hv, _, rfl, _, rfl, _, _, rfl, rfl, scal_int pl _, _, rfl, ?_⟩
        rw [hdec]
        cases hp : pr ((lo + hi) / 2) with
        | true =>
          rw [srch_up hgo hp] at hrest hval
          refine iteT ⟨_, rfl, S2, (lo + hi) / 2, hi, by omega, rfl, by rw [upd_same, eL], hle, ?_, hval⟩
          rw [List.append_assoc]
          exact hrest
        | false =>
          rw [srch_down hgo hp] at hrest hval
          refine iteF ⟨_, rfl, S2, lo, (lo + hi) / 2, by omega, rfl, by rw [upd_same, eL], by omega, ?_, hval⟩
          rw [List.append_assoc]
          exact hrest
      · refine iteDF (by show ¬ (1 : Int) < (hi : Int) - (lo : Int); omega) ?_
        rw [srch_stop hgo] at hrest hval
        have hval' : lo = (srch pr 0 xs.length).1 := hval
        rw [← hval', ← hrest, List.append_nil] at q
        refine ⟨_, rfl, _, rfl, _, _, rfl, rfl, _, rfl, _, rfl, _, _, rfl, rfl, _, _, rfl, rfl, _, rfl, D, _, rfl, .inl hL, fun H2 r S2 hr => ?_⟩
        refine ⟨by show 3 ≤ sizeLine; decide, fun p hp => ?_⟩
        have S3 := same_upd (o := .tup [V.int (b + (lo : Int)), .int (b + (lo : Int) + 1), .ref r]) hp
        exact q _ p r (S.trans (S2.trans S3)) (S3 _ _ hr) upd_same
/-! ### goes_on -/
def spGoes : Sp := fun vs H Q _ => ∃ (a : Addr) (xs : List V) (d : V) (c : Nat) (L : List Nat), vs = [.ref a] ∧ RowAt H a xs ∧ 2 ≤ xs.length ∧ xs.length ≤ 64 ∧ Sees xs d (c : Int) L ∧
  ∀ H' p, Same H H' → H' p = some (.tup [natV (c % xs.length), natV c]) → Q (.ref p) H'
theorem scGoes : FnScope ["row", "number"] ["row"] (defScope dGoes) := ⟨rfl, rfl, rfl, by decide +kernel, rfl, by decide +kernel, by decide +kernel⟩
theorem ok_goes (T : Text K mg) : Keeps P w K mg base 2 "goes_on" ["row"] spGoes := by
  have O := ok_newest (P := P) (w := w) (base := base) T
  refine T.goes.keeps scGoes (fun vs H Q E h => ?_) (fun f cdv A fs s H vs Q E hr h => ?_)
  · obtain ⟨a, xs, d, c, L, rfl, _⟩ := h
    rfl
  · obtain ⟨a, xs, d, c, L, rfl, ha, h2, hl, hs, q⟩ := h
    refine ⟨_, pss_cons (ps_set (i := 1) scGoes.nd rfl (.inl rfl) (pe_ix ix_row (pe_keeps O hr (by rfl) (pa_cons (pv 0) pa_nil)) pe_int (fun _ _ => rfl)))
      (pss_one (ps_ret (pe_tup (pa_cons (pe_op op_modNat (pe_callTy call_int1 (by rfl) T.int (by decide +kernel) (pa_cons (pv 1) pa_nil)) (pe_callB call_len_seq (by rfl) T.len PySem.boot_len (pa_cons (pv 0) pa_nil))) (pa_cons (pv 1) pa_nil))))), ?_⟩
    refine ⟨_, rfl, a, xs, d, _, L, rfl, ha, h2, hl, hs, fun H1 p r S1 hr hp => ?_⟩
    refine ⟨p, _, 1, 1, _, rfl, rfl, rfl, .inr hp, rfl, ?_⟩
    refine ⟨_, rfl, .inl ⟨_, rfl, _, rfl, a, xs, rfl, (ha.to S1).seq, c, xs.length, rfl, rfl, by omega, _, rfl, by show 2 ≤ sizeLine; decide, fun p2 hp2 => ?_⟩⟩
    exact q _ p2 (S1.trans (same_upd hp2)) upd_same
end
end K26

/-! k26: the law's own small defs. -/
namespace K26
open PySem PySem.Spec PyProof.Rows L2

section
variable {P : Program} {w : World} {K : PySem.W.Frag} {mg : Str → Option Value} {base : Heap}
/-! ### _law_box -/
def spBox (K : PySem.W.Frag) : Sp := fun vs H Q _ => ∃ (a : Addr) (ns : List Int) (k : Nat), vs = [.ref a, natV k] ∧ SqL K H a (ns.map V.int) ∧ ∀ p (g r : Int), H p = none → Q (.ref p) (upd H p (.lst [.int g, .int r]))
theorem scBox : FnScope ["_law_script", "_law_k", "_law_cell", "_law_great"] ["_law_script", "_law_k"] (defScope dBox) := ⟨rfl, rfl, rfl, by decide +kernel, rfl, by decide +kernel, by decide +kernel⟩
theorem pow18 : CPow 10 18 := ⟨by decide, by decide, by decide⟩
theorem ok_box (T : Text K mg) : Keeps P w K mg base 1 "_law_box" ["_law_script", "_law_k"] (spBox K) := by
  refine T.box.keeps scBox (fun vs H Q E h => ?_) (fun f cdv A fs s H vs Q E hr h => ?_)
  · obtain ⟨a, ns, k, rfl, _⟩ := h
    rfl
  · obtain ⟨a, ns, k, rfl, hS, q⟩ := h
    refine ⟨_, pss_cons (ps_set (i := 2) scBox.nd rfl (.inl rfl) (pe_op op_add (pe_op op_mul pe_int (pv 1)) pe_int))
      (pss_cons (ps_if (pt_cmpR op_lt (pv 1) (pe_callB call_len_seq (by rfl) T.len PySem.boot_len (pa_cons (pv 0) pa_nil)) (nomark _))
        (pss_one (ps_set (i := 2) scBox.nd rfl (.inl rfl) (pe_callB call_abs (by rfl) T.abs (by decide +kernel) (pa_cons (pe_callTy call_int1 (by rfl) T.int (by decide +kernel) (pa_cons (pe_ix ix_list (pv 0) (pv 1) (fun _ _ => rfl)) pa_nil)) pa_nil))))
        (pss_one (ps_if (pt_cmpR op_gt (pe_callB call_len_seq (by rfl) T.len PySem.boot_len (pa_cons (pv 0) pa_nil)) pe_int (nomark _))
          (pss_one (ps_set (i := 2) scBox.nd rfl (.inl rfl) (pe_op op_add (pv 2) (pe_op op_mul (pe_op op_mod (pe_callTy call_int1 (by rfl) T.int (by decide +kernel) (pa_cons (pe_callB call_abs (by rfl) T.abs (by decide +kernel) (pa_cons (pe_callTy call_int1 (by rfl) T.int (by decide +kernel)
            (pa_cons (pe_ix ix_list (pv 0) (pe_op op_modNat (pe_callTy call_int1 (by rfl) T.int (by decide +kernel) (pa_cons (pv 1) pa_nil)) (pe_callB call_len_seq (by rfl) T.len PySem.boot_len (pa_cons (pv 0) pa_nil))) (fun _ _ => rfl)) pa_nil)) pa_nil)) pa_nil)) pe_int) pe_int)))) pss_nil)))
      (pss_cons (ps_set (i := 3) scBox.nd rfl (.inl rfl) (pe_ifExp (pt_cmpR op_ge (pv 2) (pe_op op_pow pe_int pe_int) (nomark _)) (pv 2) pe_int))
      (pss_one (ps_ret (pe_lst (pa_cons (pv 3) (pa_cons (pe_op op_add (pe_op op_mod (pe_callTy call_int1 (by rfl) T.int (by decide +kernel) (pa_cons (pe_op op_add (pe_op op_mul (pe_op op_mod (pe_callTy call_int1 (by rfl) T.int (by decide +kernel) (pa_cons (pv 2) pa_nil)) pe_int) pe_int)
        (pe_op op_mul pe_int (pv 1))) pa_nil)) pe_int) pe_int) pa_nil))))))), ?_⟩
    refine ⟨_, rfl, _, _, rfl, rfl, .inl ⟨by decide, by decide⟩, _, _, rfl, rfl, ?_⟩
    refine ⟨_, rfl, _, rfl, a, _, rfl, .inl hS, _, _, rfl, rfl, _, rfl, ?_⟩
    have big : (0 : Int) < 2147483563 := by decide
    rw [List.length_map]
    by_cases hk : k < ns.length
    · refine iteDT (by omega) ?_
      have hget : (ns.map V.int)[k]? = some (V.int ns[k]) := by rw [List.getElem?_map, List.getElem?_eq_getElem hk]; rfl
      refine ⟨_, rfl, _, rfl, a, _, _, _, rfl, rfl, hS, atI_nat hget, .inl ⟨_, rfl, _, rfl, ?_⟩⟩
      refine ⟨_, rfl, _, _, rfl, rfl, pow18, _, _, rfl, rfl, _, rfl, ite2 (fun _ => ?_) (fun _ => ?_)⟩
      · exact ⟨_, rfl, _, rfl, _, rfl, .inl ⟨_, rfl, _, _, rfl, rfl, big, _, _, rfl, rfl, .inr ⟨by decide, by decide⟩, _, rfl, _, _, rfl, rfl, .inl ⟨by decide, by decide⟩, _, _, rfl, rfl, .inl ⟨_, rfl, _, _, rfl, rfl, big, _, _, rfl, rfl, by show 2 ≤ sizeLine; decide, fun p hp => q p _ _ hp⟩⟩⟩
      · exact ⟨_, rfl, _, rfl, .inl ⟨_, rfl, _, _, rfl, rfl, big, _, _, rfl, rfl, .inr ⟨by decide, by decide⟩, _, rfl, _, _, rfl, rfl, .inl ⟨by decide, by decide⟩, _, _, rfl, rfl, .inl ⟨_, rfl, _, _, rfl, rfl, big, _, _, rfl, rfl, by show 2 ≤ sizeLine; decide, fun p hp => q p _ _ hp⟩⟩⟩
    · refine iteDF (by omega) ?_
      refine ⟨_, rfl, a, _, rfl, .inl hS, _, _, rfl, rfl, _, rfl, ?_⟩
      rw [List.length_map]
      by_cases h0 : 0 < ns.length
      · refine iteDT (by omega) ?_
        have hm : k % ns.length < ns.length := Nat.mod_lt _ h0
        have hget : (ns.map V.int)[k % ns.length]? = some (V.int ns[k % ns.length]) := by rw [List.getElem?_map, List.getElem?_eq_getElem hm]; rfl
        refine ⟨_, rfl, _, rfl, _, rfl, .inl ⟨_, rfl, _, rfl, a, _, rfl, .inl hS, k, ns.length, rfl, by rw [List.length_map], h0, a, _, _, _, rfl, rfl, hS, atI_nat hget, .inl ⟨_, rfl, _, rfl, .inl ⟨_, rfl, _, _, rfl, rfl, big, _, _, rfl, rfl, .inr ⟨by decide, by decide⟩, _, _, rfl, rfl, ?_⟩⟩⟩⟩
        refine ⟨_, rfl, _, _, rfl, rfl, pow18, _, _, rfl, rfl, _, rfl, ite2 (fun _ => ?_) (fun _ => ?_)⟩
        · exact ⟨_, rfl, _, rfl, _, rfl, .inl ⟨_, rfl, _, _, rfl, rfl, big, _, _, rfl, rfl, .inr ⟨by decide, by decide⟩, _, rfl, _, _, rfl, rfl, .inl ⟨by decide, by decide⟩, _, _, rfl, rfl, .inl ⟨_, rfl, _, _, rfl, rfl, big, _, _, rfl, rfl, by show 2 ≤ sizeLine; decide, fun p hp => q p _ _ hp⟩⟩⟩
        · exact ⟨_, rfl, _, rfl, .inl ⟨_, rfl, _, _, rfl, rfl, big, _, _, rfl, rfl, .inr ⟨by decide, by decide⟩, _, rfl, _, _, rfl, rfl, .inl ⟨by decide, by decide⟩, _, _, rfl, rfl, .inl ⟨_, rfl, _, _, rfl, rfl, big, _, _, rfl, rfl, by show 2 ≤ sizeLine; decide, fun p hp => q p _ _ hp⟩⟩⟩
      · refine iteDF (by omega) ?_
        refine ⟨_, rfl, _, _, rfl, rfl, pow18, _, _, rfl, rfl, _, rfl, ite2 (fun _ => ?_) (fun _ => ?_)⟩
        · exact ⟨_, rfl, _, rfl, _, rfl, .inl ⟨_, rfl, _, _, rfl, rfl, big, _, _, rfl, rfl, .inr ⟨by decide, by decide⟩, _, rfl, _, _, rfl, rfl, .inl ⟨by decide, by decide⟩, _, _, rfl, rfl, .inl ⟨_, rfl, _, _, rfl, rfl, big, _, _, rfl, rfl, by show 2 ≤ sizeLine; decide, fun p hp => q p _ _ hp⟩⟩⟩
        · exact ⟨_, rfl, _, rfl, .inl ⟨_, rfl, _, _, rfl, rfl, big, _, _, rfl, rfl, .inr ⟨by decide, by decide⟩, _, rfl, _, _, rfl, rfl, .inl ⟨by decide, by decide⟩, _, _, rfl, rfl, .inl ⟨_, rfl, _, _, rfl, rfl, big, _, _, rfl, rfl, by show 2 ≤ sizeLine; decide, fun p hp => q p _ _ hp⟩⟩⟩
/-! ### _law_take -/
def spTake : Sp := fun vs H Q _ => ∃ (a : Addr) (g r m : Int), vs = [.ref a, .int m] ∧ H a = some (.lst [.int g, .int r]) ∧ 0 < m ∧ m < 1073741824 ∧ ∀ d g' r' : Int, 0 ≤ d → d < m → Q (.int d) (upd H a (.lst [.int g', .int r']))
theorem scTake : FnScope ["_law_box_here", "_law_many", "_law_digit", "_law_raw"] ["_law_box_here", "_law_many"] (defScope dTake) := ⟨rfl, rfl, rfl, by decide +kernel, rfl, by decide +kernel, by decide +kernel⟩
theorem ok_take (T : Text K mg) : Keeps P w K mg base 1 "_law_take" ["_law_box_here", "_law_many"] spTake := by
  refine T.take.keeps scTake (fun vs H Q E h => ?_) (fun f cdv A fs s H vs Q E hr h => ?_)
  · obtain ⟨a, g, r, m, rfl, _⟩ := h
    rfl
  · obtain ⟨a, g, r, m, rfl, ha, h0, h1, q⟩ := h
    refine ⟨_, pss_cons (ps_if (pt_cmpR op_gt (pe_ix ix_list (pv 0) pe_int (fun _ _ => rfl)) pe_int (nomark _))
        (pss_cons (ps_set (i := 2) scTake.nd rfl (.inl rfl) (pe_op op_mod (pe_callTy call_int1 (by rfl) T.int (by decide +kernel) (pa_cons (pe_ix ix_list (pv 0) pe_int (fun _ _ => rfl)) pa_nil)) (pv 1)))
        (pss_cons (ps_asg (pe_op op_fdiv (pe_ix ix_list (pv 0) pe_int (fun _ _ => rfl)) (pv 1)) (pg_sub (pv 0) pe_int set_list))
        (pss_one (ps_ret (pv 2))))) pss_nil)
      (pss_cons (ps_set (i := 3) scTake.nd rfl (.inl rfl) (pe_op op_mod (pe_callTy call_int1 (by rfl) T.int (by decide +kernel) (pa_cons (pe_op op_add (pe_op op_mul (pe_ix ix_list (pv 0) pe_int (fun _ _ => rfl)) pe_int) pe_int) pa_nil)) pe_int))
      (pss_cons (ps_asg (pe_op op_add (pe_op op_mod (pe_callTy call_int1 (by rfl) T.int (by decide +kernel) (pa_cons (pe_op op_add (pe_op op_mul (pv 3) pe_int) pe_int) pa_nil)) pe_int) pe_int) (pg_sub (pv 0) pe_int set_list))
      (pss_one (ps_ret (pe_op op_mod (pe_callTy call_int1 (by rfl) T.int (by decide +kernel) (pa_cons (pe_op op_fdiv (pe_op op_add (pe_op op_mul (pv 3) pe_int) (pe_ix ix_list (pv 0) pe_int (fun _ _ => rfl))) pe_int) pa_nil)) (pv 1)))))), ?_⟩
    have at0 : ∀ x y : V, atI [x, y] 0 = some x := fun x y => atI_nat (j := 0) rfl
    have at1 : ∀ x y : V, atI [x, y] 1 = some y := fun x y => atI_nat (j := 1) rfl
    have ix0 : ixN 2 0 = some 0 := by decide
    have ix1 : ixN 2 1 = some 1 := by decide
    refine ⟨_, rfl, a, _, 0, _, rfl, rfl, SqL.of ha, at0 _ _, _, _, rfl, rfl, _, rfl, ?_⟩
    by_cases hg : 0 < g
    · refine iteDT hg ?_
      refine ⟨_, rfl, a, _, 0, _, rfl, rfl, SqL.of ha, at0 _ _, .inl ⟨_, rfl, _, rfl, _, _, rfl, rfl, h0, ?_⟩⟩
      refine ⟨_, rfl, a, _, 0, _, rfl, rfl, SqL.of ha, at0 _ _, _, rfl, _, _, rfl, rfl, ⟨h0, h1⟩, ?_⟩
      refine ⟨_, rfl, a, _, 0, 0, rfl, rfl, ha, ix0, ?_⟩
      exact ⟨_, rfl, q _ _ _ (Int.emod_nonneg _ (by omega)) (Int.emod_lt_of_pos _ h0)⟩
    · refine iteDF hg ?_
      refine ⟨_, rfl, a, _, 1, _, rfl, rfl, SqL.of ha, at1 _ _, _, _, rfl, rfl, .inr ⟨by decide, by decide⟩, _, _, rfl, rfl, .inl ⟨_, rfl, _, _, rfl, rfl, by show (0 : Int) < 2147483647; decide, ?_⟩⟩
      refine ⟨_, rfl, _, _, rfl, rfl, .inr ⟨by decide, by decide⟩, _, _, rfl, rfl, .inl ⟨_, rfl, _, _, rfl, rfl, by show (0 : Int) < 2147483399; decide, _, _, rfl, rfl, ?_⟩⟩
      refine ⟨_, rfl, a, _, 1, 1, rfl, rfl, ha, ix1, ?_⟩
      refine ⟨_, rfl, _, _, rfl, rfl, .inr ⟨by decide, by decide⟩, _, rfl, a, _, 1, _, rfl, rfl, SqL.of upd_same, at1 _ _, _, _, rfl, rfl, _, _, rfl, rfl, ⟨by decide, by decide⟩, .inl ⟨_, rfl, _, rfl, _, _, rfl, rfl, h0, ?_⟩⟩
      exact q _ _ _ (Int.emod_nonneg _ (by omega)) (Int.emod_lt_of_pos _ h0)
/-! ### _law_pick -/
def spPick : Sp := fun vs H Q _ => ∃ (a : Addr) (g r : Int) (b : Addr) (xs : List V), vs = [.ref a, .ref b] ∧ H a = some (.lst [.int g, .int r]) ∧ H b = some (.lst xs) ∧ b ≠ a ∧ 0 < xs.length ∧ xs.length ≤ 1000 ∧
  ∀ (v : V) (g' r' : Int), v ∈ xs → Q v (upd H a (.lst [.int g', .int r']))
theorem scPick : FnScope ["_law_box_here", "_law_some"] ["_law_box_here", "_law_some"] (defScope dPick) := ⟨rfl, rfl, rfl, by decide +kernel, rfl, by decide +kernel, by decide +kernel⟩
theorem ok_pick (T : Text K mg) : Keeps P w K mg base 2 "_law_pick" ["_law_box_here", "_law_some"] spPick := by
  have O := ok_take (P := P) (w := w) (base := base) T
  refine T.pick.keeps scPick (fun vs H Q E h => ?_) (fun f cdv A fs s H vs Q E hr h => ?_)
  · obtain ⟨a, g, r, b, xs, rfl, _⟩ := h
    rfl
  · obtain ⟨a, g, r, b, xs, rfl, ha, hb, nab, h0, h1, q⟩ := h
    refine ⟨_, pss_one (ps_ret (pe_ix ix_row (pv 1) (pe_keeps O hr (by rfl) (pa_cons (pv 0) (pa_cons (pe_callB call_len_seq (by rfl) T.len PySem.boot_len (pa_cons (pv 1) pa_nil)) pa_nil))) (fun _ _ => rfl))), ?_⟩
    refine ⟨_, rfl, _, rfl, _, rfl, b, _, rfl, .inl (SqL.of hb), a, g, r, _, rfl, ha, by omega, by omega, fun d g' r' d0 d1 => ?_⟩
    have hd : d.toNat < xs.length := by omega
    exact ⟨b, xs, d, d.toNat, xs[d.toNat], rfl, rfl, by omega, .inl (by rw [upd_ne nab]; exact hb), List.getElem?_eq_getElem hd, q _ _ _ (List.getElem_mem hd)⟩
/-! ### _law_laid -/
def spLaid : Sp := fun vs H Q _ => ∃ m c : Nat, vs = [natV m, natV c] ∧ 0 < m ∧ m ≤ 64 ∧ c ≤ 1000 ∧ ∀ H' p, Same H H' → H p = none → H' p = some (.lst (rowV m c)) → Q (.ref p) H'
theorem scLaid : FnScope ["_law_many", "_law_count", "_law_row", "_law_number"] ["_law_many", "_law_count"] (defScope dLaid) := ⟨rfl, rfl, rfl, by decide +kernel, rfl, by decide +kernel, by decide +kernel⟩
theorem ixN_nat {n j : Nat} (h : j < n) : ixN n (j : Int) = some j := by
  unfold ixN
  rw [if_pos (Int.natCast_nonneg _), if_pos (by omega), Int.toNat_natCast]
theorem flat_one (v : V) : ∀ n : Nat, (List.replicate n [v]).flatten = List.replicate n v
  | 0 => rfl
  | n + 1 => by
    rw [List.replicate_succ, List.flatten_cons, flat_one v n]
    rfl
theorem ok_laid (T : Text K mg) : Keeps P w K mg base 1 "_law_laid" ["_law_many", "_law_count"] spLaid := by
  refine T.laid.keeps scLaid (fun vs H Q E h => ?_) (fun f cdv A fs s H vs Q E hr h => ?_)
  · obtain ⟨m, c, rfl, _⟩ := h
    rfl
  · obtain ⟨m, c, rfl, h0, h1, h2, q⟩ := h
    refine ⟨_, pss_cons (ps_set (i := 2) scLaid.nd rfl (.inl rfl) (pe_op op_rep (pe_lst (pa_cons pe_non pa_nil)) (pv 0)))
      (pss_cons (ps_for PassesOwn.never rfl (pi_range1 rfl T.range (pa_cons (pv 1) pa_nil)) (pg_name (i := 3) scLaid.nd rfl (.inl rfl))
        (pss_one (ps_asg (pv 3) (pg_sub (pv 2) (pe_op op_modNat (pe_callTy call_int1 (by rfl) T.int (by decide +kernel) (pa_cons (pv 3) pa_nil)) (pv 0)) set_list))))
      (pss_one (ps_ret (pv 2)))), ?_⟩
    refine ⟨by show 1 ≤ sizeLine; decide, fun p1 hp1 => ⟨_, rfl, p1, (m : Int), _, rfl, rfl, upd_same, by omega, by omega, ?_, fun p hp => ?_⟩⟩
    · show 1 * ((m : Nat) : Int).toNat ≤ sizeLine
      rw [Int.toNat_natCast]
      exact small64' (by omega)
    have S1 := same_upd (o := .lst [V.non]) hp1
    have nP : H p = none := S1.free hp
    refine ⟨_, rfl, (c : Int), rfl, by omega, by omega, ?_⟩
    refine for_range (lo := 0) (n := ((c : Nat) : Int).toNat) (fun i σ H' => ∃ z : Option V, σ = [some (natV m), some (natV c), some (.ref p), z] ∧ Same H H' ∧ H' p = some (.lst (rowV m i))) ⟨none, rfl, S1.put nP |>.trans (Same.refl _), ?_⟩ ?_ ?_
    · rw [upd_same, flat_one, Int.toNat_natCast, rowV_zero]
    · rintro i σ H2 hi ⟨z, rfl, S, hL⟩
      refine ⟨_, rfl, _, rfl, _, rfl, .inl ⟨_, rfl, _, rfl, i, m, ?_, rfl, h0, p, _, _, i % m, rfl, rfl, hL, ?_, ?_⟩⟩
      · rw [Int.zero_add]
      · rw [rowV_len]
        exact ixN_nat (Nat.mod_lt _ h0)
      · refine ⟨_, rfl, S.put nP, ?_⟩
        rw [upd_same, rowV_succ h0, Int.zero_add]
    · rintro σ H2 ⟨z, rfl, S, hL⟩
      rw [Int.toNat_natCast] at hL
      exact ⟨_, rfl, q H2 p S nP hL⟩
/-! ### _law_doublings -/
def spDbl : Sp := fun vs H Q _ => ∃ m e : Nat, vs = [natV m] ∧ m ≤ 64 ∧ IsDbl m e ∧ ∀ H', Same H H' → Q (natV e) H'
theorem scDbl : FnScope ["_law_many", "_law_found", "_law_reach"] ["_law_many"] (defScope dDbl) := ⟨rfl, rfl, rfl, by decide +kernel, rfl, by decide +kernel, by decide +kernel⟩
theorem ok_dbl (T : Text K mg) : Keeps P w K mg base 1 "_law_doublings" ["_law_many"] spDbl := by
  refine T.dbl.keeps scDbl (fun vs H Q E h => ?_) (fun f cdv A fs s H vs Q E hr h => ?_)
  · obtain ⟨m, e, rfl, _⟩ := h
    rfl
  · obtain ⟨m, e, rfl, hl, he, q⟩ := h
    refine ⟨_, pss_cons (ps_asg (pe_tup (pa_cons pe_int (pa_cons pe_int pa_nil))) (pg_tup rfl (pgs_cons (pg_name (i := 1) scDbl.nd rfl (.inl rfl)) (pgs_cons (pg_name (i := 2) scDbl.nd rfl (.inl rfl)) pgs_nil))))
      (pss_cons (ps_while PassesOwn.never (pt_cmpR op_lt (pv 2) (pv 0) (nomark _))
        (pss_one (ps_par (i := 1) (j := 2) rfl scDbl.nd rfl rfl (by decide) rfl rfl (pa_cons (pe_op op_add (pv 1) pe_int) (pa_cons (pe_op op_add (pv 2) (pv 2)) pa_nil)) (by rfl))))
      (pss_one (ps_ret (pv 1)))), ?_⟩
    refine ⟨by show 2 ≤ sizeLine; decide, fun p0 hp0 => ⟨p0, _, rfl, SqT.of upd_same, rfl, _, _, rfl, _, _, rfl, rfl, ?_⟩⟩
    have S0 := same_upd (o := .tup [V.int 0, .int 1]) hp0
    refine ⟨fun n σ H' => Same H H' ∧ ∃ i : Nat, n = 64 - i ∧ σ = [some (natV m), some (natV i), some (natV (2 ^ i))] ∧ ∀ j, j < i → 2 ^ j < m, ⟨64, S0, 0, rfl, rfl, fun j hj => by omega⟩, ?_⟩
    rintro n σ H1 ⟨S, i, rfl, rfl, hi⟩
    refine ⟨_, rfl, _, rfl, _, _, rfl, rfl, _, rfl, ?_⟩
    by_cases h : 2 ^ i < m
    · refine iteDT (by omega) ?_
      have hi6 : i < 6 := by
        rcases Nat.lt_or_ge i 6 with z | z
        · exact z
        · have := Nat.pow_le_pow_right (show 0 < 2 by decide) z
          omega
      refine ⟨fun σ' H' => Same H H' ∧ σ' = [some (natV m), some (natV (i + 1)), some (natV (2 ^ (i + 1)))], fun σ' H' z => ⟨64 - (i + 1), by omega, z.1, i + 1, rfl, z.2, fun j hj => ?_⟩, ?_⟩
      · rcases Nat.lt_succ_iff_lt_or_eq.mp hj with z | rfl
        · exact hi j z
        · exact h
      · refine ⟨_, rfl, _, _, rfl, rfl, _, rfl, _, rfl, _, _, rfl, rfl, ?_⟩
        refine ⟨_, _, rfl, S, ?_⟩
        have e1 : (i : Int) + 1 = ((i + 1 : Nat) : Int) := by push_cast; rfl
        have e2 : ((2 ^ i : Nat) : Int) + ((2 ^ i : Nat) : Int) = ((2 ^ (i + 1) : Nat) : Int) := by rw [Nat.pow_succ]; push_cast; omega
        show [some (natV m), some (V.int ((i : Int) + 1)), some (V.int (((2 ^ i : Nat) : Int) + ((2 ^ i : Nat) : Int)))] = _
        rw [e1, e2]
    · refine iteDF (by omega) ?_
      have := dbl_uniq he (by omega) hi
      subst this
      exact ⟨_, rfl, q _ S⟩
/-! ### _law_looks -/
def spLooks : Sp := fun vs H Q _ => ∃ (a : Addr) (xs : List V) (d : V) (n : Int) (L : List Nat), vs = [.ref a] ∧ RowAt H a xs ∧ 2 ≤ xs.length ∧ xs.length ≤ 64 ∧ Sees xs d n L ∧
  ∀ H' r, Same H H' → H' r = some (.tup (L.map natV)) → Q (.ref r) H'
theorem scLooks : FnScope ["_law_row", "_law_found", "_law_known", "_law_beyond"] ["_law_row"] (defScope dLooks) := ⟨rfl, rfl, rfl, by decide +kernel, rfl, by decide +kernel, by decide +kernel⟩
theorem last_nat (l : List Nat) (x : Nat) : ((0 :: (l ++ [x])).map natV)[(0 :: (l ++ [x])).length - 1]? = some (natV x) := by
  rw [List.getElem?_map]
  have : (0 :: (l ++ [x]))[(0 :: (l ++ [x])).length - 1]? = some x := by
    show (0 :: (l ++ [x]))[(l ++ [x]).length + 1 - 1]? = some x
    rw [List.length_append]
    show (0 :: (l ++ [x]))[l.length + 1]? = some x
    rw [List.getElem?_cons_succ, List.getElem?_append_right (Nat.le_refl _), Nat.sub_self]
    rfl
  rw [this]
  rfl
theorem ok_looks (T : Text K mg) : Keeps P w K mg base 1 "_law_looks" ["_law_row"] spLooks := by
  refine T.looks.keeps scLooks (fun vs H Q E h => ?_) (fun f cdv A fs s H vs Q E hr h => ?_)
  · obtain ⟨a, xs, d, n, L, rfl, _⟩ := h
    rfl
  · obtain ⟨a, xs, d, n, L, rfl, ha, h2, hl, hs, q⟩ := h
    refine ⟨_, pss_cons (ps_if (pt_cmp (pc_isN (pe_ix ix_row (pv 0) pe_int (fun _ _ => rfl)))) (pss_one (ps_ret (pe_tup (pa_cons pe_int pa_nil)))) pss_nil)
      (pss_cons (ps_if (pt_cmpR op_eq (pe_ix ix_row (pv 0) pe_int (fun _ _ => rfl)) pe_str (nomark _))
        (pss_one (ps_ret (pe_tup (pa_cons pe_int (pa_cons (pe_op op_sub (pe_callB call_len_seq (by rfl) T.len PySem.boot_len (pa_cons (pv 0) pa_nil)) pe_int) pa_nil))))) pss_nil)
      (pss_cons (ps_par3 (i := 1) (j := 2) (l := 3) rfl scLooks.nd rfl rfl rfl (by decide) (by decide) (by decide) rfl rfl rfl (pa_cons (pe_lst (pa_cons pe_int pa_nil)) (pa_cons pe_int (pa_cons (pe_callB call_len_seq (by rfl) T.len PySem.boot_len (pa_cons (pv 0) pa_nil)) pa_nil))) (by rfl))
      (pss_cons (ps_while PassesOwn.never (pt_cmpR op_gt (pe_op op_sub (pv 3) (pv 2)) pe_int (nomark _))
        (pss_cons (ps_expr (pe_bm PySem.F.plainAttrs_list PySem.F.slot_list_append PySem.F.type_list_append mt_append (pv 1) (pa_cons (pe_op op_half (pe_op op_add (pv 2) (pv 3)) pe_int) pa_nil)))
        (pss_one (ps_if (pt_cmpR op_eq (pe_ix ix_row (pv 0) (pe_ix ix_row (pv 1) (pe_op op_sub (pe_callB call_len_seq (by rfl) T.len PySem.boot_len (pa_cons (pv 1) pa_nil)) pe_int) (fun _ _ => rfl)) (fun _ _ => rfl))
            (pe_op op_add (pe_ix ix_row (pv 0) pe_int (fun _ _ => rfl)) (pe_ix ix_row (pv 1) (pe_op op_sub (pe_callB call_len_seq (by rfl) T.len PySem.boot_len (pa_cons (pv 1) pa_nil)) pe_int) (fun _ _ => rfl))) (nomark _))
          (pss_one (ps_set (i := 2) scLooks.nd rfl (.inl rfl) (pe_ix ix_row (pv 1) (pe_op op_sub (pe_callB call_len_seq (by rfl) T.len PySem.boot_len (pa_cons (pv 1) pa_nil)) pe_int) (fun _ _ => rfl))))
          (pss_one (ps_set (i := 3) scLooks.nd rfl (.inl rfl) (pe_ix ix_row (pv 1) (pe_op op_sub (pe_callB call_len_seq (by rfl) T.len PySem.boot_len (pa_cons (pv 1) pa_nil)) pe_int) (fun _ _ => rfl))))))))
      (pss_one (ps_ret (pe_callTy call_tup (by rfl) T.tuple (by decide +kernel) (pa_cons (pv 1) pa_nil))))))), ?_⟩
    have e1 : ((xs.length : Nat) : Int) - 1 = ((xs.length - 1 : Nat) : Int) := by omega
    cases hs with
    | empty h =>
      refine ⟨_, rfl, a, xs, 0, 0, _, rfl, rfl, rfl, ha, h, true, rfl, iteT ?_⟩
      exact ⟨by show 1 ≤ sizeLine; decide, fun r hr => q _ r (same_upd hr) upd_same⟩
    | torn0 h hlast =>
      refine ⟨_, rfl, a, xs, 0, 0, _, rfl, rfl, rfl, ha, h, false, rfl, iteF ?_⟩
      refine ⟨_, rfl, a, xs, 0, 0, _, rfl, rfl, rfl, ha, h, rfl, _, rfl, iteDT rfl ?_⟩
      refine ⟨_, rfl, a, _, rfl, ha.seq, _, _, rfl, rfl, by show 2 ≤ sizeLine; decide, fun r hr => ?_⟩
      refine q _ r (same_upd hr) ?_
      rw [upd_same]
      show some (HO.tup [V.int 0, V.int (((xs.length : Nat) : Int) - 1)]) = _
      rw [e1]
      rfl
    | torn1 k h hlast =>
      refine ⟨_, rfl, a, xs, 0, 0, _, rfl, rfl, rfl, ha, h, false, rfl, iteF ?_⟩
      refine ⟨_, rfl, a, xs, 0, 0, _, rfl, rfl, rfl, ha, h, rfl, _, rfl, iteDT rfl ?_⟩
      refine ⟨_, rfl, a, _, rfl, ha.seq, _, _, rfl, rfl, by show 2 ≤ sizeLine; decide, fun r hr => ?_⟩
      refine q _ r (same_upd hr) ?_
      rw [upd_same]
      show some (HO.tup [V.int 0, V.int (((xs.length : Nat) : Int) - 1)]) = _
      rw [e1]
      rfl
    | lap b pr h hsee =>
      refine ⟨_, rfl, a, xs, 0, 0, _, rfl, rfl, rfl, ha, h, false, rfl, iteF ?_⟩
      refine ⟨_, rfl, a, xs, 0, 0, _, rfl, rfl, rfl, ha, h, rfl, _, rfl, iteDF (fun z => by cases z) ?_⟩
      refine ⟨by show 1 ≤ sizeLine; decide, fun D hD => ?_⟩
      have haD := ha.to (same_upd (o := .lst [V.int 0]) hD)
      refine ⟨_, rfl, a, _, rfl, haD.seq, ?_⟩
      refine ⟨_, _, _, rfl, ?_⟩
      have few : (srch pr 0 xs.length).2.length ≤ 6 := srch_len pr 6 0 xs.length (by show xs.length - 0 ≤ 64; omega)
      refine ⟨fun n σ H' => Same H H' ∧ ∃ (lo hi : Nat) (l : List Nat), n = hi - lo ∧ σ = [some (.ref a), some (.ref D), some (natV lo), some (natV hi)] ∧
        H' D = some (.lst ((0 :: l).map natV)) ∧ hi ≤ xs.length ∧ l ++ (srch pr lo hi).2 = (srch pr 0 xs.length).2, ⟨xs.length, same_upd hD, 0, xs.length, [], rfl, rfl, upd_same, Nat.le_refl _, rfl⟩, ?_⟩
      rintro n σ H1 ⟨S, lo, hi, l, rfl, rfl, hL, hle, hrest⟩
      refine ⟨_, rfl, _, rfl, _, _, rfl, rfl, _, _, rfl, rfl, _, rfl, ?_⟩
      by_cases hgo : 1 < hi - lo
      · refine iteDT (by show (1 : Int) < (hi : Int) - (lo : Int); omega) ?_
        refine ⟨fun σ' H' => Same H H' ∧ ∃ (lo' hi' : Nat), hi' - lo' < hi - lo ∧ σ' = [some (.ref a), some (.ref D), some (natV lo'), some (natV hi')] ∧
          H' D = some (.lst ((0 :: (l ++ [(lo + hi) / 2])).map natV)) ∧ hi' ≤ xs.length ∧ (l ++ [(lo + hi) / 2]) ++ (srch pr lo' hi').2 = (srch pr 0 xs.length).2,
          fun σ' H' ⟨S', lo', hi', h1, h2', h3, h4, h5⟩ => ⟨hi' - lo', h1, S', lo', hi', _, rfl, h2', h3, h4, h5⟩, ?_⟩
        have hll : l.length ≤ 6 := by
          have := congrArg List.length hrest
          rw [List.length_append] at this
          omega
        refine ⟨_, rfl, .inl ⟨rfl, _, SqL.of hL⟩, _, rfl, _, rfl, _, _, rfl, rfl, _, lo + hi, rfl, by push_cast; rfl, rfl, D, _, _, rfl, rfl, hL, small1000 (by rw [List.length_map, List.length_cons]; omega), ?_⟩
        have hmem : (lo + hi) / 2 ∈ (srch pr 0 xs.length).2 := by
          rw [← hrest]
          refine List.mem_append_right _ ?_
          cases hp : pr ((lo + hi) / 2) with
          | true => rw [srch_up hgo hp]; exact List.mem_cons_self
          | false => rw [srch_down hgo hp]; exact List.mem_cons_self
        obtain ⟨v, hv, pl, hdec⟩ := hsee _ hmem
        have eL : (0 :: l).map natV ++ [natV ((lo + hi) / 2)] = (0 :: (l ++ [(lo + hi) / 2])).map natV := by simp
        rw [eL]
        have S2 : Same H (upd H1 D (.lst ((0 :: (l ++ [(lo + hi) / 2])).map natV))) := S.put hD
        have hD2 : (upd H1 D (.lst ((0 :: (l ++ [(lo + hi) / 2])).map natV))) D = some (.lst ((0 :: (l ++ [(lo + hi) / 2])).map natV)) := upd_same
        generalize upd H1 D (.lst ((0 :: (l ++ [(lo + hi) / 2])).map natV)) = H2 at S2 hD2
        have ez : ((((0 :: (l ++ [(lo + hi) / 2])).map natV).length : Nat) : Int) - 1 = (((0 :: (l ++ [(lo + hi) / 2])).length - 1 : Nat) : Int) := by
          rw [List.length_map, List.length_cons]
          omega
        have hlast := last_nat l ((lo + hi) / 2)
        have ha2 := ha.to S2
        have seqD : SqL K H2 D ((0 :: (l ++ [(lo + hi) / 2])).map natV) ∨ SqT K H2 D ((0 :: (l ++ [(lo + hi) / 2])).map natV) := .inl (SqL.of hD2)
        refine ⟨_, rfl, _, rfl, _, rfl, D, _, rfl, seqD, _, _, rfl, rfl, D, _, _, _, _, rfl, rfl, ez, .inl hD2, hlast, a, xs, _, (lo + hi) / 2, v, rfl, rfl, rfl, ha2, hv, ?_⟩
        refine ⟨_, rfl, a, xs, 0, 0, _, rfl, rfl, rfl, ha2, h, _, rfl, _, rfl, D, _, rfl, seqD, _, _, rfl, rfl, D, _, _, _, _, rfl, rfl, ez, .inl hD2, hlast, _, _, rfl, rfl, scal_int pl _, _, rfl, ?_⟩
        rw [hdec]
        cases hp : pr ((lo + hi) / 2) with
        | true =>
          rw [srch_up hgo hp] at hrest
          refine iteT ⟨_, rfl, _, rfl, D, _, rfl, seqD, _, _, rfl, rfl, D, _, _, _, _, rfl, rfl, ez, .inl hD2, hlast, S2, (lo + hi) / 2, hi, by omega, rfl, hD2, hle, ?_⟩
          rw [List.append_assoc]
          exact hrest
        | false =>
          rw [srch_down hgo hp] at hrest
          refine iteF ⟨_, rfl, _, rfl, D, _, rfl, seqD, _, _, rfl, rfl, D, _, _, _, _, rfl, rfl, ez, .inl hD2, hlast, S2, lo, (lo + hi) / 2, by omega, rfl, hD2, by omega, ?_⟩
          rw [List.append_assoc]
          exact hrest
      · refine iteDF (by show ¬ (1 : Int) < (hi : Int) - (lo : Int); omega) ?_
        rw [srch_stop hgo] at hrest
        rw [← hrest, List.append_nil] at q
        exact ⟨_, rfl, D, _, rfl, .inl hL, fun H2 r S2 hr => q _ r (S.trans S2) hr⟩
end
end K26

/-! k26: data that is shown; the law's own test of one ring. -/
namespace K26
open PySem PySem.Spec PyProof.Rows L2

/-! ### data that is shown -/
inductive Tiny : PyData → Prop
  | none : Tiny .none
  | torn : Tiny (.str tornT)
  | int (i : Int) (h : i.natAbs ≤ 1000) : Tiny (.int i)
theorem log_tiny {i : Int} (h : i.natAbs ≤ 1000) : i.natAbs.log2 < 10 := by
  by_cases h0 : i.natAbs = 0
  · rw [h0]
    decide
  · exact (Nat.log2_lt h0).mpr (by omega)
theorem Tiny.all {d : PyData} (h : Tiny d) : d.showable = true ∧ d.hasDict = false ∧ d.depth = 0 ∧ d.canLay0 = true ∧ d.weight ≤ 11 ∧ d.intsShort 13 = true := by
  cases h with
  | none => exact ⟨rfl, rfl, rfl, rfl, Nat.zero_le _, rfl⟩
  | torn => exact ⟨rfl, rfl, rfl, lay_torn, by decide +kernel, rfl⟩
  | int i h =>
    have := log_tiny h
    refine ⟨?_, rfl, rfl, rfl, ?_, ?_⟩
    · show decide (i.natAbs.log2 < 1920) = true
      exact decide_eq_true (by omega)
    · show (if (i == 0) = true then 0 else i.natAbs.log2 + 1) ≤ 11
      split <;> omega
    · show decide ((PyData.shown (.int i)).length ≤ 13) = true
      exact decide_eq_true (PyData.shown_int_le (by omega))
theorem tiny_all : ∀ {ds : List PyData}, (∀ d ∈ ds, Tiny d) → PyData.showableAll ds = true ∧ PyData.hasDictAll ds = false ∧ PyData.depthAll ds = 0 ∧ PyData.canLayAll0 ds = true ∧ PyData.weightAll ds ≤ 12 * ds.length ∧ PyData.intsShortAll 13 ds = true
  | [], _ => ⟨rfl, rfl, rfl, rfl, Nat.le_refl _, rfl⟩
  | d :: ds, h => by
    obtain ⟨a1, a2, a3, a4, a5, a6⟩ := (h d List.mem_cons_self).all
    obtain ⟨b1, b2, b3, b4, b5, b6⟩ := tiny_all fun u hu => h u (List.mem_cons_of_mem _ hu)
    simp only [PyData.showableAll, PyData.hasDictAll, PyData.depthAll, PyData.canLayAll0, PyData.weightAll, PyData.intsShortAll, a1, a2, a3, a4, a6, b1, b2, b3, b4, b6, List.length_cons]
    refine ⟨rfl, rfl, rfl, rfl, ?_, rfl⟩
    omega
structure Shows (d : PyData) : Prop where
  sh : d.showable = true
  nd : d.hasDict = false
  dp : d.depth ≤ 60
  fit : d.shown.length ≤ sizeLine
theorem shows_row {ds : List PyData} (h : ∀ d ∈ ds, Tiny d) (hl : ds.length ≤ 100) : Shows (.tuple ds) := by
  obtain ⟨b1, b2, b3, b4, b5, b6⟩ := tiny_all h
  refine ⟨by simpa only [PyData.showable] using b1, by simpa only [PyData.hasDict] using b2, by simp only [PyData.depth]; omega, ?_⟩
  refine PyData.shown_fits_of_layable0 (B := 13) (by decide) (by decide) ?_ (by simpa only [PyData.intsShort] using b6)
  have e : (2 : Nat) ^ 20 = 1048576 := by decide
  simp only [PyData.layable0, PyData.canLay0, PyData.depth, PyData.weight, b4, b3, Bool.true_and, Bool.and_eq_true, decide_eq_true_eq, e]
  exact ⟨by decide, by omega⟩
theorem shows_two {d1 d2 : PyData} {ds : List PyData} (h1 : Tiny d1) (h2 : Tiny d2) (h : ∀ d ∈ ds, Tiny d) (hl : ds.length ≤ 100) : Shows (.tuple [d1, d2, .tuple ds]) := by
  obtain ⟨b1, b2, b3, b4, b5, b6⟩ := tiny_all h
  obtain ⟨p1, p2, p3, p4, p5, p6⟩ := h1.all
  obtain ⟨q1, q2, q3, q4, q5, q6⟩ := h2.all
  refine ⟨by simp only [PyData.showable, PyData.showableAll, b1, p1, q1]; rfl, by simp only [PyData.hasDict, PyData.hasDictAll, b2, p2, q2]; rfl, by simp only [PyData.depth, PyData.depthAll, b3, p3, q3]; decide, ?_⟩
  refine PyData.shown_fits_of_layable0 (B := 13) (by decide) (by decide) ?_ (by simp only [PyData.intsShort, PyData.intsShortAll, b6, p6, q6]; rfl)
  have e : (2 : Nat) ^ 20 = 1048576 := by decide
  simp only [PyData.layable0, PyData.canLay0, PyData.canLayAll0, PyData.depth, PyData.depthAll, PyData.weight, PyData.weightAll, b4, p4, q4, b3, p3, q3, Bool.true_and, Bool.and_true, Bool.and_eq_true, decide_eq_true_eq, e]
  exact ⟨by decide, by omega⟩
theorem tiny_nat {n : Nat} (h : n ≤ 1000) : Tiny (.int (n : Int)) := .int _ (by omega)
theorem tiny_row {c : Nat} {xs : List V} (h : ∀ v ∈ xs, v = .str tornT ∨ v = .non ∨ ∃ n : Nat, v = .int (n : Int) ∧ n < c) (hc : c ≤ 1000) : ∀ d ∈ xs.map datV, Tiny d := by
  intro d hd
  obtain ⟨v, hv, rfl⟩ := List.mem_map.mp hd
  rcases h v hv with rfl | rfl | ⟨n, rfl, hn⟩
  · exact .torn
  · exact .none
  · exact tiny_nat (by omega)
theorem IsRow.mem {m c : Nat} {xs : List V} (h : IsRow m c xs) : ∀ v ∈ xs, v = .str tornT ∨ v = .non ∨ ∃ n : Nat, v = .int (n : Int) ∧ n < c := by
  rcases h with rfl | rfl
  · exact fun v hv => .inr (rowV_mem hv)
  · exact fun v hv => tornV_mem hv
theorem shows_isRow {m c : Nat} {xs : List V} (h : IsRow m c xs) (hm : m ≤ 64) (hc : c ≤ 1000) : Shows (.tuple (xs.map datV)) :=
  shows_row (tiny_row h.mem hc) (by rw [List.length_map, h.len]; omega)
/-- what newest tells, as data -/
def datF (c : Nat) (L : List Nat) : PyData := .tuple [datV (dueV c), .int (c : Int), .tuple ((L.map natV).map datV)]
theorem tiny_due {c : Nat} (hc : c ≤ 1000) : Tiny (datV (dueV c)) := by
  unfold dueV
  split
  · exact .int _ (by omega)
  · exact .none
theorem tiny_nats {L : List Nat} {n : Nat} (h : ∀ x ∈ L, x < n) (hn : n ≤ 1000) : ∀ d ∈ (L.map natV).map datV, Tiny d := by
  intro d hd
  rw [List.map_map] at hd
  obtain ⟨x, hx, rfl⟩ := List.mem_map.mp hd
  have := h x hx
  exact tiny_nat (by omega)
theorem shows_datF {c n : Nat} {L : List Nat} (hc : c ≤ 1000) (h : ∀ x ∈ L, x < n) (hn : n ≤ 1000) (hl : L.length ≤ 100) : Shows (datF c L) :=
  shows_two (tiny_due hc) (tiny_nat hc) (tiny_nats h hn) (by rw [List.length_map, List.length_map]; exact hl)
theorem plain_due (c : Nat) : plainV (dueV c) := by
  unfold dueV
  split <;> exact trivial
theorem dp_datF {K : PySem.W.Frag} {H : Hp} {c : Nat} {L : List Nat} {p r : Addr} (hr : H r = some (.tup (L.map natV))) (hp : H p = some (.tup [dueV c, .int (c : Int), .ref r])) : Dp K H (.ref p) (datF c L) :=
  .tup (SqT.of hp) (.cons (dp_of (plain_due c)) (.cons (.int _) (.cons (.tup (SqT.of hr) (dps_of fun v hv => by
    obtain ⟨x, _, rfl⟩ := List.mem_map.mp hv
    exact trivial)) .nil)))
theorem dp_two {K : PySem.W.Frag} {H : Hp} {a b : Int} {p : Addr} (hp : H p = some (.tup [.int a, .int b])) : Dp K H (.ref p) (.tuple [.int a, .int b]) :=
  .tup (SqT.of hp) (.cons (.int _) (.cons (.int _) .nil))
theorem show_of {K : PySem.W.Frag} {H : Hp} {Q : VK} {b : Addr} {d : PyData} (h : Dp K H (.ref b) d) (S : Shows d) (q : Q (.str d.shown) H) : rShow K [.ref b] H Q := ⟨b, d, rfl, h, S.sh, S.nd, S.dp, S.fit, q⟩

/-! ### heaps: all but one -/
def But (b : Addr) (H H' : Hp) : Prop := ∀ x o, x ≠ b → H x = some o → H' x = some o
theorem But.of {b : Addr} {H H' : Hp} (S : Same H H') : But b H H' := fun x o _ e => S x o e
theorem But.trans {b : Addr} {H H1 H2 : Hp} (a : But b H H1) (c : But b H1 H2) : But b H H2 := fun x o n e => c x o n (a x o n e)
theorem But.at {b : Addr} {H : Hp} {o : HO} : But b H (upd H b o) := fun x u n e => by
  rw [upd_ne n]
  exact e
theorem But.put {b a : Addr} {H H1 : Hp} {o : HO} (B : But b H H1) (n : H a = none) : But b H (upd H1 a o) := fun x u nx e => by
  rw [upd_ne (ne_of_none e n)]
  exact B x u nx e

/-! ### weaker readings -/
theorem _root_.L2.PE.weak {X : Cx} {e : Expr} {t t' : TE} (h : PE X e t) (wk : ∀ σ H Q, t' σ H Q → t σ H Q) : PE X e t' := ⟨fun pins s σ H Q I z => h.run pins s σ H Q I (wk σ H Q z)⟩
def tDue (i : Nat) : TE := fun σ H Q => ∃ c : Nat, σ[i]? = some (some (natV c)) ∧ Q (dueV c) H
theorem due_weak (i : Nat) (σ : L2.St) (H : Hp) (Q : VK) (h : tDue i σ H Q) : tIf (tTest (tOp (rI0 fun i j => .bl (decide (j < i))) (tVar i) (tC (.int 0)))) (tOp (rI0 fun i j => .int (i - j)) (tVar i) (tC (.int 1))) (tC .non) σ H Q := by
  obtain ⟨c, hc, q⟩ := h
  refine ⟨_, hc, _, _, rfl, rfl, _, rfl, ?_⟩
  unfold dueV at q
  by_cases z : 0 < c
  · rw [if_pos z] at q
    exact iteDT (by omega) ⟨_, hc, _, _, rfl, rfl, q⟩
  · rw [if_neg z] at q
    exact iteDF (by omega) q
/-- is it among these numbers? -/
theorem inV_nats (x : Nat) : ∀ L : List Nat, inV (natV x) (L.map natV) = decide (x ∈ L)
  | [] => by simp [inV]
  | y :: L => by
    have ih := inV_nats x L
    unfold inV at ih ⊢
    rw [List.map_cons, List.any_cons, ih]
    have e : eqV (natV y) (natV x) = decide (x = y) := by
      show decide _ = decide _
      by_cases z : x = y
      · subst z
        simp
      · have : ¬ ((y : Int) = (x : Int)) := by omega
        simp [z, this]
    rw [e]
    by_cases z : x = y <;> simp [z]
theorem flat_nats (L : List Nat) : (L.map natV).all flatV = true := by
  rw [List.all_eq_true]
  intro v hv
  obtain ⟨x, _, rfl⟩ := List.mem_map.mp hv
  rfl
end K26

/-! k26: _law_right. -/
namespace K26
open PySem PySem.Spec PyProof.Rows L2
section
variable {P : Program} {w : World} {K : PySem.W.Frag} {mg : Str → Option Value} {base : Heap}
def spRight : Sp := fun vs H Q _ => ∃ (b : Addr) (g r : Int) (m c : Nat) (t : Bool), vs = [.ref b, natV m, natV c, .bl t] ∧ H b = some (.lst [.int g, .int r]) ∧ 2 ≤ m ∧ m ≤ 64 ∧ c ≤ 1000 ∧ ∀ H', But b H H' → Q (.bl true) H'
theorem scRight : FnScope ["_law_box_here", "_law_many", "_law_count", "_law_is_torn", "_law_row", "_law_told", "_law_found", "_law_due", "_law_slot"] ["_law_box_here", "_law_many", "_law_count", "_law_is_torn"] (defScope dRight) :=
  ⟨rfl, rfl, rfl, by decide +kernel, rfl, by decide +kernel, by decide +kernel⟩
theorem log_nat {n : Nat} (h : n ≤ 1000) : ((n : Int)).natAbs.log2 < 1920 := by
  have := log_tiny (i := (n : Int)) (by omega)
  omega
theorem ok_right (T : Text K mg) : ∃ f, mg "_law_right" = some (.ref f) ∧ PySem.W.keepIn K (.ref f) = true ∧ FnG P w K mg base 8 f spRight := by
  have O1 := ok_laid (P := P) (w := w) (base := base) T
  have O2 := ok_torn (P := P) (w := w) (base := base) T
  have O3 := okK_ring (P := P) (w := w) (base := base) T
  have O4 := ok_isRing (P := P) (w := w) (base := base) T
  have O5 := ok_pick (P := P) (w := w) (base := base) T
  have O6 := ok_newest (P := P) (w := w) (base := base) T
  have O7 := ok_looks (P := P) (w := w) (base := base) T
  have O8 := ok_dbl (P := P) (w := w) (base := base) T
  have O9 := ok_goes (P := P) (w := w) (base := base) T
  have O10 := ok_slotOf (P := P) (w := w) (base := base) T
  have O11 := ok_most (P := P) (w := w) (base := base) T
  obtain ⟨f, fd, F, atf, bd⟩ := T.right
  refine ⟨f, atf, F.kp, fnG_of F bd scRight (fun vs H Q E h => ?_) (fun cdv A fs s H vs Q hr gs h => ?_)⟩
  · obtain ⟨b, g, r, m, c, t, rfl, _⟩ := h
    rfl
  · obtain ⟨b, g, r, m, c, t, rfl, hb, h2, hl, hc, q⟩ := h
    have hu := hr.units
    refine ⟨_, pss_cons (ps_set (i := 4) scRight.nd rfl (.inl rfl) (pe_keeps O1 (hr.mono (by decide)) (by rfl) (pa_cons (pv 1) (pa_cons (pv 2) pa_nil))))
      (C8.pss_cut (ps_if (pt_val (pv 3)) (pss_one (ps_asg pe_str (pg_sub (pv 4) (pe_op op_modNat (pe_callTy call_int1 (by rfl) T.int (by decide +kernel) (pa_cons (pv 2) pa_nil)) (pv 1)) set_list))) pss_nil)
      (C8.pss_cut (ps_set (i := 5) scRight.nd rfl (.inl rfl) (pe_ifExp (pt_val (pv 3)) (pe_keeps O2 (hr.mono (by decide)) (by rfl) (pa_cons (pv 1) (pa_cons (pv 2) pa_nil))) (pe_keepsK O3 (hr.mono (by decide)) (by rfl) (pk_cons (pv 2) (pk_cons (pv 1) pk_nil)))))
      (C8.pss_cut (ps_if (PW.pt (pw_or (pt_cmpR op_ne (pe_callB (call_show gs hu) (by rfl) T.repr (by decide +kernel) (pa_cons (pv 5) pa_nil)) (pe_callB (call_show gs hu) (by rfl) T.repr (by decide +kernel) (pa_cons (pe_callTy call_tup (by rfl) T.tuple (by decide +kernel) (pa_cons (pv 4) pa_nil)) pa_nil)) (nomark _))
          (pw_or1 (pt_cmpR op_notBl (pe_keeps O4 hr (by rfl) (pa_cons (pe_keeps O5 (hr.mono (by decide)) (by rfl) (pa_cons (pv 0) (pa_cons (pe_lst (pa_cons (pv 4) (pa_cons (pe_callTy call_tup (by rfl) T.tuple (by decide +kernel) (pa_cons (pv 4) pa_nil)) pa_nil))) pa_nil))) pa_nil)) pe_bl (nomark _)))))
        (pss_one ps_never) pss_nil)
      (pss_cons (ps_set (i := 6) scRight.nd rfl (.inl rfl) (pe_keeps O6 (hr.mono (by decide)) (by rfl) (pa_cons (pe_callTy call_tup (by rfl) T.tuple (by decide +kernel) (pa_cons (pv 4) pa_nil)) pa_nil)))
      (pss_cons (ps_set (i := 7) scRight.nd rfl (.inl rfl) (pe_tup (pa_cons (PE.weak (pe_ifExp (pt_cmpR op_gt (pv 2) pe_int (nomark _)) (pe_op op_sub (pv 2) pe_int) pe_non) (due_weak 2)) (pa_cons (pv 2) pa_nil))))
      (C8.pss_cut (ps_if (PW.pt (pw_or (pt_cmpR op_ne (pe_callB (call_show gs hu) (by rfl) T.repr (by decide +kernel) (pa_cons (pv 6) pa_nil))
            (pe_callB (call_show gs hu) (by rfl) T.repr (by decide +kernel) (pa_cons (pe_op op_catP (pv 7) (pe_tup (pa_cons (pe_keeps O7 (hr.mono (by decide)) (by rfl) (pa_cons (pv 4) pa_nil)) pa_nil))) pa_nil)) (nomark _))
          (pw_or1 (pt_cmpR op_gt (pe_callB call_len_seq (by rfl) T.len PySem.boot_len (pa_cons (pe_ix ix_row (pv 6) pe_int (fun _ _ => rfl)) pa_nil)) (pe_op op_add pe_int (pe_keeps O8 (hr.mono (by decide)) (by rfl) (pa_cons (pv 1) pa_nil))) (nomark _)))))
        (pss_one ps_never) pss_nil)
      (C8.pss_cut (ps_for PassesOwn.never rfl (pi_range1 rfl T.range (pa_cons (pv 1) pa_nil)) (pg_name (i := 8) scRight.nd rfl (.inl rfl))
        (pss_one (ps_if (pt_cmpR op_notIn_seq (pv 8) (pe_ix ix_row (pv 6) pe_int (fun _ _ => rfl)) (by rfl))
          (pss_one (ps_asg (pe_keeps O5 (hr.mono (by decide)) (by rfl) (pa_cons (pv 0) (pa_cons (pe_lst (pa_cons pe_non (pa_cons pe_str (pa_cons (pv 2) (pa_cons (pe_op op_add (pv 2) (pv 1)) (pa_cons (pv 8) (pa_cons (pe_op op_sub pe_int pe_int) (pa_cons (pe_tup pa_nil) pa_nil)))))))) pa_nil)))
            (pg_sub (pv 4) (pv 8) set_list))) pss_nil)))
      (C8.pss_cut (ps_if (PW.pt (pw_or (pt_cmpR op_ne (pe_callB (call_show gs hu) (by rfl) T.repr (by decide +kernel) (pa_cons (pe_keeps O6 (hr.mono (by decide)) (by rfl) (pa_cons (pv 4) pa_nil)) pa_nil)) (pe_callB (call_show gs hu) (by rfl) T.repr (by decide +kernel) (pa_cons (pv 6) pa_nil)) (nomark _))
          (pw_or1 (pt_cmpR op_ne (pe_callB (call_show gs hu) (by rfl) T.repr (by decide +kernel) (pa_cons (pe_keeps O9 (hr.mono (by decide)) (by rfl) (pa_cons (pv 4) pa_nil)) pa_nil))
            (pe_callB (call_show gs hu) (by rfl) T.repr (by decide +kernel) (pa_cons (pe_tup (pa_cons (pe_op op_modNat (pe_callTy call_int1 (by rfl) T.int (by decide +kernel) (pa_cons (pv 2) pa_nil)) (pv 1)) (pa_cons (pv 2) pa_nil))) pa_nil)) (nomark _)))))
        (pss_one ps_never) pss_nil)
      (pss_one (ps_ret (pe_and (pe_cmpR op_eq (pe_callB SkE.call_repr_int (by rfl) T.repr (by decide +kernel) (pa_cons (pe_keeps O10 (hr.mono (by decide)) (by rfl) (pa_cons (pv 1) (pa_cons (pv 2) pa_nil))) pa_nil))
            (pe_callB SkE.call_repr_int (by rfl) T.repr (by decide +kernel) (pa_cons (pe_op op_mod (pe_callTy call_int1 (by rfl) T.int (by decide +kernel) (pa_cons (pv 2) pa_nil)) (pv 1)) pa_nil)) (nomark _))
          (pe_one (pe_cmpR op_eq (pe_callB SkE.call_repr_int (by rfl) T.repr (by decide +kernel) (pa_cons (pe_keeps O11 (hr.mono (by decide)) (by rfl) (pa_cons (pv 1) pa_nil)) pa_nil))
            (pe_callB SkE.call_repr_int (by rfl) T.repr (by decide +kernel) (pa_cons (pe_op op_add pe_int (pe_keeps O8 (hr.mono (by decide)) (by rfl) (pa_cons (pv 1) pa_nil))) pa_nil)) (nomark _)))))))))))))), ?_⟩
    refine ⟨_, rfl, _, rfl, m, c, rfl, by omega, hl, hc, fun H1 R S1 nR hR => ?_⟩
    obtain ⟨e, he⟩ := dbl_ex m
    have neRb : R ≠ b := (ne_of_none hb nR).symm
    -- the row, its next slot torn or not
    refine ⟨fun σ H' => σ = [some (.ref b), some (natV m), some (natV c), some (.bl t), some (.ref R), none, none, none, none] ∧ Same H H' ∧ H' R = some (.lst (if t = true then tornV m c else rowV m c)), ?_, ?_⟩
    · cases t with
      | false => exact ⟨_, rfl, false, rfl, iteF ⟨rfl, S1, hR⟩⟩
      | true => exact ⟨_, rfl, true, rfl, iteT ⟨_, rfl, _, rfl, .inl ⟨_, rfl, _, rfl, c, m, rfl, rfl, by omega, R, _, _, c % m, rfl, rfl, hR, by rw [rowV_len]; exact ixN_nat (Nat.mod_lt _ (by omega)), rfl, S1.put nR, upd_same⟩⟩⟩
    rintro σ H2 ⟨rfl, S02, hR2⟩
    -- what is told of it
    refine ⟨fun σ H' => ∃ (p : Addr) (xs : List V), σ = [some (.ref b), some (natV m), some (natV c), some (.bl t), some (.ref R), some (.ref p), none, none, none] ∧ Same H H' ∧ IsRow m c xs ∧ H' R = some (.lst xs) ∧ H' p = some (.tup xs), ?_, ?_⟩
    · cases t with
      | false => exact ⟨_, rfl, false, rfl, iteF ⟨_, rfl, _, rfl, m, c, rfl, h2, hl, fun H3 p S3 hp => ⟨p, rowV m c, rfl, S02.trans S3, .inl rfl, S3 _ _ hR2, hp⟩⟩⟩
      | true => exact ⟨_, rfl, true, rfl, iteT ⟨_, rfl, _, rfl, m, c, rfl, h2, hl, fun H3 p S3 hp => ⟨p, tornV m c, rfl, S02.trans S3, .inr rfl, S3 _ _ hR2, hp⟩⟩⟩
    rintro σ H3 ⟨p, xs, rfl, S03, W, hR3, hp⟩
    have shown := shows_isRow W hl hc
    have plain : ∀ v ∈ xs, plainV v := fun v hv => (W.rowy v hv).plain
    -- repr(told) == repr(tuple(row)), is_ring_row
    refine ⟨fun σ H' => σ = [some (.ref b), some (natV m), some (natV c), some (.bl t), some (.ref R), some (.ref p), none, none, none] ∧ But b H H' ∧ (∃ g r : Int, H' b = some (.lst [.int g, .int r])) ∧ H' R = some (.lst xs), ?_, ?_⟩
    · refine ⟨_, rfl, ⟨_, _, rfl, (.tup (SqT.of hp) (dps_of plain)), shown.sh, shown.nd, shown.dp, shown.fit, ?_⟩⟩
      refine ⟨_, rfl, R, xs, rfl, .inl hR3, fun H4 p4 S4 hp4 => ⟨_, _, rfl, (.tup (SqT.of hp4) (dps_of plain)), shown.sh, shown.nd, shown.dp, shown.fit, ?_⟩⟩
      refine ⟨rfl, _, rfl, iteNS rfl ?_⟩
      have S04 := S03.trans S4
      have hb4 := S04 _ _ hb
      have hR4 := S4 _ _ hR3
      refine ⟨_, rfl, _, rfl, _, rfl, R, xs, rfl, .inl hR4, fun H5 p5 S5 hp5 => ⟨by show 2 ≤ sizeLine; decide, fun l nl => ?_⟩⟩
      have S5l : Same H5 (upd H5 l (.lst [.ref R, .ref p5])) := same_upd nl
      have S0l := (S04.trans S5).trans S5l
      have neLb : l ≠ b := (ne_of_none (S5 _ _ hb4) nl).symm
      refine ⟨b, g, r, l, _, rfl, S0l _ _ hb, upd_same, neLb, by show 0 < 2; decide, by show 2 ≤ 1000; decide, fun v g' r' hv => ?_⟩
      have nePb : p5 ≠ b := ne_of hp5 (S5 _ _ hb4) (fun z => by cases z)
      have hR6 : upd (upd H5 l (.lst [.ref R, .ref p5])) b (.lst [.int g', .int r']) R = some (.lst xs) := by
        rw [upd_ne neRb]
        exact S5l _ _ (S5 _ _ hR4)
      have hp6 : upd (upd H5 l (.lst [.ref R, .ref p5])) b (.lst [.int g', .int r']) p5 = some (.tup xs) := by
        rw [upd_ne nePb]
        exact S5l _ _ hp5
      have B6 : But b H (upd (upd H5 l (.lst [.ref R, .ref p5])) b (.lst [.int g', .int r'])) := (But.of S0l).trans But.at
      have hb6 : upd (upd H5 l (.lst [.ref R, .ref p5])) b (.lst [.int g', .int r']) b = some (.lst [.int g', .int r']) := upd_same
      generalize upd (upd H5 l (.lst [.ref R, .ref p5])) b (.lst [.int g', .int r']) = H6 at hR6 hp6 B6 hb6
      obtain ⟨a', rfl, ha'⟩ : ∃ a', v = .ref a' ∧ RowAt H6 a' xs := by
        rcases List.mem_cons.mp hv with z | z
        · exact ⟨R, z, .inl hR6⟩
        · exact ⟨p5, List.mem_singleton.mp z, .inr hp6⟩
      refine ⟨a', xs, m, c, rfl, ha', W, h2, hl, fun H7 S7 => ?_⟩
      exact ⟨true, true, rfl, rfl, _, rfl, iteNS rfl ⟨rfl, B6.trans (But.of S7), ⟨_, _, S7 _ _ hb6⟩, S7 _ _ hR6⟩⟩
    rintro σ H7 ⟨rfl, B7, ⟨g7, r7, hb7⟩, hR7⟩
    obtain ⟨L, hs⟩ := W.sees h2
    have len := W.len
    have inL : ∀ x ∈ L, x < m := fun x hx => by
      have := hs.lt (by omega) x hx
      omega
    have lenL : L.length ≤ 1 + e := hs.len (by rw [len]; exact he) (by omega)
    have e6 := dbl_le he hl
    have shF : Shows (datF c L) := shows_datF hc inL (by omega) (by omega)
    -- found = newest(tuple(row)); due
    refine ⟨_, rfl, R, xs, rfl, .inl hR7, fun H8 p8 S8 hp8 => ⟨p8, xs, dueV c, c, L, rfl, .inr hp8, by omega, by omega, hs, fun H9 p9 r9 S9 hr9 hp9 => ?_⟩⟩
    refine ⟨c, rfl, _, rfl, by show 2 ≤ sizeLine; decide, fun u nu => ?_⟩
    have Su : Same H9 (upd H9 u (.tup [dueV c, natV c])) := same_upd nu
    have hu10 : upd H9 u (.tup [dueV c, natV c]) u = some (.tup [dueV c, natV c]) := upd_same
    have hr10 := Su _ _ hr9
    have hp10 := Su _ _ hp9
    have hR10 := Su _ _ (S9 _ _ (S8 _ _ hR7))
    have S710 := S8.trans (S9.trans Su)
    generalize upd H9 u (.tup [dueV c, natV c]) = H10 at Su hu10 hr10 hp10 hR10 S710
    generalize hF : datF c L = F at shF
    refine ⟨fun σ H' => σ = [some (.ref b), some (natV m), some (natV c), some (.bl t), some (.ref R), some (.ref p), some (.ref p9), some (.ref u), none] ∧ Same H10 H', ?_, ?_⟩
    · refine ⟨_, rfl, ⟨_, F, rfl, (by rw [← hF]; exact dp_datF hr10 hp10), shF.sh, shF.nd, shF.dp, shF.fit, ?_⟩⟩
      refine ⟨_, rfl, _, rfl, R, xs, dueV c, c, L, rfl, .inl hR10, by omega, by omega, hs, fun H11 r11 S11 hr11 => ⟨by show 1 ≤ sizeLine; decide, fun p12 np12 => ?_⟩⟩
      have S12 : Same H11 (upd H11 p12 (.tup [.ref r11])) := same_upd np12
      refine ⟨u, p12, _, _, rfl, rfl, S12 _ _ (S11 _ _ hu10), upd_same, by show 2 + 1 ≤ 1000; decide, fun H13 p13 S13 hp13 => ?_⟩
      refine ⟨_, F, rfl, (by rw [← hF]; exact dp_datF (S13 _ _ (S12 _ _ hr11)) hp13), shF.sh, shF.nd, shF.dp, shF.fit, ?_⟩
      refine ⟨rfl, _, rfl, iteNS rfl ?_⟩
      have S1013 := S11.trans (S12.trans S13)
      have hr13 := S1013 _ _ hr10
      have hp13' := S1013 _ _ hp10
      refine ⟨_, rfl, p9, _, 2, 2, _, rfl, rfl, rfl, .inr hp13', rfl, r9, _, rfl, .inr (SqT.of hr13), _, rfl, m, e, rfl, hl, he, fun H14 S14 => ⟨_, _, rfl, rfl, _, _, rfl, rfl, _, rfl, iteDF ?_ ?_⟩⟩
      · rw [List.length_map]
        omega
      · exact ⟨rfl, S1013.trans S14⟩
    rintro σ H14 ⟨rfl, S14⟩
    have S714 := S710.trans S14
    have B14 := B7.trans (But.of S714)
    have hb14 := S714 _ _ hb7
    have hR14 := S714 _ _ hR7
    have hr14 := S14 _ _ hr10
    have hp14 := S14 _ _ hp10
    -- the other slots
    refine ⟨fun σ H' => ∃ (z : Option V) (ys : List V) (g r : Int), σ = [some (.ref b), some (natV m), some (natV c), some (.bl t), some (.ref R), some (.ref p), some (.ref p9), some (.ref u), z] ∧
      But b H H' ∧ H' b = some (.lst [.int g, .int r]) ∧ H' R = some (.lst ys) ∧ ys.length = m ∧ (∀ x ∈ L, ys[x]? = xs[x]?) ∧ H' r9 = some (.tup (L.map natV)) ∧ H' p9 = some (.tup [dueV c, .int (c : Int), .ref r9]), ?_, ?_⟩
    · refine ⟨_, rfl, (m : Int), rfl, by omega, by omega, ?_⟩
      refine for_range (lo := 0) (n := ((m : Nat) : Int).toNat) (fun i σ H' => ∃ (z : Option V) (ys : List V) (g r : Int), σ = [some (.ref b), some (natV m), some (natV c), some (.bl t), some (.ref R), some (.ref p), some (.ref p9), some (.ref u), z] ∧
        But b H H' ∧ H' b = some (.lst [.int g, .int r]) ∧ H' R = some (.lst ys) ∧ ys.length = m ∧ (∀ x ∈ L, ys[x]? = xs[x]?) ∧ H' r9 = some (.tup (L.map natV)) ∧ H' p9 = some (.tup [dueV c, .int (c : Int), .ref r9]))
        ⟨none, xs, _, _, rfl, B14, hb14, hR14, len, fun _ _ => rfl, hr14, hp14⟩ ?_ (fun σ H' z => z)
      rintro i σ H1 hi ⟨z, ys, g, r, rfl, B, hb, hR, hys, hag, hr9, hp9⟩
      rw [Int.toNat_natCast] at hi
      rw [Int.zero_add]
      refine ⟨_, rfl, _, rfl, p9, _, 2, 2, _, rfl, rfl, rfl, .inr hp9, rfl, r9, _, rfl, .inr (SqT.of hr9), rfl, flat_nats L, _, rfl, ite2 (fun hk => ?_) (fun hk => ?_)⟩
      · have ni : i ∉ L := fun z => by
          have hk' : (!inV (natV i) (L.map natV)) = true := hk
          rw [inV_nats, decide_eq_true z] at hk'
          cases hk'
        refine ⟨_, rfl, _, rfl, _, rfl, _, rfl, _, _, rfl, rfl, _, rfl, _, _, rfl, rfl, by show 0 ≤ sizeLine; decide, fun e0 ne0 => ⟨by show 7 ≤ sizeLine; decide, fun l nl => ?_⟩⟩
        have S1 : Same H1 (upd H1 e0 (.tup [])) := same_upd ne0
        have neLb : l ≠ b := (ne_of_none (S1 _ _ hb) nl).symm
        have n1 : p9 ≠ b := ne_of hp9 hb (fun z => by cases z)
        have n2 : r9 ≠ b := ne_of hr9 hb (fun z => by cases z)
        have n3 : p9 ≠ R := ne_of hp9 hR (fun z => by cases z)
        have n4 : r9 ≠ R := ne_of hr9 hR (fun z => by cases z)
        refine ⟨b, g, r, l, _, rfl, same_upd nl _ _ (S1 _ _ hb), upd_same, neLb, by show 0 < 7; decide, by show 7 ≤ 1000; decide, fun v g' r' hv => ?_⟩
        refine ⟨_, rfl, _, rfl, R, ys, i, i, rfl, rfl, by rw [upd_ne neRb]; exact same_upd nl _ _ (S1 _ _ hR), ixN_nat (by omega), ?_⟩
        refine ⟨_, ys.set i v, g', r', rfl, ((B.trans (But.of (S1.trans (same_upd nl)))).trans But.at).put nR, by rw [upd_ne neRb.symm, upd_same], upd_same, by rw [List.length_set]; exact hys, fun x hx => ?_, ?_, ?_⟩
        · rw [List.getElem?_set_ne (fun (z : i = x) => ni (by rw [z]; exact hx))]
          exact hag x hx
        · rw [upd_ne n4, upd_ne n2]
          exact same_upd nl _ _ (S1 _ _ hr9)
        · rw [upd_ne n3, upd_ne n1]
          exact same_upd nl _ _ (S1 _ _ hp9)
      · exact ⟨_, ys, g, r, rfl, B, hb, hR, hys, hag, hr9, hp9⟩
    rintro σ H15 ⟨z, ys, g', r', rfl, B, hb, hR, hys, hag, hr9, hp9⟩
    have hs2 : Sees ys (dueV c) c L := hs.other (by omega) hag
    have shT : Shows (.tuple [.int ((c % m : Nat) : Int), .int (c : Int)]) := shows_row (fun d hd => by
      have hcm : c % m ≤ c := Nat.mod_le _ _
      rcases List.mem_cons.mp hd with z | z
      · rw [z]
        exact tiny_nat (by omega)
      · rw [List.mem_singleton.mp z]
        exact tiny_nat hc) (by show 2 ≤ 100; decide)
    generalize hG : PyData.tuple [.int ((c % m : Nat) : Int), .int (c : Int)] = G at shT
    -- newest and goes_on, asked again
    refine ⟨fun σ H' => σ = [some (.ref b), some (natV m), some (natV c), some (.bl t), some (.ref R), some (.ref p), some (.ref p9), some (.ref u), z] ∧ But b H H', ?_, ?_⟩
    · refine ⟨_, rfl, R, ys, dueV c, c, L, rfl, .inl hR, by omega, by omega, hs2, fun Ha pa ra Sa hra hpa => ⟨_, F, rfl, (by rw [← hF]; exact dp_datF hra hpa), shF.sh, shF.nd, shF.dp, shF.fit, ?_⟩⟩
      refine ⟨_, rfl, ⟨_, F, rfl, (by rw [← hF]; exact dp_datF (Sa _ _ hr9) (Sa _ _ hp9)), shF.sh, shF.nd, shF.dp, shF.fit, ?_⟩⟩
      refine ⟨rfl, _, rfl, iteNS rfl ?_⟩
      refine ⟨_, rfl, R, ys, dueV c, c, L, rfl, .inl (Sa _ _ hR), by omega, by omega, hs2, fun Hc pc Sc hpc => ?_⟩
      rw [hys] at hpc
      refine ⟨_, G, rfl, (by rw [← hG]; exact dp_two hpc), shT.sh, shT.nd, shT.dp, shT.fit, ?_⟩
      refine ⟨_, rfl, .inl ⟨_, rfl, _, rfl, c, m, rfl, rfl, by omega, _, rfl, by show 2 ≤ sizeLine; decide, fun pd npd => ⟨_, G, rfl, (by rw [← hG]; exact dp_two upd_same), shT.sh, shT.nd, shT.dp, shT.fit, ?_⟩⟩⟩
      exact ⟨rfl, _, rfl, iteNS rfl ⟨rfl, B.trans (But.of ((Sa.trans Sc).trans (same_upd npd)))⟩⟩
    rintro σ H16 ⟨rfl, B16⟩
    -- slot_of, most_looks
    have lg : (((c : Int) % (m : Int))).natAbs.log2 < 1920 := by
      rw [← Int.natCast_emod]
      exact log_nat (Nat.le_trans (Nat.mod_le _ _) hc)
    have lg2 : ((1 : Int) + (e : Int)).natAbs.log2 < 1920 := by
      have := log_tiny (i := (1 : Int) + (e : Int)) (by omega)
      omega
    refine ⟨_, rfl, _, rfl, m, c, rfl, by omega, by omega, by omega, _, rfl, lg, _, rfl, .inl ⟨_, rfl, _, rfl, _, _, rfl, rfl, by show (0 : Int) < m; omega, _, rfl, lg, rfl, _, rfl, iteDT rfl ?_⟩⟩
    refine ⟨_, rfl, m, e, rfl, h2, hl, he, fun He Se => ⟨_, rfl, lg2, _, rfl, m, e, rfl, hl, he, fun Hf Sf => ⟨_, _, rfl, rfl, _, rfl, lg2, rfl, qDT (Q := Q) rfl ?_⟩⟩⟩
    exact q _ (B16.trans (But.of (Se.trans Sf)))
end
end K26

/-! k26: the law. -/
namespace K26
open PySem PySem.Spec PyProof.Rows L2
theorem op_addNat {X : Cx} : OpR X (binaryOp .Add) (fun x y H Q => ∃ a b : Nat, x = .int (a : Int) ∧ y = .int (b : Int) ∧ Q (natV (a + b)) H) := by
  intro pins s σ H x y v u Q I rx ry h
  obtain ⟨a, b, rfl, rfl, q⟩ := h
  refine op_add pins s σ H _ _ v u Q I rx ry ⟨a, b, rfl, rfl, ?_⟩
  have e : (a : Int) + (b : Int) = ((a + b : Nat) : Int) := by push_cast; rfl
  show Q (.int ((a : Int) + (b : Int))) H
  rw [e]
  exact q
theorem seq_but {K : PySem.W.Frag} {H H' : Hp} {a p : Addr} {xs : List V} (h : SqL K H a xs) (n : H p = none) (B : But p H H') : SqL K H' a xs := by
  rcases h with (h | ⟨o, h⟩) | h
  · exact .inl (.inl (B _ _ (ne_of_none h n) h))
  · exact .inl (.inr ⟨o, B _ _ (ne_of_none h n) h⟩)
  · exact .inr h
theorem pick_many {v : V} {d1 d2 : Int} (h : v ∈ [V.int 0, .int 1, .int 2, .int 3, .int d1, .int d2, .int 62]) (a1 : 0 ≤ d1) (b1 : d1 < 23) (a2 : 0 ≤ d2) (b2 : d2 < 23) : ∃ z : Nat, v = natV z ∧ z ≤ 62 := by
  simp only [List.mem_cons, List.not_mem_nil, or_false] at h
  rcases h with rfl | rfl | rfl | rfl | rfl | rfl | rfl
  · exact ⟨0, rfl, by omega⟩
  · exact ⟨1, rfl, by omega⟩
  · exact ⟨2, rfl, by omega⟩
  · exact ⟨3, rfl, by omega⟩
  · exact ⟨d1.toNat, by show V.int d1 = V.int (d1.toNat : Int); rw [Int.toNat_of_nonneg a1], by omega⟩
  · exact ⟨d2.toNat, by show V.int d2 = V.int (d2.toNat : Int); rw [Int.toNat_of_nonneg a2], by omega⟩
  · exact ⟨62, rfl, by omega⟩
theorem nat_of {i : Int} {n : Nat} (h0 : 0 ≤ i) (h1 : i ≤ n) : ∃ z : Nat, V.int i = natV z ∧ z ≤ n := ⟨i.toNat, by show V.int i = V.int (i.toNat : Int); rw [Int.toNat_of_nonneg h0], by omega⟩
theorem pick_count {v : V} {m : Nat} {d1 d2 : Int} (h : v ∈ [V.int 0, .int 1, .int ((m : Int) - 1), .int (m : Int), .int ((m : Int) + 1), .int (2 * (m : Int)), .int d1, .int d2]) (h2 : 2 ≤ m) (hl : m ≤ 64) (a1 : 0 ≤ d1) (b1 : d1 < 4 * (m : Int)) (a2 : 0 ≤ d2) (b2 : d2 < 4 * (m : Int)) :
    ∃ z : Nat, v = natV z ∧ z ≤ 1000 := by
  simp only [List.mem_cons, List.not_mem_nil, or_false] at h
  rcases h with rfl | rfl | rfl | rfl | rfl | rfl | rfl | rfl <;> exact nat_of (by omega) (by omega)
section
variable {P : Program} {w : World} {K : PySem.W.Frag} {mg : Str → Option Value} {base : Heap}
def spLaw (K : PySem.W.Frag) : Sp := fun vs H Q _ => ∃ (a : Addr) (ns : List Int), vs = [.ref a] ∧ SqL K H a (ns.map V.int) ∧ ns.length ≤ 63 ∧ ∀ H', Q (.bl true) H'
theorem scLaw : FnScope ["_law_script", "_law_k", "_law_box_here", "_law_many", "_law_count"] ["_law_script"] (defScope dLaw) := ⟨rfl, rfl, rfl, by decide +kernel, rfl, by decide +kernel, by decide +kernel⟩
theorem ok_law (T : Text K mg) : ∃ f, mg "law" = some (.ref f) ∧ FnG P w K mg base 9 f (spLaw K) := by
  have O1 := ok_box (P := P) (w := w) (base := base) T
  have O2 := ok_pick (P := P) (w := w) (base := base) T
  have O3 := ok_take (P := P) (w := w) (base := base) T
  obtain ⟨fR, atR, kpR, G⟩ := ok_right (P := P) (w := w) (base := base) T
  obtain ⟨f, fd, F, atf, bd⟩ := T.law
  refine ⟨f, atf, fnG_of F bd scLaw (fun vs H Q E h => ?_) (fun cdv A fs s H vs Q hr gs h => ?_)⟩
  · obtain ⟨a, ns, rfl, _⟩ := h
    rfl
  · obtain ⟨a, ns, rfl, hS, hn, q⟩ := h
    have r1 : Room 1 (A.deeper (envOfC "law" (defScope dLaw) s.heap.objs.size f cdv)) := hr.mono (by decide)
    have r2 : Room 2 (A.deeper (envOfC "law" (defScope dLaw) s.heap.objs.size f cdv)) := hr.mono (by decide)
    refine ⟨_, pss_cons (ps_for PassesOwn.never rfl (pi_range1 rfl T.range (pa_cons (pe_callB (call_max2 rfl) (by rfl) T.max (by decide +kernel) (pa_cons pe_int (pa_cons (pe_callB (call_min2 rfl) (by rfl) T.min (by decide +kernel) (pa_cons (pe_callB call_len_seq (by rfl) T.len PySem.boot_len (pa_cons (pv 0) pa_nil)) (pa_cons pe_int pa_nil))) pa_nil))) pa_nil))
        (pg_name (i := 1) scLaw.nd rfl (.inl rfl))
        (pss_cons (ps_set (i := 2) scLaw.nd rfl (.inl rfl) (pe_keeps O1 r1 (by rfl) (pa_cons (pv 0) (pa_cons (pv 1) pa_nil))))
        (pss_cons (ps_set (i := 3) scLaw.nd rfl (.inl rfl) (pe_op op_addNat pe_int (pe_keeps O2 r2 (by rfl) (pa_cons (pv 2) (pa_cons (pe_lst (pa_cons pe_int (pa_cons pe_int (pa_cons pe_int (pa_cons pe_int
          (pa_cons (pe_keeps O3 r1 (by rfl) (pa_cons (pv 2) (pa_cons pe_int pa_nil))) (pa_cons (pe_keeps O3 r1 (by rfl) (pa_cons (pv 2) (pa_cons pe_int pa_nil))) (pa_cons pe_int pa_nil)))))))) pa_nil)))))
        (pss_cons (ps_set (i := 4) scLaw.nd rfl (.inl rfl) (pe_keeps O2 r2 (by rfl) (pa_cons (pv 2) (pa_cons (pe_lst (pa_cons pe_int (pa_cons pe_int (pa_cons (pe_op op_sub (pv 3) pe_int) (pa_cons (pv 3) (pa_cons (pe_op op_add (pv 3) pe_int) (pa_cons (pe_op op_mul pe_int (pv 3))
          (pa_cons (pe_keeps O3 r1 (by rfl) (pa_cons (pv 2) (pa_cons (pe_op op_mul pe_int (pv 3)) pa_nil))) (pa_cons (pe_keeps O3 r1 (by rfl) (pa_cons (pv 2) (pa_cons (pe_op op_mul pe_int (pv 3)) pa_nil))) pa_nil))))))))) pa_nil))))
        (pss_one (ps_if (pt_not (pt_val (pe_callG G hr gs (by rfl) atR kpR (pa_cons (pv 2) (pa_cons (pv 3) (pa_cons (pv 4) (pa_cons (pe_cmpR op_eq (pe_keeps O3 r1 (by rfl) (pa_cons (pv 2) (pa_cons pe_int pa_nil))) pe_int (nomark _)) pa_nil))))))) (pss_one ps_never) pss_nil))))))
      (pss_one (ps_ret pe_bl)), ?_⟩
    refine ⟨_, rfl, a, _, rfl, .inl hS, _, _, rfl, _, _, rfl, _, rfl, ?_, ?_, ?_⟩
    · rw [List.length_map]
      (repeat' split) <;> omega
    · rw [List.length_map]
      (repeat' split) <;> omega
    refine for_range (lo := 0) (n := _) (fun i σ H' => ∃ z1 z2 z3 z4 : Option V, σ = [some (.ref a), z1, z2, z3, z4] ∧ SqL K H' a (ns.map V.int)) ⟨none, none, none, none, rfl, hS⟩ ?_ (fun σ H' _ => q H')
    rintro i σ H1 _ ⟨z1, z2, z3, z4, rfl, hS1⟩
    rw [Int.zero_add]
    refine ⟨_, rfl, _, rfl, a, ns, i, rfl, hS1, fun p g r np => ?_⟩
    -- the ring's slots
    refine ⟨_, rfl, _, rfl, p, g, r, 23, rfl, upd_same, by decide, by decide, fun d1 g1 r1' a1 b1 => ⟨_, rfl, p, g1, r1', 23, rfl, upd_same, by decide, by decide, fun d2 g2 r2' a2 b2 => ⟨by show 7 ≤ sizeLine; decide, fun l nl => ?_⟩⟩⟩
    have B1 : But p H1 (upd (upd (upd H1 p (.lst [.int g, .int r])) p (.lst [.int g1, .int r1'])) p (.lst [.int g2, .int r2'])) := (But.at.trans But.at).trans But.at
    have hb1 : upd (upd (upd H1 p (.lst [.int g, .int r])) p (.lst [.int g1, .int r1'])) p (.lst [.int g2, .int r2']) p = some (.lst [.int g2, .int r2']) := upd_same
    generalize upd (upd (upd H1 p (.lst [.int g, .int r])) p (.lst [.int g1, .int r1'])) p (.lst [.int g2, .int r2']) = H2 at B1 hb1 nl
    have nelp : l ≠ p := (ne_of_none hb1 nl).symm
    refine ⟨p, g2, r2', l, _, rfl, same_upd nl _ _ hb1, upd_same, nelp, by show 0 < 7; decide, by show 7 ≤ 1000; decide, fun v g3 r3 hv => ?_⟩
    obtain ⟨z, rfl, hz⟩ := pick_many hv a1 b1 a2 b2
    have B2 := (B1.trans (But.of (same_upd (o := .lst [V.int 0, .int 1, .int 2, .int 3, .int d1, .int d2, .int 62]) nl))).trans (But.at (o := .lst [.int g3, .int r3]))
    refine ⟨2, z, rfl, rfl, ?_⟩
    have hm2 : 2 ≤ 2 + z := by omega
    have hml : 2 + z ≤ 64 := by omega
    have hb2 : upd (upd H2 l (.lst [V.int 0, .int 1, .int 2, .int 3, .int d1, .int d2, .int 62])) p (.lst [.int g3, .int r3]) p = some (.lst [.int g3, .int r3]) := upd_same
    generalize 2 + z = m at hm2 hml
    generalize upd (upd H2 l (.lst [V.int 0, .int 1, .int 2, .int 3, .int d1, .int d2, .int 62])) p (.lst [.int g3, .int r3]) = H3 at B2 hb2
    -- the blocks
    refine ⟨_, rfl, _, rfl, _, _, rfl, rfl, _, rfl, _, rfl, _, _, rfl, rfl, _, rfl, _, _, rfl, rfl, .inl ⟨by decide, by decide⟩, ?_⟩
    refine ⟨_, rfl, _, rfl, _, _, rfl, rfl, .inl ⟨by decide, by decide⟩, p, g3, r3, _, rfl, hb2, by show (0 : Int) < 4 * (m : Int); omega, by show (4 : Int) * (m : Int) < 1073741824; omega, fun e1 g4 r4 c1 f1 => ?_⟩
    refine ⟨_, rfl, _, rfl, _, _, rfl, rfl, .inl ⟨by decide, by decide⟩, p, g4, r4, _, rfl, upd_same, by show (0 : Int) < 4 * (m : Int); omega, by show (4 : Int) * (m : Int) < 1073741824; omega, fun e2 g5 r5 c2 f2 => ⟨by show 8 ≤ sizeLine; decide, fun l2 nl2 => ?_⟩⟩
    have B3 : But p H1 (upd (upd H3 p (.lst [.int g4, .int r4])) p (.lst [.int g5, .int r5])) := (B2.trans But.at).trans But.at
    have hb3 : upd (upd H3 p (.lst [.int g4, .int r4])) p (.lst [.int g5, .int r5]) p = some (.lst [.int g5, .int r5]) := upd_same
    generalize upd (upd H3 p (.lst [.int g4, .int r4])) p (.lst [.int g5, .int r5]) = H4 at B3 hb3 nl2
    have nelp2 : l2 ≠ p := (ne_of_none hb3 nl2).symm
    refine ⟨p, g5, r5, l2, _, rfl, same_upd nl2 _ _ hb3, upd_same, nelp2, by show 0 < 8; decide, by show 8 ≤ 1000; decide, fun v g6 r6 hv => ?_⟩
    obtain ⟨c, rfl, hc⟩ := pick_count (m := m) hv hm2 hml c1 f1 c2 f2
    -- its test
    refine ⟨_, rfl, _, rfl, _, rfl, _, rfl, p, g6, r6, 2, rfl, upd_same, by decide, by decide, fun d g7 r7 _ _ => ⟨rfl, p, g7, r7, m, c, _, rfl, upd_same, hm2, hml, hc, fun H5 B5 => ⟨true, rfl, iteF ?_⟩⟩⟩
    refine ⟨_, _, _, _, rfl, seq_but hS1 np ?_⟩
    exact (((B3.trans (But.of (same_upd nl2))).trans But.at).trans But.at).trans B5
end
end K26

/-! k26: what the top has written, the head. -/
namespace K26
open PySem PySem.Spec PyProof.Rows L2
/-- how the parameters of a def of the text take their values -/
def Takes1 (x : Str) (st : Stmt) (ps : List Str) : Prop := ∀ (kV doc pm : Value) (an : Option Addr) (cdv ct : Value) (us : List Value), us.length = ps.length →
  bindArgs (PySem.W.fnOf x x (defArgs st) (defBody st) (defScope st) .none kV doc pm an cdv ct) ⟨us, []⟩ = pure (ps.zip us)
section
variable {K : PySem.W.Frag} {mg : Str → Option Value} {h : Heap} {x : Str} {st : Stmt} {ps : List Str} {f : Addr} {oc kV dc pm cd ct : Value} {od an : Option Addr} {osl : Array (Option Value)}
theorem stands_of (X : K.In h) (G : h.Ns mainGlobals mg) (b : Takes1 x st ps) (n : PySem.W.nsIn K mainGlobals x = some (some (.ref f)))
    (l : K.lookup f = some ⟨oc, od, .func (PySem.W.fnOf x x (defArgs st) (defBody st) (defScope st) .none kV dc pm an cd ct), osl⟩) (c : PySem.W.codeIn K cd x = true) (k : PySem.W.keepIn K (.ref f) = true) : Stands K mg x st ps :=
  ⟨f, _, fun_mk l c k, PySem.W.mg_of X G n, (fun_mk l c k).binds b⟩
theorem standsK_of (X : K.In h) (G : h.Ns mainGlobals mg) (b : Takes1 x st ps) (r : ∀ (kV doc pm : Value) (an : Option Addr) (cdv ct : Value) (us ws : List Value), (us ++ ws.reverse).length = ps.length →
      bindArgs (PySem.W.fnOf x x (defArgs st) (defBody st) (defScope st) .none kV doc pm an cdv ct) ⟨us, ps.reverse.zip ws⟩ = pure (ps.zip (us ++ ws.reverse))) (n : PySem.W.nsIn K mainGlobals x = some (some (.ref f)))
    (l : K.lookup f = some ⟨oc, od, .func (PySem.W.fnOf x x (defArgs st) (defBody st) (defScope st) .none kV dc pm an cd ct), osl⟩) (c : PySem.W.codeIn K cd x = true) (k : PySem.W.keepIn K (.ref f) = true) : StandsK K mg x st ps :=
  ⟨f, _, fun_mk l c k, PySem.W.mg_of X G n, (fun_mk l c k).binds b, fun s us ws _ hl => .of_eq (r _ _ _ _ _ _ us ws hl), fun a b => a.append b.reverse⟩
end
theorem b_integer : Takes1 "is_integer" dInteger ["value"] := fun _ _ _ _ _ _ us hl => match us, hl with | [_], _ => rfl
theorem b_number : Takes1 "is_number" dNumber ["value"] := fun _ _ _ _ _ _ us hl => match us, hl with | [_], _ => rfl
theorem b_below : Takes1 "is_below" dBelow ["value", "most"] := fun _ _ _ _ _ _ us hl => match us, hl with | [_, _], _ => rfl
theorem b_sequence : Takes1 "is_sequence" dSequence ["value"] := fun _ _ _ _ _ _ us hl => match us, hl with | [_], _ => rfl
theorem b_slots : Takes1 "need_slots" dSlots ["value"] := fun _ _ _ _ _ _ us hl => match us, hl with | [_], _ => rfl
theorem b_count : Takes1 "need_count" dCount ["value"] := fun _ _ _ _ _ _ us hl => match us, hl with | [_], _ => rfl
theorem b_slotOf : Takes1 "slot_of" dSlotOf ["many", "number"] := fun _ _ _ _ _ _ us hl => match us, hl with | [_, _], _ => rfl
theorem b_last : Takes1 "last_in" dLast ["many", "count", "slot"] := fun _ _ _ _ _ _ us hl => match us, hl with | [_, _, _], _ => rfl
theorem b_ring : Takes1 "ring_row" dRing ["many", "count"] := fun _ _ _ _ _ _ us hl => match us, hl with | [_, _], _ => rfl
theorem b_torn : Takes1 "torn_row" dTorn ["many", "count"] := fun _ _ _ _ _ _ us hl => match us, hl with | [_, _], _ => rfl
theorem b_countOf : Takes1 "count_of" dCountOf ["row"] := fun _ _ _ _ _ _ us hl => match us, hl with | [_], _ => rfl
theorem b_form : Takes1 "is_row_form" dForm ["value"] := fun _ _ _ _ _ _ us hl => match us, hl with | [_], _ => rfl
theorem b_isRing : Takes1 "is_ring_row" dIsRing ["value"] := fun _ _ _ _ _ _ us hl => match us, hl with | [_], _ => rfl
theorem b_most : Takes1 "most_looks" dMost ["many"] := fun _ _ _ _ _ _ us hl => match us, hl with | [_], _ => rfl
theorem b_newest : Takes1 "newest" dNewest ["row"] := fun _ _ _ _ _ _ us hl => match us, hl with | [_], _ => rfl
theorem b_goes : Takes1 "goes_on" dGoes ["row"] := fun _ _ _ _ _ _ us hl => match us, hl with | [_], _ => rfl
theorem b_box : Takes1 "_law_box" dBox ["_law_script", "_law_k"] := fun _ _ _ _ _ _ us hl => match us, hl with | [_, _], _ => rfl
theorem b_take : Takes1 "_law_take" dTake ["_law_box_here", "_law_many"] := fun _ _ _ _ _ _ us hl => match us, hl with | [_, _], _ => rfl
theorem b_pick : Takes1 "_law_pick" dPick ["_law_box_here", "_law_some"] := fun _ _ _ _ _ _ us hl => match us, hl with | [_, _], _ => rfl
theorem b_laid : Takes1 "_law_laid" dLaid ["_law_many", "_law_count"] := fun _ _ _ _ _ _ us hl => match us, hl with | [_, _], _ => rfl
theorem b_dbl : Takes1 "_law_doublings" dDbl ["_law_many"] := fun _ _ _ _ _ _ us hl => match us, hl with | [_], _ => rfl
theorem b_looks : Takes1 "_law_looks" dLooks ["_law_row"] := fun _ _ _ _ _ _ us hl => match us, hl with | [_], _ => rfl
theorem b_right : Takes1 "_law_right" dRight ["_law_box_here", "_law_many", "_law_count", "_law_is_torn"] := fun _ _ _ _ _ _ us hl => match us, hl with | [_, _, _, _], _ => rfl
theorem b_law : Takes1 "law" dLaw ["_law_script"] := fun _ _ _ _ _ _ us hl => match us, hl with | [_], _ => rfl
theorem r_ring (kV doc pm : Value) (an : Option Addr) (cdv ct : Value) (us ws : List Value) (hl : (us ++ ws.reverse).length = (["many", "count"] : List Str).length) :
    bindArgs (PySem.W.fnOf "ring_row" "ring_row" (defArgs dRing) (defBody dRing) (defScope dRing) .none kV doc pm an cdv ct) ⟨us, (["many", "count"] : List Str).reverse.zip ws⟩ = pure ((["many", "count"] : List Str).zip (us ++ ws.reverse)) := by
  rw [List.length_append, List.length_reverse] at hl
  have h2 : us.length + ws.length = 2 := hl
  match us, ws with
  | [], [_, _] => rfl
  | [_], [_] => rfl
  | [_, _], [] => rfl
  | [], [] => exact absurd h2 (by simp)
  | [], [_] => exact absurd h2 (by simp)
  | [], _ :: _ :: _ :: _ => exact absurd h2 (by simp only [List.length_cons, List.length_nil]; omega)
  | [_], [] => exact absurd h2 (by simp)
  | [_], _ :: _ :: _ => exact absurd h2 (by simp only [List.length_cons, List.length_nil]; omega)
  | [_, _], _ :: _ => exact absurd h2 (by simp only [List.length_cons, List.length_nil]; omega)
  | _ :: _ :: _ :: _, _ => exact absurd h2 (by simp only [List.length_cons]; omega)
theorem const_of {K : PySem.W.Frag} {mg : Str → Option Value} {h : Heap} {x : Str} {v : Tok → Value} {o : Option (Option Value)} (X : K.In h) (G : h.Ns mainGlobals mg) (n : PySem.W.nsIn K mainGlobals x = o) (e : ∃ t, o = some (some (v t))) : ∃ t, mg x = some (v t) := by
  obtain ⟨t, rfl⟩ := e
  exact ⟨t, PySem.W.mg_of X G n⟩
theorem law_end {P : Program} {w : World} {K : PySem.W.Frag} {mg : Str → Option Value} {base : Heap} {fa : Addr} (T : Text K mg) (h : mg "law" = some (.ref fa)) : FnG P w K mg base 9 fa (spLaw K) := by
  obtain ⟨f, ef, G⟩ := ok_law (P := P) (w := w) (base := base) T
  have e := h.symm.trans ef
  cases e
  exact G
end K26
open PySem PySem.W PyProof.Rows in
set_option maxRecDepth 100000 in
set_option maxHeartbeats 0 in
theorem PySem.Challenge.cw_wrecktold_k26_whole_the_newest_is_found_holds : PySem.Challenge.rw_wrecktold_k26_whole_the_newest_is_found.Holds := by
  w_on; o_law; k_head; (case hw => w_witness2)
  k_fill
  refine K26.walkG (l := PySem.Challenge.rw_wrecktold_k26_whole_the_newest_is_found) (n := 63) (k := 9) (sp := K26.spLaw) rfl (by decide) rfl ⟨rfl, by decide, by decide⟩ (fun w h Y => PySem.W.kIn_of Y) ?F (fun K H a ns hl hS => ⟨a, ns, rfl, hS, hl, fun _ => rfl⟩)
  case F =>
    intro w mg fa h KX G hmg base hb hg
    refine K26.law_end (K26.Text.mk ?s_integer ?s_number ?s_below ?s_sequence ?s_slots ?s_count ?s_slotOf ?s_last ?s_ring ?s_torn ?s_countOf ?s_form ?s_isRing ?s_most ?s_newest ?s_goes ?s_box ?s_take ?s_pick ?s_laid ?s_dbl ?s_looks ?s_right ?s_law ?cM ?cT ?z_isinstance ?z_int ?z_bool ?z_str ?z_list ?z_tuple ?z_range ?z_len ?z_max ?z_min ?z_all ?z_abs ?z_repr) hmg
    case s_integer =>
      refine' K26.stands_of KX G K26.b_integer ?n ?l ?c ?k
      (case n => k_is)
      (case l => k_is)
      (case c => k_is)
      (case k => k_is)
    case s_number =>
      refine' K26.stands_of KX G K26.b_number ?n ?l ?c ?k
      (case n => k_is)
      (case l => k_is)
      (case c => k_is)
      (case k => k_is)
    case s_below =>
      refine' K26.stands_of KX G K26.b_below ?n ?l ?c ?k
      (case n => k_is)
      (case l => k_is)
      (case c => k_is)
      (case k => k_is)
    case s_sequence =>
      refine' K26.stands_of KX G K26.b_sequence ?n ?l ?c ?k
      (case n => k_is)
      (case l => k_is)
      (case c => k_is)
      (case k => k_is)
    case s_slots =>
      refine' K26.stands_of KX G K26.b_slots ?n ?l ?c ?k
      (case n => k_is)
      (case l => k_is)
      (case c => k_is)
      (case k => k_is)
    case s_count =>
      refine' K26.stands_of KX G K26.b_count ?n ?l ?c ?k
      (case n => k_is)
      (case l => k_is)
      (case c => k_is)
      (case k => k_is)
    case s_slotOf =>
      refine' K26.stands_of KX G K26.b_slotOf ?n ?l ?c ?k
      (case n => k_is)
      (case l => k_is)
      (case c => k_is)
      (case k => k_is)
    case s_last =>
      refine' K26.stands_of KX G K26.b_last ?n ?l ?c ?k
      (case n => k_is)
      (case l => k_is)
      (case c => k_is)
      (case k => k_is)
    case s_ring =>
      refine' K26.standsK_of KX G K26.b_ring K26.r_ring ?n ?l ?c ?k
      (case n => k_is)
      (case l => k_is)
      (case c => k_is)
      (case k => k_is)
    case s_torn =>
      refine' K26.stands_of KX G K26.b_torn ?n ?l ?c ?k
      (case n => k_is)
      (case l => k_is)
      (case c => k_is)
      (case k => k_is)
    case s_countOf =>
      refine' K26.stands_of KX G K26.b_countOf ?n ?l ?c ?k
      (case n => k_is)
      (case l => k_is)
      (case c => k_is)
      (case k => k_is)
    case s_form =>
      refine' K26.stands_of KX G K26.b_form ?n ?l ?c ?k
      (case n => k_is)
      (case l => k_is)
      (case c => k_is)
      (case k => k_is)
    case s_isRing =>
      refine' K26.stands_of KX G K26.b_isRing ?n ?l ?c ?k
      (case n => k_is)
      (case l => k_is)
      (case c => k_is)
      (case k => k_is)
    case s_most =>
      refine' K26.stands_of KX G K26.b_most ?n ?l ?c ?k
      (case n => k_is)
      (case l => k_is)
      (case c => k_is)
      (case k => k_is)
    case s_newest =>
      refine' K26.stands_of KX G K26.b_newest ?n ?l ?c ?k
      (case n => k_is)
      (case l => k_is)
      (case c => k_is)
      (case k => k_is)
    case s_goes =>
      refine' K26.stands_of KX G K26.b_goes ?n ?l ?c ?k
      (case n => k_is)
      (case l => k_is)
      (case c => k_is)
      (case k => k_is)
    case s_box =>
      refine' K26.stands_of KX G K26.b_box ?n ?l ?c ?k
      (case n => k_is)
      (case l => k_is)
      (case c => k_is)
      (case k => k_is)
    case s_take =>
      refine' K26.stands_of KX G K26.b_take ?n ?l ?c ?k
      (case n => k_is)
      (case l => k_is)
      (case c => k_is)
      (case k => k_is)
    case s_pick =>
      refine' K26.stands_of KX G K26.b_pick ?n ?l ?c ?k
      (case n => k_is)
      (case l => k_is)
      (case c => k_is)
      (case k => k_is)
    case s_laid =>
      refine' K26.stands_of KX G K26.b_laid ?n ?l ?c ?k
      (case n => k_is)
      (case l => k_is)
      (case c => k_is)
      (case k => k_is)
    case s_dbl =>
      refine' K26.stands_of KX G K26.b_dbl ?n ?l ?c ?k
      (case n => k_is)
      (case l => k_is)
      (case c => k_is)
      (case k => k_is)
    case s_looks =>
      refine' K26.stands_of KX G K26.b_looks ?n ?l ?c ?k
      (case n => k_is)
      (case l => k_is)
      (case c => k_is)
      (case k => k_is)
    case s_right =>
      refine' K26.stands_of KX G K26.b_right ?n ?l ?c ?k
      (case n => k_is)
      (case l => k_is)
      (case c => k_is)
      (case k => k_is)
    case s_law =>
      refine' K26.stands_of KX G K26.b_law ?n ?l ?c ?k
      (case n => k_is)
      (case l => k_is)
      (case c => k_is)
      (case k => k_is)
    case cM =>
      refine' K26.const_of KX G ?n ?e
      (case n => k_is)
      (case e => exact ⟨_, rfl⟩)
    case cT =>
      refine' K26.const_of KX G ?n ?e
      (case n => k_is)
      (case e => exact ⟨_, rfl⟩)
    case z_isinstance =>
      refine' mg_none_of KX G ?n
      (case n => k_is)
    case z_int =>
      refine' mg_none_of KX G ?n
      (case n => k_is)
    case z_bool =>
      refine' mg_none_of KX G ?n
      (case n => k_is)
    case z_str =>
      refine' mg_none_of KX G ?n
      (case n => k_is)
    case z_list =>
      refine' mg_none_of KX G ?n
      (case n => k_is)
    case z_tuple =>
      refine' mg_none_of KX G ?n
      (case n => k_is)
    case z_range =>
      refine' mg_none_of KX G ?n
      (case n => k_is)
    case z_len =>
      refine' mg_none_of KX G ?n
      (case n => k_is)
    case z_max =>
      refine' mg_none_of KX G ?n
      (case n => k_is)
    case z_min =>
      refine' mg_none_of KX G ?n
      (case n => k_is)
    case z_all =>
      refine' mg_none_of KX G ?n
      (case n => k_is)
    case z_abs =>
      refine' mg_none_of KX G ?n
      (case n => k_is)
    case z_repr =>
      refine' mg_none_of KX G ?n
      (case n => k_is)
