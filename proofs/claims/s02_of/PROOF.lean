import PyProof.Rows.All
import Wide.All
import OpenK.AllK
import Wide.FinOn
import PyProof.EqAt
import PyProof.EqKinds
import PyProof.TupleCall
import Open.SpecLaws
import KE.OsGo
import HandS.ForSpec
import HandS.Comp
import HandS.Iter
import HandS.Conv
import KE.GoesEnum
import PySem.Challenge.RW_arrangements_s02_of
set_option Elab.async false
set_option linter.all false
set_option maxRecDepth 100000
set_option maxHeartbeats 2000000

/-! # Rows by states: a plain law, with no program in sight -/
namespace Arr
structure Kind (S : Type) where
  numbers : S → List Nat
  behind : S → Nat → S
  ways : S → Nat
section
variable {S : Type} (K : Kind S)
def rows : Nat → S → List (List Nat)
  | 0, s => if K.ways s = 0 then [] else [[]]
  | l + 1, s => (K.numbers s).flatMap fun x => (rows l (K.behind s x)).map (x :: ·)
def acc : Nat → S → List Nat → Bool
  | 0, s, r => r == [] && K.ways s != 0
  | _ + 1, _, [] => false
  | l + 1, s, x :: r => (K.numbers s).contains x && acc l (K.behind s x) r
structure Good (m : Nat) (V : Nat → S → Prop) : Prop where
  base : ∀ s, V 0 s → K.ways s ≤ 1
  step : ∀ l s x, V (l + 1) s → x ∈ K.numbers s → V l (K.behind s x)
  sum : ∀ l s, V (l + 1) s → K.ways s = ((K.numbers s).map fun x => K.ways (K.behind s x)).sum
  nums : ∀ l s, V (l + 1) s → K.numbers s = (List.range m).filter fun x => (K.numbers s).contains x
variable {K} {m : Nat} {V : Nat → S → Prop}
theorem rows_length (G : Good K m V) : ∀ l s, V l s → (rows K l s).length = K.ways s
  | 0, s, h => by
    have := G.base s h
    unfold rows
    by_cases c : K.ways s = 0
    · rw [if_pos c, c]; rfl
    · rw [if_neg c, List.length_singleton]; omega
  | l + 1, s, h => by
    unfold rows
    rw [List.length_flatMap, G.sum l s h]
    congr 1
    refine List.map_congr_left fun x hx => ?_
    rw [List.length_map, rows_length G l _ (G.step l s x h hx)]
theorem mem_rows : ∀ l s r, r ∈ rows K l s ↔ acc K l s r = true
  | 0, s, r => by
    unfold rows acc
    by_cases c : K.ways s = 0
    · simp [c]
    · simp [c]
  | l + 1, s, [] => by
    unfold rows acc
    simp
  | l + 1, s, x :: r => by
    unfold rows acc
    have ih := mem_rows l (K.behind s x) r
    simp only [List.mem_flatMap, List.mem_map, List.cons.injEq, Bool.and_eq_true, List.contains_iff_mem]
    constructor
    · rintro ⟨y, hy, t, ht, rfl, rfl⟩
      exact ⟨hy, ih.mp ht⟩
    · rintro ⟨hx, hr⟩
      exact ⟨x, hx, r, ih.mpr hr, rfl, rfl⟩
theorem acc_length : ∀ l s r, acc K l s r = true → r.length = l
  | 0, s, r, h => by
    unfold acc at h
    simp at h
    rw [h.1]; rfl
  | l + 1, s, [], h => by
    unfold acc at h
    cases h
  | l + 1, s, x :: r, h => by
    unfold acc at h
    rw [Bool.and_eq_true] at h
    rw [List.length_cons, acc_length l _ r h.2]
theorem flatMap_filter_nil {α β : Type} (p : α → Bool) (f : α → List β) : ∀ l : List α, (∀ x, x ∈ l → p x = false → f x = []) → (l.filter p).flatMap f = l.flatMap f
  | [], _ => rfl
  | x :: l, h => by
    have ih := flatMap_filter_nil p f l fun y hy => h y (List.mem_cons_of_mem _ hy)
    rw [List.flatMap_cons, ← ih]
    cases c : p x with
    | true => rw [List.filter_cons_of_pos c, List.flatMap_cons]
    | false =>
      rw [List.filter_cons_of_neg (by rw [c]; exact Bool.false_ne_true), h x List.mem_cons_self c, List.nil_append]
theorem filter_rows (G : Good K m V) : ∀ l s, V l s → (Sw17.rowsOver m l).filter (acc K l s) = rows K l s
  | 0, s, h => by
    unfold rows Sw17.rowsOver
    by_cases c : K.ways s = 0
    · rw [if_pos c, List.filter_cons_of_neg (by unfold acc; simp [c])]; rfl
    · rw [if_neg c, List.filter_cons_of_pos (by unfold acc; simp [c])]; rfl
  | l + 1, s, h => by
    unfold rows Sw17.rowsOver
    rw [List.filter_flatMap]
    have e : ∀ x, ((Sw17.rowsOver m l).map fun r => x :: r).filter (acc K (l + 1) s) = if (K.numbers s).contains x = true then (rows K l (K.behind s x)).map (x :: ·) else [] := by
      intro x
      rw [List.filter_map]
      by_cases c : (K.numbers s).contains x = true
      · rw [if_pos c, ← filter_rows G l _ (G.step l s x h (List.contains_iff_mem.mp c))]
        congr 1
        refine List.filter_congr fun r _ => ?_
        show ((K.numbers s).contains x && acc K l (K.behind s x) r) = _
        rw [c, Bool.true_and]
      · rw [if_neg c]
        have : List.filter (acc K (l + 1) s ∘ fun r => x :: r) (Sw17.rowsOver m l) = [] := by
          rw [List.filter_eq_nil_iff]
          intro r _
          show ¬ ((K.numbers s).contains x && acc K l (K.behind s x) r) = true
          rw [Bool.not_eq_true] at c
          rw [c, Bool.false_and]
          exact Bool.false_ne_true
        rw [this]; rfl
    have e2 : ((List.range m).flatMap fun x => ((Sw17.rowsOver m l).map fun r => x :: r).filter (acc K (l + 1) s)) = (List.range m).flatMap fun x => if (K.numbers s).contains x = true then (rows K l (K.behind s x)).map (x :: ·) else [] := by
      congr 1
      funext x
      exact e x
    rw [e2, ← flatMap_filter_nil (fun x => (K.numbers s).contains x) _ _ (fun x _ c => by rw [c]; rfl), ← G.nums l s h]
    have e3 : ∀ (L : List Nat), (∀ x, x ∈ L → x ∈ K.numbers s) → (L.flatMap fun x => if (K.numbers s).contains x = true then (rows K l (K.behind s x)).map (x :: ·) else []) = L.flatMap fun x => (rows K l (K.behind s x)).map (x :: ·) := by
      intro L
      induction L with
      | nil => intro _; rfl
      | cons y L ih =>
        intro hL
        rw [List.flatMap_cons, List.flatMap_cons, ih fun z hz => hL z (List.mem_cons_of_mem _ hz), if_pos (List.contains_iff_mem.mpr (hL y List.mem_cons_self))]
    exact e3 _ fun _ hx => hx
theorem nums_sorted (G : Good K m V) (l : Nat) (s : S) (h : V (l + 1) s) : (K.numbers s).Pairwise (· < ·) := by
  rw [G.nums l s h]
  exact List.Pairwise.filter _ List.pairwise_lt_range
/-! ### the row with a number -/
variable (K)
def pick (s : S) : List Nat → Nat → Option (Nat × Nat)
  | [], _ => none
  | x :: xs, p => if p < K.ways (K.behind s x) then some (x, p) else pick s xs (p - K.ways (K.behind s x))
def rowAt : Nat → S → Nat → List Nat
  | 0, _, _ => []
  | l + 1, s, p => match pick K s (K.numbers s) p with
    | some (x, q) => x :: rowAt l (K.behind s x) q
    | none => []
/-- what stands ahead of a number -/
def ahead (s : S) (xs : List Nat) (x : Nat) : Nat := ((xs.filter fun c => decide (c < x)).map fun c => K.ways (K.behind s c)).sum
/-- the number that a row has -/
def placeAt : S → List Int → Nat → Option Nat
  | _, [], p => some p
  | s, z :: r, p => if 0 ≤ z ∧ z.toNat ∈ K.numbers s then (if K.ways (K.behind s z.toNat) = 0 then none else placeAt (K.behind s z.toNat) r (p + ahead K s (K.numbers s) z.toNat)) else none
variable {K}
theorem pick_some (s : S) : ∀ (xs : List Nat) (p : Nat), p < (xs.map fun x => K.ways (K.behind s x)).sum → ∃ x q, pick K s xs p = some (x, q) ∧ x ∈ xs ∧ q < K.ways (K.behind s x)
  | [], p, h => by simp at h
  | x :: xs, p, h => by
    unfold pick
    by_cases c : p < K.ways (K.behind s x)
    · rw [if_pos c]; exact ⟨x, p, rfl, List.mem_cons_self, c⟩
    · rw [if_neg c]
      rw [List.map_cons, List.sum_cons] at h
      obtain ⟨y, q, e, hy, hq⟩ := pick_some s xs (p - K.ways (K.behind s x)) (by omega)
      exact ⟨y, q, e, List.mem_cons_of_mem _ hy, hq⟩
theorem pick_rows (G : Good K m V) (l : Nat) (s : S) (h : V (l + 1) s) : ∀ (xs : List Nat) (p x q : Nat), (∀ y, y ∈ xs → y ∈ K.numbers s) → pick K s xs p = some (x, q) →
    (xs.flatMap fun x => (rows K l (K.behind s x)).map (x :: ·))[p]? = ((rows K l (K.behind s x))[q]?).map (x :: ·)
  | [], p, x, q, _, e => by cases e
  | y :: xs, p, x, q, hs, e => by
    have hl := rows_length G l _ (G.step l s y h (hs y List.mem_cons_self))
    unfold pick at e
    rw [List.flatMap_cons]
    by_cases c : p < K.ways (K.behind s y)
    · rw [if_pos c] at e
      cases e
      rw [List.getElem?_append_left (by rw [List.length_map, hl]; exact c), List.getElem?_map]
    · rw [if_neg c] at e
      rw [List.getElem?_append_right (by rw [List.length_map, hl]; omega), List.length_map, hl]
      exact pick_rows G l s h xs _ x q (fun z hz => hs z (List.mem_cons_of_mem _ hz)) e
theorem rowAt_eq (G : Good K m V) : ∀ l s p, V l s → p < K.ways s → (rows K l s)[p]? = some (rowAt K l s p)
  | 0, s, p, h, hp => by
    have := G.base s h
    unfold rows rowAt
    rw [if_neg (by omega)]
    have : p = 0 := by omega
    subst this
    rfl
  | l + 1, s, p, h, hp => by
    rw [G.sum l s h] at hp
    obtain ⟨x, q, e, hx, hq⟩ := pick_some s _ p hp
    unfold rows rowAt
    rw [pick_rows G l s h _ p x q (fun _ z => z) e, rowAt_eq G l _ q (G.step l s x h hx) hq, e]
    rfl
theorem rowAt_length (G : Good K m V) : ∀ l s p, V l s → p < K.ways s → (rowAt K l s p).length = l := fun l s p h hp => by
  have e := rowAt_eq G l s p h hp
  have : rowAt K l s p ∈ rows K l s := List.mem_of_getElem? e
  exact acc_length l s _ ((mem_rows l s _).mp this)
theorem idx_map (x : Nat) (r : List Nat) : ∀ L : List (List Nat), (L.map (x :: ·)).idxOf (x :: r) = L.idxOf r
  | [] => rfl
  | y :: L => by
    rw [List.map_cons, List.idxOf_cons, List.idxOf_cons, idx_map x r L]
    by_cases c : y = r
    · subst c; simp
    · have h1 : (y == r) = false := beq_eq_false_iff_ne.mpr c
      have h2 : ((x :: y) == (x :: r)) = false := beq_eq_false_iff_ne.mpr fun q => c (List.cons.inj q).2
      rw [h1, h2]
theorem idx_flat (G : Good K m V) (l : Nat) (s : S) (h : V (l + 1) s) (x : Nat) (r : List Nat) (hr : r ∈ rows K l (K.behind s x)) : ∀ xs : List Nat, (∀ y, y ∈ xs → y ∈ K.numbers s) → xs.Pairwise (· < ·) → x ∈ xs →
    (xs.flatMap fun x => (rows K l (K.behind s x)).map (x :: ·)).idxOf (x :: r) = ahead K s xs x + (rows K l (K.behind s x)).idxOf r
  | [], _, _, hx => by cases hx
  | y :: xs, hs, hp, hx => by
    rw [List.flatMap_cons, List.idxOf_append]
    rw [List.pairwise_cons] at hp
    have hl := rows_length G l _ (G.step l s y h (hs y List.mem_cons_self))
    unfold ahead
    by_cases c : x = y
    · subst c
      rw [if_pos (List.mem_map.mpr ⟨r, hr, rfl⟩), idx_map]
      have : (x :: xs).filter (fun c => decide (c < x)) = [] := by
        rw [List.filter_eq_nil_iff]
        intro z hz
        rcases List.mem_cons.mp hz with rfl | hz
        · simp
        · have := hp.1 z hz
          simp; omega
      rw [this]; simp
    · have hx' : x ∈ xs := by
        rcases List.mem_cons.mp hx with e | e
        · exact absurd e c
        · exact e
      rw [if_neg (by
        intro q
        obtain ⟨t, _, e⟩ := List.mem_map.mp q
        exact c (List.cons.inj e).1.symm)]
      have lt := hp.1 x hx'
      rw [idx_flat G l s h x r hr xs (fun z hz => hs z (List.mem_cons_of_mem _ hz)) hp.2 hx', List.length_map, hl, List.filter_cons_of_pos (by simp; exact lt), List.map_cons, List.sum_cons]
      unfold ahead
      omega
theorem placeAt_eq (G : Good K m V) : ∀ l s (r : List Int) p, V l s → r.length = l → (l = 0 → K.ways s ≠ 0) →
    placeAt K s r p = if (r.all fun z => decide (0 ≤ z)) = true ∧ acc K l s (r.map Int.toNat) = true then some (p + (rows K l s).idxOf (r.map Int.toNat)) else none
  | 0, s, r, p, h, hr, hw => by
    have : r = [] := List.length_eq_zero_iff.mp hr
    subst this
    have c := hw rfl
    unfold placeAt acc rows
    simp [c]
  | l + 1, s, [], p, h, hr, hw => by cases hr
  | l + 1, s, z :: r, p, h, hr, hw => by
    have hr' : r.length = l := by simpa using hr
    unfold placeAt
    by_cases c : 0 ≤ z ∧ z.toNat ∈ K.numbers s
    · rw [if_pos c]
      have hV := G.step l s z.toNat h c.2
      have hlen := rows_length G l _ hV
      by_cases d : K.ways (K.behind s z.toNat) = 0
      · rw [if_pos d, if_neg]
        rintro ⟨_, q⟩
        rw [List.map_cons] at q
        unfold acc at q
        rw [Bool.and_eq_true] at q
        have := (mem_rows (K := K) l _ _).mpr q.2
        rw [d] at hlen
        rw [List.length_eq_zero_iff.mp hlen] at this
        cases this
      · rw [if_neg d, placeAt_eq G l _ r _ hV hr' fun _ => d]
        have a0 : ((z :: r).all fun z => decide (0 ≤ z)) = (r.all fun z => decide (0 ≤ z)) := by
          rw [List.all_cons, decide_eq_true c.1, Bool.true_and]
        have a1 : acc K (l + 1) s ((z :: r).map Int.toNat) = acc K l (K.behind s z.toNat) (r.map Int.toNat) := by
          rw [List.map_cons]
          show ((K.numbers s).contains z.toNat && _) = _
          rw [List.contains_iff_mem.mpr c.2, Bool.true_and]
        rw [a0, a1]
        by_cases e : (r.all fun z => decide (0 ≤ z)) = true ∧ acc K l (K.behind s z.toNat) (r.map Int.toNat) = true
        · rw [if_pos e, if_pos e]
          have hm := (mem_rows (K := K) l _ _).mpr e.2
          have := idx_flat G l s h z.toNat _ hm (K.numbers s) (fun _ q => q) (nums_sorted G l s h) c.2
          rw [List.map_cons]
          show some _ = some (p + List.idxOf _ ((K.numbers s).flatMap fun x => (rows K l (K.behind s x)).map (x :: ·)))
          rw [this, Nat.add_assoc]
        · rw [if_neg e, if_neg e]
    · rw [if_neg c, if_neg]
      rintro ⟨q1, q2⟩
      rw [List.all_cons, Bool.and_eq_true] at q1
      rw [List.map_cons] at q2
      unfold acc at q2
      rw [Bool.and_eq_true] at q2
      exact c ⟨of_decide_eq_true q1.1, List.contains_iff_mem.mp q2.1⟩
end
end Arr

/-! # Counting -/
namespace Arr
theorem sorted_same : ∀ (l k : List Nat), l.Pairwise (· < ·) → k.Pairwise (· < ·) → (∀ x, x ∈ l ↔ x ∈ k) → l = k
  | [], [], _, _, _ => rfl
  | [], y :: k, _, _, h => by have := (h y).mpr List.mem_cons_self; cases this
  | x :: l, [], _, _, h => by have := (h x).mp List.mem_cons_self; cases this
  | x :: l, y :: k, hl, hk, h => by
    rw [List.pairwise_cons] at hl hk
    have e : x = y := by
      rcases List.mem_cons.mp ((h x).mp List.mem_cons_self) with e | q
      · exact e
      · rcases List.mem_cons.mp ((h y).mpr List.mem_cons_self) with e | p
        · exact e.symm
        · have := hl.1 y p
          have := hk.1 x q
          omega
    subst e
    congr 1
    refine sorted_same l k hl.2 hk.2 fun z => ⟨fun hz => ?_, fun hz => ?_⟩
    · rcases List.mem_cons.mp ((h z).mp (List.mem_cons_of_mem _ hz)) with e | q
      · subst e; have := hl.1 z hz; omega
      · exact q
    · rcases List.mem_cons.mp ((h z).mpr (List.mem_cons_of_mem _ hz)) with e | q
      · subst e; have := hk.1 z hz; omega
      · exact q
theorem nums_of {xs : List Nat} {m : Nat} (h : xs.Pairwise (· < ·)) (b : ∀ x, x ∈ xs → x < m) : xs = (List.range m).filter fun x => xs.contains x := by
  refine sorted_same _ _ h (List.Pairwise.filter _ List.pairwise_lt_range) fun x => ?_
  rw [List.mem_filter, List.mem_range, List.contains_iff_mem]
  exact ⟨fun q => ⟨b x q, q⟩, fun q => q.2⟩
/-! ### choices -/
def C : Nat → Nat → Nat
  | _, 0 => 1
  | 0, _ + 1 => 0
  | n + 1, k + 1 => C n k + C n (k + 1)
theorem C_zero (n : Nat) : C n 0 = 1 := by cases n <;> rfl
theorem C_over : ∀ (n k : Nat), n < k → C n k = 0
  | _, 0, h => by omega
  | 0, _ + 1, _ => rfl
  | n + 1, k + 1, h => by
    show C n k + C n (k + 1) = 0
    rw [C_over n k (by omega), C_over n (k + 1) (by omega)]
theorem C_all : ∀ n, C n n = 1
  | 0 => rfl
  | n + 1 => by
    show C n n + C n (n + 1) = 1
    rw [C_all n, C_over n (n + 1) (by omega)]
/-- (k + 1) C(n, k + 1) = (n - k) C(n, k) -/
theorem C_step : ∀ (n k : Nat), k ≤ n → C n (k + 1) * (k + 1) = C n k * (n - k)
  | 0, k, h => by
    obtain rfl : k = 0 := by omega
    rfl
  | n + 1, 0, _ => by
    show (C n 0 + C n 1) * 1 = C (n + 1) 0 * (n + 1)
    have := C_step n 0 (by omega)
    rw [C_zero, Nat.sub_zero, Nat.zero_add, Nat.mul_one] at this
    rw [C_zero, C_zero, this]
    omega
  | n + 1, k + 1, h => by
    show (C n (k + 1) + C n (k + 2)) * (k + 2) = (C n k + C n (k + 1)) * (n + 1 - (k + 1))
    have h1 := C_step n k (by omega)
    have e1 : n + 1 - (k + 1) = n - k := by omega
    rw [e1, Nat.add_mul, Nat.add_mul, ← h1]
    by_cases c : k + 1 ≤ n
    · have h2 := C_step n (k + 1) c
      rw [h2]
      have e2 : n - k = (n - (k + 1)) + 1 := by omega
      rw [e2, Nat.mul_add, Nat.mul_add, Nat.mul_add]
      omega
    · rw [C_over n (k + 1) (by omega), C_over n (k + 2) (by omega)]
      simp
theorem C_turn (n k : Nat) (h : k ≤ n) : C n k * (n - k) / (k + 1) = C n (k + 1) := by
  rw [← C_step n k h]
  exact Nat.mul_div_cancel _ (by omega)
theorem C_le : ∀ n k, C n k ≤ 2 ^ n
  | 0, 0 => by decide
  | 0, _ + 1 => by show 0 ≤ _; omega
  | n + 1, 0 => by rw [C_zero]; exact Nat.one_le_two_pow
  | n + 1, k + 1 => by
    show C n k + C n (k + 1) ≤ 2 ^ (n + 1)
    have := C_le n k
    have := C_le n (k + 1)
    rw [Nat.pow_succ]
    omega
def F : Nat → Nat
  | 0 => 1
  | n + 1 => F n * (n + 1)
theorem F_pos : ∀ n, 0 < F n
  | 0 => by decide
  | n + 1 => Nat.mul_pos (F_pos n) (by omega)
theorem C_F : ∀ (a b : Nat), C (a + b) b * F a * F b = F (a + b)
  | a, 0 => by rw [Nat.add_zero, C_zero]; simp [F]
  | a, b + 1 => by
    have h1 := C_F (a + 1) b
    have h2 := C_step (a + 1 + b) b (by omega)
    have e1 : a + (b + 1) = a + 1 + b := by omega
    have e2 : a + 1 + b - b = a + 1 := by omega
    rw [e2] at h2
    rw [e1, ← h1]
    show C (a + 1 + b) (b + 1) * F a * (F b * (b + 1)) = C (a + 1 + b) b * (F a * (a + 1)) * F b
    calc C (a + 1 + b) (b + 1) * F a * (F b * (b + 1)) = (C (a + 1 + b) (b + 1) * (b + 1)) * (F a * F b) := by ac_rfl
      _ = (C (a + 1 + b) b * (a + 1)) * (F a * F b) := by rw [h2]
      _ = _ := by ac_rfl
/-! ### sort 1 -/
theorem hockey (k : Nat) : ∀ (n a : Nat), C n (k + 1) = ((List.range n).map fun i => C (a + n - (a + i + 1)) k).sum
  | 0, a => rfl
  | n + 1, a => by
    rw [List.range_succ_eq_map, List.map_cons, List.sum_cons, List.map_map]
    show C n k + C n (k + 1) = _
    rw [hockey k n (a + 1)]
    have e : a + (n + 1) - (a + 0 + 1) = n := by omega
    rw [e]
    congr 2
    refine List.map_congr_left fun i _ => ?_
    show C (a + 1 + n - (a + 1 + i + 1)) k = C (a + (n + 1) - (a + (i + 1) + 1)) k
    congr 1
    omega
/-! ### sort 2 -/
def bT : Nat → Nat → Nat
  | 0, b => if b = 0 then 1 else 0
  | a + 1, b => (if b = 0 then 0 else bT a (b - 1)) + bT a (b + 1)
theorem bT_over : ∀ (a b : Nat), a < b → bT a b = 0
  | 0, b, h => if_neg (by omega)
  | a + 1, b, h => by
    unfold bT
    rw [if_neg (by omega), bT_over a _ (by omega), bT_over a _ (by omega)]
/-! ### sort 3 -/
def gT : Nat → Nat → Nat
  | 0, _ => 1
  | a + 1, b => b * gT a b + gT a (b + 1)
theorem gT_pos : ∀ a b, 0 < gT a b
  | 0, _ => Nat.one_pos
  | a + 1, b => by
    unfold gT
    have := gT_pos a (b + 1)
    omega
/-! ### sort 4 -/
/-- how many ways to part rest in numbers of at most most -/
def pT (most rest : Nat) : Nat :=
  match most with
  | 0 => if rest = 0 then 1 else 0
  | m + 1 => pT m rest + if h : m + 1 ≤ rest then pT (m + 1) (rest - (m + 1)) else 0
termination_by (most, rest)
decreasing_by
  · exact Prod.Lex.left _ _ (by omega)
  · exact Prod.Lex.right _ (by omega)
theorem pT_zero (r : Nat) : pT 0 r = if r = 0 then 1 else 0 := by rw [pT]
theorem pT_succ (m r : Nat) : pT (m + 1) r = pT m r + if m + 1 ≤ r then pT (m + 1) (r - (m + 1)) else 0 := by
  rw [pT]
  split <;> rfl
theorem pT_none : ∀ m, pT m 0 = 1
  | 0 => by rw [pT_zero]; rfl
  | m + 1 => by rw [pT_succ, pT_none m, if_neg (by omega)]
theorem pT_sum (r : Nat) (hr : 0 < r) : ∀ m, pT m r = ((List.range (min m r)).map fun i => pT (1 + i) (r - (1 + i))).sum
  | 0 => by
    rw [pT_zero, if_neg (by omega), Nat.zero_min]; rfl
  | m + 1 => by
    rw [pT_succ, pT_sum r hr m]
    by_cases c : m + 1 ≤ r
    · have e1 : min (m + 1) r = m + 1 := by omega
      have e2 : min m r = m := by omega
      rw [if_pos c, e1, e2, List.range_succ, List.map_append, List.sum_append]
      simp [Nat.add_comm 1 m]
    · have e1 : min (m + 1) r = r := by omega
      have e2 : min m r = r := by omega
      rw [if_neg c, e1, e2, Nat.add_zero]
/-! ### sort 0 -/
/-- together: so many ahead -/
def wT : Nat → List Nat → Nat
  | _, [] => 1
  | t, x :: xs => C (t + x) x * wT (t + x) xs
def fT : List Nat → Nat
  | [] => 1
  | x :: xs => F x * fT xs
theorem fT_pos : ∀ xs, 0 < fT xs
  | [] => by decide
  | x :: xs => Nat.mul_pos (F_pos x) (fT_pos xs)
theorem wT_F : ∀ (xs : List Nat) (t : Nat), wT t xs * F t * fT xs = F (t + xs.sum)
  | [], t => by simp [wT, fT]
  | x :: xs, t => by
    have h := wT_F xs (t + x)
    have h2 := C_F t x
    rw [List.sum_cons, ← Nat.add_assoc, ← h, ← h2]
    show C (t + x) x * wT (t + x) xs * F t * (F x * fT xs) = _
    ac_rfl
theorem fT_set : ∀ (xs : List Nat) (i x : Nat), xs[i]? = some (x + 1) → fT (xs.set i x) * (x + 1) = fT xs
  | [], i, x, h => by simp at h
  | y :: xs, 0, x, h => by
    have e : y = x + 1 := Option.some.inj h
    subst e
    show F x * fT xs * (x + 1) = F x * (x + 1) * fT xs
    ac_rfl
  | y :: xs, i + 1, x, h => by
    have ih := fT_set xs i x h
    show F y * fT (xs.set i x) * (x + 1) = F y * fT xs
    rw [← ih]
    ac_rfl
theorem sum_set : ∀ (xs : List Nat) (i x : Nat), xs[i]? = some (x + 1) → (xs.set i x).sum + 1 = xs.sum
  | [], i, x, h => by simp at h
  | y :: xs, 0, x, h => by
    have e : y = x + 1 := Option.some.inj h
    subst e
    show (x :: xs).sum + 1 = ((x + 1) :: xs).sum
    rw [List.sum_cons, List.sum_cons]
    omega
  | y :: xs, i + 1, x, h => by
    have ih := sum_set xs i x h
    show (y :: xs.set i x).sum + 1 = (y :: xs).sum
    rw [List.sum_cons, List.sum_cons]
    omega
theorem set_F (xs : List Nat) (i x : Nat) (n : Nat) (h : xs[i]? = some (x + 1)) (hn : xs.sum = n + 1) : wT 0 (xs.set i x) * fT xs = (x + 1) * F n := by
  have h1 := wT_F (xs.set i x) 0
  have h2 := sum_set xs i x h
  have e : (xs.set i x).sum = n := by omega
  rw [Nat.zero_add, e] at h1
  rw [← fT_set xs i x h, ← h1]
  show wT 0 (xs.set i x) * (fT (xs.set i x) * (x + 1)) = (x + 1) * (wT 0 (xs.set i x) * 1 * fT (xs.set i x))
  rw [Nat.mul_one]
  ac_rfl
def repNum (xs : List Nat) : List Nat := (List.range xs.length).filter fun i => decide (0 < xs.getD i 0)
theorem sum_map_mul (f : Nat → Nat) (c : Nat) : ∀ L : List Nat, (L.map f).sum * c = (L.map fun i => f i * c).sum
  | [] => by simp
  | x :: L => by rw [List.map_cons, List.sum_cons, List.map_cons, List.sum_cons, Nat.add_mul, sum_map_mul f c L]
theorem sum_filter (f : Nat → Nat) (p : Nat → Bool) : ∀ L : List Nat, (∀ x, x ∈ L → p x = false → f x = 0) → ((L.filter p).map f).sum = (L.map f).sum
  | [], _ => rfl
  | x :: L, h => by
    have ih := sum_filter f p L fun y hy => h y (List.mem_cons_of_mem _ hy)
    rw [List.map_cons, List.sum_cons, ← ih]
    cases c : p x with
    | true => rw [List.filter_cons_of_pos c, List.map_cons, List.sum_cons]
    | false => rw [List.filter_cons_of_neg (by rw [c]; exact Bool.false_ne_true), h x List.mem_cons_self c, Nat.zero_add]
theorem sum_getD : ∀ xs : List Nat, ((List.range xs.length).map fun i => xs.getD i 0).sum = xs.sum
  | [] => rfl
  | x :: xs => by
    rw [List.length_cons, List.range_succ_eq_map, List.map_cons, List.sum_cons, List.map_map, List.sum_cons]
    have := sum_getD xs
    rw [← this]
    rfl
theorem wT_sum (xs : List Nat) (n : Nat) (hn : xs.sum = n + 1) : wT 0 xs = ((repNum xs).map fun i => wT 0 (xs.set i (xs.getD i 0 - 1))).sum := by
  have hp := fT_pos xs
  refine Nat.eq_of_mul_eq_mul_right hp ?_
  rw [sum_map_mul]
  have e : ((repNum xs).map fun i => wT 0 (xs.set i (xs.getD i 0 - 1)) * fT xs) = (repNum xs).map fun i => xs.getD i 0 * F n := by
    refine List.map_congr_left fun i hi => ?_
    unfold repNum at hi
    rw [List.mem_filter, List.mem_range] at hi
    have h0 : 0 < xs.getD i 0 := of_decide_eq_true hi.2
    have e1 : xs[i]? = some (xs.getD i 0 - 1 + 1) := by
      rw [Nat.sub_add_cancel h0, List.getD_eq_getElem?_getD, List.getElem?_eq_getElem hi.1]
      rfl
    have := set_F xs i _ n e1 hn
    rw [this, Nat.sub_add_cancel h0]
  rw [e, ← sum_map_mul]
  unfold repNum
  rw [sum_filter _ _ _ (fun x _ c => by have := of_decide_eq_false c; omega), sum_getD]
  have := wT_F xs 0
  rw [Nat.zero_add] at this
  show wT 0 xs * fT xs = _
  have e2 : wT 0 xs * fT xs = F (n + 1) := by rw [← hn, ← this]; show _ = wT 0 xs * 1 * fT xs; rw [Nat.mul_one]
  rw [e2, hn]
  show F n * (n + 1) = _
  ac_rfl
/-! ### sort 5 -/
/-- own numbers that must not stand at their own places, of len -/
def dN : Nat → Nat → Nat
  | 0, l => F l
  | j + 1, 0 => 0
  | j + 1, l + 1 => (l - j) * dN j l + j * dN (j - 1) l
/-- the same by taking away -/
def dZ : Nat → Nat → Int
  | 0, l => (F l : Nat)
  | j + 1, l => dZ j l - dZ j (l - 1)
theorem dZ_succ (j l : Nat) : dZ (j + 1) l = dZ j l - dZ j (l - 1) := rfl
theorem dZ_split : ∀ (j l : Nat), j ≤ l → dZ j (l + 1) = ((l : Int) + 1 - j) * dZ j l + j * dZ (j - 1) l
  | 0, l, _ => by
    show ((F l * (l + 1) : Nat) : Int) = ((l : Int) + 1 - (0 : Nat)) * ((F l : Nat) : Int) + (0 : Nat) * _
    simp
    rw [Int.mul_comm]
  | j + 1, 0, h => by omega
  | j + 1, l + 1, h => by
    have h1 := dZ_split j (l + 1) (by omega)
    have h2 := dZ_split j l (by omega)
    have e1 : dZ (j + 1) (l + 1 + 1) = dZ j (l + 1 + 1) - dZ j (l + 1) := rfl
    have e2 : dZ (j + 1) (l + 1) = dZ j (l + 1) - dZ j l := rfl
    have e3 : (j : Int) * dZ j (l + 1) = j * (dZ (j - 1) (l + 1) - dZ (j - 1) l) := by
      cases j with
      | zero => simp
      | succ i => rfl
    have e4 : j + 1 - 1 = j := rfl
    rw [e4]
    push_cast at h1 h2 ⊢
    grind
theorem dZ_own (j l : Nat) (h : j ≤ l) : dZ (j + 1) (l + 1) = ((l : Int) - j) * dZ j l + j * dZ (j - 1) l := by
  have h1 := dZ_split j l h
  have e2 : dZ (j + 1) (l + 1) = dZ j (l + 1) - dZ j l := rfl
  grind
theorem dN_dZ : ∀ (l j : Nat), j ≤ l → (dN j l : Int) = dZ j l
  | l, 0, _ => by cases l <;> rfl
  | 0, j + 1, h => by omega
  | l + 1, j + 1, h => by
    have h1 := dN_dZ l j (by omega)
    have h2 := dN_dZ l (j - 1) (by omega)
    rw [dZ_own j l (by omega), ← h1, ← h2]
    show (((l - j) * dN j l + j * dN (j - 1) l : Nat) : Int) = _
    rw [Int.natCast_add, Int.natCast_mul, Int.natCast_mul, Int.natCast_sub (by omega)]
theorem dN_split (j l : Nat) (h : j ≤ l) : dN j (l + 1) = (l + 1 - j) * dN j l + j * dN (j - 1) l := by
  have h1 := dZ_split j l h
  rw [← dN_dZ _ _ (by omega), ← dN_dZ _ _ (by omega), ← dN_dZ _ _ (by omega)] at h1
  refine Int.ofNat.inj ?_
  show ((dN j (l + 1) : Nat) : Int) = (((l + 1 - j) * dN j l + j * dN (j - 1) l : Nat) : Int)
  rw [h1, Int.natCast_add, Int.natCast_mul, Int.natCast_mul, Int.natCast_sub (by omega)]
  rfl
def sgn : Nat → Int
  | 0 => 1
  | k + 1 => - sgn k
/-- the sum with signs, of the first m -/
def pS (f : Nat → Int) (j : Nat) : Nat → Int
  | 0 => 0
  | m + 1 => pS f j m + sgn m * (C j m : Nat) * f m
theorem pS_succ (f : Nat → Int) (j : Nat) : ∀ m, pS f (j + 1) (m + 1) = pS f j (m + 1) - pS (fun k => f (k + 1)) j m
  | 0 => by
    show (0 : Int) + sgn 0 * (C (j + 1) 0 : Nat) * f 0 = 0 + sgn 0 * (C j 0 : Nat) * f 0 - 0
    rw [C_zero, C_zero]
    omega
  | m + 1 => by
    have ih := pS_succ f j m
    have e1 : pS f (j + 1) (m + 1 + 1) = pS f (j + 1) (m + 1) + sgn (m + 1) * (C (j + 1) (m + 1) : Nat) * f (m + 1) := rfl
    have e2 : pS f j (m + 1 + 1) = pS f j (m + 1) + sgn (m + 1) * (C j (m + 1) : Nat) * f (m + 1) := rfl
    have e3 : pS (fun k => f (k + 1)) j (m + 1) = pS (fun k => f (k + 1)) j m + sgn m * (C j m : Nat) * f (m + 1) := rfl
    have e4 : ((C (j + 1) (m + 1) : Nat) : Int) = (C j m : Nat) + (C j (m + 1) : Nat) := by
      rw [← Int.natCast_add]; rfl
    have e5 : sgn (m + 1) = - sgn m := rfl
    rw [e1, e2, e3, e4, e5, ih]
    grind
theorem pS_dZ : ∀ (j l : Nat), pS (fun k => (F (l - k) : Nat)) j (j + 1) = dZ j l
  | 0, l => by
    show (0 : Int) + 1 * (1 : Nat) * (F (l - 0) : Nat) = (F l : Nat)
    simp
  | j + 1, l => by
    rw [pS_succ]
    have e1 : pS (fun k => (F (l - k) : Nat)) j (j + 1 + 1) = pS (fun k => (F (l - k) : Nat)) j (j + 1) := by
      show pS _ j (j + 1) + sgn (j + 1) * (C j (j + 1) : Nat) * _ = _
      rw [C_over j (j + 1) (by omega)]
      simp
    have e2 : (fun k => ((F (l - (k + 1)) : Nat) : Int)) = fun k => ((F (l - 1 - k) : Nat) : Int) := by
      funext k
      have : l - (k + 1) = l - 1 - k := by omega
      rw [this]
    rw [e1, e2, pS_dZ j l, pS_dZ j (l - 1)]
    rfl
theorem len_without (x : Nat) : ∀ L : List Nat, L.Pairwise (· < ·) → (L.filter fun y => y != x).length = if x ∈ L then L.length - 1 else L.length
  | [], _ => rfl
  | y :: L, h => by
    rw [List.pairwise_cons] at h
    have ih := len_without x L h.2
    by_cases c : y = x
    · subst c
      have hn : ¬ y ∈ L := fun q => by have := h.1 y q; omega
      rw [if_neg hn] at ih
      rw [List.filter_cons_of_neg (by simp), ih, if_pos List.mem_cons_self]
      rfl
    · rw [List.filter_cons_of_pos (by simpa using c), List.length_cons, ih]
      by_cases d : x ∈ L
      · have : 0 < L.length := List.length_pos_of_mem d
        rw [if_pos d, if_pos (List.mem_cons_of_mem _ d), List.length_cons]
        omega
      · rw [if_neg d, if_neg (by
          intro q
          rcases List.mem_cons.mp q with e | e
          · exact c e.symm
          · exact d e), List.length_cons]
theorem sorted_le (b : Nat) : ∀ (L : List Nat) (a : Nat), L.Pairwise (· < ·) → (∀ x, x ∈ L → a ≤ x ∧ x < b) → L.length ≤ b - a
  | [], _, _, _ => Nat.zero_le _
  | y :: L, a, h, q => by
    rw [List.pairwise_cons] at h
    have h1 := q y List.mem_cons_self
    have := sorted_le b L (y + 1) h.2 fun x hx => ⟨by have := h.1 x hx; omega, (q x (List.mem_cons_of_mem _ hx)).2⟩
    rw [List.length_cons]
    omega
theorem sum_two (p a b : Nat) : ∀ L : List Nat, (L.map fun x => if x < p then a else b).sum = (L.filter fun x => decide (x < p)).length * a + (L.filter fun x => decide (p ≤ x)).length * b
  | [] => by simp
  | x :: L => by
    have ih := sum_two p a b L
    rw [List.map_cons, List.sum_cons, ih]
    by_cases c : x < p
    · have d : ¬ p ≤ x := by omega
      rw [if_pos c, List.filter_cons_of_pos (by simpa using c), List.filter_cons_of_neg (by simpa using d), List.length_cons, Nat.add_mul]
      omega
    · have d : p ≤ x := by omega
      rw [if_neg c, List.filter_cons_of_neg (by simpa using c), List.filter_cons_of_pos (by simpa using d), List.length_cons, Nat.add_mul]
      omega
theorem len_two (p : Nat) : ∀ L : List Nat, (L.filter fun x => decide (x < p)).length + (L.filter fun x => decide (p ≤ x)).length = L.length
  | [] => rfl
  | x :: L => by
    have ih := len_two p L
    by_cases c : x < p
    · have d : ¬ p ≤ x := by omega
      rw [List.filter_cons_of_pos (by simpa using c), List.filter_cons_of_neg (by simpa using d), List.length_cons, List.length_cons]
      omega
    · have d : p ≤ x := by omega
      rw [List.filter_cons_of_neg (by simpa using c), List.filter_cons_of_pos (by simpa using d), List.length_cons, List.length_cons]
      omega
/-- how many are at least p -/
def own (xs : List Nat) (p : Nat) : Nat := (xs.filter fun x => decide (p ≤ x)).length
def wD (xs : List Nat) (p : Nat) : Nat := dN (own xs p) xs.length
theorem own_without (xs : List Nat) (p x : Nat) (h : xs.Pairwise (· < ·)) : own (xs.filter fun y => y != x) p = if x ∈ xs ∧ p ≤ x then own xs p - 1 else own xs p := by
  unfold own
  rw [List.filter_filter]
  have e : (xs.filter fun a => decide (p ≤ a) && a != x) = (xs.filter fun a => decide (p ≤ a)).filter fun a => a != x := by
    rw [List.filter_filter]
    refine List.filter_congr fun a _ => Bool.and_comm _ _
  rw [e, len_without x _ (List.Pairwise.filter _ h)]
  have e2 : (x ∈ xs.filter fun a => decide (p ≤ a)) ↔ (x ∈ xs ∧ p ≤ x) := by
    rw [List.mem_filter]
    simp
  by_cases c : x ∈ xs ∧ p ≤ x
  · rw [if_pos c, if_pos (e2.mpr c)]
  · rw [if_neg c, if_neg fun q => c (e2.mp q)]
theorem own_next (xs : List Nat) (p : Nat) (h : xs.Pairwise (· < ·)) : own xs p = own xs (p + 1) + if p ∈ xs then 1 else 0 := by
  have e : own xs (p + 1) = ((xs.filter fun a => decide (p ≤ a)).filter fun a => a != p).length := by
    unfold own
    rw [List.filter_filter]
    congr 1
    refine List.filter_congr fun a _ => ?_
    rw [Bool.eq_iff_iff]
    simp
    omega
  rw [e, len_without p _ (List.Pairwise.filter _ h)]
  have e2 : (p ∈ xs.filter fun a => decide (p ≤ a)) ↔ p ∈ xs := by
    rw [List.mem_filter]
    simp
  unfold own
  by_cases c : p ∈ xs
  · rw [if_pos (e2.mpr c), if_pos c]
    have := List.length_pos_of_mem (e2.mpr c)
    omega
  · rw [if_neg (fun q => c (e2.mp q)), if_neg c]
    rfl
theorem wD_sum (xs : List Nat) (p l : Nat) (h : xs.Pairwise (· < ·)) (hl : xs.length = l + 1) (hb : ∀ x, x ∈ xs → x < p + l + 1) :
    wD xs p = ((xs.filter fun x => x != p).map fun x => wD (xs.filter fun y => y != x) (p + 1)).sum := by
  have e : ((xs.filter fun x => x != p).map fun x => wD (xs.filter fun y => y != x) (p + 1)) = (xs.filter fun x => x != p).map fun x => if x < p then dN (own xs (p + 1)) l else dN (own xs (p + 1) - 1) l := by
    refine List.map_congr_left fun x hx => ?_
    rw [List.mem_filter] at hx
    have hne : x ≠ p := by simpa using hx.2
    unfold wD
    rw [own_without xs (p + 1) x h, len_without x xs h, if_pos hx.1, hl]
    by_cases c : x < p
    · rw [if_pos c, if_neg (by omega)]; rfl
    · rw [if_neg c, if_pos ⟨hx.1, by omega⟩]; rfl
  rw [e, sum_two]
  have e1 : ((xs.filter fun x => x != p).filter fun x => decide (p ≤ x)).length = own xs (p + 1) := by
    unfold own
    rw [List.filter_filter]
    congr 1
    refine List.filter_congr fun a _ => ?_
    rw [Bool.eq_iff_iff]
    simp
    omega
  have e2 := len_two p (xs.filter fun x => x != p)
  rw [e1, len_without p xs h] at e2
  have e3 := own_next xs p h
  rw [e1]
  unfold wD
  have hg : own xs (p + 1) ≤ l := by
    have := sorted_le (p + l + 1) (xs.filter fun x => decide (p + 1 ≤ x)) (p + 1) (List.Pairwise.filter _ h) fun x hx => by
      rw [List.mem_filter] at hx
      exact ⟨by simpa using hx.2, hb x hx.1⟩
    unfold own
    omega
  rw [hl] at e2 ⊢
  by_cases c : p ∈ xs
  · rw [if_pos c] at e2 e3
    rw [e3]
    have e4 : ((xs.filter fun x => x != p).filter fun x => decide (x < p)).length = l - own xs (p + 1) := by omega
    rw [e4]
    rfl
  · rw [if_neg c] at e2 e3
    rw [e3, Nat.add_zero, dN_split _ _ hg]
    have e4 : ((xs.filter fun x => x != p).filter fun x => decide (x < p)).length = l + 1 - own xs (p + 1) := by omega
    rw [e4]
end Arr

/-! # The six sorts by states -/
namespace Arr
inductive S where
  | tup (xs : List Nat)
  | pr (a b : Nat)
  | dis (xs : List Nat) (p : Nat)
inductive Kd where
  | rep (m : List Nat)
  | cho (n k : Nat)
  | bal (n : Nat)
  | gro (n : Nat)
  | par (n : Nat)
  | dis (n : Nat)
def Kd.len : Kd → Nat
  | .rep m => m.sum
  | .cho _ k => k
  | .bal n => n
  | .gro n => n
  | .par n => n
  | .dis n => n
def Kd.begin : Kd → S
  | .rep m => .tup m
  | .cho _ k => .pr 0 k
  | .bal n => .pr n 0
  | .gro n => .pr n 0
  | .par n => .pr n n
  | .dis n => .dis (List.range n) 0
def Kd.numbers : Kd → S → List Nat
  | .rep _, .tup xs => repNum xs
  | .cho n _, .pr a _ => (List.range (n - a)).map (a + ·)
  | .bal _, .pr _ b => if b = 0 then [0] else [0, 1]
  | .gro _, .pr _ b => List.range (b + 1)
  | .par _, .pr a b => if b = 0 then [0] else (List.range (min a b)).map (1 + ·)
  | .dis _, .dis xs p => xs.filter fun x => x != p
  | _, _ => []
def Kd.behind : Kd → S → Nat → S
  | .rep _, .tup xs, x => .tup (xs.set x (xs.getD x 0 - 1))
  | .cho _ _, .pr a b, x => .pr (x + 1) (b - 1)
  | .bal _, .pr a b, x => .pr (a - 1) (b + 1 - 2 * x)
  | .gro _, .pr a b, x => .pr (a - 1) (max b (x + 1))
  | .par _, .pr a b, x => .pr x (b - x)
  | .dis _, .dis xs p, x => .dis (xs.filter fun y => y != x) (p + 1)
  | _, s, _ => s
def Kd.ways : Kd → S → Nat
  | .rep _, .tup xs => wT 0 xs
  | .cho n _, .pr a b => C (n - a) b
  | .bal _, .pr a b => bT a b
  | .gro _, .pr a b => gT a b
  | .par _, .pr a b => pT a b
  | .dis _, .dis xs p => wD xs p
  | _, _ => 0
def Kd.kind (d : Kd) : Kind S := ⟨d.numbers, d.behind, d.ways⟩
/-- a number that no row's number reaches -/
def Kd.top : Kd → Nat
  | .rep m => m.length + 1
  | .cho n _ => n + 1
  | .bal _ => 2
  | .gro n => n + 1
  | .par n => n + 1
  | .dis n => n + 1
/-- what holds of a state with so many numbers to come -/
def Kd.V : Kd → Nat → S → Prop
  | .rep m, l, .tup xs => xs.length = m.length ∧ xs.sum = l
  | .cho n _, l, .pr a b => b = l ∧ a ≤ n
  | .bal n, l, .pr a b => a = l ∧ l + b ≤ n
  | .gro n, l, .pr a b => a = l ∧ l + b ≤ n
  | .par n, l, .pr a b => b ≤ l ∧ a ≤ n ∧ l ≤ n
  | .dis n, l, .dis xs p => xs.Pairwise (· < ·) ∧ (∀ x, x ∈ xs → x < n) ∧ xs.length = l ∧ p + l = n
  | _, _, _ => False
theorem good_rep (m : List Nat) : Good (Kd.rep m).kind (Kd.rep m).top (Kd.rep m).V where
  base := by
    rintro (xs | _ | _) h
    · obtain ⟨_, h⟩ := h
      show wT 0 xs ≤ 1
      have e := wT_F xs 0
      rw [Nat.zero_add, h] at e
      have hp := fT_pos xs
      have e2 : wT 0 xs * fT xs = 1 := by
        have : wT 0 xs * F 0 * fT xs = 1 := e
        rw [show F 0 = 1 from rfl, Nat.mul_one] at this
        exact this
      have := Nat.eq_one_of_mul_eq_one_right e2
      omega
    · exact False.elim h
    · exact False.elim h
  step := by
    rintro l (xs | _ | _) x h hx
    · obtain ⟨h1, h2⟩ := h
      have hx : x ∈ repNum xs := hx
      unfold repNum at hx
      rw [List.mem_filter, List.mem_range] at hx
      have h0 : 0 < xs.getD x 0 := of_decide_eq_true hx.2
      have e1 : xs[x]? = some (xs.getD x 0 - 1 + 1) := by
        rw [Nat.sub_add_cancel h0, List.getD_eq_getElem?_getD, List.getElem?_eq_getElem hx.1]
        rfl
      have := sum_set xs x _ e1
      exact ⟨by rw [List.length_set]; exact h1, by omega⟩
    · exact False.elim h
    · exact False.elim h
  sum := by
    rintro l (xs | _ | _) h
    · exact wT_sum xs l h.2
    · exact False.elim h
    · exact False.elim h
  nums := by
    rintro l (xs | _ | _) h
    · refine nums_of (List.Pairwise.filter _ List.pairwise_lt_range) fun x hx => ?_
      have hx : x ∈ repNum xs := hx
      unfold repNum at hx
      rw [List.mem_filter, List.mem_range] at hx
      have h1 : xs.length = m.length := h.1
      show x < m.length + 1
      omega
    · exact False.elim h
    · exact False.elim h
theorem sorted_shift (a : Nat) : ∀ n, ((List.range n).map (a + ·)).Pairwise (· < ·) := fun n => by
  rw [List.pairwise_map]
  exact List.Pairwise.imp (fun h => by omega) List.pairwise_lt_range
theorem mem_shift {a n x : Nat} : x ∈ (List.range n).map (a + ·) ↔ a ≤ x ∧ x < a + n := by
  rw [List.mem_map]
  constructor
  · rintro ⟨i, hi, rfl⟩
    rw [List.mem_range] at hi
    omega
  · rintro ⟨h1, h2⟩
    exact ⟨x - a, by rw [List.mem_range]; omega, by omega⟩
theorem good_cho (n k : Nat) : Good (Kd.cho n k).kind (Kd.cho n k).top (Kd.cho n k).V where
  base := by
    rintro (_ | ⟨a, b⟩ | _) h
    · exact False.elim h
    · obtain ⟨h1, h2⟩ := h
      subst h1
      show C (n - a) 0 ≤ 1
      rw [C_zero]
      exact Nat.le_refl _
    · exact False.elim h
  step := by
    rintro l (_ | ⟨a, b⟩ | _) x h hx
    · exact False.elim h
    · obtain ⟨h1, h2⟩ := h
      have := mem_shift.mp hx
      exact ⟨by omega, by omega⟩
    · exact False.elim h
  sum := by
    rintro l (_ | ⟨a, b⟩ | _) h
    · exact False.elim h
    · obtain ⟨h1, h2⟩ := h
      subst h1
      show C (n - a) (l + 1) = (((List.range (n - a)).map (a + ·)).map fun x => C (n - (x + 1)) (l + 1 - 1)).sum
      rw [hockey l (n - a) a, List.map_map]
      congr 1
      refine List.map_congr_left fun i _ => ?_
      show C (a + (n - a) - (a + i + 1)) l = C (n - (a + i + 1)) l
      congr 1
      omega
    · exact False.elim h
  nums := by
    rintro l (_ | ⟨a, b⟩ | _) h
    · exact False.elim h
    · obtain ⟨h1, h2⟩ := h
      refine nums_of (sorted_shift _ _) fun x hx => ?_
      have := mem_shift.mp hx
      show x < n + 1
      omega
    · exact False.elim h
theorem good_bal (n : Nat) : Good (Kd.bal n).kind (Kd.bal n).top (Kd.bal n).V where
  base := by
    rintro (_ | ⟨a, b⟩ | _) h
    · exact False.elim h
    · obtain ⟨h1, h2⟩ := h
      subst h1
      show (if b = 0 then 1 else 0) ≤ 1
      split <;> omega
    · exact False.elim h
  step := by
    rintro l (_ | ⟨a, b⟩ | _) x h hx
    · exact False.elim h
    · obtain ⟨h1, h2⟩ := h
      refine ⟨by omega, ?_⟩
      have hx : x ∈ (if b = 0 then [0] else [0, 1]) := hx
      omega
    · exact False.elim h
  sum := by
    rintro l (_ | ⟨a, b⟩ | _) h
    · exact False.elim h
    · obtain ⟨h1, h2⟩ := h
      subst h1
      show (if b = 0 then 0 else bT l (b - 1)) + bT l (b + 1) = ((if b = 0 then [0] else [0, 1]).map fun x => bT (l + 1 - 1) (b + 1 - 2 * x)).sum
      by_cases c : b = 0
      · rw [if_pos c, if_pos c]
        simp
      · have e : b + 1 - 2 = b - 1 := by omega
        rw [if_neg c, if_neg c]
        simp [e]
        omega
    · exact False.elim h
  nums := by
    rintro l (_ | ⟨a, b⟩ | _) h
    · exact False.elim h
    · show (if b = 0 then [0] else [0, 1]) = (List.range 2).filter fun x => (if b = 0 then [0] else [0, 1]).contains x
      by_cases c : b = 0
      · rw [if_pos c]; decide
      · rw [if_neg c]; decide
    · exact False.elim h
theorem gro_sum (b : Nat) (f : Nat → Nat) : ∀ j, j ≤ b → ((List.range j).map fun x => f (max b (x + 1))).sum = j * f b
  | 0, _ => by simp
  | j + 1, h => by
    have e : max b (j + 1) = b := by omega
    rw [List.range_succ, List.map_append, List.sum_append, gro_sum b f j (by omega), Nat.add_mul]
    simp [e]
theorem good_gro (n : Nat) : Good (Kd.gro n).kind (Kd.gro n).top (Kd.gro n).V where
  base := by
    rintro (_ | ⟨a, b⟩ | _) h
    · exact False.elim h
    · obtain ⟨h1, h2⟩ := h
      subst h1
      exact Nat.le_refl 1
    · exact False.elim h
  step := by
    rintro l (_ | ⟨a, b⟩ | _) x h hx
    · exact False.elim h
    · obtain ⟨h1, h2⟩ := h
      have := List.mem_range.mp (show x ∈ List.range (b + 1) from hx)
      exact ⟨by omega, by omega⟩
    · exact False.elim h
  sum := by
    rintro l (_ | ⟨a, b⟩ | _) h
    · exact False.elim h
    · obtain ⟨h1, h2⟩ := h
      subst h1
      show b * gT l b + gT l (b + 1) = ((List.range (b + 1)).map fun x => gT l (max b (x + 1))).sum
      rw [List.range_succ, List.map_append, List.sum_append, gro_sum b (gT l) b (Nat.le_refl _)]
      have e : max b (b + 1) = b + 1 := by omega
      simp [e]
    · exact False.elim h
  nums := by
    rintro l (_ | ⟨a, b⟩ | _) h
    · exact False.elim h
    · obtain ⟨h1, h2⟩ := h
      refine nums_of List.pairwise_lt_range fun x hx => ?_
      have := List.mem_range.mp hx
      show x < n + 1
      omega
    · exact False.elim h
theorem good_par (n : Nat) : Good (Kd.par n).kind (Kd.par n).top (Kd.par n).V where
  base := by
    rintro (_ | ⟨a, b⟩ | _) h
    · exact False.elim h
    · obtain ⟨h1, h2⟩ := h
      have : b = 0 := by omega
      subst this
      show pT a 0 ≤ 1
      rw [pT_none]
      exact Nat.le_refl _
    · exact False.elim h
  step := by
    rintro l (_ | ⟨a, b⟩ | _) x h hx
    · exact False.elim h
    · obtain ⟨h1, h2, h3⟩ := h
      have hx : x ∈ (if b = 0 then [0] else (List.range (min a b)).map (1 + ·)) := hx
      by_cases c : b = 0
      · rw [if_pos c] at hx
        have : x = 0 := by simpa using hx
        exact ⟨by omega, by omega, by omega⟩
      · rw [if_neg c] at hx
        have := mem_shift.mp hx
        exact ⟨by omega, by omega, by omega⟩
    · exact False.elim h
  sum := by
    rintro l (_ | ⟨a, b⟩ | _) h
    · exact False.elim h
    · show pT a b = ((if b = 0 then [0] else (List.range (min a b)).map (1 + ·)).map fun x => pT x (b - x)).sum
      by_cases c : b = 0
      · subst c
        rw [if_pos rfl, pT_none]
        simp [pT_none]
      · rw [if_neg c, pT_sum b (by omega) a, List.map_map]
        rfl
    · exact False.elim h
  nums := by
    rintro l (_ | ⟨a, b⟩ | _) h
    · exact False.elim h
    · obtain ⟨h1, h2, h3⟩ := h
      refine nums_of ?_ ?_
      · show (if b = 0 then [0] else (List.range (min a b)).map (1 + ·)).Pairwise (· < ·)
        split
        · simp
        · exact sorted_shift _ _
      · intro x hx
        have hx : x ∈ (if b = 0 then [0] else (List.range (min a b)).map (1 + ·)) := hx
        show x < n + 1
        by_cases c : b = 0
        · rw [if_pos c] at hx
          have : x = 0 := by simpa using hx
          omega
        · rw [if_neg c] at hx
          have := mem_shift.mp hx
          omega
    · exact False.elim h
theorem good_dis (n : Nat) : Good (Kd.dis n).kind (Kd.dis n).top (Kd.dis n).V where
  base := by
    rintro (_ | _ | ⟨xs, p⟩) h
    · exact False.elim h
    · exact False.elim h
    · obtain ⟨h1, h2, h3, h4⟩ := h
      have : xs = [] := List.length_eq_zero_iff.mp h3
      subst this
      exact Nat.le_refl 1
  step := by
    rintro l (_ | _ | ⟨xs, p⟩) x h hx
    · exact False.elim h
    · exact False.elim h
    · obtain ⟨h1, h2, h3, h4⟩ := h
      have hx : x ∈ xs.filter fun x => x != p := hx
      rw [List.mem_filter] at hx
      refine ⟨List.Pairwise.filter _ h1, fun y hy => h2 y (List.mem_filter.mp hy).1, ?_, by omega⟩
      rw [len_without x xs h1, if_pos hx.1]
      omega
  sum := by
    rintro l (_ | _ | ⟨xs, p⟩) h
    · exact False.elim h
    · exact False.elim h
    · obtain ⟨h1, h2, h3, h4⟩ := h
      exact wD_sum xs p l h1 h3 fun x hx => by have := h2 x hx; omega
  nums := by
    rintro l (_ | _ | ⟨xs, p⟩) h
    · exact False.elim h
    · exact False.elim h
    · obtain ⟨h1, h2, h3, h4⟩ := h
      refine nums_of (List.Pairwise.filter _ h1) fun x hx => ?_
      have := h2 x (List.mem_filter.mp hx).1
      show x < n + 1
      omega
theorem good (d : Kd) : Good d.kind d.top d.V := by
  cases d with
  | rep m => exact good_rep m
  | cho n k => exact good_cho n k
  | bal n => exact good_bal n
  | gro n => exact good_gro n
  | par n => exact good_par n
  | dis n => exact good_dis n
theorem V_begin (d : Kd) : d.V d.len d.begin := by
  cases d with
  | rep m => exact ⟨rfl, rfl⟩
  | cho n k => exact ⟨rfl, Nat.zero_le _⟩
  | bal n => exact ⟨rfl, Nat.le_refl _⟩
  | gro n => exact ⟨rfl, Nat.le_refl _⟩
  | par n => exact ⟨Nat.le_refl _, Nat.le_refl _, Nat.le_refl _⟩
  | dis n => exact ⟨List.pairwise_lt_range, fun x hx => List.mem_range.mp hx, List.length_range, Nat.zero_add _⟩
end Arr

/-! # A row of a sort is a row of its states -/
namespace Arr
open Sw17 (isRow goesOn count)
theorem acc_zero (d : Kd) (s : S) : acc d.kind 0 s [] = (d.ways s != 0) := by
  unfold acc
  simp [Kd.kind]
theorem acc_succ (d : Kd) (l : Nat) (s : S) (x : Nat) (r : List Nat) : acc d.kind (l + 1) s (x :: r) = ((d.numbers s).contains x && acc d.kind l (d.behind s x) r) := rfl
theorem goesOn_cons (f : Nat → Nat → Bool) (x y : Nat) (r : List Nat) : goesOn f (x :: y :: r) = (f x y && goesOn f (y :: r)) := rfl
theorem goesOn_one (f : Nat → Nat → Bool) (x : Nat) : goesOn f [x] = true := rfl
/-- the first, if any -/
def fst? (p : Nat → Prop) : List Nat → Prop
  | [] => True
  | x :: _ => p x
theorem goesOn_iff (f : Nat → Nat → Bool) (x : Nat) (r : List Nat) : goesOn f (x :: r) = true ↔ fst? (fun y => f x y = true) r ∧ goesOn f r = true := by
  cases r with
  | nil => exact ⟨fun _ => ⟨trivial, rfl⟩, fun _ => rfl⟩
  | cons y r =>
    rw [goesOn_cons, Bool.and_eq_true]
    exact Iff.rfl
/-! ### sort 1 -/
theorem acc_cho (n k : Nat) : ∀ (r : List Nat) (a : Nat), acc (Kd.cho n k).kind r.length (.pr a r.length) r = true ↔ (∀ x, x ∈ r → x < n) ∧ fst? (fun x => a ≤ x) r ∧ goesOn (fun x y => decide (x < y)) r = true
  | [], a => by
    rw [List.length_nil, acc_zero]
    show (C (n - a) 0 != 0) = true ↔ _
    rw [C_zero]
    exact ⟨fun _ => ⟨fun x hx => (by cases hx), trivial, rfl⟩, fun _ => rfl⟩
  | x :: r, a => by
    rw [List.length_cons, acc_succ, Bool.and_eq_true, List.contains_iff_mem, goesOn_iff]
    have ih := acc_cho n k r (x + 1)
    have e : (Kd.cho n k).behind (.pr a (r.length + 1)) x = .pr (x + 1) r.length := rfl
    rw [e, ih]
    have hm : x ∈ (Kd.cho n k).numbers (.pr a (r.length + 1)) ↔ a ≤ x ∧ x < n := by
      show x ∈ (List.range (n - a)).map (a + ·) ↔ _
      rw [mem_shift]
      omega
    rw [hm]
    have hf : fst? (fun y => x + 1 ≤ y) r ↔ fst? (fun y => decide (x < y) = true) r := by
      cases r with
      | nil => exact Iff.rfl
      | cons y r => show x + 1 ≤ y ↔ decide (x < y) = true; simp; omega
    rw [hf]
    constructor
    · rintro ⟨⟨h1, h2⟩, h3, h4, h5⟩
      refine ⟨fun y hy => ?_, h1, h4, h5⟩
      rcases List.mem_cons.mp hy with rfl | hy
      · exact h2
      · exact h3 y hy
    · rintro ⟨h1, h2, h3, h4⟩
      exact ⟨⟨h2, h1 x List.mem_cons_self⟩, fun y hy => h1 y (List.mem_cons_of_mem _ hy), h3, h4⟩
theorem row_cho (n k : Nat) (more r : List Nat) (hm : more.getD 0 0 = k) (hr : r.length = k) : isRow 1 n more r = acc (Kd.cho n k).kind (Kd.cho n k).len (Kd.cho n k).begin r := by
  subst hr
  have h := acc_cho n r.length r 0
  show ((r.length == Sw17.len 1 n more) && (r.all (fun (x : Nat) => decide (x < n)) && goesOn (fun (x y : Nat) => decide (x < y)) r)) = acc (Kd.cho n r.length).kind r.length (.pr 0 r.length) r
  have e : (r.length == Sw17.len 1 n more) = true := by
    show (r.length == more.getD 0 0) = true
    rw [hm]
    exact beq_self_eq_true _
  rw [e, Bool.true_and, Bool.eq_iff_iff, h, Bool.and_eq_true, List.all_eq_true]
  have hf : fst? (fun x => 0 ≤ x) r := by
    cases r with
    | nil => trivial
    | cons x r => exact Nat.zero_le x
  constructor
  · rintro ⟨h1, h2⟩
    exact ⟨fun x hx => of_decide_eq_true (h1 x hx), hf, h2⟩
  · rintro ⟨h1, _, h2⟩
    exact ⟨fun x hx => decide_eq_true (h1 x hx), h2⟩
/-! ### sort 2 -/
theorem count_cons (z x : Nat) (r : List Nat) : count z (x :: r) = (if x = z then 1 else 0) + count z r := by
  unfold count
  by_cases c : x = z
  · rw [List.filter_cons_of_pos (by simpa using c), List.length_cons, if_pos c]; omega
  · rw [List.filter_cons_of_neg (by simpa using c), if_neg c]; omega
theorem acc_bal (n : Nat) : ∀ (r : List Nat) (b : Nat), acc (Kd.bal n).kind r.length (.pr r.length b) r = true ↔
    (∀ x, x ∈ r → x < 2) ∧ count 1 r = b + count 0 r ∧ ∀ k, k ≤ r.length → count 1 (r.take k) ≤ b + count 0 (r.take k)
  | [], b => by
    rw [List.length_nil, acc_zero]
    show ((if b = 0 then 1 else 0) != 0) = true ↔ _
    constructor
    · intro h
      have : b = 0 := by
        by_cases c : b = 0
        · exact c
        · rw [if_neg c] at h
          exact absurd h (by decide)
      subst this
      refine ⟨fun x hx => (by cases hx), rfl, fun k hk => ?_⟩
      rw [List.take_nil]
      exact Nat.le_refl _
    · rintro ⟨_, h, _⟩
      have h : 0 = b + 0 := h
      have : b = 0 := by omega
      rw [if_pos this]
      rfl
  | x :: r, b => by
    rw [List.length_cons, acc_succ, Bool.and_eq_true, List.contains_iff_mem]
    have e : (Kd.bal n).behind (.pr (r.length + 1) b) x = .pr r.length (b + 1 - 2 * x) := rfl
    rw [e, acc_bal n r]
    have hm : x ∈ (Kd.bal n).numbers (.pr (r.length + 1) b) ↔ x = 0 ∨ (x = 1 ∧ 0 < b) := by
      show x ∈ (if b = 0 then [0] else [0, 1]) ↔ _
      by_cases c : b = 0
      · rw [if_pos c]; simp; omega
      · rw [if_neg c]; simp; omega
    rw [hm, count_cons, count_cons]
    constructor
    · rintro ⟨h1, h2, h3, h4⟩
      refine ⟨fun y hy => ?_, ?_, fun k hk => ?_⟩
      · rcases List.mem_cons.mp hy with rfl | hy
        · omega
        · exact h2 y hy
      · rcases h1 with rfl | ⟨rfl, hb⟩
        · simp; omega
        · simp; omega
      · cases k with
        | zero => exact Nat.zero_le _
        | succ k =>
          have := h4 k (by omega)
          rw [List.take_succ_cons, count_cons, count_cons]
          rcases h1 with rfl | ⟨rfl, hb⟩
          · simp; omega
          · simp; omega
    · rintro ⟨h1, h2, h3⟩
      have hx := h1 x List.mem_cons_self
      have h4 := h3 1 (by omega)
      rw [List.take_succ_cons, List.take_zero, count_cons, count_cons] at h4
      have hx2 : x = 0 ∨ (x = 1 ∧ 0 < b) := by
        by_cases c : x = 0
        · exact .inl c
        · have : x = 1 := by omega
          subst this
          have h4 : 1 + 0 ≤ b + (0 + 0) := h4
          exact .inr ⟨rfl, by omega⟩
      refine ⟨hx2, fun y hy => h1 y (List.mem_cons_of_mem _ hy), ?_, fun k hk => ?_⟩
      · rcases hx2 with rfl | ⟨rfl, hb⟩
        · simp at h2; omega
        · simp at h2; omega
      · have := h3 (k + 1) (by omega)
        rw [List.take_succ_cons, count_cons, count_cons] at this
        rcases hx2 with rfl | ⟨rfl, hb⟩
        · simp at this; omega
        · simp at this; omega
theorem row_bal (n : Nat) (more r : List Nat) (hr : r.length = n) : isRow 2 n more r = acc (Kd.bal n).kind (Kd.bal n).len (Kd.bal n).begin r := by
  subst hr
  have h := acc_bal r.length r 0
  show ((r.length == r.length) && (r.all (fun (x : Nat) => decide (x < 2)) && (count 0 r == count 1 r && (List.range (r.length + 1)).all fun (k : Nat) => decide (count 1 (r.take k) ≤ count 0 (r.take k))))) = acc (Kd.bal r.length).kind r.length (.pr r.length 0) r
  rw [beq_self_eq_true, Bool.true_and, Bool.eq_iff_iff, h]
  simp only [Bool.and_eq_true, List.all_eq_true, decide_eq_true_eq, List.mem_range, beq_iff_eq, Nat.zero_add]
  constructor
  · rintro ⟨h1, h2, h3⟩
    exact ⟨h1, h2.symm, fun k hk => h3 k (by omega)⟩
  · rintro ⟨h1, h2, h3⟩
    exact ⟨h1, h2.symm, fun k hk => h3 k (by omega)⟩
/-! ### sort 3 -/
theorem acc_gro (n : Nat) : ∀ (r q : List Nat) (b : Nat), (∀ y, y ∈ q → y + 1 ≤ b) → ((q = [] ∧ b = 0) ∨ ∃ y, y ∈ q ∧ y + 1 = b) →
    acc (Kd.gro n).kind r.length (.pr r.length b) r = (r.zipIdx q.length).all fun (x : Nat × Nat) => if x.2 = 0 then x.1 == 0 else ((q ++ r).take x.2).any fun (y : Nat) => decide (x.1 ≤ y + 1)
  | [], q, b, _, _ => by
    rw [List.length_nil, acc_zero]
    show (1 != 0) = true
    rfl
  | x :: r, q, b, h1, h2 => by
    rw [List.length_cons, acc_succ, List.zipIdx_cons, List.all_cons]
    have e : (Kd.gro n).behind (.pr (r.length + 1) b) x = .pr r.length (max b (x + 1)) := rfl
    have ih := acc_gro n r (q ++ [x]) (max b (x + 1)) (fun y hy => by
      rcases List.mem_append.mp hy with hy | hy
      · have := h1 y hy; omega
      · have : y = x := by simpa using hy
        subst this; omega) (.inr (by
      by_cases c : b ≤ x + 1
      · exact ⟨x, by simp, by omega⟩
      · rcases h2 with ⟨_, rfl⟩ | ⟨y, hy, rfl⟩
        · omega
        · exact ⟨y, by simp [hy], by omega⟩))
    rw [e, ih]
    have e2 : (q ++ [x]).length = q.length + 1 := by simp
    have e3 : q ++ [x] ++ r = q ++ x :: r := by simp
    rw [e2, e3]
    congr 1
    have hm : x ∈ (Kd.gro n).numbers (.pr (r.length + 1) b) ↔ x ≤ b := by
      show x ∈ List.range (b + 1) ↔ _
      rw [List.mem_range]
      omega
    rw [Bool.eq_iff_iff, List.contains_iff_mem, hm]
    show x ≤ b ↔ (if q.length = 0 then x == 0 else ((q ++ x :: r).take q.length).any fun y => decide (x ≤ y + 1)) = true
    rcases h2 with ⟨rfl, rfl⟩ | ⟨y, hy, rfl⟩
    · simp
    · have hq : ¬ q.length = 0 := by
        have := List.length_pos_of_mem hy
        omega
      rw [if_neg hq, List.take_left, List.any_eq_true]
      constructor
      · intro hx
        exact ⟨y, hy, decide_eq_true hx⟩
      · rintro ⟨z, hz, hx⟩
        have := h1 z hz
        have := of_decide_eq_true hx
        omega
theorem row_gro (n : Nat) (more r : List Nat) (hr : r.length = n) : isRow 3 n more r = acc (Kd.gro n).kind (Kd.gro n).len (Kd.gro n).begin r := by
  subst hr
  have h := acc_gro r.length r [] 0 (fun y hy => by cases hy) (.inl ⟨rfl, rfl⟩)
  show ((r.length == r.length) && (r.zipIdx.all fun (x : Nat × Nat) => if x.2 = 0 then x.1 == 0 else (r.take x.2).any fun (y : Nat) => decide (x.1 ≤ y + 1))) = acc (Kd.gro r.length).kind r.length (.pr r.length 0) r
  rw [beq_self_eq_true, Bool.true_and, h]
  rfl
/-! ### sort 4 -/
theorem down_zero : ∀ r : List Nat, fst? (fun x => x ≤ 0) r → goesOn (fun x y => decide (y ≤ x)) r = true → r.sum = 0
  | [], _, _ => rfl
  | x :: r, h, g => by
    have hx : x ≤ 0 := h
    obtain rfl : x = 0 := by omega
    rw [goesOn_iff] at g
    rw [List.sum_cons, down_zero r ?_ g.2]
    cases r with
    | nil => trivial
    | cons y r =>
      show y ≤ 0
      exact of_decide_eq_true (p := y ≤ 0) g.1
theorem acc_par (n : Nat) : ∀ (r : List Nat) (a b : Nat), b ≤ r.length → (acc (Kd.par n).kind r.length (.pr a b) r = true ↔ r.sum = b ∧ fst? (fun x => x ≤ a) r ∧ goesOn (fun x y => decide (y ≤ x)) r = true)
  | [], a, b, hb => by
    obtain rfl : b = 0 := by simpa using hb
    rw [List.length_nil, acc_zero]
    show (pT a 0 != 0) = true ↔ _
    rw [pT_none]
    exact ⟨fun _ => ⟨rfl, trivial, rfl⟩, fun _ => rfl⟩
  | x :: r, a, b, hb => by
    rw [List.length_cons] at hb ⊢
    rw [acc_succ, Bool.and_eq_true, List.contains_iff_mem, goesOn_iff, List.sum_cons]
    have e : (Kd.par n).behind (.pr a b) x = .pr x (b - x) := rfl
    rw [e]
    have hf : fst? (fun y => y ≤ x) r ↔ fst? (fun y => decide (y ≤ x) = true) r := by
      cases r with
      | nil => exact Iff.rfl
      | cons y r => show y ≤ x ↔ decide (y ≤ x) = true; simp
    by_cases c : b = 0
    · subst c
      have hm : x ∈ (Kd.par n).numbers (.pr a 0) ↔ x = 0 := by
        show x ∈ (if (0 : Nat) = 0 then [0] else (List.range (min a 0)).map (1 + ·)) ↔ _
        rw [if_pos rfl]; simp
      rw [hm, acc_par n r x (0 - x) (by omega), hf]
      constructor
      · rintro ⟨rfl, h1, h2, h3⟩
        exact ⟨by omega, Nat.zero_le _, h2, h3⟩
      · rintro ⟨h1, h2, h3, h4⟩
        exact ⟨by omega, by omega, h3, h4⟩
    · have hm : x ∈ (Kd.par n).numbers (.pr a b) ↔ 1 ≤ x ∧ x ≤ a ∧ x ≤ b := by
        show x ∈ (if b = 0 then [0] else (List.range (min a b)).map (1 + ·)) ↔ _
        rw [if_neg c, mem_shift]
        omega
      rw [hm]
      constructor
      · rintro ⟨⟨h1, h2, h3⟩, h4⟩
        rw [acc_par n r x (b - x) (by omega), hf] at h4
        exact ⟨by omega, h2, h4.2.1, h4.2.2⟩
      · rintro ⟨h1, h2, h3, h4⟩
        have hx : 1 ≤ x := by
          by_cases d : x = 0
          · subst d
            have := down_zero r (hf.mpr h3) h4
            omega
          · omega
        rw [acc_par n r x (b - x) (by omega), hf]
        exact ⟨⟨hx, h2, by omega⟩, by omega, h3, h4⟩
theorem row_par (n : Nat) (more r : List Nat) (hr : r.length = n) : isRow 4 n more r = acc (Kd.par n).kind (Kd.par n).len (Kd.par n).begin r := by
  subst hr
  have h := acc_par r.length r r.length r.length (Nat.le_refl _)
  show ((r.length == r.length) && (r.sum == r.length && goesOn (fun (x y : Nat) => decide (y ≤ x)) r)) = acc (Kd.par r.length).kind r.length (.pr r.length r.length) r
  rw [beq_self_eq_true, Bool.true_and, Bool.eq_iff_iff, h, Bool.and_eq_true, beq_iff_eq]
  constructor
  · rintro ⟨h1, h2⟩
    refine ⟨h1, ?_, h2⟩
    cases r with
    | nil => trivial
    | cons x r =>
      show x ≤ _
      rw [← h1, List.sum_cons]
      omega
  · rintro ⟨h1, _, h2⟩
    exact ⟨h1, h2⟩
/-! ### sort 5 -/
theorem acc_dis (n : Nat) : ∀ (r q xs : List Nat), (Kd.dis n).V r.length (.dis xs q.length) → (∀ x, x ∈ xs ↔ x < n ∧ ¬ x ∈ q) →
    acc (Kd.dis n).kind r.length (.dis xs q.length) r = (r.all (fun (x : Nat) => decide (x < n)) && ((r.zipIdx q.length).all fun (x : Nat × Nat) => x.1 != x.2 && !((q ++ r).take x.2).contains x.1))
  | [], q, xs, hV, _ => by
    rw [List.length_nil, acc_zero]
    obtain ⟨_, _, h3, _⟩ := hV
    have : xs = [] := List.length_eq_zero_iff.mp h3
    subst this
    rfl
  | x :: r, q, xs, hV, hx => by
    rw [List.length_cons, acc_succ, List.zipIdx_cons, List.all_cons, List.all_cons]
    have e : (Kd.dis n).behind (.dis xs q.length) x = .dis (xs.filter fun y => y != x) (q.length + 1) := rfl
    have e1 : (q ++ x :: r).take q.length = q := List.take_left
    have hm : (Kd.dis n).numbers (.dis xs q.length) = xs.filter fun x => x != q.length := rfl
    show (((Kd.dis n).numbers (.dis xs q.length)).contains x && acc (Kd.dis n).kind r.length ((Kd.dis n).behind (.dis xs q.length) x) r) =
      ((decide (x < n) && r.all fun (x : Nat) => decide (x < n)) && ((x != q.length && !((q ++ x :: r).take q.length).contains x) && (r.zipIdx (q.length + 1)).all fun (x_1 : Nat × Nat) => x_1.1 != x_1.2 && !((q ++ x :: r).take x_1.2).contains x_1.1))
    rw [e1]
    have hc : ((Kd.dis n).numbers (.dis xs q.length)).contains x = (decide (x < n) && (x != q.length && !q.contains x)) := by
      rw [hm, Bool.eq_iff_iff, List.contains_iff_mem, List.mem_filter, hx]
      simp
      constructor
      · rintro ⟨⟨h1, h2⟩, h3⟩
        exact ⟨h1, h3, h2⟩
      · rintro ⟨h1, h2, h3⟩
        exact ⟨⟨h1, h3⟩, h2⟩
    by_cases c : ((Kd.dis n).numbers (.dis xs q.length)).contains x = true
    · have hV2 := (good_dis n).step r.length _ x hV (List.contains_iff_mem.mp c)
      have hV3 : (Kd.dis n).V r.length (.dis (xs.filter fun y => y != x) (q ++ [x]).length) := by
        have e2 : (q ++ [x]).length = q.length + 1 := by simp
        rw [e2]
        exact hV2
      have ih := acc_dis n r (q ++ [x]) _ hV3 (fun y => by
        rw [List.mem_filter, hx]
        simp
        constructor
        · rintro ⟨⟨h1, h2⟩, h3⟩
          exact ⟨h1, h2, h3⟩
        · rintro ⟨h1, h2, h3⟩
          exact ⟨⟨h1, h2⟩, h3⟩)
      have e2 : (q ++ [x]).length = q.length + 1 := by simp
      have e3 : q ++ [x] ++ r = q ++ x :: r := by simp
      rw [e2, e3] at ih
      rw [e, ih, c]
      rw [c] at hc
      have hc1 := hc.symm
      rw [Bool.and_eq_true] at hc1
      rw [hc1.1, hc1.2, Bool.true_and, Bool.true_and, Bool.true_and]
    · rw [Bool.not_eq_true] at c
      rw [c] at hc
      rw [c, Bool.false_and]
      cases h1 : decide (x < n) with
      | false => rw [Bool.false_and, Bool.false_and]
      | true =>
        rw [h1, Bool.true_and] at hc
        rw [← hc]
        simp
theorem row_dis (n : Nat) (more r : List Nat) (hr : r.length = n) : isRow 5 n more r = acc (Kd.dis n).kind (Kd.dis n).len (Kd.dis n).begin r := by
  subst hr
  have h := acc_dis r.length r [] (List.range r.length) (V_begin (Kd.dis r.length)) (fun x => by rw [List.mem_range]; simp)
  show ((r.length == r.length) && (r.all (fun (x : Nat) => decide (x < r.length)) && (r.zipIdx.all fun (x : Nat × Nat) => x.1 != x.2 && !(r.take x.2).contains x.1))) = acc (Kd.dis r.length).kind r.length (.dis (List.range r.length) 0) r
  rw [beq_self_eq_true, Bool.true_and]
  exact h.symm
/-! ### sort 0 -/
theorem sum_zero : ∀ (xs : List Nat) (i : Nat), xs.sum = 0 → xs.getD i 0 = 0
  | [], i, _ => by simp
  | x :: xs, 0, h => by rw [List.sum_cons] at h; show x = 0; omega
  | x :: xs, i + 1, h => by
    rw [List.sum_cons] at h
    exact sum_zero xs i (by omega)
theorem wT_zero (xs : List Nat) (h : xs.sum = 0) : wT 0 xs ≠ 0 := by
  intro q
  have e := wT_F xs 0
  rw [Nat.zero_add, h, q] at e
  simp [F] at e
theorem getD_set (xs : List Nat) (x v i : Nat) (hx : x < xs.length) : (xs.set x v).getD i 0 = if x = i then v else xs.getD i 0 := by
  rw [List.getD_eq_getElem?_getD, List.getD_eq_getElem?_getD, List.getElem?_set]
  by_cases c : x = i
  · subst c
    rw [if_pos rfl, if_pos rfl, if_pos hx]; rfl
  · rw [if_neg c, if_neg c]
theorem acc_rep (m : List Nat) : ∀ (r xs : List Nat), (Kd.rep m).V r.length (.tup xs) → (acc (Kd.rep m).kind r.length (.tup xs) r = true ↔ (∀ x, x ∈ r → x < m.length) ∧ ∀ i, i < m.length → count i r = xs.getD i 0)
  | [], xs, hV => by
    obtain ⟨h1, h2⟩ := hV
    rw [List.length_nil, acc_zero]
    have hw : (Kd.rep m).ways (.tup xs) ≠ 0 := wT_zero xs h2
    constructor
    · intro _
      exact ⟨fun x hx => (by cases hx), fun i _ => (sum_zero xs i h2).symm⟩
    · intro _
      simpa using hw
  | x :: r, xs, hV => by
    rw [List.length_cons, acc_succ, Bool.and_eq_true, List.contains_iff_mem]
    have hl : xs.length = m.length := hV.1
    have e : (Kd.rep m).behind (.tup xs) x = .tup (xs.set x (xs.getD x 0 - 1)) := rfl
    have hm : x ∈ (Kd.rep m).numbers (.tup xs) ↔ x < m.length ∧ 0 < xs.getD x 0 := by
      show x ∈ repNum xs ↔ _
      unfold repNum
      rw [List.mem_filter, List.mem_range, hl]
      simp
    rw [e]
    constructor
    · rintro ⟨h1, h2⟩
      have hV2 := (good_rep m).step r.length _ x hV h1
      have h1 := hm.mp h1
      rw [acc_rep m r _ hV2] at h2
      refine ⟨fun y hy => ?_, fun i hi => ?_⟩
      · rcases List.mem_cons.mp hy with rfl | hy
        · exact h1.1
        · exact h2.1 y hy
      · have := h2.2 i hi
        rw [getD_set xs x _ i (by omega)] at this
        rw [count_cons, this]
        by_cases c : x = i
        · subst c; rw [if_pos rfl, if_pos rfl]; omega
        · rw [if_neg c, if_neg c]; omega
    · rintro ⟨h1, h2⟩
      have hx := h1 x List.mem_cons_self
      have h3 := h2 x hx
      rw [count_cons, if_pos rfl] at h3
      have h4 : x ∈ (Kd.rep m).numbers (.tup xs) := hm.mpr ⟨hx, by omega⟩
      have hV2 := (good_rep m).step r.length _ x hV h4
      refine ⟨h4, ?_⟩
      rw [acc_rep m r _ hV2]
      refine ⟨fun y hy => h1 y (List.mem_cons_of_mem _ hy), fun i hi => ?_⟩
      have := h2 i hi
      rw [count_cons] at this
      rw [getD_set xs x _ i (by omega)]
      by_cases c : x = i
      · subst c; rw [if_pos rfl] at this; rw [if_pos rfl]; omega
      · rw [if_neg c] at this; rw [if_neg c]; omega
theorem row_rep (m r : List Nat) (hr : r.length = m.sum) : isRow 0 m.length m r = acc (Kd.rep m).kind (Kd.rep m).len (Kd.rep m).begin r := by
  have h := acc_rep m r m ⟨rfl, hr.symm⟩
  show ((r.length == m.sum) && (r.all (fun (x : Nat) => decide (x < m.length)) && (List.range m.length).all fun (x : Nat) => count x r == m.getD x 0)) = acc (Kd.rep m).kind m.sum (.tup m) r
  rw [hr] at h
  rw [hr, beq_self_eq_true, Bool.true_and, Bool.eq_iff_iff, h]
  simp only [Bool.and_eq_true, List.all_eq_true, decide_eq_true_eq, List.mem_range, beq_iff_eq]
end Arr

/-! # What is due, by the states -/
namespace Arr
open Sw17 (isRow fine right nats allOf worked)
def kdOf (s n : Int) (m : List Int) : Option Kd :=
  if s = 0 ∧ 1 ≤ n ∧ n ≤ 32 ∧ (m.length : Int) = n ∧ (m.all fun t => decide (0 ≤ t ∧ t ≤ 32)) = true ∧ 1 ≤ m.sum ∧ m.sum ≤ 32 then some (.rep (m.map Int.toNat))
  else if s = 1 ∧ 1 ≤ n ∧ n ≤ 64 ∧ m.length = 1 ∧ 0 ≤ m.getD 0 0 ∧ m.getD 0 0 ≤ n then some (.cho n.toNat (m.getD 0 0).toNat)
  else if s = 2 ∧ 1 ≤ n ∧ n ≤ 64 ∧ n % 2 = 0 then some (.bal n.toNat)
  else if s = 3 ∧ 1 ≤ n ∧ n ≤ 32 then some (.gro n.toNat)
  else if s = 4 ∧ 1 ≤ n ∧ n ≤ 128 then some (.par n.toNat)
  else if s = 5 ∧ 1 ≤ n ∧ n ≤ 32 then some (.dis n.toNat)
  else none
/-- the numbers that are told of a sort -/
def Kd.Ok : Kd → Prop
  | .rep m => 1 ≤ m.length ∧ m.length ≤ 32 ∧ (∀ x, x ∈ m → x ≤ 32) ∧ 1 ≤ m.sum ∧ m.sum ≤ 32
  | .cho n k => 1 ≤ n ∧ n ≤ 64 ∧ k ≤ n
  | .bal n => 1 ≤ n ∧ n ≤ 64
  | .gro n => 1 ≤ n ∧ n ≤ 32
  | .par n => 1 ≤ n ∧ n ≤ 128
  | .dis n => 1 ≤ n ∧ n ≤ 32
/-- how many numbers more has -/
def moreLen (s n : Int) : Int := if s = 0 ∧ (1 ≤ n ∧ n ≤ 32) then n else if s = 1 ∧ (1 ≤ n ∧ n ≤ 64) then 1 else 0
theorem sum_nats : ∀ m : List Int, (∀ t, t ∈ m → 0 ≤ t) → ((m.map Int.toNat).sum : Int) = m.sum
  | [], _ => rfl
  | t :: m, h => by
    have := h t List.mem_cons_self
    have ih := sum_nats m fun x hx => h x (List.mem_cons_of_mem _ hx)
    rw [List.map_cons, List.sum_cons, List.sum_cons, Int.natCast_add, ih]
    omega
structure Fits (s n : Int) (m : List Int) (d : Kd) : Prop where
  ok : d.Ok
  fine : Sw17.fine s n m = true
  len : Sw17.len s.toNat n.toNat (nats m) = d.len
  row : ∀ r : List Nat, r.length = d.len → isRow s.toNat n.toNat (nats m) r = acc d.kind d.len d.begin r
  top : (if s.toNat = 2 then 2 else n.toNat + 1) = d.top
theorem all_of (s n : Int) (m : List Int) (d : Kd) (h : Fits s n m d) : allOf s.toNat n.toNat (nats m) = rows d.kind d.len d.begin := by
  unfold allOf
  rw [h.top, h.len, ← filter_rows (good d) d.len d.begin (V_begin d)]
  have hl : ∀ (k l : Nat) (r : List Nat), r ∈ Sw17.rowsOver k l → r.length = l := by
    intro k l
    induction l with
    | zero => intro r hr; unfold Sw17.rowsOver at hr; rw [List.mem_singleton] at hr; subst hr; rfl
    | succ l ih =>
      intro r hr
      unfold Sw17.rowsOver at hr
      rw [List.mem_flatMap] at hr
      obtain ⟨x, _, hr⟩ := hr
      obtain ⟨t, ht, rfl⟩ := List.mem_map.mp hr
      rw [List.length_cons, ih t ht]
  exact List.filter_congr fun r hr => h.row r (hl _ _ r hr)
theorem fine_iff (s n : Int) (m : List Int) : fine s n m = true ↔ 0 ≤ s ∧ s ≤ 5 ∧ 0 ≤ n ∧ (∀ t, t ∈ m → 0 ≤ t) ∧ right s.toNat n.toNat (nats m) = true := by
  unfold fine Sw17.plain
  simp
theorem kd_some (s n : Int) (m : List Int) (hm : (m.length : Int) = moreLen s n) (d : Kd) (h : kdOf s n m = some d) : Fits s n m d := by
  unfold kdOf at h
  by_cases c0 : s = 0 ∧ 1 ≤ n ∧ n ≤ 32 ∧ (m.length : Int) = n ∧ (m.all fun t => decide (0 ≤ t ∧ t ≤ 32)) = true ∧ 1 ≤ m.sum ∧ m.sum ≤ 32
  · rw [if_pos c0] at h
    cases h
    obtain ⟨rfl, h1, h2, h3, h4, h5, h6⟩ := c0
    have h4' : ∀ t, t ∈ m → 0 ≤ t ∧ t ≤ 32 := fun t ht => of_decide_eq_true (List.all_eq_true.mp h4 t ht)
    have hs := sum_nats m fun t ht => (h4' t ht).1
    have hb : ∀ x, x ∈ m.map Int.toNat → x ≤ 32 := by
      intro x hx
      obtain ⟨t, ht, rfl⟩ := List.mem_map.mp hx
      have := h4' t ht
      omega
    have hn : n.toNat = (m.map Int.toNat).length := by rw [List.length_map]; omega
    refine ⟨⟨by rw [List.length_map]; omega, by rw [List.length_map]; omega, hb, by omega, by omega⟩, ?_, rfl, fun r hr => ?_, ?_⟩
    · rw [fine_iff]
      refine ⟨by omega, by omega, by omega, fun t ht => (h4' t ht).1, ?_⟩
      show (decide (1 ≤ n.toNat) && (decide (n.toNat ≤ 32) && ((nats m).all (fun x => decide (x ≤ 32)) && (decide (1 ≤ (nats m).sum) && decide ((nats m).sum ≤ 32))))) = true
      simp only [Bool.and_eq_true, decide_eq_true_eq, List.all_eq_true]
      unfold nats
      exact ⟨by omega, by omega, hb, by omega, by omega⟩
    · rw [hn]
      exact row_rep (m.map Int.toNat) r hr
    · rw [hn]; rfl
  · rw [if_neg c0] at h
    by_cases c1 : s = 1 ∧ 1 ≤ n ∧ n ≤ 64 ∧ m.length = 1 ∧ 0 ≤ m.getD 0 0 ∧ m.getD 0 0 ≤ n
    · rw [if_pos c1] at h
      cases h
      obtain ⟨rfl, h1, h2, h3, h4, h5⟩ := c1
      obtain ⟨t, rfl⟩ := List.length_eq_one_iff.mp h3
      have h4 : 0 ≤ t := h4
      have h5 : t ≤ n := h5
      refine ⟨⟨by omega, by omega, ?_⟩, ?_, rfl, fun r hr => ?_, rfl⟩
      · show t.toNat ≤ n.toNat
        omega
      · rw [fine_iff]
        refine ⟨by omega, by omega, by omega, fun x hx => ?_, ?_⟩
        · have : x = t := by simpa using hx
          omega
        · show (decide (1 ≤ n.toNat) && (decide (n.toNat ≤ 64) && decide (t.toNat ≤ n.toNat))) = true
          simp only [Bool.and_eq_true, decide_eq_true_eq]
          omega
      · exact row_cho n.toNat t.toNat (nats [t]) r rfl hr
    · rw [if_neg c1] at h
      have hm0 : ¬ (s = 0 ∧ 1 ≤ n ∧ n ≤ 32) → ¬ (s = 1 ∧ 1 ≤ n ∧ n ≤ 64) → m = [] := by
        intro a b
        unfold moreLen at hm
        rw [if_neg a, if_neg b] at hm
        exact List.length_eq_zero_iff.mp (by omega)
      by_cases c2 : s = 2 ∧ 1 ≤ n ∧ n ≤ 64 ∧ n % 2 = 0
      · rw [if_pos c2] at h
        cases h
        obtain ⟨rfl, h1, h2, h3⟩ := c2
        obtain rfl := hm0 (by omega) (by omega)
        refine ⟨⟨by omega, by omega⟩, ?_, rfl, fun r hr => row_bal n.toNat _ r hr, rfl⟩
        rw [fine_iff]
        refine ⟨by omega, by omega, by omega, fun x hx => (by cases hx), ?_⟩
        show (decide (1 ≤ n.toNat) && (decide (n.toNat ≤ 64) && n.toNat % 2 == 0)) = true
        simp only [Bool.and_eq_true, decide_eq_true_eq, beq_iff_eq]
        omega
      · rw [if_neg c2] at h
        by_cases c3 : s = 3 ∧ 1 ≤ n ∧ n ≤ 32
        · rw [if_pos c3] at h
          cases h
          obtain ⟨rfl, h1, h2⟩ := c3
          obtain rfl := hm0 (by omega) (by omega)
          refine ⟨⟨by omega, by omega⟩, ?_, rfl, fun r hr => row_gro n.toNat _ r hr, rfl⟩
          rw [fine_iff]
          refine ⟨by omega, by omega, by omega, fun x hx => (by cases hx), ?_⟩
          show (decide (1 ≤ n.toNat) && decide (n.toNat ≤ 32)) = true
          simp only [Bool.and_eq_true, decide_eq_true_eq]
          omega
        · rw [if_neg c3] at h
          by_cases c4 : s = 4 ∧ 1 ≤ n ∧ n ≤ 128
          · rw [if_pos c4] at h
            cases h
            obtain ⟨rfl, h1, h2⟩ := c4
            obtain rfl := hm0 (by omega) (by omega)
            refine ⟨⟨by omega, by omega⟩, ?_, rfl, fun r hr => row_par n.toNat _ r hr, rfl⟩
            rw [fine_iff]
            refine ⟨by omega, by omega, by omega, fun x hx => (by cases hx), ?_⟩
            show (decide (1 ≤ n.toNat) && decide (n.toNat ≤ 128)) = true
            simp only [Bool.and_eq_true, decide_eq_true_eq]
            omega
          · rw [if_neg c4] at h
            by_cases c5 : s = 5 ∧ 1 ≤ n ∧ n ≤ 32
            · rw [if_pos c5] at h
              cases h
              obtain ⟨rfl, h1, h2⟩ := c5
              obtain rfl := hm0 (by omega) (by omega)
              refine ⟨⟨by omega, by omega⟩, ?_, rfl, fun r hr => row_dis n.toNat _ r hr, rfl⟩
              rw [fine_iff]
              refine ⟨by omega, by omega, by omega, fun x hx => (by cases hx), ?_⟩
              show (true && (decide (1 ≤ n.toNat) && decide (n.toNat ≤ 32))) = true
              simp only [Bool.and_eq_true, decide_eq_true_eq]
              exact ⟨trivial, by omega, by omega⟩
            · rw [if_neg c5] at h
              cases h
theorem kd_none (s n : Int) (m : List Int) (hm : (m.length : Int) = moreLen s n) (h : kdOf s n m = none) : fine s n m = false := by
  refine Bool.eq_false_iff.mpr fun hf => ?_
  rw [fine_iff] at hf
  obtain ⟨h1, h2, h3, h4, h5⟩ := hf
  unfold kdOf at h
  obtain rfl | rfl | rfl | rfl | rfl | rfl : s = 0 ∨ s = 1 ∨ s = 2 ∨ s = 3 ∨ s = 4 ∨ s = 5 := by omega
  · have h5 : (decide (1 ≤ n.toNat) && (decide (n.toNat ≤ 32) && ((nats m).all (fun x => decide (x ≤ 32)) && (decide (1 ≤ (nats m).sum) && decide ((nats m).sum ≤ 32))))) = true := h5
    simp only [Bool.and_eq_true, decide_eq_true_eq, List.all_eq_true] at h5
    obtain ⟨g1, g2, g3, g4, g5⟩ := h5
    have hs := sum_nats m h4
    unfold nats at g3 g4 g5
    unfold moreLen at hm
    rw [if_pos ⟨rfl, by omega, by omega⟩] at hm
    rw [if_pos] at h
    · cases h
    · refine ⟨rfl, by omega, by omega, hm, List.all_eq_true.mpr fun t ht => decide_eq_true ⟨h4 t ht, ?_⟩, by omega, by omega⟩
      have := g3 t.toNat (List.mem_map.mpr ⟨t, ht, rfl⟩)
      omega
  · have h5 : (decide (1 ≤ n.toNat) && (decide (n.toNat ≤ 64) && decide ((nats m).getD 0 0 ≤ n.toNat))) = true := h5
    simp only [Bool.and_eq_true, decide_eq_true_eq] at h5
    obtain ⟨g1, g2, g3⟩ := h5
    unfold moreLen at hm
    rw [if_neg (by omega), if_pos ⟨rfl, by omega, by omega⟩] at hm
    obtain ⟨t, rfl⟩ := List.length_eq_one_iff.mp (show m.length = 1 by omega)
    have g3 : t.toNat ≤ n.toNat := g3
    have := h4 t List.mem_cons_self
    rw [if_neg (by omega), if_pos] at h
    · cases h
    · refine ⟨rfl, by omega, by omega, rfl, ?_, ?_⟩
      · show 0 ≤ t; omega
      · show t ≤ n; omega
  · have h5 : (decide (1 ≤ n.toNat) && (decide (n.toNat ≤ 64) && n.toNat % 2 == 0)) = true := h5
    simp only [Bool.and_eq_true, decide_eq_true_eq, beq_iff_eq] at h5
    rw [if_neg (by omega), if_neg (by omega), if_pos (by omega)] at h
    cases h
  · have h5 : (decide (1 ≤ n.toNat) && decide (n.toNat ≤ 32)) = true := h5
    simp only [Bool.and_eq_true, decide_eq_true_eq] at h5
    rw [if_neg (by omega), if_neg (by omega), if_neg (by omega), if_pos (by omega)] at h
    cases h
  · have h5 : (decide (1 ≤ n.toNat) && decide (n.toNat ≤ 128)) = true := h5
    simp only [Bool.and_eq_true, decide_eq_true_eq] at h5
    rw [if_neg (by omega), if_neg (by omega), if_neg (by omega), if_neg (by omega), if_pos (by omega)] at h
    cases h
  · have h5 : (true && (decide (1 ≤ n.toNat) && decide (n.toNat ≤ 32))) = true := h5
    simp only [Bool.and_eq_true, decide_eq_true_eq] at h5
    rw [if_neg (by omega), if_neg (by omega), if_neg (by omega), if_neg (by omega), if_neg (by omega), if_pos (by omega)] at h
    cases h
/-! ### the four answers -/
def countM (s n : Int) (m : List Int) : List Int := match kdOf s n m with
  | none => [-2]
  | some d => [0, (d.ways d.begin : Nat)]
def ofM (s n : Int) (k : Int) (m : List Int) : List Int := match kdOf s n m with
  | none => [-2]
  | some d => if k.toNat < d.ways d.begin then (d.len : Nat) :: (rowAt d.kind d.len d.begin k.toNat).map (fun (x : Nat) => (x : Int)) else [-1]
/-- the number of a row -/
def Kd.place (d : Kd) (r : List Int) : Option Nat := if r.length = d.len then placeAt d.kind d.begin r 0 else none
def numberM (s n : Int) (m r : List Int) : List Int := match kdOf s n m with
  | none => [-2]
  | some d => match d.place r with
    | none => [-1]
    | some p => [0, (p : Nat)]
def nextM (s n : Int) (m r : List Int) : List Int := match kdOf s n m with
  | none => [-2]
  | some d => match d.place r with
    | none => [-1]
    | some p => if p + 1 = d.ways d.begin then 0 :: r else 1 :: (rowAt d.kind d.len d.begin (p + 1)).map (fun (x : Nat) => (x : Int))
theorem count_is (s n : Int) (m : List Int) (h : PySw17.count_asked s n m = true) : PySw17.count s n m = countM s n m := by
  have hm : (m.length : Int) = moreLen s n := by
    unfold PySw17.count_asked Sw17Neutral.asked at h
    simp only [List.all_cons, List.all_nil, Sw17Neutral.asked1, Bool.and_eq_true, decide_eq_true_eq] at h
    exact h.1.1.2.2.2
  show (if fine s n m = false then ([-2] : List Int) else [0, ((allOf s.toNat n.toNat (nats m)).length : Nat)]) = countM s n m
  unfold countM
  cases e : kdOf s n m with
  | none => rw [if_pos (kd_none s n m hm e)]
  | some d =>
    have f := kd_some s n m hm d e
    rw [if_neg (by rw [f.fine]; exact Bool.noConfusion), all_of s n m d f, rows_length (good d) _ _ (V_begin d)]
    rfl
theorem of_is (s n k : Int) (m : List Int) (h : PySw17.of_asked s n k m = true) : PySw17.of s n k m = ofM s n k m := by
  have hm : (m.length : Int) = moreLen s n := by
    unfold PySw17.of_asked Sw17Neutral.asked at h
    simp only [List.all_cons, List.all_nil, Sw17Neutral.asked1, Bool.and_eq_true, decide_eq_true_eq] at h
    exact h.1.1.2.2.2.2
  show (if fine s n m = false then [-2] else match (allOf s.toNat n.toNat (nats m))[k.toNat]? with
    | some r => (r.length : Int) :: Sw17.«ints» r
    | none => [-1]) = ofM s n k m
  unfold ofM
  cases e : kdOf s n m with
  | none => rw [if_pos (kd_none s n m hm e)]
  | some d =>
    have f := kd_some s n m hm d e
    have hl := rows_length (good d) _ _ (V_begin d)
    rw [if_neg (by rw [f.fine]; exact Bool.noConfusion), all_of s n m d f]
    show _ = if k.toNat < d.ways d.begin then _ else _
    by_cases c : k.toNat < d.ways d.begin
    · rw [if_pos c, rowAt_eq (good d) _ _ _ (V_begin d) c]
      show ((rowAt d.kind d.len d.begin k.toNat).length : Int) :: _ = _
      rw [rowAt_length (good d) _ _ _ (V_begin d) c]
      rfl
    · rw [if_neg c, List.getElem?_eq_none (by rw [hl]; exact Nat.not_lt.mp c)]
theorem begin_pos (d : Kd) (h : d.len = 0) : d.ways d.begin ≠ 0 := by
  cases d with
  | rep m => exact wT_zero m h
  | cho n k =>
    have h : k = 0 := h
    subst h
    show C (n - 0) 0 ≠ 0
    rw [C_zero]
    decide
  | bal n =>
    have h : n = 0 := h
    subst h
    decide
  | gro n =>
    have h : n = 0 := h
    subst h
    decide
  | par n =>
    have h : n = 0 := h
    subst h
    show pT 0 0 ≠ 0
    rw [pT_none]
    decide
  | dis n =>
    have h : n = 0 := h
    subst h
    decide
theorem place_is (d : Kd) (r : List Int) (hr : r.length = d.len) : d.place r = if Sw17.plain r = true ∧ acc d.kind d.len d.begin (nats r) = true then some ((rows d.kind d.len d.begin).idxOf (nats r)) else none := by
  unfold Kd.place
  rw [if_pos hr, placeAt_eq (good d) d.len d.begin r 0 (V_begin d) hr (begin_pos d)]
  show (if Sw17.plain r = true ∧ _ then _ else _) = _
  unfold nats
  simp only [Nat.zero_add]
theorem number_is (s n : Int) (m r : List Int) (h : PySw17.number_asked s n m r = true) : PySw17.number s n m r = numberM s n m r := by
  unfold PySw17.number_asked Sw17Neutral.asked at h
  simp only [List.all_cons, List.all_nil, Sw17Neutral.asked1, Bool.and_eq_true, decide_eq_true_eq] at h
  have hm : (m.length : Int) = moreLen s n := h.1.1.2.2.1.2
  have hr : r.length = if fine s n m = true then Sw17.len s.toNat n.toNat (nats m) else 0 := h.1.1.2.2.2.2
  show (if fine s n m = false then ([-2] : List Int) else if Sw17.plain r = false ∨ isRow s.toNat n.toNat (nats m) (nats r) = false then [-1] else [0, ((allOf s.toNat n.toNat (nats m)).idxOf (nats r) : Nat)]) = numberM s n m r
  unfold numberM
  cases e : kdOf s n m with
  | none => rw [if_pos (kd_none s n m hm e)]
  | some d =>
    have f := kd_some s n m hm d e
    rw [if_pos f.fine, f.len] at hr
    have hr2 : (nats r).length = d.len := by unfold nats; rw [List.length_map]; exact hr
    rw [if_neg (by rw [f.fine]; exact Bool.noConfusion), all_of s n m d f, f.row _ hr2]
    show _ = match d.place r with
      | none => ([-1] : List Int)
      | some p => [0, (p : Nat)]
    rw [place_is d r hr]
    by_cases c : Sw17.plain r = true ∧ acc d.kind d.len d.begin (nats r) = true
    · rw [if_pos c, if_neg (by rw [c.1, c.2]; simp)]
    · rw [if_neg c, if_pos]
      cases h1 : Sw17.plain r with
      | false => exact .inl rfl
      | true =>
        cases h2 : acc d.kind d.len d.begin (nats r) with
        | false => exact .inr rfl
        | true => exact absurd ⟨h1, h2⟩ c
theorem next_is (s n : Int) (m r : List Int) (h : PySw17.next_row_asked s n m r = true) : PySw17.next_row s n m r = nextM s n m r := by
  unfold PySw17.next_row_asked Sw17Neutral.asked at h
  simp only [List.all_cons, List.all_nil, Sw17Neutral.asked1, Bool.and_eq_true, decide_eq_true_eq] at h
  have hm : (m.length : Int) = moreLen s n := h.1.1.2.2.1.2
  have hr : r.length = if fine s n m = true then Sw17.len s.toNat n.toNat (nats m) else 0 := h.1.1.2.2.2.2
  show (if fine s n m = false then [-2] else if Sw17.plain r = false ∨ isRow s.toNat n.toNat (nats m) (nats r) = false then [-1] else
    match (allOf s.toNat n.toNat (nats m))[(allOf s.toNat n.toNat (nats m)).idxOf (nats r) + 1]? with
    | some t => 1 :: Sw17.«ints» t
    | none => 0 :: r) = nextM s n m r
  unfold nextM
  cases e : kdOf s n m with
  | none => rw [if_pos (kd_none s n m hm e)]
  | some d =>
    have f := kd_some s n m hm d e
    rw [if_pos f.fine, f.len] at hr
    have hr2 : (nats r).length = d.len := by unfold nats; rw [List.length_map]; exact hr
    have hl := rows_length (good d) _ _ (V_begin d)
    rw [if_neg (by rw [f.fine]; exact Bool.noConfusion), all_of s n m d f, f.row _ hr2]
    show _ = match d.place r with
      | none => ([-1] : List Int)
      | some p => if p + 1 = d.ways d.begin then 0 :: r else 1 :: (rowAt d.kind d.len d.begin (p + 1)).map (fun (x : Nat) => (x : Int))
    rw [place_is d r hr]
    by_cases c : Sw17.plain r = true ∧ acc d.kind d.len d.begin (nats r) = true
    · rw [if_pos c, if_neg (by rw [c.1, c.2]; simp)]
      have hmem := (mem_rows (K := d.kind) d.len d.begin (nats r)).mpr c.2
      have hlt := List.idxOf_lt_length_of_mem hmem
      rw [hl] at hlt
      have hlt : (rows d.kind d.len d.begin).idxOf (nats r) < d.ways d.begin := hlt
      show _ = if (rows d.kind d.len d.begin).idxOf (nats r) + 1 = d.ways d.begin then _ else _
      by_cases c2 : (rows d.kind d.len d.begin).idxOf (nats r) + 1 = d.ways d.begin
      · rw [if_pos c2, List.getElem?_eq_none (by rw [hl]; exact Nat.le_of_eq c2.symm)]
      · rw [if_neg c2, rowAt_eq (good d) _ _ _ (V_begin d) (show _ < d.ways d.begin by omega)]
        rfl
    · rw [if_neg c, if_pos]
      cases h1 : Sw17.plain r with
      | false => exact .inl rfl
      | true =>
        cases h2 : acc d.kind d.len d.begin (nats r) with
        | false => exact .inr rfl
        | true => exact absurd ⟨h1, h2⟩ c
end Arr

/-! ### for i, x in enumerate(t), t a tuple: by the library's draws of a tuple -/
namespace Wk
open PySem PySem.Spec PyProof.Rows L2
section
variable {v : Value} {o : Obj} {Hs : Heap → Prop}
theorem en_meets (B : Begins v o Hs) : Meets (Builtin.«enumerate.__new__» ⟨[.type "enumerate", v], []⟩) (fun _ R s => Hs s.heap ∧ R (.ok (.ret (.ref (s.heap.push o).objs.size)))
    { s with heap := (s.heap.push o).push { cls := .type "enumerate", data := .fields #[.none, .bool false, .ref s.heap.objs.size, rawInt 0, .none, .none] } }) := by
  refine .of_wp fun prog w A R s h => ?_
  rcases s with ⟨hp, gs, dr, tk, os⟩
  have sub := sub_enumerate
  have first : ∀ {A' : Around} {E' Q' : Value → Shared → Prop}, Q' (.ref hp.objs.size) ⟨hp.push o, gs, dr, tk, os⟩ → wpAny (model prog w) A' (pyIter v) Q' E' ⟨hp, gs, dr, tk, os⟩ := fun q => B.iter _ _ _ _ _ _ h.1 q
  wp_walk using first
  refine wpAny_stack_any fun _ => (wpAny_pure ?_)
  split
  case _ c _ _ _ _ _ =>
    cases (c == Value.type "enumerate") <;> (wp_walk using first; exact ⟨_, rfl, h.2⟩)
  case _ =>
    wp_walk using first
    exact ⟨_, rfl, h.2⟩
theorem en_call {prog : Program} {w : World} {A : Around} {E Q : Value → Shared → Prop} {s : Shared} (B : Begins v o Hs) (hs : Hs s.heap)
    (hQ : ∀ h', IsEnum h' (s.heap.objs.size + 1) s.heap.objs.size 0 .none → h'.get? s.heap.objs.size = some o → (∀ b u, s.heap.get? b = some u → h'.get? b = some u) → Q (.ref (s.heap.objs.size + 1)) { s with heap := h' }) :
    wpAny (model prog w) A (call (.type "enumerate") [v]) Q E s := by
  have z : (s.heap.push o).objs.size = s.heap.objs.size + 1 := Heap.size_push _ _
  have en := Heap.get?_push_size (s.heap.push o) (o := ⟨.type "enumerate", none, .fields #[.none, .bool false, .ref s.heap.objs.size, rawInt 0, .none, .none], #[]⟩) rfl
  rw [z] at en
  refine callType_new F.called_enumerate (by decide) (F.typeCall_enumerate_1 _) (F.newCall_enumerate_1 _) (fun x => F.args_object_init_2 x _) F.entry_enumerate_new (en_meets B) ⟨hs, ?_⟩
  rw [z]
  exact ⟨⟨_, en, rfl⟩, hQ _ en (Heap.get?_push_of_some _ (Heap.get?_push_size _ B.free)) fun b u q => Heap.get?_push_of_some _ (Heap.get?_push_of_some _ q)⟩
end
/-- the tuple at a, each item in a new pair -/
def Iet (a : Addr) : It where
  go := fun i H => ∃ (xs : List V) (x : V), H a = some (.tup xs) ∧ xs[i]? = some x
  yld := fun i H v H' => ∃ (T : Addr) (x : V), v = .ref T ∧ H T = none ∧ H' = upd H T (.tup [.int (i : Nat), x]) ∧ ∀ xs, H a = some (.tup xs) → xs[i]? = some x
  stop := fun i H => ∃ xs : List V, H a = some (.tup xs) ∧ xs.length = i
/-- the enumeration at e over the tuple's iterator at it has gone through i items -/
structure EnAt (a e it : Addr) (i : Nat) (h : Heap) : Prop where
  en : ∃ old, IsEnum h e it (i : Int) old
  tu : h.IsTupleIter it a i
  ne : e ≠ it
theorem fp_ne {X : Cx} {pins : List (Addr × Obj)} {H : Hp} {a b : Addr} {xs : List V} (h : H a = some (.tup xs)) (f : FpOk X pins H b) : a ≠ b := fun z => by
  have q := f.1
  rw [← z, h] at q
  cases q
theorem turn_en {P : Program} {w : World} {K : PySem.W.Frag} {elts : List Expr} {kk : Nat} {tpos : Pos} (a e it : Addr) : Turn P w K (.Tuple elts kk tpos) (Iet a) [e, it] e (EnAt a e it) where
  mem := List.mem_cons_self
  obj := fun i h t b hb => by
    rcases List.mem_cons.mp hb with rfl | hb
    · obtain ⟨old, q⟩ := t.en
      exact ⟨_, q, fun v z => nomatch z⟩
    · obtain rfl := List.mem_singleton.mp hb
      obtain ⟨u, q, _, d⟩ := t.tu
      exact ⟨u, q, fun v z => by rw [d] at z; exact nomatch z⟩
  keep := fun i h h' t k => by
    obtain ⟨⟨old, q⟩, ⟨u, r, p⟩, ne⟩ := t
    exact ⟨⟨old, k e List.mem_cons_self _ q⟩, ⟨u, k it (List.mem_cons_of_mem _ List.mem_cons_self) _ r, p⟩, ne⟩
  item := by
    rintro X rfl rfl rfl calm i pins s σ H E I fp ⟨en, tu, ne⟩ ⟨xs, x, ha, hx⟩
    obtain ⟨its, rv, pl, _⟩ := I.tuple (SqT.of ha)
    obtain ⟨u, hu, ru⟩ := rv.get hx
    have ai : a ≠ it := fp_ne ha (fp it (List.mem_cons_of_mem _ List.mem_cons_self))
    have ae : a ≠ e := fp_ne ha (fp e List.mem_cons_self)
    have W := WalksT.enumerateD (Draws.tuple (A := X.A.in1) (prog := X.prog) (w := X.w) (I.ok.hd calm) it a ai its.toArray) e ne (by simp [ne, Ne.symm ae]) List.mem_cons_self
    have lt : i < its.toArray.size := by simpa using (List.getElem?_eq_some_iff.mp hu).1
    refine W.item i s _ E lt ⟨en, tu, pl⟩ fun T vals h1 tk hv hT tp md fr => ⟨_, rfl, W.go elts kk tpos i T _ _ E md fun h2 st fr2 => ?_⟩
    obtain ⟨t, y, hy, rfl⟩ := hv
    obtain rfl : u = y := Option.some.inj (hu.symm.trans (by simpa using hy))
    have nT := W.apart i T h1 md
    have new : ObjOk X.prog X.w (upd H T (.tup [.int (i : Nat), x])) h2 T (.tup [.int (i : Nat), x]) := by
      obtain ⟨ob, q, r⟩ := tp
      exact ⟨by show 2 ≤ sizeLine; decide, _, .cons ⟨_, rfl⟩ (.cons ru .nil), ob, fr2 T ob nT q, r⟩
    refine ⟨.ref T, _, I.turnedNew (t' := tk) (ch := [e, it]) (fun b ob nb q => fr2 b ob nb (fr b ob nb q)) fp hT new, rfl, ⟨T, x, rfl, I.hok.fresh hT, rfl, fun ys hq => ?_⟩, ⟨st.1, st.2.1, ne⟩, fun b hb => ?_⟩
    · rw [ha] at hq
      cases hq
      exact hx
    · have bT : b ≠ T := fun z => nT (z ▸ hb)
      exact (upd_ne bT).trans (fp b hb).1
  done := by
    rintro X rfl rfl rfl calm i pins s σ H E I fp ⟨⟨old, en⟩, tu, ne⟩ ⟨xs, ha, rfl⟩
    obtain ⟨its, rv, pl, _⟩ := I.tuple (SqT.of ha)
    have fi := fp it (List.mem_cons_of_mem _ List.mem_cons_self)
    have ln : xs.length = its.toArray.size := rv.length.trans List.size_toArray.symm
    rw [ln] at tu
    refine wpAny_pyNext_enum_endD (Draws.tuple (A := X.A.in1) (I.ok.hd calm) it a (fp_ne ha fi) its.toArray) en ⟨tu, pl⟩ fun h' eb => ⟨rfl, ?_⟩
    exact I.turned (t' := s.toks) (fun b ob nb q => eb b ob nb q) fi.1 fi.2.1 fi.2.2.2.1 fi.2.2.2.2.1 fi.2.2.2.2.2
  self := fun A i s Q E t q => by
    obtain ⟨old, en⟩ := t.en
    exact wpAny_pyIter_enum en q
def iEnT (ta : TA) : TI := fun σ H R => ta σ H fun vs H1 => ∃ (a : Addr) (xs : List V), vs = [.ref a] ∧ H1 a = some (.tup xs) ∧ R (Iet a) H1
theorem pi_enumT {X : Cx} {e : Expr} {ta : TA} {p pos tpos : Pos} {elts : List Expr} {kk : Nat} (hg : Gl X "enumerate") (hm : X.mg "enumerate" = none) (ha : PA X [e] ta) (hs : starEach [e] X.env = [(false, eval e X.env)] := by rfl) :
    PI X (.Tuple elts kk tpos) (.Call (.Name "enumerate" p) [e] [] pos) (iEnT ta) where
  run := fun pins s σ H R I h => by
    refine Call_ (ld_blt I hg hm boot_enumerate (PyProof.Rows.callWith_type1 (thn (ha.run pos pins s σ H _ I h) fun us s1 q => ?_) hs rfl))
    obtain ⟨vs, H1, I1, rv, a, xs, rfl, hq, r⟩ := q
    obtain ⟨u, rfl, ru⟩ := vals1 rv
    obtain rfl : u = .ref a := ru
    obtain ⟨its, _, pl, _⟩ := I1.tuple (SqT.of hq)
    refine en_call (begins_tuple a its.toArray) pl fun h' en tu kp => wpAny_pyIter_enum en ⟨s1.heap.objs.size + 1, [s1.heap.objs.size + 1, s1.heap.objs.size], _, _, H1, rfl, I1.kept (t' := s1.toks) kp, turn_en a _ _, ⟨⟨_, en⟩, ⟨_, tu, rfl, rfl⟩, Nat.succ_ne_self _⟩, fun b hb => ?_, r⟩
    have le : s1.heap.objs.size ≤ b := by
      simp at hb
      rcases hb with rfl | rfl <;> omega
    exact I1.fpOk le (I1.hok.fresh le)
end Wk

/-! # Words for the walk: numbers that are not negative, the kinds' objects, the states, the promises -/
namespace Wk
open PySem PySem.Spec PyProof.Rows L2
abbrev nV (n : Nat) : V := .int (n : Int)
abbrev nVs (l : List Nat) : List V := l.map nV
/-! ### operators -/
section
variable {X : Cx}
theorem opr_imp {f : Value → Value → Sem Value} {r r' : R2} (h : OpR X f r) (k : ∀ x y H Q, r' x y H Q → r x y H Q) : OpR X f r' :=
  fun pins s σ H x y v u Q I rx ry q => h pins s σ H x y v u Q I rx ry (k _ _ _ _ q)
def rN (c : Nat → Nat → Prop) (g : Nat → Nat → V) : R2 := fun x y H Q => ∃ a b : Nat, x = nV a ∧ y = nV b ∧ c a b ∧ Q (g a b) H
theorem n_add : OpR X (binaryOp .Add) (rN (fun _ _ => True) fun a b => nV (a + b)) := opr_imp op_add fun x y H Q ⟨a, b, hx, hy, _, q⟩ => ⟨a, b, hx, hy, by
  have e : (a : Int) + (b : Int) = ((a + b : Nat) : Int) := by omega
  show Q (.int ((a : Int) + b)) H
  rw [e]
  exact q⟩
theorem n_sub : OpR X (binaryOp .Sub) (rN (fun a b => b ≤ a) fun a b => nV (a - b)) := opr_imp op_sub fun x y H Q ⟨a, b, hx, hy, c, q⟩ => ⟨a, b, hx, hy, by
  have e : (a : Int) - (b : Int) = ((a - b : Nat) : Int) := by omega
  show Q (.int ((a : Int) - b)) H
  rw [e]
  exact q⟩
theorem n_mul : OpR X (binaryOp .Mult) (rN (fun a b => a < 2 ^ 64 ∨ b < 2 ^ 64) fun a b => nV (a * b)) := opr_imp op_mul fun x y H Q ⟨a, b, hx, hy, c, q⟩ => ⟨a, b, hx, hy, by
  show (-(2 ^ 64) < (a : Int) ∧ (a : Int) < 2 ^ 64) ∨ (-(2 ^ 64) < (b : Int) ∧ (b : Int) < 2 ^ 64)
  omega, by
  have e : (a : Int) * (b : Int) = ((a * b : Nat) : Int) := (Int.natCast_mul a b).symm
  show Q (.int ((a : Int) * b)) H
  rw [e]
  exact q⟩
theorem n_div : OpR X (binaryOp .FloorDiv) (rN (fun _ b => 0 < b ∧ b < 1073741824) fun a b => nV (a / b)) := opr_imp op_fdivN fun x y H Q ⟨a, b, hx, hy, c, q⟩ => ⟨a, b, hx, hy, by
  show (b : Int) ≠ 0 ∧ (b : Int).natAbs < 1073741824
  omega, by
  have e : (a : Int).fdiv (b : Int) = ((a / b : Nat) : Int) := by
    rw [Int.fdiv_eq_ediv_of_nonneg _ (Int.natCast_nonneg b)]
    exact (Int.natCast_ediv a b).symm
  show Q (.int ((a : Int).fdiv b)) H
  rw [e]
  exact q⟩
theorem n_cmp {f : Value → Value → Sem Value} {g : Int → Int → Bool} {k : Nat → Nat → Bool} (h : OpR X f (rI0 fun i j => .bl (g i j))) (e : ∀ a b : Nat, g (a : Int) (b : Int) = k a b) : OpR X f (rN (fun _ _ => True) fun a b => .bl (k a b)) :=
  opr_imp h fun x y H Q ⟨a, b, hx, hy, _, q⟩ => ⟨a, b, hx, hy, by
    show Q (.bl (g a b)) H
    rw [e]
    exact q⟩
theorem n_lt : OpR X (compareOp .Lt) (rN (fun _ _ => True) fun a b => .bl (decide (a < b))) := n_cmp op_lt fun a b => decide_eq_decide.mpr (by omega)
theorem n_le : OpR X (compareOp .LtE) (rN (fun _ _ => True) fun a b => .bl (decide (a ≤ b))) := n_cmp op_le fun a b => decide_eq_decide.mpr (by omega)
theorem n_gt : OpR X (compareOp .Gt) (rN (fun _ _ => True) fun a b => .bl (decide (b < a))) := n_cmp op_gt fun a b => decide_eq_decide.mpr (by omega)
theorem n_ge : OpR X (compareOp .GtE) (rN (fun _ _ => True) fun a b => .bl (decide (b ≤ a))) := n_cmp op_ge fun a b => decide_eq_decide.mpr (by omega)
/-- a reading that asks more -/
theorem PEimp {e : Expr} {t t' : TE} (h : PE X e t) (k : ∀ σ H Q, t' σ H Q → t σ H Q) : PE X e t' := ⟨fun pins s σ H Q I q => h.run pins s σ H Q I (k σ H Q q)⟩
end
/-! ### tests -/
theorem ifT {c : Bool} {A B : Prop} (hc : c = true) (h : A) : if c = true then A else B := by
  rw [if_pos hc]
  exact h
theorem ifF {c : Bool} {A B : Prop} (hc : c = false) (h : B) : if c = true then A else B := by
  rw [hc, if_neg Bool.false_ne_true]
  exact h
/-! ### the heap -/
theorem Same.upd_new {H H' : Hp} {p : Addr} {o : HO} (h : Same H H') (hp : H p = none) : Same H (upd H' p o) := fun b o' e => by
  have : b ≠ p := fun z => by
    rw [z, hp] at e
    cases e
  rw [upd_ne this]
  exact h b o' e
theorem Same.new {H : Hp} {p : Addr} {o : HO} (hp : H p = none) : Same H (upd H p o) := Same.upd_new (Same.refl H) hp
theorem ne_new {H : Hp} {p q : Addr} {o : HO} (h : H q = some o) (hp : H p = none) : q ≠ p := fun z => by
  rw [z, hp] at h
  cases h
/-! ### the kinds' objects -/
structure Cl where
  rep : Addr
  cho : Addr
  bal : Addr
  gro : Addr
  par : Addr
  dis : Addr
def ix : Arr.Kd → Nat
  | .rep _ => 0
  | .cho _ _ => 1
  | .bal _ => 2
  | .gro _ => 3
  | .par _ => 4
  | .dis _ => 5
theorem ix_lt (d : Arr.Kd) : ix d < 6 := by cases d <;> simp [ix]
def Cl.at (c : Cl) : Nat → Addr
  | 0 => c.rep
  | 1 => c.cho
  | 2 => c.bal
  | 3 => c.gro
  | 4 => c.par
  | _ => c.dis
/-- a table: a list of lists of numbers -/
def TabAt (H : Hp) (T : Addr) (L : List (List Nat)) : Prop :=
  ∃ ps : List Addr, H T = some (.lst (ps.map V.ref)) ∧ ps.length = L.length ∧ ∀ (i : Nat) (p : Addr) (row : List Nat), ps[i]? = some p → L[i]? = some row → H p = some (.lst (nVs row))
theorem TabAt.same {H H' : Hp} {T : Addr} {L : List (List Nat)} (h : TabAt H T L) (e : Same H H') : TabAt H' T L := by
  obtain ⟨ps, h1, h2, h3⟩ := h
  exact ⟨ps, e _ _ h1, h2, fun i p row a b => e _ _ (h3 i p row a b)⟩
def balTab (n : Nat) : List (List Nat) := (List.range (n + 1)).map fun i => (List.range (n + 2)).map (Arr.bT i)
def groTab (n : Nat) : List (List Nat) := (List.range (n + 1)).map fun i => (List.range (n + 2 - i)).map (Arr.gT i)
def parTab (n : Nat) : List (List Nat) := (List.range (n + 1)).map fun i => (List.range (n + 1)).map (Arr.pT i)
def KdIn (c : Cl) (H : Hp) (a : Addr) : Arr.Kd → Prop
  | .rep m => ∃ (dx t : Addr), H a = some (.ins c.rep dx [("times", .ref t), ("length", nV m.sum)]) ∧ H t = some (.tup (nVs m))
  | .cho n k => ∃ dx : Addr, H a = some (.ins c.cho dx [("many", nV n), ("length", nV k)])
  | .bal n => ∃ (dx T : Addr), H a = some (.ins c.bal dx [("length", nV n), ("table", .ref T)]) ∧ TabAt H T (balTab n)
  | .gro n => ∃ (dx T : Addr), H a = some (.ins c.gro dx [("length", nV n), ("table", .ref T)]) ∧ TabAt H T (groTab n)
  | .par n => ∃ (dx T : Addr), H a = some (.ins c.par dx [("length", nV n), ("table", .ref T)]) ∧ TabAt H T (parTab n)
  | .dis n => ∃ dx : Addr, H a = some (.ins c.dis dx [("length", nV n)])
def KdAt (c : Cl) (H : Hp) (a : Addr) (d : Arr.Kd) : Prop := d.Ok ∧ KdIn c H a d
theorem KdAt.same {c : Cl} {H H' : Hp} {a : Addr} {d : Arr.Kd} (h : KdAt c H a d) (e : Same H H') : KdAt c H' a d := by
  refine ⟨h.1, ?_⟩
  have h := h.2
  cases d with
  | rep m => obtain ⟨dx, t, h1, h2⟩ := h; exact ⟨dx, t, e _ _ h1, e _ _ h2⟩
  | cho n k => obtain ⟨dx, h1⟩ := h; exact ⟨dx, e _ _ h1⟩
  | bal n => obtain ⟨dx, T, h1, h2⟩ := h; exact ⟨dx, T, e _ _ h1, h2.same e⟩
  | gro n => obtain ⟨dx, T, h1, h2⟩ := h; exact ⟨dx, T, e _ _ h1, h2.same e⟩
  | par n => obtain ⟨dx, T, h1, h2⟩ := h; exact ⟨dx, T, e _ _ h1, h2.same e⟩
  | dis n => obtain ⟨dx, h1⟩ := h; exact ⟨dx, e _ _ h1⟩
theorem lk_here {k : Str} {v : V} {r : List (Str × V)} : List.lookup k ((k, v) :: r) = some v := by
  have e : (k == k) = true := beq_self_eq_true k
  simp only [List.lookup, e]
theorem lk_past {k g : Str} {v : V} {r : List (Str × V)} (h : (k == g) = false) : List.lookup k ((g, v) :: r) = List.lookup k r := by
  simp only [List.lookup, h]
theorem put_here {f : Str} {v x : V} {r : List (Str × V)} : putF f v ((f, x) :: r) = (f, v) :: r := if_pos rfl
theorem put_past {f g : Str} {v x : V} {r : List (Str × V)} (h : ¬ g = f) : putF f v ((g, x) :: r) = (g, x) :: putF f v r := if_neg h
theorem lk1 {k g : Str} {v : V} (h : (k == g) = false) : List.lookup k [(g, v)] = none := (lk_past h).trans rfl
theorem lk2 {k g g2 : Str} {v v2 : V} (h : (k == g) = false) (h2 : (k == g2) = false) : List.lookup k [(g, v), (g2, v2)] = none := (lk_past h).trans (lk1 h2)
theorem lkS {k g : Str} {v v2 : V} (h : (k == g) = false) : List.lookup k [(g, v), (k, v2)] = some v2 := (lk_past h).trans lk_here
/-- what the calls of a method and the length ask -/
theorem KdAt.ins {c : Cl} {H : Hp} {a : Addr} {d : Arr.Kd} (h : KdAt c H a d) : ∃ (dx : Addr) (fs : List (Str × V)), H a = some (.ins (c.at (ix d)) dx fs) ∧
    fs.lookup ("begin" : Str) = none ∧ fs.lookup ("numbers" : Str) = none ∧ fs.lookup ("behind" : Str) = none ∧ fs.lookup ("ways" : Str) = none ∧ fs.lookup ("length" : Str) = some (nV d.len) := by
  have h := h.2
  cases d with
  | rep m =>
    obtain ⟨dx, t, h1, h2⟩ := h
    exact ⟨dx, _, h1, lk2 (by decide +kernel) (by decide +kernel), lk2 (by decide +kernel) (by decide +kernel), lk2 (by decide +kernel) (by decide +kernel), lk2 (by decide +kernel) (by decide +kernel), lkS (by decide +kernel)⟩
  | cho n k =>
    obtain ⟨dx, h1⟩ := h
    exact ⟨dx, _, h1, lk2 (by decide +kernel) (by decide +kernel), lk2 (by decide +kernel) (by decide +kernel), lk2 (by decide +kernel) (by decide +kernel), lk2 (by decide +kernel) (by decide +kernel), lkS (by decide +kernel)⟩
  | bal n =>
    obtain ⟨dx, T, h1, h2⟩ := h
    exact ⟨dx, _, h1, lk2 (by decide +kernel) (by decide +kernel), lk2 (by decide +kernel) (by decide +kernel), lk2 (by decide +kernel) (by decide +kernel), lk2 (by decide +kernel) (by decide +kernel), lk_here⟩
  | gro n =>
    obtain ⟨dx, T, h1, h2⟩ := h
    exact ⟨dx, _, h1, lk2 (by decide +kernel) (by decide +kernel), lk2 (by decide +kernel) (by decide +kernel), lk2 (by decide +kernel) (by decide +kernel), lk2 (by decide +kernel) (by decide +kernel), lk_here⟩
  | par n =>
    obtain ⟨dx, T, h1, h2⟩ := h
    exact ⟨dx, _, h1, lk2 (by decide +kernel) (by decide +kernel), lk2 (by decide +kernel) (by decide +kernel), lk2 (by decide +kernel) (by decide +kernel), lk2 (by decide +kernel) (by decide +kernel), lk_here⟩
  | dis n =>
    obtain ⟨dx, h1⟩ := h
    exact ⟨dx, _, h1, lk1 (by decide +kernel), lk1 (by decide +kernel), lk1 (by decide +kernel), lk1 (by decide +kernel), lk_here⟩
/-! ### the states -/
def StAt (H : Hp) (p : Addr) : Arr.S → Prop
  | .tup xs => H p = some (.tup (nVs xs))
  | .pr a b => H p = some (.tup [nV a, nV b])
  | .dis xs q => ∃ t : Addr, H p = some (.tup [.ref t, nV q]) ∧ H t = some (.tup (nVs xs))
theorem StAt.same {H H' : Hp} {p : Addr} {s : Arr.S} (h : StAt H p s) (e : Same H H') : StAt H' p s := by
  cases s with
  | tup xs => exact e _ _ h
  | pr a b => exact e _ _ h
  | dis xs q => obtain ⟨t, h1, h2⟩ := h; exact ⟨t, e _ _ h1, e _ _ h2⟩
/-! ### the promises -/
def spChoose : Sp := fun vs H Q _ => ∃ m k : Nat, vs = [nV m, nV k] ∧ m ≤ 1000 ∧ k ≤ 1000 ∧ ∀ H', Same H H' → Q (nV (Arr.C m k)) H'
def spFact : Sp := fun vs H Q _ => ∃ m : Nat, vs = [nV m] ∧ m ≤ 1000 ∧ ∀ H', Same H H' → Q (nV (Arr.F m)) H'
/-- __init__ -/
def Inits (H : Hp) (a : Addr) (Q : VK) (g : Hp → Prop) : Prop := ∀ H', g H' → (∀ b o, H b = some o → b ≠ a → H' b = some o) → Q .non H'
def spInit (K : PySem.W.Frag) (c : Cl) (j : Nat) : Sp := fun vs H Q _ => ∃ (a dx : Addr) (d : Arr.Kd), ix d = j ∧ d.Ok ∧ H a = some (.ins (c.at j) dx []) ∧ (∀ H', KdIn c H' a d → (∀ b o, H b = some o → b ≠ a → H' b = some o) → Q .non H') ∧
  match d with
  | .rep m => ∃ b : Addr, vs = [.ref a, .ref b] ∧ SqL K H b (nVs m)
  | .cho n k => vs = [.ref a, nV n, nV k]
  | .bal n => vs = [.ref a, nV n]
  | .gro n => vs = [.ref a, nV n]
  | .par n => vs = [.ref a, nV n]
  | .dis n => vs = [.ref a, nV n]
def spBegin (c : Cl) (j : Nat) : Sp := fun vs H Q _ => ∃ (a : Addr) (d : Arr.Kd), ix d = j ∧ vs = [.ref a] ∧ KdAt c H a d ∧ ∀ H' p, Same H H' → StAt H' p d.begin → Q (.ref p) H'
def spNumbers (c : Cl) (j : Nat) : Sp := fun vs H Q _ => ∃ (a p : Addr) (d : Arr.Kd) (s : Arr.S) (l : Nat), ix d = j ∧ vs = [.ref a, .ref p] ∧ KdAt c H a d ∧ StAt H p s ∧ d.V (l + 1) s ∧ l + 1 ≤ d.len ∧
  ∀ H' q, Same H H' → H q = none → H' q = some (.lst (nVs (d.numbers s))) → Q (.ref q) H'
def spBehind (c : Cl) (j : Nat) : Sp := fun vs H Q _ => ∃ (a p : Addr) (d : Arr.Kd) (s : Arr.S) (l x : Nat), ix d = j ∧ vs = [.ref a, .ref p, nV x] ∧ KdAt c H a d ∧ StAt H p s ∧ d.V (l + 1) s ∧ l + 1 ≤ d.len ∧ x ∈ d.numbers s ∧
  ∀ H' q, Same H H' → StAt H' q (d.behind s x) → Q (.ref q) H'
def spWays (c : Cl) (j : Nat) : Sp := fun vs H Q _ => ∃ (a p : Addr) (d : Arr.Kd) (s : Arr.S) (l : Nat), ix d = j ∧ vs = [.ref a, .ref p] ∧ KdAt c H a d ∧ StAt H p s ∧ d.V l s ∧ l ≤ d.len ∧
  ∀ H', Same H H' → Q (nV (d.ways s)) H'
def spKind (K : PySem.W.Frag) (c : Cl) : Sp := fun vs H Q _ => ∃ (s n : Int) (b : Addr) (m : List Int), vs = [.int s, .int n, .ref b] ∧ SqL K H b (m.map V.int) ∧ m.length ≤ 32 ∧
  (∀ H', Arr.kdOf s n m = none → Same H H' → Q .non H') ∧ ∀ H' a d, Arr.kdOf s n m = some d → Same H H' → KdAt c H' a d → Q (.ref a) H'
def spRow (c : Cl) : Sp := fun vs H Q _ => ∃ (a : Addr) (d : Arr.Kd) (k : Nat), vs = [.ref a, nV k] ∧ KdAt c H a d ∧ k < d.ways d.begin ∧
  ∀ H' p, Same H H' → H p = none → H' p = some (.lst (nVs (Arr.rowAt d.kind d.len d.begin k))) → Q (.ref p) H'
def plV : Option Nat → V
  | none => .int (-1)
  | some p => nV p
def spPlace (K : PySem.W.Frag) (c : Cl) : Sp := fun vs H Q _ => ∃ (a b : Addr) (d : Arr.Kd) (r : List Int), vs = [.ref a, .ref b] ∧ KdAt c H a d ∧ SqL K H b (r.map V.int) ∧
  ∀ H', Same H H' → Q (plV (d.place r)) H'
/-! ### defs by name, methods by class -/
section
variable (P : Program) (w : World) (K : PySem.W.Frag) (mg : Str → Option Value) (base : Heap)
/-- the def of that name keeps the promise -/
def FnAt (k : Nat) (x : Str) (ps : List Str) (sp : Sp) : Prop := ∃ (f : Addr) (fd : FuncData), mg x = some (.ref f) ∧ PySem.W.keepIn K (.ref f) = true ∧ FnOk P w K mg base CX0 k f fd ps sp ∧ Binds K fd ps []
/-- the method of that name -/
def MtAt (k : Nat) (C : Addr) (m : Str) (ps : List Str) (sp : Sp) : Prop := ∃ (f : Addr) (fd : FuncData), Meth K C m f ∧ FnOk P w K mg base CX0 k f fd ps sp ∧ Binds K fd ps []
/-- the class of that name makes instances -/
def MkAt (k : Nat) (x : Str) (C : Addr) (ps : List Str) (sp : Sp) : Prop := ∃ (f : Addr) (fd : FuncData), mg x = some (.ref C) ∧ Mk K C f ∧ FnOk P w K mg base CX0 k f fd ps sp ∧ Binds K fd ps []
structure Bi : Prop where
  range : mg "range" = none
  tuple : mg "tuple" = none
  list : mg "list" = none
  sum : mg "sum" = none
  enumerate : mg "enumerate" = none
  max : mg "max" = none
  min : mg "min" = none
  len : mg "len" = none
  all : mg "all" = none
structure ClsOk (c : Cl) : Prop where
  cls : ∀ j, j < 6 → Cls K (c.at j)
  nLen : ∀ j, j < 6 → NoAttr K (c.at j) "length"
structure Nos (c : Cl) : Prop where
  ok : ClsOk K c
  times : NoAttr K c.rep "times"
  many : NoAttr K c.cho "many"
  tabB : NoAttr K c.bal "table"
  tabG : NoAttr K c.gro "table"
  tabP : NoAttr K c.par "table"
structure Kinds (c : Cl) : Prop where
  ok : ClsOk K c
  beg : ∀ j, j < 6 → MtAt P w K mg base 1 (c.at j) "begin" ["self"] (spBegin c j)
  way : ∀ j, j < 6 → MtAt P w K mg base 2 (c.at j) "ways" ["self", "state"] (spWays c j)
structure Kinds2 (c : Cl) : Prop where
  k : Kinds P w K mg base c
  num : ∀ j, j < 6 → MtAt P w K mg base 1 (c.at j) "numbers" ["self", "state"] (spNumbers c j)
  beh : ∀ j, j < 6 → MtAt P w K mg base 1 (c.at j) "behind" ["self", "state", "number"] (spBehind c j)
end
section
variable {X : Cx}
/-- a method of a kind that stands in slot i -/
def tKM (c : Cl) (i : Nat) (m : Str) (sp : Nat → Sp) (t : TA) : TE := fun σ H Q => ∃ (a : Addr) (d : Arr.Kd), σ[i]? = some (some (.ref a)) ∧ KdAt c H a d ∧ t σ H fun vs H2 => sp (ix d) (.ref a :: (vs ++ [])) H2 Q E0
theorem pe_km {c : Cl} {i : Nat} {m : Str} {sp : Nat → Sp} {t : TA} {e : Expr} (hm : m = "begin" ∨ m = "numbers" ∨ m = "behind" ∨ m = "ways") (h : ∀ j, j < 6 → PE X e (tMeth (c.at j) m (sp j) [] E0 (tVar i) t)) : PE X e (tKM c i m sp t) := by
  refine ⟨fun pins s σ H Q I q => ?_⟩
  obtain ⟨a, d, e1, e2, q⟩ := q
  obtain ⟨dx, fs, e3, l1, l2, l3, l4, _⟩ := e2.ins
  refine (h (ix d) (ix_lt d)).run pins s σ H Q I ⟨_, e1, a, dx, fs, rfl, e3, ?_, q⟩
  rcases hm with rfl | rfl | rfl | rfl
  · exact l1
  · exact l2
  · exact l3
  · exact l4
end
end Wk

namespace Wk
open PySem PySem.Spec PyProof.Rows L2
def top (i : Nat) : Stmt := PySem.Challenge.pw_arrangements_s02_of.main.body.getD i (.Pass ⟨0, 0, 0, 0⟩)
abbrev sChoose : Stmt := top 1
abbrev sFact : Stmt := top 2
theorem zAdd (i : Nat) : V.int (0 + (i : Int)) = nV i := congrArg V.int (Int.zero_add _)
theorem nAdd (a i : Nat) : V.int ((a : Int) + (i : Int)) = nV (a + i) := congrArg V.int (Int.natCast_add a i).symm
section
variable {P : Program} {w : World} {K : PySem.W.Frag} {mg : Str → Option Value} {base : Heap}
theorem scChoose : FnScope ["many", "some", "ways", "step"] ["many", "some"] (defScope sChoose) := ⟨rfl, rfl, rfl, by decide +kernel, rfl, by decide +kernel, by decide +kernel⟩
theorem ok_choose {f : Addr} {fd : FuncData} (F : Fun K "choose" "choose" sChoose f fd) (B : Bi mg) : FnOk P w K mg base CX0 1 f fd ["many", "some"] spChoose := by
  refine F.ok scChoose (fun vs H Q E h => ?_) (fun cdv A outer s H vs Q E hr h => ⟨_, pss_cons (ps_if (pt_not (pt_chain n_le n_le pe_int (pv 1) (pv 0))) (pss_one (ps_ret pe_int)) pss_nil)
    (pss_cons (ps_set (i := 2) scChoose.nd rfl (.inl rfl) pe_int)
    (pss_cons (ps_for PassesOwn.never rfl (pi_range1 rfl B.range (pa_cons (pv 1) pa_nil)) (pg_name (i := 3) scChoose.nd rfl (.inl rfl))
      (pss_one (ps_set (i := 2) scChoose.nd rfl (.inl rfl) (pe_op n_div (pe_op n_mul (pv 2) (pe_op n_sub (pv 0) (pv 3))) (pe_op n_add (pv 3) pe_int)))))
    (pss_one (ps_ret (pv 2))))), ?_⟩)
  · obtain ⟨m, k, rfl, _⟩ := h
    rfl
  · obtain ⟨m, k, rfl, hm, hk, q⟩ := h
    refine ⟨_, rfl, 0, k, rfl, rfl, trivial, _, rfl, ?_⟩
    refine ifT (decide_eq_true (Nat.zero_le k)) ⟨_, rfl, k, m, rfl, rfl, trivial, _, rfl, ?_⟩
    by_cases c : k ≤ m
    · refine ifF (by rw [decide_eq_true c] <;> rfl) ?_
      refine ⟨_, rfl, (k : Int), rfl, by omega, by omega, ?_⟩
      refine for_range (lo := 0) (n := k) (fun i σ H' => ∃ v : Option V, σ = [some (nV m), some (nV k), some (nV (Arr.C m i)), v] ∧ Same H H')
        ⟨none, by rw [Arr.C_zero] <;> rfl, Same.refl H⟩ ?_ ?_
      · rintro i σ H' hi ⟨v, rfl, s1⟩
        refine ⟨_, rfl, _, rfl, _, rfl, m, i, rfl, zAdd i, by omega, Arr.C m i, m - i, rfl, rfl, .inr (by omega), _, rfl, i, 1, zAdd i, rfl, trivial, _, _, rfl, rfl, ⟨by omega, by omega⟩, ?_⟩
        exact ⟨_, congrArg (fun z => [some (nV m), some (nV k), some (nV z), some (V.int (0 + (i : Int)))]) (Arr.C_turn m i (by omega)), s1⟩
      · rintro σ H' ⟨v, rfl, s1⟩
        exact ⟨_, rfl, q H' s1⟩
    · refine ifT (by rw [decide_eq_false c] <;> rfl) ?_
      have := q H (Same.refl H)
      rw [Arr.C_over m k (by omega)] at this
      exact this
theorem scFact : FnScope ["many", "orders", "step"] ["many"] (defScope sFact) := ⟨rfl, rfl, rfl, by decide +kernel, rfl, by decide +kernel, by decide +kernel⟩
theorem F_two (i : Nat) : Arr.F (i + 1) * (2 + i) = Arr.F (i + 2) := by
  show _ = Arr.F (i + 1) * (i + 1 + 1)
  congr 1
  omega
theorem ok_fact {f : Addr} {fd : FuncData} (F : Fun K "factorial" "factorial" sFact f fd) (B : Bi mg) : FnOk P w K mg base CX0 1 f fd ["many"] spFact := by
  refine F.ok scFact (fun vs H Q E h => ?_) (fun cdv A outer s H vs Q E hr h => ⟨_, pss_cons (ps_set (i := 1) scFact.nd rfl (.inl rfl) pe_int)
    (pss_cons (ps_for PassesOwn.never rfl (pi_range2 rfl B.range (pa_cons pe_int (pa_cons (pe_op n_add (pv 0) pe_int) pa_nil))) (pg_name (i := 2) scFact.nd rfl (.inl rfl))
      (pss_one (ps_set (i := 1) scFact.nd rfl (.inl rfl) (pe_op n_mul (pv 1) (pv 2)))))
    (pss_one (ps_ret (pv 1)))), ?_⟩)
  · obtain ⟨m, rfl, _⟩ := h
    rfl
  · obtain ⟨m, rfl, hm, q⟩ := h
    refine ⟨_, rfl, m, 1, rfl, rfl, trivial, 2, ((m + 1 : Nat) : Int), rfl, ⟨by omega, by omega, by omega, by omega⟩, ?_⟩
    have en : (((m + 1 : Nat) : Int) - 2).toNat = m - 1 := by omega
    rw [en]
    refine for_range (lo := 2) (n := m - 1) (fun i σ H' => ∃ v : Option V, σ = [some (nV m), some (nV (Arr.F (i + 1))), v] ∧ Same H H')
      ⟨none, rfl, Same.refl H⟩ ?_ ?_
    · rintro i σ H' hi ⟨v, rfl, s1⟩
      refine ⟨_, rfl, _, rfl, Arr.F (i + 1), 2 + i, rfl, nAdd 2 i, .inr (by omega), ?_⟩
      exact ⟨_, congrArg (fun z => [some (nV m), some (nV z), some (V.int (2 + (i : Int)))]) (F_two i), s1⟩
    · rintro σ H' ⟨v, rfl, s1⟩
      refine ⟨_, rfl, ?_⟩
      have e : Arr.F (m - 1 + 1) = Arr.F m := by
        cases m with
        | zero => rfl
        | succ m => rfl
      rw [e]
      exact q H' s1
end
end Wk

namespace Wk
open PySem PySem.Spec PyProof.Rows L2
theorem at0 {x : V} {r : List V} : atI (x :: r) 0 = some x := atI_nat (j := 0) rfl
theorem at1 {x y : V} {r : List V} : atI (x :: y :: r) 1 = some y := atI_nat (j := 1) rfl
theorem ix0 : ∀ {d : Arr.Kd}, ix d = 0 → ∃ m, d = .rep m
  | .rep m, _ => ⟨m, rfl⟩
  | .cho _ _, h => absurd h (show ¬ 1 = 0 by decide)
  | .bal _, h => absurd h (show ¬ 2 = 0 by decide)
  | .gro _, h => absurd h (show ¬ 3 = 0 by decide)
  | .par _, h => absurd h (show ¬ 4 = 0 by decide)
  | .dis _, h => absurd h (show ¬ 5 = 0 by decide)
theorem ix1 : ∀ {d : Arr.Kd}, ix d = 1 → ∃ n k, d = .cho n k
  | .rep _, h => absurd h (show ¬ 0 = 1 by decide)
  | .cho n k, _ => ⟨n, k, rfl⟩
  | .bal _, h => absurd h (show ¬ 2 = 1 by decide)
  | .gro _, h => absurd h (show ¬ 3 = 1 by decide)
  | .par _, h => absurd h (show ¬ 4 = 1 by decide)
  | .dis _, h => absurd h (show ¬ 5 = 1 by decide)
theorem ix2 : ∀ {d : Arr.Kd}, ix d = 2 → ∃ n, d = .bal n
  | .rep _, h => absurd h (show ¬ 0 = 2 by decide)
  | .cho _ _, h => absurd h (show ¬ 1 = 2 by decide)
  | .bal n, _ => ⟨n, rfl⟩
  | .gro _, h => absurd h (show ¬ 3 = 2 by decide)
  | .par _, h => absurd h (show ¬ 4 = 2 by decide)
  | .dis _, h => absurd h (show ¬ 5 = 2 by decide)
theorem ix3 : ∀ {d : Arr.Kd}, ix d = 3 → ∃ n, d = .gro n
  | .rep _, h => absurd h (show ¬ 0 = 3 by decide)
  | .cho _ _, h => absurd h (show ¬ 1 = 3 by decide)
  | .bal _, h => absurd h (show ¬ 2 = 3 by decide)
  | .gro n, _ => ⟨n, rfl⟩
  | .par _, h => absurd h (show ¬ 4 = 3 by decide)
  | .dis _, h => absurd h (show ¬ 5 = 3 by decide)
theorem ix4 : ∀ {d : Arr.Kd}, ix d = 4 → ∃ n, d = .par n
  | .rep _, h => absurd h (show ¬ 0 = 4 by decide)
  | .cho _ _, h => absurd h (show ¬ 1 = 4 by decide)
  | .bal _, h => absurd h (show ¬ 2 = 4 by decide)
  | .gro _, h => absurd h (show ¬ 3 = 4 by decide)
  | .par n, _ => ⟨n, rfl⟩
  | .dis _, h => absurd h (show ¬ 5 = 4 by decide)
theorem ix5 : ∀ {d : Arr.Kd}, ix d = 5 → ∃ n, d = .dis n
  | .rep _, h => absurd h (show ¬ 0 = 5 by decide)
  | .cho _ _, h => absurd h (show ¬ 1 = 5 by decide)
  | .bal _, h => absurd h (show ¬ 2 = 5 by decide)
  | .gro _, h => absurd h (show ¬ 3 = 5 by decide)
  | .par _, h => absurd h (show ¬ 4 = 5 by decide)
  | .dis n, _ => ⟨n, rfl⟩
theorem two_line : 2 ≤ sizeLine := by decide
section
variable {P : Program} {w : World} {K : PySem.W.Frag} {mg : Str → Option Value} {base : Heap} {c : Cl}
abbrev sM (i j : Nat) : Stmt := inClass (top i) j
/-! ### begin -/
theorem ok_begin0 {f : Addr} {fd : FuncData} (F : Fun K "begin" "Repeated.begin" (sM 3 1) f fd) (N : Nos K c) : FnOk P w K mg base CX0 1 f fd ["self"] (spBegin c 0) := by
  have sc : FnScope ["self"] ["self"] (defScope (sM 3 1)) := ⟨rfl, rfl, rfl, by decide +kernel, rfl, by decide +kernel, by decide +kernel⟩
  refine F.ok sc (fun vs H Q E h => ?_) (fun cdv A outer s H vs Q E hr h => ⟨_, pss_one (ps_ret (pe_fld (pv 0) rfl)), ?_⟩)
  · obtain ⟨a, d, _, rfl, _⟩ := h
    rfl
  · obtain ⟨a, d, e, rfl, hk, q⟩ := h
    obtain ⟨m, rfl⟩ := ix0 e
    obtain ⟨dx, t, h1, h2⟩ := hk.2
    exact ⟨_, rfl, a, c.rep, dx, _, _, rfl, h1, N.ok.cls 0 (by decide), N.times, lk_here, q H t (Same.refl H) h2⟩
theorem ok_begin1 {f : Addr} {fd : FuncData} (F : Fun K "begin" "Chosen.begin" (sM 4 1) f fd) (N : Nos K c) : FnOk P w K mg base CX0 1 f fd ["self"] (spBegin c 1) := by
  have sc : FnScope ["self"] ["self"] (defScope (sM 4 1)) := ⟨rfl, rfl, rfl, by decide +kernel, rfl, by decide +kernel, by decide +kernel⟩
  refine F.ok sc (fun vs H Q E h => ?_) (fun cdv A outer s H vs Q E hr h => ⟨_, pss_one (ps_ret (pe_tup (pa_cons pe_int (pa_cons (pe_fld (pv 0) rfl) pa_nil)))), ?_⟩)
  · obtain ⟨a, d, _, rfl, _⟩ := h
    rfl
  · obtain ⟨a, d, e, rfl, hk, q⟩ := h
    obtain ⟨n, k, rfl⟩ := ix1 e
    obtain ⟨dx, h1⟩ := hk.2
    exact ⟨_, rfl, a, c.cho, dx, _, _, rfl, h1, N.ok.cls 1 (by decide), N.ok.nLen 1 (by decide), lkS (by decide +kernel), two_line, fun p hp => q _ p (Same.new hp) upd_same⟩
theorem ok_begin2 {f : Addr} {fd : FuncData} (F : Fun K "begin" "Balanced.begin" (sM 5 1) f fd) (N : Nos K c) : FnOk P w K mg base CX0 1 f fd ["self"] (spBegin c 2) := by
  have sc : FnScope ["self"] ["self"] (defScope (sM 5 1)) := ⟨rfl, rfl, rfl, by decide +kernel, rfl, by decide +kernel, by decide +kernel⟩
  refine F.ok sc (fun vs H Q E h => ?_) (fun cdv A outer s H vs Q E hr h => ⟨_, pss_one (ps_ret (pe_tup (pa_cons (pe_fld (pv 0) rfl) (pa_cons pe_int pa_nil)))), ?_⟩)
  · obtain ⟨a, d, _, rfl, _⟩ := h
    rfl
  · obtain ⟨a, d, e, rfl, hk, q⟩ := h
    obtain ⟨n, rfl⟩ := ix2 e
    obtain ⟨dx, T, h1, h2⟩ := hk.2
    exact ⟨_, rfl, a, c.bal, dx, _, _, rfl, h1, N.ok.cls 2 (by decide), N.ok.nLen 2 (by decide), lk_here, two_line, fun p hp => q _ p (Same.new hp) upd_same⟩
theorem ok_begin3 {f : Addr} {fd : FuncData} (F : Fun K "begin" "Growing.begin" (sM 6 1) f fd) (N : Nos K c) : FnOk P w K mg base CX0 1 f fd ["self"] (spBegin c 3) := by
  have sc : FnScope ["self"] ["self"] (defScope (sM 6 1)) := ⟨rfl, rfl, rfl, by decide +kernel, rfl, by decide +kernel, by decide +kernel⟩
  refine F.ok sc (fun vs H Q E h => ?_) (fun cdv A outer s H vs Q E hr h => ⟨_, pss_one (ps_ret (pe_tup (pa_cons (pe_fld (pv 0) rfl) (pa_cons pe_int pa_nil)))), ?_⟩)
  · obtain ⟨a, d, _, rfl, _⟩ := h
    rfl
  · obtain ⟨a, d, e, rfl, hk, q⟩ := h
    obtain ⟨n, rfl⟩ := ix3 e
    obtain ⟨dx, T, h1, h2⟩ := hk.2
    exact ⟨_, rfl, a, c.gro, dx, _, _, rfl, h1, N.ok.cls 3 (by decide), N.ok.nLen 3 (by decide), lk_here, two_line, fun p hp => q _ p (Same.new hp) upd_same⟩
theorem ok_begin4 {f : Addr} {fd : FuncData} (F : Fun K "begin" "Parted.begin" (sM 7 1) f fd) (N : Nos K c) : FnOk P w K mg base CX0 1 f fd ["self"] (spBegin c 4) := by
  have sc : FnScope ["self"] ["self"] (defScope (sM 7 1)) := ⟨rfl, rfl, rfl, by decide +kernel, rfl, by decide +kernel, by decide +kernel⟩
  refine F.ok sc (fun vs H Q E h => ?_) (fun cdv A outer s H vs Q E hr h => ⟨_, pss_one (ps_ret (pe_tup (pa_cons (pe_fld (pv 0) rfl) (pa_cons (pe_fld (pv 0) rfl) pa_nil)))), ?_⟩)
  · obtain ⟨a, d, _, rfl, _⟩ := h
    rfl
  · obtain ⟨a, d, e, rfl, hk, q⟩ := h
    obtain ⟨n, rfl⟩ := ix4 e
    obtain ⟨dx, T, h1, h2⟩ := hk.2
    exact ⟨_, rfl, a, c.par, dx, _, _, rfl, h1, N.ok.cls 4 (by decide), N.ok.nLen 4 (by decide), lk_here, _, rfl, a, c.par, dx, _, _, rfl, h1, N.ok.cls 4 (by decide), N.ok.nLen 4 (by decide), lk_here, two_line, fun p hp => q _ p (Same.new hp) upd_same⟩
theorem rgV_nat (a n : Nat) : rgV (a : Int) (n : Int) = nVs ((List.range (n - a)).map (a + ·)) := by
  unfold rgV
  have e : ((n : Int) - (a : Int)).toNat = n - a := by omega
  rw [e, show nVs ((List.range (n - a)).map (a + ·)) = (List.range (n - a)).map (nV ∘ (a + ·)) from List.map_map]
  exact List.map_congr_left fun i _ => nAdd a i
theorem rgV_zero (n : Nat) : rgV 0 (n : Int) = nVs (List.range n) := by
  have h := rgV_nat 0 n
  have e : (List.range (n - 0)).map (0 + ·) = List.range n := by
    rw [Nat.sub_zero]
    refine (List.map_congr_left fun i _ => Nat.zero_add i).trans (List.map_id _)
  rw [e] at h
  exact h
theorem ok_begin5 {f : Addr} {fd : FuncData} (F : Fun K "begin" "Displaced.begin" (sM 8 1) f fd) (N : Nos K c) (B : Bi mg) : FnOk P w K mg base CX0 1 f fd ["self"] (spBegin c 5) := by
  have sc : FnScope ["self"] ["self"] (defScope (sM 8 1)) := ⟨rfl, rfl, rfl, by decide +kernel, rfl, by decide +kernel, by decide +kernel⟩
  refine F.ok sc (fun vs H Q E h => ?_) (fun cdv A outer s H vs Q E hr h => ⟨_, pss_one (ps_ret (pe_tup (pa_cons (pe_tupRg rfl rfl B.tuple (prg_1 rfl B.range (pe_fld (pv 0) rfl))) (pa_cons pe_int pa_nil)))), ?_⟩)
  · obtain ⟨a, d, _, rfl, _⟩ := h
    rfl
  · obtain ⟨a, d, e, rfl, hk, q⟩ := h
    obtain ⟨n, rfl⟩ := ix5 e
    obtain ⟨dx, h1⟩ := hk.2
    have hn : n ≤ 32 := hk.1.2
    refine ⟨_, rfl, a, c.dis, dx, _, _, rfl, h1, N.ok.cls 5 (by decide), N.ok.nLen 5 (by decide), lk_here, _, rfl, RgOk.of_le (by omega) (by omega) (by omega) (by omega), fun t ht => ?_⟩
    refine ⟨two_line, fun p hp => ?_⟩
    have hpt : t ≠ p := ne_new upd_same hp
    refine q _ p (Same.upd_new (Same.new ht) ?_) ⟨t, upd_same, ?_⟩
    · rw [← hp]
      exact (upd_ne (Ne.symm hpt)).symm
    · rw [upd_ne hpt, upd_same, rgV_zero]
/-! ### ways -/
theorem TabAt.get {H : Hp} {T : Addr} {L : List (List Nat)} {i : Nat} {row : List Nat} (h : TabAt H T L) (e : L[i]? = some row) : ∃ (xs : List V) (p : Addr), H T = some (.lst xs) ∧ xs[i]? = some (.ref p) ∧ H p = some (.lst (nVs row)) := by
  obtain ⟨ps, h1, h2, h3⟩ := h
  have hi : i < ps.length := by
    rw [h2]
    exact (List.getElem?_eq_some_iff.mp e).1
  exact ⟨_, ps[i], h1, by rw [List.getElem?_map, List.getElem?_eq_getElem hi] <;> rfl, h3 i _ row (List.getElem?_eq_getElem hi) e⟩
theorem get_map {f : Nat → Nat} {n j : Nat} (h : j < n) : (nVs ((List.range n).map f))[j]? = some (nV (f j)) := by
  rw [List.getElem?_map, List.getElem?_map, List.getElem?_range h] <;> rfl
theorem get_tab {f : Nat → List Nat} {n j : Nat} (h : j < n) : ((List.range n).map f)[j]? = some (f j) := by
  rw [List.getElem?_map, List.getElem?_range h] <;> rfl
theorem pow_small {a : Nat} (h : a ≤ 32) : 2 ^ a < 2 ^ 64 := Nat.pow_lt_pow_right (by decide) (by omega)
theorem C_small {m k : Nat} (h : m ≤ 32) : Arr.C m k < 2 ^ 64 := Nat.lt_of_le_of_lt (Arr.C_le m k) (pow_small h)
theorem wT_drop {xs : List Nat} {i x : Nat} (h : xs[i]? = some x) (t : Nat) : Arr.wT t (xs.drop i) = Arr.C (t + x) x * Arr.wT (t + x) (xs.drop (i + 1)) := by
  obtain ⟨hi, e⟩ := List.getElem?_eq_some_iff.mp h
  rw [List.drop_eq_getElem_cons hi, e]
  rfl
theorem sum_take {xs : List Nat} {i x : Nat} (h : xs[i]? = some x) : (xs.take (i + 1)).sum = (xs.take i).sum + x := by
  obtain ⟨hi, e⟩ := List.getElem?_eq_some_iff.mp h
  rw [List.take_succ_eq_append_getElem hi, List.sum_append, e]
  simp
theorem take_le (xs : List Nat) (i : Nat) : (xs.take i).sum ≤ xs.sum := by
  have := List.take_append_drop i xs
  have e := congrArg List.sum this
  rw [List.sum_append] at e
  omega
theorem getV {xs : List Nat} {i : Nat} {y : V} (h : (nVs xs)[i]? = some y) : ∃ x : Nat, xs[i]? = some x ∧ y = nV x := by
  rw [List.getElem?_map] at h
  cases e : xs[i]? with
  | none =>
    rw [e] at h
    cases h
  | some x =>
    rw [e] at h
    exact ⟨x, rfl, (Option.some.inj h).symm⟩
theorem ok_ways0 {f : Addr} {fd : FuncData} (F : Fun K "ways" "Repeated.ways" (sM 3 4) f fd) (CH : FnAt P w K mg base 1 "choose" ["many", "some"] spChoose) : FnOk P w K mg base CX0 2 f fd ["self", "state"] (spWays c 0) := by
  have sc : FnScope ["self", "state", "found", "together", "left"] ["self", "state"] (defScope (sM 3 4)) := ⟨rfl, rfl, rfl, by decide +kernel, rfl, by decide +kernel, by decide +kernel⟩
  obtain ⟨g, gd, gm, gk, G, gb⟩ := CH
  refine F.ok sc (fun vs H Q E h => ?_) (fun cdv A outer s H vs Q E hr h => ⟨_, pss_cons (ps_set (i := 2) sc.nd rfl (.inl rfl) pe_int) (pss_cons (ps_set (i := 3) sc.nd rfl (.inl rfl) pe_int)
    (pss_cons (ps_for PassesOwn.never rfl (pi_tup (pv 1)) (pg_name (i := 4) sc.nd rfl (.inl rfl))
      (pss_cons (ps_set (i := 3) sc.nd rfl (.inl rfl) (pe_op n_add (pv 3) (pv 4)))
      (pss_one (ps_set (i := 2) sc.nd rfl (.inl rfl) (pe_op n_mul (pv 2) (pe_call G hr rfl gm gk gb .nil pass0 (pa_cons (pv 3) (pa_cons (pv 4) pa_nil))))))))
    (pss_one (ps_ret (pv 2))))), ?_⟩)
  · obtain ⟨a, p, d, st, l, _, rfl, _⟩ := h
    rfl
  · obtain ⟨a, p, d, st, l, e, rfl, hk, hs, hv, hl, q⟩ := h
    obtain ⟨m, rfl⟩ := ix0 e
    rcases st with xs | _ | _ <;> try (exact False.elim hv)
    have hs : H p = some (.tup (nVs xs)) := hs
    have hz : xs.sum ≤ 32 := by
      have h1 : xs.sum = l := hv.2
      have h2 : l ≤ m.sum := hl
      have h3 : m.sum ≤ 32 := hk.1.2.2.2.2
      omega
    refine ⟨_, rfl, p, rfl, ⟨_, SqT.of hs⟩, for_tup (K := K) (a := p) (xs := nVs xs) (fun i σ H' => ∃ (v : Option V) (g : Nat), σ = [some (.ref a), some (.ref p), some (nV g), some (nV (xs.take i).sum), v] ∧ Same H H' ∧ g * Arr.wT (xs.take i).sum (xs.drop i) = Arr.wT 0 xs)
      ⟨none, 1, rfl, Same.refl H, Nat.one_mul _⟩ (fun i σ H' _ ⟨_, _, _, s1, _⟩ => SqT.of (s1 _ _ hs)) ?_ ?_⟩
    · rintro i y σ H' hy ⟨v, g, rfl, s1, eg⟩
      obtain ⟨x, hx, rfl⟩ := getV hy
      have e1 := sum_take hx
      have e2 := take_le xs (i + 1)
      refine ⟨_, rfl, _, rfl, (xs.take i).sum, x, rfl, rfl, trivial, _, rfl, _, rfl, _, rfl, (xs.take i).sum + x, x, rfl, by omega, by omega, fun H2 s2 => ?_⟩
      refine ⟨g, Arr.C ((xs.take i).sum + x) x, rfl, rfl, .inr (C_small (by omega)), ?_⟩
      refine ⟨some (nV x), g * Arr.C ((xs.take i).sum + x) x, ?_, Same.trans s1 s2, ?_⟩
      · rw [e1]
        rfl
      · rw [e1, ← eg, wT_drop hx, Nat.mul_assoc]
    · rintro σ H' ⟨v, g, rfl, s1, eg⟩
      rw [List.length_map, List.drop_length] at eg
      have eg : g * 1 = Arr.wT 0 xs := eg
      rw [Nat.mul_one] at eg
      refine ⟨_, rfl, ?_⟩
      rw [eg]
      exact q H' s1
theorem ok_ways1 {f : Addr} {fd : FuncData} (F : Fun K "ways" "Chosen.ways" (sM 4 4) f fd) (N : Nos K c) (CH : FnAt P w K mg base 1 "choose" ["many", "some"] spChoose) : FnOk P w K mg base CX0 2 f fd ["self", "state"] (spWays c 1) := by
  have sc : FnScope ["self", "state"] ["self", "state"] (defScope (sM 4 4)) := ⟨rfl, rfl, rfl, by decide +kernel, rfl, by decide +kernel, by decide +kernel⟩
  obtain ⟨g, gd, gm, gk, G, gb⟩ := CH
  refine F.ok sc (fun vs H Q E h => ?_) (fun cdv A outer s H vs Q E hr h => ⟨_, pss_one (ps_ret (pe_call G hr rfl gm gk gb .nil pass0 (pa_cons (pe_op n_sub (pe_fld (pv 0) rfl) (pe_ix ix_tup (pv 1) pe_int (fun _ _ => rfl))) (pa_cons (pe_ix ix_tup (pv 1) pe_int (fun _ _ => rfl)) pa_nil)))), ?_⟩)
  · obtain ⟨a, p, d, st, l, _, rfl, _⟩ := h
    rfl
  · obtain ⟨a, p, d, st, l, e, rfl, hk, hs, hv, hl, q⟩ := h
    obtain ⟨n, k, rfl⟩ := ix1 e
    rcases st with _ | ⟨x, y⟩ | _ <;> try (exact False.elim hv)
    have hs : H p = some (.tup [nV x, nV y]) := hs
    obtain ⟨dx, h1⟩ := hk.2
    obtain ⟨o1, o2, o3⟩ := hk.1
    obtain ⟨v1, v2⟩ := hv
    have hl : l ≤ k := hl
    exact ⟨_, rfl, a, c.cho, dx, _, _, rfl, h1, N.ok.cls 1 (by decide), N.many, lk_here, _, rfl, p, _, 0, _, rfl, rfl, SqT.of hs, at0, n, x, rfl, rfl, v2, _, rfl, p, _, 1, _, rfl, rfl, SqT.of hs, at1, n - x, y, rfl, by omega, by omega, fun H' s' => q H' s'⟩
theorem ok_ways2 {f : Addr} {fd : FuncData} (F : Fun K "ways" "Balanced.ways" (sM 5 4) f fd) (N : Nos K c) : FnOk P w K mg base CX0 2 f fd ["self", "state"] (spWays c 2) := by
  have sc : FnScope ["self", "state"] ["self", "state"] (defScope (sM 5 4)) := ⟨rfl, rfl, rfl, by decide +kernel, rfl, by decide +kernel, by decide +kernel⟩
  refine F.ok sc (fun vs H Q E h => ?_) (fun cdv A outer s H vs Q E hr h => ⟨_, pss_cons (ps_if (pt_cmpR n_gt (pe_ix ix_tup (pv 1) pe_int (fun _ _ => rfl)) (pe_ix ix_tup (pv 1) pe_int (fun _ _ => rfl)) (nomark _)) (pss_one (ps_ret pe_int)) pss_nil)
    (pss_one (ps_ret (pe_ix ix_list (pe_ix ix_list (pe_fld (pv 0) rfl) (pe_ix ix_tup (pv 1) pe_int (fun _ _ => rfl)) (fun _ _ => rfl)) (pe_ix ix_tup (pv 1) pe_int (fun _ _ => rfl)) (fun _ _ => rfl)))), ?_⟩)
  · obtain ⟨a, p, d, st, l, _, rfl, _⟩ := h
    rfl
  · obtain ⟨a, p, d, st, l, e, rfl, hk, hs, hv, hl, q⟩ := h
    obtain ⟨n, rfl⟩ := ix2 e
    rcases st with _ | ⟨x, y⟩ | _ <;> try (exact False.elim hv)
    have hs : H p = some (.tup [nV x, nV y]) := hs
    obtain ⟨dx, T, h1, h2⟩ := hk.2
    obtain ⟨v1, v2⟩ := hv
    refine ⟨_, rfl, p, _, 1, _, rfl, rfl, SqT.of hs, at1, _, rfl, p, _, 0, _, rfl, rfl, SqT.of hs, at0, y, x, rfl, rfl, trivial, _, rfl, ?_⟩
    by_cases cc : x < y
    · refine ifT (decide_eq_true cc) ?_
      have := q H (Same.refl H)
      rw [show (Arr.Kd.bal n).ways (.pr x y) = 0 from Arr.bT_over x y cc] at this
      exact this
    · refine ifF (decide_eq_false cc) ?_
      obtain ⟨xs, r, g1, g2, g3⟩ := h2.get (get_tab (f := fun i => (List.range (n + 2)).map (Arr.bT i)) (j := x) (show x < n + 1 by omega))
      exact ⟨_, rfl, a, c.bal, dx, _, _, rfl, h1, N.ok.cls 2 (by decide), N.tabB, lkS (by decide +kernel), _, rfl, p, _, 0, _, rfl, rfl, SqT.of hs, at0, T, xs, _, _, rfl, rfl, SqL.of g1, atI_nat g2,
        _, rfl, p, _, 1, _, rfl, rfl, SqT.of hs, at1, r, _, _, _, rfl, rfl, SqL.of g3, atI_nat (get_map (show y < n + 2 by omega)), q H (Same.refl H)⟩
theorem ok_ways3 {f : Addr} {fd : FuncData} (F : Fun K "ways" "Growing.ways" (sM 6 4) f fd) (N : Nos K c) : FnOk P w K mg base CX0 2 f fd ["self", "state"] (spWays c 3) := by
  have sc : FnScope ["self", "state"] ["self", "state"] (defScope (sM 6 4)) := ⟨rfl, rfl, rfl, by decide +kernel, rfl, by decide +kernel, by decide +kernel⟩
  refine F.ok sc (fun vs H Q E h => ?_) (fun cdv A outer s H vs Q E hr h => ⟨_, pss_one (ps_ret (pe_ix ix_list (pe_ix ix_list (pe_fld (pv 0) rfl) (pe_ix ix_tup (pv 1) pe_int (fun _ _ => rfl)) (fun _ _ => rfl)) (pe_ix ix_tup (pv 1) pe_int (fun _ _ => rfl)) (fun _ _ => rfl))), ?_⟩)
  · obtain ⟨a, p, d, st, l, _, rfl, _⟩ := h
    rfl
  · obtain ⟨a, p, d, st, l, e, rfl, hk, hs, hv, hl, q⟩ := h
    obtain ⟨n, rfl⟩ := ix3 e
    rcases st with _ | ⟨x, y⟩ | _ <;> try (exact False.elim hv)
    have hs : H p = some (.tup [nV x, nV y]) := hs
    obtain ⟨dx, T, h1, h2⟩ := hk.2
    obtain ⟨v1, v2⟩ := hv
    obtain ⟨xs, r, g1, g2, g3⟩ := h2.get (get_tab (f := fun i => (List.range (n + 2 - i)).map (Arr.gT i)) (j := x) (show x < n + 1 by omega))
    exact ⟨_, rfl, a, c.gro, dx, _, _, rfl, h1, N.ok.cls 3 (by decide), N.tabG, lkS (by decide +kernel), _, rfl, p, _, 0, _, rfl, rfl, SqT.of hs, at0, T, xs, _, _, rfl, rfl, SqL.of g1, atI_nat g2,
      _, rfl, p, _, 1, _, rfl, rfl, SqT.of hs, at1, r, _, _, _, rfl, rfl, SqL.of g3, atI_nat (get_map (show y < n + 2 - x by omega)), q H (Same.refl H)⟩
theorem ok_ways4 {f : Addr} {fd : FuncData} (F : Fun K "ways" "Parted.ways" (sM 7 4) f fd) (N : Nos K c) : FnOk P w K mg base CX0 2 f fd ["self", "state"] (spWays c 4) := by
  have sc : FnScope ["self", "state"] ["self", "state"] (defScope (sM 7 4)) := ⟨rfl, rfl, rfl, by decide +kernel, rfl, by decide +kernel, by decide +kernel⟩
  refine F.ok sc (fun vs H Q E h => ?_) (fun cdv A outer s H vs Q E hr h => ⟨_, pss_one (ps_ret (pe_ix ix_list (pe_ix ix_list (pe_fld (pv 0) rfl) (pe_ix ix_tup (pv 1) pe_int (fun _ _ => rfl)) (fun _ _ => rfl)) (pe_ix ix_tup (pv 1) pe_int (fun _ _ => rfl)) (fun _ _ => rfl))), ?_⟩)
  · obtain ⟨a, p, d, st, l, _, rfl, _⟩ := h
    rfl
  · obtain ⟨a, p, d, st, l, e, rfl, hk, hs, hv, hl, q⟩ := h
    obtain ⟨n, rfl⟩ := ix4 e
    rcases st with _ | ⟨x, y⟩ | _ <;> try (exact False.elim hv)
    have hs : H p = some (.tup [nV x, nV y]) := hs
    obtain ⟨dx, T, h1, h2⟩ := hk.2
    obtain ⟨v1, v2, v3⟩ := hv
    obtain ⟨xs, r, g1, g2, g3⟩ := h2.get (get_tab (f := fun i => (List.range (n + 1)).map (Arr.pT i)) (j := x) (show x < n + 1 by omega))
    exact ⟨_, rfl, a, c.par, dx, _, _, rfl, h1, N.ok.cls 4 (by decide), N.tabP, lkS (by decide +kernel), _, rfl, p, _, 0, _, rfl, rfl, SqT.of hs, at0, T, xs, _, _, rfl, rfl, SqL.of g1, atI_nat g2,
      _, rfl, p, _, 1, _, rfl, rfl, SqT.of hs, at1, r, _, _, _, rfl, rfl, SqL.of g3, atI_nat (get_map (show y < n + 1 by omega)), q H (Same.refl H)⟩
end
end Wk

namespace Wk
open PySem PySem.Spec PyProof.Rows L2
/-- the items of a tuple for which p holds: what a turn keeps -/
theorem filter_take {p : Nat → Bool} {xs : List Nat} {i x : Nat} (h : xs[i]? = some x) : (xs.take (i + 1)).filter p = (xs.take i).filter p ++ if p x = true then [x] else [] := by
  obtain ⟨hi, e⟩ := List.getElem?_eq_some_iff.mp h
  rw [List.take_succ_eq_append_getElem hi, List.filter_append, e]
  by_cases c : p x = true
  · rw [if_pos c, List.filter_cons_of_pos c, List.filter_nil]
  · rw [if_neg c, List.filter_cons_of_neg c, List.filter_nil]
theorem filter_len (p : Nat → Bool) (xs : List Nat) (i : Nat) : ((xs.take i).filter p).length ≤ xs.length := by
  have h1 := List.length_filter_le p (xs.take i)
  rw [List.length_take] at h1
  omega
/-- [x for x in t if p(x)] -/
theorem lc_filter {K : PySem.W.Frag} {a D : Addr} {xs : List Nat} {tt : TT} {σ : L2.St} {H1 : Hp} {n : Nat} {p : Nat → Bool} {Qd : Hp → Prop} (ha : H1 a = some (.tup (nVs xs))) (hD : H1 D = none) (hx : xs.length ≤ 1000) (hn : n < σ.length)
    (ht : ∀ (i x : Nat) (H : Hp) (Q : Bool → Hp → Prop), xs[i]? = some x → Same H1 H → Q (p x) H → tt ((wipe σ [n]).set n (some (nV x))) H Q)
    (hd : ∀ H, Same H1 H → H D = some (.lst (nVs (xs.filter p))) → Qd H) :
    ∃ W : Nat → Nat → Hp → Prop, (∃ m, W 0 m (upd H1 D (.lst []))) ∧ ∀ i m H, W i m H →
      ((Itt K a).stop i H ∧ Qd H) ∨ ((Itt K a).go i H ∧ ∃ Nx : Hp → Prop, (∀ H', Nx H' → ∃ m', m' < m ∧ W (i + 1) m' H') ∧ ∀ x H', (Itt K a).yld i H x H' → gName n x (wipe σ [n]) H' fun σ2 H2 => wipe σ2 [n] = wipe σ [n] ∧ tt σ2 H2 fun b H3 =>
        if b = true then tVar n σ2 H3 fun y H4 => ∃ acc, H4 D = some (.lst acc) ∧ acc.length < sizeLine ∧ Nx (upd H4 D (.lst (acc ++ [y]))) else Nx H3) := by
  refine lc_tup (K := K) (a := a) (xs := nVs xs) (fun i H => Same H1 H ∧ H D = some (.lst (nVs ((xs.take i).filter p)))) ⟨Same.new hD, upd_same⟩ (fun i H _ ⟨s1, _⟩ => SqT.of (s1 _ _ ha)) ?_ ?_
  · rintro i y H hy ⟨s1, hl⟩
    obtain ⟨x, hx1, rfl⟩ := getV hy
    refine ⟨?_, ht i x H _ hx1 s1 ?_⟩
    · show ((wipe σ [n]).set n (some (nV x))).set n none = σ.set n none
      show ((σ.set n none).set n (some (nV x))).set n none = σ.set n none
      rw [List.set_set, List.set_set]
    · have e := filter_take (p := p) hx1
      by_cases c : p x = true
      · refine ifT c ⟨nV x, ?_, nVs ((xs.take i).filter p), hl, ?_, Same.upd_new s1 hD, ?_⟩
        · show ((σ.set n none).set n (some (nV x)))[n]? = _
          rw [List.set_set, List.getElem?_set_self hn]
        · have := filter_len p xs i
          rw [List.length_map]
          exact small1000 (by omega)
        · rw [upd_same, e, if_pos c]
          show some (HO.lst (nVs _ ++ [nV x])) = some (HO.lst (nVs (_ ++ [x])))
          rw [show nVs ((xs.take i).filter p ++ [x]) = nVs ((xs.take i).filter p) ++ nVs [x] from List.map_append]
          rfl
      · rw [Bool.not_eq_true] at c
        refine ifF c ⟨s1, ?_⟩
        rw [e, if_neg (by rw [c]; exact Bool.false_ne_true), List.append_nil]
        exact hl
  · rintro H ⟨s1, hl⟩
    rw [List.length_map, List.take_length] at hl
    exact hd H s1 hl
theorem sgn_or : ∀ k, Arr.sgn k = 1 ∨ Arr.sgn k = -1
  | 0 => .inl rfl
  | k + 1 => by
    show - Arr.sgn k = 1 ∨ - Arr.sgn k = -1
    rcases sgn_or k with e | e
    · rw [e]; exact .inr rfl
    · rw [e]; exact .inl rfl
section
variable {P : Program} {w : World} {K : PySem.W.Frag} {mg : Str → Option Value} {base : Heap} {c : Cl}
theorem ok_ways5 {f : Addr} {fd : FuncData} (F : Fun K "ways" "Displaced.ways" (sM 8 4) f fd) (B : Bi mg) (CH : FnAt P w K mg base 1 "choose" ["many", "some"] spChoose) (FA : FnAt P w K mg base 1 "factorial" ["many"] spFact) :
    FnOk P w K mg base CX0 2 f fd ["self", "state"] (spWays c 5) := by
  have sc : FnScope ["self", "state", "left", "place", "own", "found", "sign", "kept", "number"] ["self", "state"] (defScope (sM 8 4)) := ⟨rfl, rfl, rfl, by decide +kernel, rfl, by decide +kernel, by decide +kernel⟩
  obtain ⟨g, gd, gm, gk, G, gb⟩ := CH
  obtain ⟨g2, gd2, gm2, gk2, G2, gb2⟩ := FA
  refine F.ok sc (fun vs H Q E h => ?_) (fun cdv A outer s H vs Q E hr h => ⟨_,
    pss_cons (ps_asg (pv 1) (pg_tup (by rfl) (pgs_cons (pg_name (i := 2) sc.nd rfl (.inl rfl)) (pgs_cons (pg_name (i := 3) sc.nd rfl (.inr rfl)) pgs_nil))))
    (pss_cons (ps_set (i := 4) sc.nd rfl (.inl rfl) (pe_callB call_len (by rfl) B.len PySem.boot_len (pa_cons (pe_lc (own := [("number", 8)]) (g := gName 8) (tt := tTest (tOp (rN (fun _ _ => True) fun a b => .bl (decide (b ≤ a))) (tVar 8) (tVar 3))) rfl sc.nd (pi_tup (pv 2))
        (blkOk_by (N := ["self", "state", "left", "place", "own", "found", "sign", "kept", "number"]) (sc := defScope (sM 8 4)) (by decide +kernel)) (fun _ _ _ _ _ => pg_name (i := 8) sc.nd rfl (.inl rfl)) (fun _ _ _ _ _ => pts_one (pt_cmpR n_ge (pv 8) (pv 3) (nomark _))) (fun _ _ _ _ _ => pv 8)) pa_nil)))
    (pss_cons (ps_set (i := 5) sc.nd rfl (.inl rfl) pe_int)
    (pss_cons (ps_set (i := 6) sc.nd rfl (.inl rfl) pe_int)
    (pss_cons (ps_for PassesOwn.never rfl (pi_range1 rfl B.range (pa_cons (pe_op n_add (pv 4) pe_int) pa_nil)) (pg_name (i := 7) sc.nd rfl (.inl rfl))
      (pss_cons (ps_set (i := 5) sc.nd rfl (.inl rfl) (pe_op op_add (pv 5) (pe_op op_mul (pe_op op_mul (pv 6) (pe_call G hr rfl gm gk gb .nil pass0 (pa_cons (pv 4) (pa_cons (pv 7) pa_nil))))
          (pe_call G2 hr rfl gm2 gk2 gb2 .nil pass0 (pa_cons (pe_op n_sub (pe_callB call_len (by rfl) B.len PySem.boot_len (pa_cons (pv 2) pa_nil)) (pv 7)) pa_nil)))))
      (pss_one (ps_set (i := 6) sc.nd rfl (.inl rfl) (pe_un un_neg (pv 6))))))
    (pss_one (ps_ret (pv 5))))))), ?_⟩)
  · obtain ⟨a, p, d, st, l, _, rfl, _⟩ := h
    rfl
  · obtain ⟨a, p, d, st, l, e, rfl, hk, hs, hv, hl, q⟩ := h
    obtain ⟨n, rfl⟩ := ix5 e
    rcases st with _ | _ | ⟨xs, pl⟩ <;> try (exact False.elim hv)
    obtain ⟨t, h1, h2⟩ := hs
    obtain ⟨v1, v2, v3, v4⟩ := hv
    have hn : n ≤ 32 := hk.1.2
    have hlen : xs.length ≤ 32 := by omega
    refine ⟨_, rfl, p, _, rfl, SqT.of h1, rfl, _, _, rfl, _, _, rfl, rfl, ?_⟩
    refine ⟨_, rfl, t, rfl, ⟨_, SqT.of h2⟩, fun D hD => ?_⟩
    refine lc_filter (p := fun x => decide (pl ≤ x)) h2 hD (by omega) (by show 8 < 9; decide) ?_ ?_
    · intro i x H' Q' hx s1 q'
      exact ⟨_, rfl, _, rfl, x, pl, rfl, rfl, trivial, _, rfl, q'⟩
    · intro H1 s1 hD1
      refine ⟨_, _, rfl, .inl ⟨_, SqL.of hD1, rfl⟩, ?_⟩
      rw [show (nVs (xs.filter fun x => decide (pl ≤ x))).length = Arr.own xs pl from List.length_map _]
      have ho : Arr.own xs pl ≤ xs.length := List.length_filter_le _ _
      generalize ho2 : Arr.own xs pl = o at ho
      refine ⟨_, rfl, o, 1, rfl, rfl, trivial, ((o + 1 : Nat) : Int), rfl, by omega, by omega, ?_⟩
      refine for_range (lo := 0) (n := o + 1) (fun i σ H' => ∃ v : Option V, σ = [some (.ref a), some (.ref p), some (.ref t), some (nV pl), some (nV o), some (.int (Arr.pS (fun k => (Arr.F (xs.length - k) : Nat)) o i)), some (.int (Arr.sgn i)), v, none] ∧ Same H H')
        ⟨none, rfl, s1⟩ ?_ ?_
      · rintro i σ H' hi ⟨v, rfl, s2⟩
        have hc := C_small (m := o) (k := i) (by omega)
        refine ⟨_, rfl, _, rfl, _, rfl, _, rfl, o, i, congrArg (fun z => [nV o, z]) (zAdd i), by omega, by omega, fun H2 s3 => ?_⟩
        refine ⟨_, _, rfl, rfl, .inr ⟨by omega, by omega⟩, _, rfl, _, xs.length, rfl, .inr ⟨_, SqT.of (s3 _ _ (s2 _ _ h2)), (List.length_map _).symm⟩, _, rfl, xs.length, i, rfl, zAdd i, by omega, xs.length - i, rfl, by omega, fun H3 s4 => ?_⟩
        refine ⟨_, _, rfl, rfl, .inl ?_, _, _, rfl, rfl, ?_⟩
        · have hc2 : ((Arr.C o i : Nat) : Int) < 2 ^ 64 := by omega
          have hc3 : (0 : Int) ≤ ((Arr.C o i : Nat) : Int) := Int.natCast_nonneg _
          rcases sgn_or i with es | es
          · rw [es, Int.one_mul]
            omega
          · rw [es, Int.neg_mul, Int.one_mul]
            omega
        · refine ⟨_, rfl, _, rfl, ?_⟩
          exact ⟨_, rfl, Same.trans s2 (Same.trans s3 s4)⟩
      · rintro σ H' ⟨v, rfl, s2⟩
        refine ⟨_, rfl, ?_⟩
        rw [Arr.pS_dZ, ← Arr.dN_dZ _ _ ho]
        have := q H' s2
        rw [show (Arr.Kd.dis n).ways (.dis xs pl) = Arr.dN o xs.length from congrArg (fun z => Arr.dN z xs.length) ho2] at this
        exact this
end
end Wk

namespace Wk
open PySem PySem.Spec PyProof.Rows L2
/-! ### what a def does to one object, the rest as it stood -/
/-- all that was tracked, a aside, is as it was -/
def Frm (a : Addr) (H H' : Hp) : Prop := ∀ b o, H b = some o → b ≠ a → H' b = some o
theorem Frm.upd {a : Addr} {H H' : Hp} {o : HO} (h : Frm a H H') : Frm a H (upd H' a o) := fun b o' e ne => by
  rw [upd_ne ne]
  exact h b o' e ne
theorem Frm.new {a p : Addr} {H H' : Hp} {o : HO} (h : Frm a H H') (hp : H p = none) : Frm a H (L2.upd H' p o) := fun b o' e ne => by
  have : b ≠ p := fun z => by
    rw [z, hp] at e
    cases e
  rw [upd_ne this]
  exact h b o' e ne
theorem Frm.refl (a : Addr) (H : Hp) : Frm a H H := fun _ _ e _ => e
theorem Frm.trans {a : Addr} {H H1 H2 : Hp} (h : Frm a H H1) (k : Frm a H1 H2) : Frm a H H2 := fun b o e ne => k b o (h b o e ne) ne
theorem Frm.same {a : Addr} {H H1 H2 : Hp} (h : Frm a H H1) (k : Same H1 H2) : Frm a H H2 := fun b o e ne => k b o (h b o e ne)
theorem Frm.free {a p : Addr} {H H' : Hp} (h : Frm a H H') (hp : H' p = none) (ha : p ≠ a) : H p = none := by
  cases e : H p with
  | none => rfl
  | some o =>
    rw [h p o e ha] at hp
    cases hp
theorem Frm.seq {K : PySem.W.Frag} {a b C dx : Addr} {fs : List (Str × V)} {xs : List V} {H H' : Hp} (h : Frm a H H') (ha : H a = some (.ins C dx fs)) (q : SqL K H b xs) : SqL K H' b xs := by
  rcases q with (q | ⟨o, q⟩) | q
  · exact .inl (.inl (h _ _ q fun z => by rw [z, ha] at q; cases q))
  · exact .inl (.inr ⟨o, h _ _ q fun z => by rw [z, ha] at q; cases q⟩)
  · exact .inr q
theorem at_back {xs : List V} {n : Nat} {v : V} (h : xs[n]? = some v) (hl : xs.length = n + 1) : atI xs (-1) = some v := by
  have hn : xs ≠ [] := fun z => by rw [z] at hl; cases hl
  have e := List.dropLast_concat_getLast hn
  have e2 : xs.getLast hn = v := by
    rw [List.getLast_eq_getElem]
    have h1 : xs[xs.length - 1]? = some v := by
      rw [hl]
      exact h
    exact (List.getElem?_eq_some_iff.mp h1).2
  rw [e2] at e
  rw [← e]
  exact atI_last _ _
/-- [v for _ in range(m)] -/
theorem lc_same {D : Addr} {σ : L2.St} {H1 : Hp} {n m : Nat} {v : V} {Qd : Hp → Prop} (hD : H1 D = none) (hm : m ≤ 1000) (hd : ∀ H, Same H1 H → H D = some (.lst (List.replicate m v)) → Qd H) :
    ∃ W : Nat → Nat → Hp → Prop, (∃ m, W 0 m (upd H1 D (.lst []))) ∧ ∀ i m' H, W i m' H →
      ((Itr 0 m).stop i H ∧ Qd H) ∨ ((Itr 0 m).go i H ∧ ∃ Nx : Hp → Prop, (∀ H', Nx H' → ∃ m'', m'' < m' ∧ W (i + 1) m'' H') ∧ ∀ x H', (Itr 0 m).yld i H x H' → gName n x (wipe σ [n]) H' fun σ2 H2 => wipe σ2 [n] = wipe σ [n] ∧ tYes σ2 H2 fun b H3 =>
        if b = true then tC v σ2 H3 fun y H4 => ∃ acc, H4 D = some (.lst acc) ∧ acc.length < sizeLine ∧ Nx (upd H4 D (.lst (acc ++ [y]))) else Nx H3) := by
  refine lc_range (fun i H => Same H1 H ∧ H D = some (.lst (List.replicate i v))) ⟨Same.new hD, upd_same⟩ ?_ fun H ⟨s1, hl⟩ => hd H s1 hl
  rintro i H hi ⟨s1, hl⟩
  refine ⟨?_, _, hl, ?_, Same.upd_new s1 hD, ?_⟩
  · show ((σ.set n none).set n (some (V.int (0 + (i : Int))))).set n none = σ.set n none
    rw [List.set_set, List.set_set]
  · rw [List.length_replicate]
    exact small1000 (by omega)
  · rw [upd_same, List.replicate_succ']
/-- a row more in a table -/
theorem TabAt.snoc {H : Hp} {T r : Addr} {ps : List Addr} {L : List (List Nat)} {row : List Nat} (h1 : H T = some (.lst (ps.map V.ref))) (h2 : ps.length = L.length)
    (h3 : ∀ (i : Nat) (p : Addr) (row : List Nat), ps[i]? = some p → L[i]? = some row → H p = some (.lst (nVs row))) (hr : H r = some (.lst (nVs row))) (hne : r ≠ T) :
    TabAt (upd H T (.lst (ps.map V.ref ++ [.ref r]))) T (L ++ [row]) := by
  refine ⟨ps ++ [r], ?_, by simp [h2], fun i p row' a b => ?_⟩
  · rw [upd_same, List.map_append]
    rfl
  · by_cases hi : i < ps.length
    · rw [List.getElem?_append_left hi] at a
      rw [List.getElem?_append_left (by omega)] at b
      have q := h3 i p row' a b
      have : p ≠ T := fun z => by
        rw [z, h1] at q
        have e := HO.lst.inj (Option.some.inj q)
        cases ps with
        | nil => cases hi
        | cons x ps =>
          cases row' with
          | nil => cases e
          | cons y row' => exact V.noConfusion (List.cons.inj e).1
      rw [upd_ne this]
      exact q
    · have hi2 : i = ps.length := by
        have := (List.getElem?_eq_some_iff.mp a).1
        rw [List.length_append] at this
        simp at this
        omega
      subst hi2
      rw [List.getElem?_append_right (Nat.le_refl _), Nat.sub_self] at a
      rw [h2, List.getElem?_append_right (Nat.le_refl _), Nat.sub_self] at b
      cases a
      cases b
      rw [upd_ne hne]
      exact hr
theorem TabAt.one {H : Hp} {T r : Addr} {row : List Nat} (h1 : H T = some (.lst [.ref r])) (hr : H r = some (.lst (nVs row))) : TabAt H T [row] := by
  refine ⟨[r], h1, rfl, fun i p row' a b => ?_⟩
  cases i with
  | zero =>
    cases a
    cases b
    exact hr
  | succ i => cases a
/-- the first so many rows -/
def tabOf (f : Nat → List Nat) (i : Nat) : List (List Nat) := (List.range i).map f
theorem tabOf_succ (f : Nat → List Nat) (i : Nat) : tabOf f (i + 1) = tabOf f i ++ [f i] := by
  unfold tabOf
  rw [List.range_succ, List.map_append]
  rfl
theorem rg_succ (f : Nat → Nat) (i : Nat) : nVs ((List.range (i + 1)).map f) = nVs ((List.range i).map f) ++ [nV (f i)] := by
  rw [List.range_succ, List.map_append]
  exact List.map_append
section
variable {P : Program} {w : World} {K : PySem.W.Frag} {mg : Str → Option Value} {base : Heap} {c : Cl}
/-! ### __init__ -/
theorem ints_nVs (m : List Nat) : nVs m = (m.map fun (x : Nat) => (x : Int)).map V.int := by
  show m.map _ = _
  rw [List.map_map]
  rfl
theorem sum_ints : ∀ m : List Nat, (m.map fun (x : Nat) => (x : Int)).sum = (m.sum : Int)
  | [] => rfl
  | x :: m => by
    rw [List.map_cons, List.sum_cons, List.sum_cons, sum_ints m, Int.natCast_add]
theorem ok_init0 {f : Addr} {fd : FuncData} (F : Fun K "__init__" "Repeated.__init__" (sM 3 0) f fd) (N : Nos K c) (B : Bi mg) : FnOk P w K mg base CX0 1 f fd ["self", "times"] (spInit K c 0) := by
  have sc : FnScope ["self", "times"] ["self", "times"] (defScope (sM 3 0)) := ⟨rfl, rfl, rfl, by decide +kernel, rfl, by decide +kernel, by decide +kernel⟩
  refine F.ok sc (fun vs H Q E h => ?_) (fun cdv A outer s H vs Q E hr h => ⟨_, pss_cons (ps_fld (pv 0) (pe_callTy call_tuple_of (by rfl) B.tuple (by decide +kernel) (pa_cons (pv 1) pa_nil)) rfl)
    (pss_one (ps_fld (pv 0) (pe_callB (cr_sum rfl) (by rfl) B.sum (by decide +kernel) (pa_cons (pv 1) pa_nil)) rfl)), ?_⟩)
  · obtain ⟨a, dx, d, e, _, _, _, h⟩ := h
    obtain ⟨m, rfl⟩ := ix0 e
    obtain ⟨b, rfl, _⟩ := h
    rfl
  · obtain ⟨a, dx, d, e, ok, ha, q, h⟩ := h
    obtain ⟨m, rfl⟩ := ix0 e
    obtain ⟨b, rfl, hb⟩ := h
    refine ⟨_, rfl, b, nVs m, rfl, .inl ⟨hb, fun t ht => ?_⟩⟩
    have hat : a ≠ t := ne_new ha ht
    refine ⟨_, rfl, a, c.rep, dx, _, rfl, (upd_ne hat).trans ha, N.ok.cls 0 (by decide), N.times, by show 0 < 1000; decide, ?_⟩
    have f1 : Frm a H (upd (upd H t (.tup (nVs m))) a (.ins c.rep dx (putF "times" (.ref t) []))) := ((Frm.refl a H).new ht).upd
    refine ⟨_, rfl, b, m.map fun (x : Nat) => (x : Int), rfl, ?_, ?_⟩
    · rw [← ints_nVs]
      exact f1.seq ha hb
    · refine ⟨_, rfl, a, c.rep, dx, _, rfl, upd_same, N.ok.cls 0 (by decide), N.ok.nLen 0 (by decide), by show 1 < 1000; decide, ?_⟩
      refine q _ ⟨dx, t, ?_, ?_⟩ f1.upd
      · rw [upd_same, sum_ints]
        exact congrArg (fun z => some (HO.ins c.rep dx z)) ((put_past (by decide +kernel)).trans rfl)
      · rw [upd_ne (Ne.symm hat), upd_ne (Ne.symm hat), upd_same]
theorem ok_init1 {f : Addr} {fd : FuncData} (F : Fun K "__init__" "Chosen.__init__" (sM 4 0) f fd) (N : Nos K c) : FnOk P w K mg base CX0 1 f fd ["self", "many", "some"] (spInit K c 1) := by
  have sc : FnScope ["self", "many", "some"] ["self", "many", "some"] (defScope (sM 4 0)) := ⟨rfl, rfl, rfl, by decide +kernel, rfl, by decide +kernel, by decide +kernel⟩
  refine F.ok sc (fun vs H Q E h => ?_) (fun cdv A outer s H vs Q E hr h => ⟨_, pss_cons (ps_fld (pv 0) (pv 1) rfl) (pss_one (ps_fld (pv 0) (pv 2) rfl)), ?_⟩)
  · obtain ⟨a, dx, d, e, _, _, _, h⟩ := h
    obtain ⟨n, k, rfl⟩ := ix1 e
    cases h
    rfl
  · obtain ⟨a, dx, d, e, ok, ha, q, h⟩ := h
    obtain ⟨n, k, rfl⟩ := ix1 e
    cases h
    refine ⟨_, rfl, _, rfl, a, c.cho, dx, _, rfl, ha, N.ok.cls 1 (by decide), N.many, by show 0 < 1000; decide, ?_⟩
    refine ⟨_, rfl, _, rfl, a, c.cho, dx, _, rfl, upd_same, N.ok.cls 1 (by decide), N.ok.nLen 1 (by decide), by show 1 < 1000; decide, ?_⟩
    refine q _ ⟨dx, ?_⟩ (Frm.refl a H).upd.upd
    rw [upd_same]
    exact congrArg (fun z => some (HO.ins c.cho dx z)) ((put_past (by decide +kernel)).trans rfl)
theorem ok_init5 {f : Addr} {fd : FuncData} (F : Fun K "__init__" "Displaced.__init__" (sM 8 0) f fd) (N : Nos K c) : FnOk P w K mg base CX0 1 f fd ["self", "length"] (spInit K c 5) := by
  have sc : FnScope ["self", "length"] ["self", "length"] (defScope (sM 8 0)) := ⟨rfl, rfl, rfl, by decide +kernel, rfl, by decide +kernel, by decide +kernel⟩
  refine F.ok sc (fun vs H Q E h => ?_) (fun cdv A outer s H vs Q E hr h => ⟨_, pss_one (ps_fld (pv 0) (pv 1) rfl), ?_⟩)
  · obtain ⟨a, dx, d, e, _, _, _, h⟩ := h
    obtain ⟨n, rfl⟩ := ix5 e
    cases h
    rfl
  · obtain ⟨a, dx, d, e, ok, ha, q, h⟩ := h
    obtain ⟨n, rfl⟩ := ix5 e
    cases h
    refine ⟨_, rfl, _, rfl, a, c.dis, dx, _, rfl, ha, N.ok.cls 5 (by decide), N.ok.nLen 5 (by decide), by show 0 < 1000; decide, ?_⟩
    refine q _ ⟨dx, ?_⟩ (Frm.refl a H).upd
    rw [upd_same]
    rfl
end
end Wk

namespace Wk
open PySem PySem.Spec PyProof.Rows L2
theorem TabAt.back {H : Hp} {T : Addr} {f : Nat → List Nat} {i : Nat} (h : TabAt H T (tabOf f (i + 1))) : ∃ (ps : List Addr) (b : Addr), H T = some (.lst (ps.map V.ref)) ∧ ps.length = (tabOf f (i + 1)).length ∧ ps.length = i + 1 ∧
    (∀ (i' : Nat) (p : Addr) (row : List Nat), ps[i']? = some p → (tabOf f (i + 1))[i']? = some row → H p = some (.lst (nVs row))) ∧ atI (ps.map V.ref) (-1) = some (.ref b) ∧ H b = some (.lst (nVs (f i))) := by
  obtain ⟨ps, h1, h2, h3⟩ := h
  have hl : (tabOf f (i + 1)).length = i + 1 := by
    unfold tabOf
    rw [List.length_map, List.length_range]
  have hi : i < ps.length := by omega
  have e : ps[i]? = some ps[i] := List.getElem?_eq_getElem hi
  have e2 : (tabOf f (i + 1))[i]? = some (f i) := by
    unfold tabOf
    exact get_tab (by omega)
  exact ⟨ps, ps[i], h1, h2, by omega, h3, at_back (n := i) (by rw [List.getElem?_map, e] <;> rfl) (by rw [List.length_map]; omega), h3 i _ _ e e2⟩
/-- behind a turn that makes a row and appends it -/
theorem tab_turn {a dx C T r : Addr} {fs : List (Str × V)} {H0 H1 H : Hp} {f : Nat → List Nat} {i : Nat} {ps : List Addr} (g1 : Frm a H0 H1) (g2 : H0 T = none) (g3 : H1 a = some (.ins C dx fs)) (h1 : H1 T = some (.lst (ps.map V.ref))) (h2 : ps.length = (tabOf f (i + 1)).length)
    (h3 : ∀ (i' : Nat) (p : Addr) (row : List Nat), ps[i']? = some p → (tabOf f (i + 1))[i']? = some row → H1 p = some (.lst (nVs row))) (hr : H1 r = none) (s : Same H1 H) (hH : H r = some (.lst (nVs (f (i + 1))))) :
    Frm a H0 (upd H T (.lst (ps.map V.ref ++ [.ref r]))) ∧ (upd H T (.lst (ps.map V.ref ++ [.ref r]))) a = some (.ins C dx fs) ∧ TabAt (upd H T (.lst (ps.map V.ref ++ [.ref r]))) T (tabOf f (i + 2)) := by
  have hT := s _ _ h1
  have ha := s _ _ g3
  have haT : a ≠ T := fun z => by
    rw [z, hT] at ha
    cases ha
  refine ⟨(g1.same s).new g2, (upd_ne haT).trans ha, ?_⟩
  rw [tabOf_succ]
  exact TabAt.snoc hT h2 (fun i' p row x y => s _ _ (h3 i' p row x y)) hH fun z => by
    rw [z, h1] at hr
    cases hr
theorem one_line : 1 ≤ sizeLine := by decide
theorem bal_row0 (n : Nat) : (List.range (n + 2)).map (Arr.bT 0) = 1 :: List.replicate (n + 1) 0 := by
  rw [List.range_succ_eq_map, List.map_cons, List.map_map]
  congr 1
  refine List.eq_replicate_iff.mpr ⟨by rw [List.length_map, List.length_range], fun x hx => ?_⟩
  obtain ⟨k, _, rfl⟩ := List.mem_map.mp hx
  rfl
section
variable {P : Program} {w : World} {K : PySem.W.Frag} {mg : Str → Option Value} {base : Heap} {c : Cl}
theorem ok_init2 {f : Addr} {fd : FuncData} (F : Fun K "__init__" "Balanced.__init__" (sM 5 0) f fd) (N : Nos K c) (B : Bi mg) : FnOk P w K mg base CX0 1 f fd ["self", "length"] (spInit K c 2) := by
  have sc : FnScope ["self", "length", "left", "before", "row", "more"] ["self", "length"] (defScope (sM 5 0)) := ⟨rfl, rfl, rfl, by decide +kernel, rfl, by decide +kernel, by decide +kernel⟩
  refine F.ok sc (fun vs H Q E h => ?_) (fun cdv A outer s H vs Q E hr h => ⟨_, pss_cons (ps_fld (pv 0) (pv 1) rfl)
    (pss_cons (ps_fld (pv 0) (pe_lst (pa_cons (pe_op op_cat (pe_lst (pa_cons pe_int pa_nil)) (pe_lc (own := [("more", 5)]) (g := gName 5) (tt := tYes) rfl sc.nd (pi_range1 rfl B.range (pa_cons (pe_op n_add (pv 1) pe_int) pa_nil))
        (blkOk_by (N := ["self", "length", "left", "before", "row", "more"]) (sc := defScope (sM 5 0)) (by decide +kernel)) (fun _ _ _ _ _ => pg_name (i := 5) sc.nd rfl (.inl rfl)) (fun _ _ _ _ _ => pts_nil) (fun _ _ _ _ _ => pe_int))) pa_nil)) rfl)
    (pss_one (ps_for PassesOwn.never rfl (pi_range1 rfl B.range (pa_cons (pv 1) pa_nil)) (pg_name (i := 2) sc.nd rfl (.inl rfl))
      (pss_cons (ps_set (i := 3) sc.nd rfl (.inl rfl) (pe_ix ix_list (pe_fld (pv 0) rfl) (pe_un un_neg pe_int) (fun _ _ => rfl)))
      (pss_cons (ps_set (i := 4) sc.nd rfl (.inl rfl) (pe_lst (pa_cons (pe_ix ix_list (pv 3) pe_int (fun _ _ => rfl)) pa_nil)))
      (pss_cons (ps_for PassesOwn.never rfl (pi_range2 rfl B.range (pa_cons pe_int (pa_cons (pe_op n_add (pv 1) pe_int) pa_nil))) (pg_name (i := 5) sc.nd rfl (.inl rfl))
        (pss_one (ps_expr (pe_bm PySem.F.plainAttrs_list PySem.F.slot_list_append PySem.F.type_list_append mt_append (pv 4) (pa_cons (pe_op n_add (pe_ix ix_list (pv 3) (pe_op n_sub (pv 5) pe_int) (fun _ _ => rfl)) (pe_ix ix_list (pv 3) (pe_op n_add (pv 5) pe_int) (fun _ _ => rfl))) pa_nil)))))
      (pss_cons (ps_expr (pe_bm PySem.F.plainAttrs_list PySem.F.slot_list_append PySem.F.type_list_append mt_append (pv 4) (pa_cons pe_int pa_nil)))
      (pss_one (ps_expr (pe_bm PySem.F.plainAttrs_list PySem.F.slot_list_append PySem.F.type_list_append mt_append (pe_fld (pv 0) rfl) (pa_cons (pv 4) pa_nil))))))))))), ?_⟩)
  · obtain ⟨a, dx, d, e, _, _, _, h⟩ := h
    obtain ⟨n, rfl⟩ := ix2 e
    cases h
    rfl
  · obtain ⟨a, dx, d, e, ok, ha, q, h⟩ := h
    obtain ⟨n, rfl⟩ := ix2 e
    cases h
    have hn : n ≤ 64 := ok.2
    refine ⟨_, rfl, _, rfl, a, c.bal, dx, _, rfl, ha, N.ok.cls 2 (by decide), N.ok.nLen 2 (by decide), by show 0 < 1000; decide, ?_⟩
    refine ⟨one_line, fun u hu => ?_⟩
    refine ⟨_, rfl, n, 1, rfl, rfl, trivial, ((n + 1 : Nat) : Int), rfl, by omega, by omega, fun D hD => ?_⟩
    refine lc_same hD (by omega) fun H1 s1 hD1 => ?_
    have f1 : Frm a H (upd H a (.ins c.bal dx (putF "length" (nV n) []))) := (Frm.refl a H).upd
    have ha1 : H1 a = some (.ins c.bal dx [("length", nV n)]) := s1 _ _ ((upd_ne (ne_new upd_same hu)).trans upd_same)
    have hu1 : H1 u = some (.lst [nV 1]) := s1 _ _ upd_same
    have hu0 : H u = none := f1.free hu (Ne.symm (ne_new upd_same hu))
    have f2 : Frm a H H1 := (f1.new hu0).same s1
    refine ⟨u, D, _, _, rfl, rfl, hu1, hD1, ?_, fun r hr => ?_⟩
    · rw [List.length_replicate, sizeLine_eq]
      show 1 + (n + 1) ≤ 16777216
      omega
    refine ⟨one_line, fun T hT => ?_⟩
    have har : a ≠ r := ne_new ha1 hr
    have haT : a ≠ T := ne_new ((upd_ne har).trans ha1) hT
    have hr0 : H r = none := f2.free hr (Ne.symm har)
    have hrT : r ≠ T := ne_new upd_same hT
    have hT1 : H1 T = none := by
      rw [← hT]
      exact (upd_ne (Ne.symm hrT)).symm
    have hT0 : H T = none := f2.free hT1 (Ne.symm haT)
    refine ⟨_, rfl, a, c.bal, dx, [("length", nV n)], rfl, (upd_ne haT).trans ((upd_ne har).trans ha1), N.ok.cls 2 (by decide), N.tabB, by show 1 < 1000; decide, ?_⟩
    refine ⟨_, rfl, (n : Int), rfl, by omega, by omega, ?_⟩
    refine for_range (lo := 0) (n := n) (fun i σ H' => ∃ v2 v3 v4 v5 : Option V, σ = [some (.ref a), some (nV n), v2, v3, v4, v5] ∧ Frm a H H' ∧ H' a = some (.ins c.bal dx [("length", nV n), ("table", .ref T)]) ∧ TabAt H' T (tabOf (fun i => (List.range (n + 2)).map (Arr.bT i)) (i + 1)))
      ⟨none, none, none, none, rfl, ((f2.new hr0).new hT0).upd, ?_, ?_⟩ ?_ ?_
    · rw [upd_same]
      exact congrArg (fun z => some (HO.ins c.bal dx z)) ((put_past (by decide +kernel)).trans rfl)
    · refine TabAt.one (r := r) ((upd_ne (Ne.symm haT)).trans upd_same) ?_
      rw [upd_ne (Ne.symm har), upd_ne hrT, upd_same]
      show some (HO.lst (nV 1 :: List.replicate (n + 1) (nV 0))) = some (HO.lst (nVs ((List.range (n + 2)).map (Arr.bT 0))))
      rw [bal_row0]
      show _ = some (HO.lst (nV 1 :: (List.replicate (n + 1) 0).map nV))
      rw [List.map_replicate]
    · rintro i σ H2 hi ⟨v2, v3, v4, v5, rfl, g1, g3, g4⟩
      obtain ⟨ps, b, t1, t2, t2', t3, t4, t5⟩ := g4.back
      refine ⟨_, rfl, a, c.bal, dx, _, _, rfl, g3, N.ok.cls 2 (by decide), N.tabB, lkS (by decide +kernel), 1, rfl, T, _, _, _, rfl, rfl, SqL.of t1, t4, ?_⟩
      refine ⟨_, rfl, b, _, 1, nV (Arr.bT i 1), rfl, rfl, SqL.of t5, atI_nat (j := 1) (get_map (by omega)), one_line, fun ro hro => ?_⟩
      refine ⟨_, rfl, n, 1, rfl, rfl, trivial, 1, ((n + 1 : Nat) : Int), rfl, ⟨by omega, by omega, by omega, by omega⟩, ?_⟩
      have en : (((n + 1 : Nat) : Int) - 1).toNat = n := by omega
      rw [en]
      refine for_range (lo := 1) (n := n) (fun j σ H' => ∃ v5 : Option V, σ = [some (.ref a), some (nV n), some (V.int (0 + (i : Int))), some (.ref b), some (.ref ro), v5] ∧ Same H2 H' ∧ H' ro = some (.lst (nVs ((List.range (j + 1)).map (Arr.bT (i + 1))))))
        ⟨v5, rfl, Same.new hro, ?_⟩ ?_ ?_
      · rw [upd_same]
        show some (HO.lst [nV (Arr.bT i 1)]) = some (HO.lst [nV (Arr.bT (i + 1) 0)])
        congr 3
        show nV (Arr.bT i 1) = nV ((if (0 : Nat) = 0 then 0 else Arr.bT i (0 - 1)) + Arr.bT i (0 + 1))
        rw [if_pos rfl, Nat.zero_add]
      · rintro j σ H3 hj ⟨v5, rfl, s3, hro3⟩
        have hb3 := s3 _ _ t5
        refine ⟨_, rfl, .inl ⟨rfl, _, SqL.of hro3⟩, ?_⟩
        refine ⟨_, rfl, _, rfl, 1 + j, 1, nAdd 1 j, rfl, by omega, b, _, _, _, rfl, rfl, SqL.of hb3, atI_nat (j := 1 + j - 1) (get_map (by omega)), ?_⟩
        refine ⟨_, rfl, _, rfl, 1 + j, 1, nAdd 1 j, rfl, trivial, b, _, _, _, rfl, rfl, SqL.of hb3, atI_nat (j := 1 + j + 1) (get_map (by omega)), ?_⟩
        refine ⟨_, _, rfl, rfl, trivial, ro, _, _, rfl, rfl, hro3, ?_, ?_⟩
        · rw [List.length_map, List.length_map, List.length_range]
          exact small1000 (by omega)
        · refine ⟨_, rfl, Same.upd_new s3 hro, ?_⟩
          rw [upd_same, rg_succ (Arr.bT (i + 1)) (j + 1)]
          congr 4
          show nV _ = nV ((if j + 1 = 0 then 0 else Arr.bT i (j + 1 - 1)) + Arr.bT i (j + 1 + 1))
          rw [if_neg (by omega)]
          congr 4 <;> omega
      · rintro σ H3 ⟨v5, rfl, s3, hro3⟩
        refine ⟨_, rfl, .inl ⟨rfl, _, SqL.of hro3⟩, ?_⟩
        refine ⟨ro, _, _, rfl, rfl, hro3, ?_, ?_⟩
        · rw [List.length_map, List.length_map, List.length_range]
          exact small1000 (by omega)
        · have s4 : Same H2 (upd H3 ro (.lst (nVs ((List.range (n + 1)).map (Arr.bT (i + 1))) ++ [nV 0]))) := Same.upd_new s3 hro
          have hro4 : (upd H3 ro (.lst (nVs ((List.range (n + 1)).map (Arr.bT (i + 1))) ++ [nV 0]))) ro = some (.lst (nVs ((List.range (n + 2)).map (Arr.bT (i + 1))))) := by
            rw [upd_same, rg_succ (Arr.bT (i + 1)) (n + 1), Arr.bT_over (i + 1) (n + 1) (by omega)]
          refine ⟨_, rfl, a, c.bal, dx, _, _, rfl, s4 _ _ g3, N.ok.cls 2 (by decide), N.tabB, lkS (by decide +kernel), .inl ⟨rfl, _, SqL.of (s4 _ _ t1)⟩, _, rfl, T, _, _, rfl, rfl, s4 _ _ t1, ?_, ?_⟩
          · rw [List.length_map]
            exact small1000 (by omega)
          · obtain ⟨k1, k2, k3⟩ := tab_turn (f := fun i => (List.range (n + 2)).map (Arr.bT i)) g1 hT0 g3 t1 t2 t3 hro s4 hro4
            exact ⟨_, _, _, _, rfl, k1, k2, k3⟩
    · rintro σ H2 ⟨v2, v3, v4, v5, rfl, g1, g3, g4⟩
      exact q H2 ⟨dx, T, g3, g4⟩ g1
end
end Wk

namespace Wk
open PySem PySem.Spec PyProof.Rows L2
theorem gro_row0 (n : Nat) : (List.range (n + 2 - 0)).map (Arr.gT 0) = List.replicate (n + 2) 1 := by
  refine List.eq_replicate_iff.mpr ⟨by rw [List.length_map, List.length_range, Nat.sub_zero], fun x hx => ?_⟩
  obtain ⟨k, _, rfl⟩ := List.mem_map.mp hx
  rfl
theorem ixN_nat {n j : Nat} (h : j < n) : ixN n (j : Int) = some j := by
  unfold ixN
  rw [if_pos (by omega), if_pos (by omega)]
  simp
section
variable {P : Program} {w : World} {K : PySem.W.Frag} {mg : Str → Option Value} {base : Heap} {c : Cl}
theorem ok_init3 {f : Addr} {fd : FuncData} (F : Fun K "__init__" "Growing.__init__" (sM 6 0) f fd) (N : Nos K c) (B : Bi mg) : FnOk P w K mg base CX0 1 f fd ["self", "length"] (spInit K c 3) := by
  have sc : FnScope ["self", "length", "left", "before", "row", "high", "next_one"] ["self", "length"] (defScope (sM 6 0)) := ⟨rfl, rfl, rfl, by decide +kernel, rfl, by decide +kernel, by decide +kernel⟩
  refine F.ok sc (fun vs H Q E h => ?_) (fun cdv A outer s H vs Q E hr h => ⟨_, pss_cons (ps_fld (pv 0) (pv 1) rfl)
    (pss_cons (ps_fld (pv 0) (pe_lst (pa_cons (pe_lc (own := [("next_one", 6)]) (g := gName 6) (tt := tYes) rfl sc.nd (pi_range1 rfl B.range (pa_cons (pe_op n_add (pv 1) pe_int) pa_nil))
        (blkOk_by (N := ["self", "length", "left", "before", "row", "high", "next_one"]) (sc := defScope (sM 6 0)) (by decide +kernel)) (fun _ _ _ _ _ => pg_name (i := 6) sc.nd rfl (.inl rfl)) (fun _ _ _ _ _ => pts_nil) (fun _ _ _ _ _ => pe_int)) pa_nil)) rfl)
    (pss_one (ps_for PassesOwn.never rfl (pi_range1 rfl B.range (pa_cons (pv 1) pa_nil)) (pg_name (i := 2) sc.nd rfl (.inl rfl))
      (pss_cons (ps_set (i := 3) sc.nd rfl (.inl rfl) (pe_ix ix_list (pe_fld (pv 0) rfl) (pe_un un_neg pe_int) (fun _ _ => rfl)))
      (pss_cons (ps_set (i := 4) sc.nd rfl (.inl rfl) (pe_lst pa_nil))
      (pss_cons (ps_for PassesOwn.never rfl (pi_range1 rfl B.range (pa_cons (pe_op n_sub (pe_op n_add (pv 1) pe_int) (pv 2)) pa_nil)) (pg_name (i := 5) sc.nd rfl (.inl rfl))
        (pss_one (ps_expr (pe_bm PySem.F.plainAttrs_list PySem.F.slot_list_append PySem.F.type_list_append mt_append (pv 4) (pa_cons (pe_op n_add (pe_op n_mul (pv 5) (pe_ix ix_list (pv 3) (pv 5) (fun _ _ => rfl))) (pe_ix ix_list (pv 3) (pe_op n_add (pv 5) pe_int) (fun _ _ => rfl))) pa_nil)))))
      (pss_one (ps_expr (pe_bm PySem.F.plainAttrs_list PySem.F.slot_list_append PySem.F.type_list_append mt_append (pe_fld (pv 0) rfl) (pa_cons (pv 4) pa_nil)))))))))), ?_⟩)
  · obtain ⟨a, dx, d, e, _, _, _, h⟩ := h
    obtain ⟨n, rfl⟩ := ix3 e
    cases h
    rfl
  · obtain ⟨a, dx, d, e, ok, ha, q, h⟩ := h
    obtain ⟨n, rfl⟩ := ix3 e
    cases h
    have hn : n ≤ 32 := ok.2
    refine ⟨_, rfl, _, rfl, a, c.gro, dx, _, rfl, ha, N.ok.cls 3 (by decide), N.ok.nLen 3 (by decide), by show 0 < 1000; decide, ?_⟩
    refine ⟨_, rfl, n, 2, rfl, rfl, trivial, ((n + 2 : Nat) : Int), rfl, by omega, by omega, fun r hr => ?_⟩
    refine lc_same hr (by omega) fun H1 s1 hr1 => ?_
    have f1 : Frm a H (upd H a (.ins c.gro dx (putF "length" (nV n) []))) := (Frm.refl a H).upd
    have ha1 : H1 a = some (.ins c.gro dx [("length", nV n)]) := s1 _ _ upd_same
    have f2 : Frm a H H1 := f1.same s1
    refine ⟨one_line, fun T hT => ?_⟩
    have haT : a ≠ T := ne_new ha1 hT
    have har : a ≠ r := ne_new upd_same hr
    have hr0 : H r = none := f1.free hr (Ne.symm har)
    have hrT : r ≠ T := ne_new hr1 hT
    have hT0 : H T = none := f2.free hT (Ne.symm haT)
    refine ⟨_, rfl, a, c.gro, dx, [("length", nV n)], rfl, (upd_ne haT).trans ha1, N.ok.cls 3 (by decide), N.tabG, by show 1 < 1000; decide, ?_⟩
    refine ⟨_, rfl, (n : Int), rfl, by omega, by omega, ?_⟩
    refine for_range (lo := 0) (n := n) (fun i σ H' => ∃ v2 v3 v4 v5 : Option V, σ = [some (.ref a), some (nV n), v2, v3, v4, v5, none] ∧ Frm a H H' ∧ H' a = some (.ins c.gro dx [("length", nV n), ("table", .ref T)]) ∧ TabAt H' T (tabOf (fun i => (List.range (n + 2 - i)).map (Arr.gT i)) (i + 1)))
      ⟨none, none, none, none, rfl, (f2.new hT0).upd, ?_, ?_⟩ ?_ ?_
    · rw [upd_same]
      exact congrArg (fun z => some (HO.ins c.gro dx z)) ((put_past (by decide +kernel)).trans rfl)
    · refine TabAt.one (r := r) ((upd_ne (Ne.symm haT)).trans upd_same) ?_
      rw [upd_ne (Ne.symm har), upd_ne hrT, hr1]
      show some (HO.lst (List.replicate (n + 2) (nV 1))) = some (HO.lst (nVs ((List.range (n + 2 - 0)).map (Arr.gT 0))))
      rw [gro_row0]
      show _ = some (HO.lst ((List.replicate (n + 2) 1).map nV))
      rw [List.map_replicate]
    · rintro i σ H2 hi ⟨v2, v3, v4, v5, rfl, g1, g3, g4⟩
      obtain ⟨ps, b, t1, t2, t2', t3, t4, t5⟩ := g4.back
      refine ⟨_, rfl, a, c.gro, dx, _, _, rfl, g3, N.ok.cls 3 (by decide), N.tabG, lkS (by decide +kernel), 1, rfl, T, _, _, _, rfl, rfl, SqL.of t1, t4, ?_⟩
      refine ⟨Nat.zero_le _, fun ro hro => ?_⟩
      refine ⟨_, rfl, n, 1, rfl, rfl, trivial, _, rfl, n + 1, i, rfl, zAdd i, by omega, ((n + 1 - i : Nat) : Int), rfl, by omega, by omega, ?_⟩
      refine for_range (lo := 0) (n := n + 1 - i) (fun j σ H' => ∃ v5 : Option V, σ = [some (.ref a), some (nV n), some (V.int (0 + (i : Int))), some (.ref b), some (.ref ro), v5, none] ∧ Same H2 H' ∧ H' ro = some (.lst (nVs ((List.range j).map (Arr.gT (i + 1))))))
        ⟨v5, rfl, Same.new hro, upd_same⟩ ?_ ?_
      · rintro j σ H3 hj ⟨v5, rfl, s3, hro3⟩
        have hb3 := s3 _ _ t5
        refine ⟨_, rfl, .inl ⟨rfl, _, SqL.of hro3⟩, ?_⟩
        refine ⟨_, rfl, _, rfl, _, rfl, b, _, (j : Int), nV (Arr.gT i j), rfl, zAdd j, SqL.of hb3, atI_nat (get_map (by omega)), j, Arr.gT i j, zAdd j, rfl, .inl (by omega), ?_⟩
        refine ⟨_, rfl, _, rfl, j, 1, zAdd j, rfl, trivial, b, _, _, _, rfl, rfl, SqL.of hb3, atI_nat (j := j + 1) (get_map (by omega)), ?_⟩
        refine ⟨_, _, rfl, rfl, trivial, ro, _, _, rfl, rfl, hro3, ?_, ?_⟩
        · rw [List.length_map, List.length_map, List.length_range]
          exact small1000 (by omega)
        · refine ⟨_, rfl, Same.upd_new s3 hro, ?_⟩
          rw [upd_same, rg_succ (Arr.gT (i + 1)) j]
          rfl
      · rintro σ H3 ⟨v5, rfl, s3, hro3⟩
        have e1 : n + 2 - (i + 1) = n + 1 - i := by omega
        have hro4 : H3 ro = some (.lst (nVs ((fun i => (List.range (n + 2 - i)).map (Arr.gT i)) (i + 1)))) := by
          show _ = some (HO.lst (nVs ((List.range (n + 2 - (i + 1))).map (Arr.gT (i + 1)))))
          rw [e1]
          exact hro3
        refine ⟨_, rfl, a, c.gro, dx, _, _, rfl, s3 _ _ g3, N.ok.cls 3 (by decide), N.tabG, lkS (by decide +kernel), .inl ⟨rfl, _, SqL.of (s3 _ _ t1)⟩, _, rfl, T, _, _, rfl, rfl, s3 _ _ t1, ?_, ?_⟩
        · rw [List.length_map]
          exact small1000 (by omega)
        · obtain ⟨k1, k2, k3⟩ := tab_turn (f := fun i => (List.range (n + 2 - i)).map (Arr.gT i)) g1 hT0 g3 t1 t2 t3 hro s3 hro4
          exact ⟨_, _, _, _, rfl, k1, k2, k3⟩
    · rintro σ H2 ⟨v2, v3, v4, v5, rfl, g1, g3, g4⟩
      exact q H2 ⟨dx, T, g3, g4⟩ g1
/-- the row of the parted, made over as far as m + j -/
def parRow (n m j : Nat) : List Nat := (List.range (n + 1)).map fun r => if r < m + j then Arr.pT m r else Arr.pT (m - 1) r
theorem par_row0 (n : Nat) : (List.range (n + 1)).map (Arr.pT 0) = 1 :: List.replicate n 0 := by
  rw [List.range_succ_eq_map, List.map_cons, List.map_map, Arr.pT_zero, if_pos rfl]
  congr 1
  refine List.eq_replicate_iff.mpr ⟨by rw [List.length_map, List.length_range], fun x hx => ?_⟩
  obtain ⟨k, _, rfl⟩ := List.mem_map.mp hx
  exact Arr.pT_zero (k + 1)
theorem parRow_start (n i : Nat) : parRow n (i + 1) 0 = (List.range (n + 1)).map (Arr.pT i) := by
  refine List.map_congr_left fun r _ => ?_
  by_cases c : r < i + 1 + 0
  · rw [if_pos c, Arr.pT_succ, if_neg (by omega), Nat.add_zero]
  · rw [if_neg c, Nat.add_sub_cancel]
theorem parRow_end (n i : Nat) : parRow n (i + 1) (n - i) = (List.range (n + 1)).map (Arr.pT (i + 1)) := by
  refine List.map_congr_left fun r hr => ?_
  have := List.mem_range.mp hr
  rw [if_pos (by omega)]
theorem parRow_turn (n i j : Nat) (h : i + 1 + j < n + 1) : (nVs (parRow n (i + 1) j)).set (i + 1 + j) (nV (Arr.pT i (i + 1 + j) + Arr.pT (i + 1) j)) = nVs (parRow n (i + 1) (j + 1)) := by
  refine List.ext_getElem? fun r => ?_
  rw [List.getElem?_set]
  have hl : (nVs (parRow n (i + 1) j)).length = n + 1 := by
    unfold parRow
    rw [List.length_map, List.length_map, List.length_range]
  by_cases c : i + 1 + j = r
  · subst c
    rw [if_pos rfl, hl, if_pos h]
    unfold parRow
    rw [get_map h, if_pos (show i + 1 + j < i + 1 + (j + 1) by omega), Arr.pT_succ i (i + 1 + j), if_pos (show i + 1 ≤ i + 1 + j by omega), show i + 1 + j - (i + 1) = j by omega]
  · rw [if_neg c]
    unfold parRow
    by_cases d : r < n + 1
    · rw [get_map d, get_map d]
      by_cases k : r < i + 1 + j
      · rw [if_pos k, if_pos (by omega)]
      · rw [if_neg k, if_neg (by omega)]
    · rw [List.getElem?_eq_none (by rw [List.length_map, List.length_map, List.length_range]; omega), List.getElem?_eq_none (by rw [List.length_map, List.length_map, List.length_range]; omega)]
theorem ok_init4 {f : Addr} {fd : FuncData} (F : Fun K "__init__" "Parted.__init__" (sM 7 0) f fd) (N : Nos K c) (B : Bi mg) : FnOk P w K mg base CX0 1 f fd ["self", "whole"] (spInit K c 4) := by
  have sc : FnScope ["self", "whole", "most", "row", "rest"] ["self", "whole"] (defScope (sM 7 0)) := ⟨rfl, rfl, rfl, by decide +kernel, rfl, by decide +kernel, by decide +kernel⟩
  refine F.ok sc (fun vs H Q E h => ?_) (fun cdv A outer s H vs Q E hr h => ⟨_, pss_cons (ps_fld (pv 0) (pv 1) rfl)
    (pss_cons (ps_fld (pv 0) (pe_lst (pa_cons (pe_op op_cat (pe_lst (pa_cons pe_int pa_nil)) (pe_lc (own := [("rest", 4)]) (g := gName 4) (tt := tYes) rfl sc.nd (pi_range1 rfl B.range (pa_cons (pv 1) pa_nil))
        (blkOk_by (N := ["self", "whole", "most", "row", "rest"]) (sc := defScope (sM 7 0)) (by decide +kernel)) (fun _ _ _ _ _ => pg_name (i := 4) sc.nd rfl (.inl rfl)) (fun _ _ _ _ _ => pts_nil) (fun _ _ _ _ _ => pe_int))) pa_nil)) rfl)
    (pss_one (ps_for PassesOwn.never rfl (pi_range2 rfl B.range (pa_cons pe_int (pa_cons (pe_op n_add (pv 1) pe_int) pa_nil))) (pg_name (i := 2) sc.nd rfl (.inl rfl))
      (pss_cons (ps_set (i := 3) sc.nd rfl (.inl rfl) (pe_callTy call_list_of (by rfl) B.list (by decide +kernel) (pa_cons (pe_ix ix_list (pe_fld (pv 0) rfl) (pe_un un_neg pe_int) (fun _ _ => rfl)) pa_nil)))
      (pss_cons (ps_for PassesOwn.never rfl (pi_range2 rfl B.range (pa_cons (pv 2) (pa_cons (pe_op n_add (pv 1) pe_int) pa_nil))) (pg_name (i := 4) sc.nd rfl (.inl rfl))
        (pss_one (ps_asg (pe_op n_add (pe_ix ix_list (pv 3) (pv 4) (fun _ _ => rfl)) (pe_ix ix_list (pv 3) (pe_op n_sub (pv 4) (pv 2)) (fun _ _ => rfl))) (pg_sub (pv 3) (pv 4) set_list))))
      (pss_one (ps_expr (pe_bm PySem.F.plainAttrs_list PySem.F.slot_list_append PySem.F.type_list_append mt_append (pe_fld (pv 0) rfl) (pa_cons (pv 3) pa_nil))))))))), ?_⟩)
  · obtain ⟨a, dx, d, e, _, _, _, h⟩ := h
    obtain ⟨n, rfl⟩ := ix4 e
    cases h
    rfl
  · obtain ⟨a, dx, d, e, ok, ha, q, h⟩ := h
    obtain ⟨n, rfl⟩ := ix4 e
    cases h
    have hn : n ≤ 128 := ok.2
    refine ⟨_, rfl, _, rfl, a, c.par, dx, _, rfl, ha, N.ok.cls 4 (by decide), N.ok.nLen 4 (by decide), by show 0 < 1000; decide, ?_⟩
    refine ⟨one_line, fun u hu => ?_⟩
    refine ⟨_, rfl, (n : Int), rfl, by omega, by omega, fun D hD => ?_⟩
    refine lc_same hD (by omega) fun H1 s1 hD1 => ?_
    have f1 : Frm a H (upd H a (.ins c.par dx (putF "length" (nV n) []))) := (Frm.refl a H).upd
    have ha1 : H1 a = some (.ins c.par dx [("length", nV n)]) := s1 _ _ ((upd_ne (ne_new upd_same hu)).trans upd_same)
    have hu1 : H1 u = some (.lst [nV 1]) := s1 _ _ upd_same
    have hu0 : H u = none := f1.free hu (Ne.symm (ne_new upd_same hu))
    have f2 : Frm a H H1 := (f1.new hu0).same s1
    refine ⟨u, D, _, _, rfl, rfl, hu1, hD1, ?_, fun r hr => ?_⟩
    · rw [List.length_replicate, sizeLine_eq]
      show 1 + n ≤ 16777216
      omega
    refine ⟨one_line, fun T hT => ?_⟩
    have har : a ≠ r := ne_new ha1 hr
    have haT : a ≠ T := ne_new ((upd_ne har).trans ha1) hT
    have hr0 : H r = none := f2.free hr (Ne.symm har)
    have hrT : r ≠ T := ne_new upd_same hT
    have hT1 : H1 T = none := by
      rw [← hT]
      exact (upd_ne (Ne.symm hrT)).symm
    have hT0 : H T = none := f2.free hT1 (Ne.symm haT)
    refine ⟨_, rfl, a, c.par, dx, [("length", nV n)], rfl, (upd_ne haT).trans ((upd_ne har).trans ha1), N.ok.cls 4 (by decide), N.tabP, by show 1 < 1000; decide, ?_⟩
    refine ⟨_, rfl, n, 1, rfl, rfl, trivial, 1, ((n + 1 : Nat) : Int), rfl, ⟨by omega, by omega, by omega, by omega⟩, ?_⟩
    have en : (((n + 1 : Nat) : Int) - 1).toNat = n := by omega
    rw [en]
    refine for_range (lo := 1) (n := n) (fun i σ H' => ∃ v2 v3 v4 : Option V, σ = [some (.ref a), some (nV n), v2, v3, v4] ∧ Frm a H H' ∧ H' a = some (.ins c.par dx [("length", nV n), ("table", .ref T)]) ∧ TabAt H' T (tabOf (fun i => (List.range (n + 1)).map (Arr.pT i)) (i + 1)))
      ⟨none, none, none, rfl, ((f2.new hr0).new hT0).upd, ?_, ?_⟩ ?_ ?_
    · rw [upd_same]
      exact congrArg (fun z => some (HO.ins c.par dx z)) ((put_past (by decide +kernel)).trans rfl)
    · refine TabAt.one (r := r) ((upd_ne (Ne.symm haT)).trans upd_same) ?_
      rw [upd_ne (Ne.symm har), upd_ne hrT, upd_same]
      show some (HO.lst (nV 1 :: List.replicate n (nV 0))) = some (HO.lst (nVs ((List.range (n + 1)).map (Arr.pT 0))))
      rw [par_row0]
      show _ = some (HO.lst (nV 1 :: (List.replicate n 0).map nV))
      rw [List.map_replicate]
    · rintro i σ H2 hi ⟨v2, v3, v4, rfl, g1, g3, g4⟩
      obtain ⟨ps, b, t1, t2, t2', t3, t4, t5⟩ := g4.back
      refine ⟨_, rfl, a, c.par, dx, _, _, rfl, g3, N.ok.cls 4 (by decide), N.tabP, lkS (by decide +kernel), 1, rfl, T, _, _, _, rfl, rfl, SqL.of t1, t4, ?_⟩
      refine ⟨b, _, rfl, .inl (SqL.of t5), fun ro hro => ?_⟩
      refine ⟨_, rfl, _, rfl, n, 1, rfl, rfl, trivial, ((i + 1 : Nat) : Int), ((n + 1 : Nat) : Int), ?_, ⟨by omega, by omega, by omega, by omega⟩, ?_⟩
      · exact congrArg (fun z => [z, nV (n + 1)]) ((nAdd 1 i).trans (congrArg nV (Nat.add_comm 1 i)))
      have en2 : (((n + 1 : Nat) : Int) - ((i + 1 : Nat) : Int)).toNat = n - i := by omega
      rw [en2]
      refine for_range (lo := ((i + 1 : Nat) : Int)) (n := n - i) (fun j σ H' => ∃ v4 : Option V, σ = [some (.ref a), some (nV n), some (V.int (1 + (i : Int))), some (.ref ro), v4] ∧ Same H2 H' ∧ H' ro = some (.lst (nVs (parRow n (i + 1) j))))
        ⟨v4, rfl, Same.new hro, ?_⟩ ?_ ?_
      · rw [upd_same, parRow_start]
      · rintro j σ H3 hj ⟨v4, rfl, s3, hro3⟩
        have hl : (nVs (parRow n (i + 1) j)).length = n + 1 := by
          unfold parRow
          rw [List.length_map, List.length_map, List.length_range]
        have e1 : (nVs (parRow n (i + 1) j))[i + 1 + j]? = some (nV (Arr.pT i (i + 1 + j))) := by
          unfold parRow
          rw [get_map (by omega), if_neg (by omega)]
          rfl
        have e2 : (nVs (parRow n (i + 1) j))[j]? = some (nV (Arr.pT (i + 1) j)) := by
          unfold parRow
          rw [get_map (by omega), if_pos (by omega)]
        refine ⟨_, rfl, _, rfl, ro, _, ((i + 1 + j : Nat) : Int), _, rfl, nAdd (i + 1) j, SqL.of hro3, atI_nat e1, ?_⟩
        refine ⟨_, rfl, _, rfl, _, rfl, i + 1 + j, i + 1, nAdd (i + 1) j, (nAdd 1 i).trans (congrArg nV (Nat.add_comm 1 i)), by omega, ro, _, (j : Int), _, rfl, ?_, SqL.of hro3, atI_nat e2, _, _, rfl, rfl, trivial, ?_⟩
        · exact congrArg nV (show i + 1 + j - (i + 1) = j by omega)
        refine ⟨_, rfl, _, rfl, ro, _, ((i + 1 + j : Nat) : Int), i + 1 + j, rfl, nAdd (i + 1) j, hro3, ixN_nat (by rw [hl]; omega), ?_⟩
        refine ⟨_, rfl, Same.upd_new s3 hro, ?_⟩
        rw [upd_same, ← parRow_turn n i j (by omega)]
      · rintro σ H3 ⟨v4, rfl, s3, hro3⟩
        rw [parRow_end] at hro3
        refine ⟨_, rfl, a, c.par, dx, _, _, rfl, s3 _ _ g3, N.ok.cls 4 (by decide), N.tabP, lkS (by decide +kernel), .inl ⟨rfl, _, SqL.of (s3 _ _ t1)⟩, _, rfl, T, _, _, rfl, rfl, s3 _ _ t1, ?_, ?_⟩
        · rw [List.length_map]
          exact small1000 (by omega)
        · obtain ⟨k1, k2, k3⟩ := tab_turn (f := fun i => (List.range (n + 1)).map (Arr.pT i)) g1 hT0 g3 t1 t2 t3 hro s3 hro3
          exact ⟨_, _, _, rfl, k1, k2, k3⟩
    · rintro σ H2 ⟨v2, v3, v4, rfl, g1, g3, g4⟩
      exact q H2 ⟨dx, T, g3, g4⟩ g1
end
end Wk

namespace Wk
open PySem PySem.Spec PyProof.Rows L2
/-! ### tests and values that leave all as it was -/
def Cmp (t : TT) (σ : L2.St) (H : Hp) (p : Bool) : Prop := ∀ Q : Bool → Hp → Prop, (∀ H', Same H H' → Q p H') → t σ H Q
def Val (t : TE) (σ : L2.St) (H : Hp) (v : V) : Prop := ∀ Q : VK, (∀ H', Same H H' → Q v H') → t σ H Q
theorem cmp_and {t u : TT} {σ : L2.St} {H : Hp} {p q : Bool} (ht : Cmp t σ H p) (hu : p = true → ∀ H', Same H H' → Cmp u σ H' q) : Cmp (tAnd t u) σ H (p && q) := fun Q k => ht _ fun H' s => by
  cases p with
  | true => exact hu rfl H' s Q fun H2 s2 => k H2 (Same.trans s s2)
  | false => exact k H' s
theorem cmp_if {t : TT} {body rest : TS} {D : Ends} {σ : L2.St} {H : Hp} {p : Bool} (h : Cmp t σ H p) (hT : p = true → ∀ H', Same H H' → body D σ H') (hF : p = false → ∀ H', Same H H' → rest D σ H') : tIfS t body rest D σ H := h _ fun H' s => by
  cases p with
  | true => exact hT rfl H' s
  | false => exact hF rfl H' s
/-- an if, and an if within an if: what stands behind is gone to where the test fails -/
theorem cmp_if1 {t : TT} {body : TS} {D : Ends} {σ : L2.St} {H : Hp} {p : Bool} (h : Cmp t σ H p) (hT : p = true → ∀ H', Same H H' → body D σ H') (hF : p = false → ∀ H', Same H H' → D.nx σ H') : tIfS t body tNext D σ H := cmp_if h hT hF
theorem cmp_if2 {t u : TT} {body : TS} {D : Ends} {σ : L2.St} {H : Hp} {p q : Bool} (h : Cmp t σ H p) (k : p = true → ∀ H', Same H H' → Cmp u σ H' q) (hT : (p && q) = true → ∀ H', Same H H' → body D σ H') (hF : (p && q) = false → ∀ H', Same H H' → D.nx σ H') :
    tIfS t (tIfS u body tNext) tNext D σ H := cmp_if h (fun e H1 s1 => cmp_if (k e H1 s1) (fun e2 H2 s2 => hT (by rw [e, e2] <;> rfl) H2 (Same.trans s1 s2)) (fun e2 H2 s2 => hF (by rw [e2, Bool.and_false]) H2 (Same.trans s1 s2))) fun e H1 s1 => hF (by rw [e, Bool.false_and]) H1 s1
theorem getI {xs : List Int} {i : Nat} {y : V} (h : (xs.map V.int)[i]? = some y) : ∃ x : Int, xs[i]? = some x ∧ y = V.int x := by
  rw [List.getElem?_map] at h
  cases e : xs[i]? with
  | none =>
    rw [e] at h
    cases h
  | some x =>
    rw [e] at h
    exact ⟨x, rfl, (Option.some.inj h).symm⟩
theorem map_take {α β : Type} {f : α → β} {xs : List α} {i : Nat} {x : α} (h : xs[i]? = some x) : (xs.take (i + 1)).map f = (xs.take i).map f ++ [f x] := by
  obtain ⟨hi, e⟩ := List.getElem?_eq_some_iff.mp h
  rw [List.take_succ_eq_append_getElem hi, List.map_append, e]
  rfl
/-- [g(x) for x in a list of numbers] -/
theorem lc_map {K : PySem.W.Frag} {a D : Addr} {m : List Int} {te : TE} {σ : L2.St} {H1 : Hp} {n : Nat} {g : Int → V} {Qd : Hp → Prop} (ha : SqL K H1 a (m.map V.int)) (hD : H1 D = none) (hm : m.length ≤ 1000)
    (ht : ∀ (x : Int) (H : Hp), Same H1 H → Val te ((wipe σ [n]).set n (some (.int x))) H (g x)) (hd : ∀ H, Same H1 H → H D = some (.lst (m.map g)) → Qd H) :
    ∃ W : Nat → Nat → Hp → Prop, (∃ m, W 0 m (upd H1 D (.lst []))) ∧ ∀ i m H, W i m H →
      ((Itl K a).stop i H ∧ Qd H) ∨ ((Itl K a).go i H ∧ ∃ Nx : Hp → Prop, (∀ H', Nx H' → ∃ m', m' < m ∧ W (i + 1) m' H') ∧ ∀ x H', (Itl K a).yld i H x H' → gName n x (wipe σ [n]) H' fun σ2 H2 => wipe σ2 [n] = wipe σ [n] ∧ tYes σ2 H2 fun b H3 =>
        if b = true then te σ2 H3 fun y H4 => ∃ acc, H4 D = some (.lst acc) ∧ acc.length < sizeLine ∧ Nx (upd H4 D (.lst (acc ++ [y]))) else Nx H3) := by
  refine lc_list (K := K) (a := a) (xs := m.map V.int) (fun i H => Same H1 H ∧ H D = some (.lst ((m.take i).map g))) ⟨Same.new hD, upd_same⟩ (fun i H _ ⟨s1, _⟩ => s1.seq ha) ?_ ?_
  · rintro i y H hy ⟨s1, hl⟩
    obtain ⟨x, hx, rfl⟩ := getI hy
    refine ⟨?_, ht x H s1 _ fun H2 s2 => ⟨_, s2 _ _ hl, ?_, Same.upd_new (Same.trans s1 s2) hD, ?_⟩⟩
    · show ((σ.set n none).set n (some (V.int x))).set n none = σ.set n none
      rw [List.set_set, List.set_set]
    · rw [List.length_map, List.length_take]
      exact small1000 (by omega)
    · rw [upd_same, map_take hx]
  · rintro H ⟨s1, hl⟩
    rw [List.length_map, List.take_length] at hl
    exact hd H s1 hl
theorem val_c {v : V} {σ : L2.St} {H : Hp} : Val (tC v) σ H v := fun Q k => k H (Same.refl H)
theorem val_var {i : Nat} {v : V} {σ : L2.St} {H : Hp} (h : σ[i]? = some (some v)) : Val (tVar i) σ H v := fun Q k => ⟨v, h, k H (Same.refl H)⟩
theorem cmp_int {g : Int → Int → Bool} {ta tb : TE} {σ : L2.St} {H : Hp} {i j : Int} (ha : Val ta σ H (.int i)) (hb : ∀ H', Same H H' → Val tb σ H' (.int j)) : Cmp (tTest (tOp (rI0 fun i j => .bl (g i j)) ta tb)) σ H (g i j) := fun Q k =>
  ha _ fun H1 s1 => hb H1 s1 _ fun H2 s2 => ⟨i, j, rfl, rfl, _, rfl, k H2 (Same.trans s1 s2)⟩
theorem cmp_chain {g g' : Int → Int → Bool} {ta tb tc : TE} {σ : L2.St} {H : Hp} {i j k : Int} (ha : Val ta σ H (.int i)) (hb : ∀ H', Same H H' → Val tb σ H' (.int j)) (hc : ∀ H', Same H H' → Val tc σ H' (.int k)) :
    Cmp (tTest (tChain (rI0 fun i j => .bl (g i j)) (rI0 fun i j => .bl (g' i j)) ta tb tc)) σ H (g i j && g' j k) := fun Q q =>
  ha _ fun H1 s1 => hb H1 s1 _ fun H2 s2 => ⟨i, j, rfl, rfl, g i j, rfl, by
    cases e : g i j with
    | true => exact hc H2 (Same.trans s1 s2) _ fun H3 s3 => ⟨j, k, rfl, rfl, _, rfl, by have := q H3 (Same.trans s1 (Same.trans s2 s3)); rw [e, Bool.true_and] at this; exact this⟩
    | false => exact ⟨_, rfl, by have := q H2 (Same.trans s1 s2); rw [e, Bool.false_and] at this; exact this⟩⟩
theorem val_chain {g g' : Int → Int → Bool} {ta tb tc : TE} {σ : L2.St} {H : Hp} {i j k : Int} (ha : Val ta σ H (.int i)) (hb : ∀ H', Same H H' → Val tb σ H' (.int j)) (hc : ∀ H', Same H H' → Val tc σ H' (.int k)) :
    Val (tChain (rI0 fun i j => .bl (g i j)) (rI0 fun i j => .bl (g' i j)) ta tb tc) σ H (.bl (g i j && g' j k)) := fun Q q =>
  ha _ fun H1 s1 => hb H1 s1 _ fun H2 s2 => ⟨i, j, rfl, rfl, g i j, rfl, by
    cases e : g i j with
    | true => exact hc H2 (Same.trans s1 s2) _ fun H3 s3 => ⟨j, k, rfl, rfl, by have := q H3 (Same.trans s1 (Same.trans s2 s3)); rw [e, Bool.true_and] at this; exact this⟩
    | false => have := q H2 (Same.trans s1 s2); rw [e, Bool.false_and] at this; exact this⟩
theorem i_eq {X : Cx} : OpR X (compareOp .Eq) (rI0 fun i j => .bl (decide (i = j))) := opr_imp op_eq fun x y H Q ⟨i, j, hx, hy, q⟩ => by
  subst hx hy
  refine ⟨rfl, ?_⟩
  have e : decide (V.int i = V.int j) = decide (i = j) := decide_eq_decide.mpr ⟨fun z => V.int.inj z, fun z => congrArg V.int z⟩
  rw [e]
  exact q
section
variable {P : Program} {w : World} {K : PySem.W.Frag} {mg : Str → Option Value} {base : Heap} {c : Cl}
abbrev sKind : Stmt := top 9
theorem more0 {K : PySem.W.Frag} {b : Addr} {m : List Int} {H : Hp} {x y z : Option V} (hb : SqL K H b (m.map V.int)) (e : decide ((m.length : Int) = 1) = true) : Val (tOp (rIxL K) (tVar 2) (tC (.int 0))) [x, y, some (.ref b), z] H (.int (m.getD 0 0)) := by
  have e := of_decide_eq_true e
  obtain ⟨t, rfl⟩ := List.length_eq_one_iff.mp (show m.length = 1 by omega)
  intro Q k
  exact ⟨_, rfl, b, _, 0, _, rfl, rfl, hb, at0, k H (Same.refl H)⟩
theorem okRep {m : List Int} (hm : m.length ≤ 32) (h : ∀ t, t ∈ m → 0 ≤ t ∧ t ≤ 32) (hn : 1 ≤ m.length) (h1 : 1 ≤ m.sum) (h2 : m.sum ≤ 32) : (Arr.Kd.rep (m.map Int.toNat)).Ok := by
  have hs := Arr.sum_nats m fun t ht => (h t ht).1
  refine ⟨by rw [List.length_map]; exact hn, by rw [List.length_map]; exact hm, fun x hx => ?_, by omega, by omega⟩
  obtain ⟨t, ht, rfl⟩ := List.mem_map.mp hx
  have := h t ht
  omega
/-- the classes' makers -/
structure Makers (P : Program) (w : World) (K : PySem.W.Frag) (mg : Str → Option Value) (base : Heap) (c : Cl) : Prop where
  m0 : MkAt P w K mg base 1 "Repeated" c.rep ["self", "times"] (spInit K c 0)
  m1 : MkAt P w K mg base 1 "Chosen" c.cho ["self", "many", "some"] (spInit K c 1)
  m2 : MkAt P w K mg base 1 "Balanced" c.bal ["self", "length"] (spInit K c 2)
  m3 : MkAt P w K mg base 1 "Growing" c.gro ["self", "length"] (spInit K c 3)
  m4 : MkAt P w K mg base 1 "Parted" c.par ["self", "whole"] (spInit K c 4)
  m5 : MkAt P w K mg base 1 "Displaced" c.dis ["self", "length"] (spInit K c 5)
theorem ok_kind {f : Addr} {fd : FuncData} (F : Fun K "kind_from" "kind_from" sKind f fd) (B : Bi mg) (M : Makers P w K mg base c) : FnOk P w K mg base CX0 3 f fd ["sort", "n", "more"] (spKind K c) := by
  have sc : FnScope ["sort", "n", "more", "times"] ["sort", "n", "more"] (defScope sKind) := ⟨rfl, rfl, rfl, by decide +kernel, rfl, by decide +kernel, by decide +kernel⟩
  obtain ⟨⟨f0, d0, n0, k0, G0, b0⟩, ⟨f1, d1, n1, k1, G1, b1⟩, ⟨f2, d2, n2, k2, G2, b2⟩, ⟨f3, d3, n3, k3, G3, b3⟩, ⟨f4, d4, n4, k4, G4, b4⟩, ⟨f5, d5, n5, k5, G5, b5⟩⟩ := M
  refine F.ok sc (fun vs H Q E h => ?_) (fun cdv A outer s H vs Q E hr h => ⟨_,
    pss_cons (ps_if (PW.pt (pw_and (pt_cmpR i_eq (pv 0) pe_int (nomark _)) (pw_and1 (pt_chain op_le op_le pe_int (pv 1) pe_int))))
      (pss_one (ps_if (PW.pt (pw_and (pt_cmpR i_eq (pe_callB call_len_seq (by rfl) B.len PySem.boot_len (pa_cons (pv 2) pa_nil)) (pv 1) (nomark _))
          (pw_and (pt_val (pe_callB (cr_all rfl) (by rfl) B.all (by decide +kernel) (pa_cons (pe_lc (own := [("times", 3)]) (g := gName 3) (tt := tYes) rfl sc.nd (pi_list (pv 2))
              (blkOk_by (N := ["sort", "n", "more", "times"]) (sc := defScope sKind) (by decide +kernel)) (fun _ _ _ _ _ => pg_name (i := 3) sc.nd rfl (.inl rfl)) (fun _ _ _ _ _ => pts_nil) (fun _ _ _ _ _ => pe_chain op_le op_le pe_int (pv 3) pe_int)) pa_nil)))
          (pw_and1 (pt_chain op_le op_le pe_int (pe_callB (cr_sum rfl) (by rfl) B.sum (by decide +kernel) (pa_cons (pv 2) pa_nil)) pe_int)))))
        (pss_one (ps_ret (pe_make k0 G0 hr rfl n0 b0 .nil pass0 (pa_cons (pv 2) pa_nil)))) pss_nil)) pss_nil)
    (pss_cons (ps_if (PW.pt (pw_and (pt_cmpR i_eq (pv 0) pe_int (nomark _)) (pw_and (pt_chain op_le op_le pe_int (pv 1) pe_int) (pw_and (pt_cmpR i_eq (pe_callB call_len_seq (by rfl) B.len PySem.boot_len (pa_cons (pv 2) pa_nil)) pe_int (nomark _))
        (pw_and1 (pt_chain op_le op_le pe_int (pe_ix ix_list (pv 2) pe_int (fun _ _ => rfl)) (pv 1)))))))
      (pss_one (ps_ret (pe_make k1 G1 hr rfl n1 b1 .nil pass0 (pa_cons (pv 1) (pa_cons (pe_ix ix_list (pv 2) pe_int (fun _ _ => rfl)) pa_nil))))) pss_nil)
    (pss_cons (ps_if (PW.pt (pw_and (pt_cmpR i_eq (pv 0) pe_int (nomark _)) (pw_and (pt_chain op_le op_le pe_int (pv 1) pe_int) (pw_and1 (pt_cmpR i_eq (pe_op op_mod (pv 1) pe_int) pe_int (nomark _))))))
      (pss_one (ps_ret (pe_make k2 G2 hr rfl n2 b2 .nil pass0 (pa_cons (pv 1) pa_nil)))) pss_nil)
    (pss_cons (ps_if (PW.pt (pw_and (pt_cmpR i_eq (pv 0) pe_int (nomark _)) (pw_and1 (pt_chain op_le op_le pe_int (pv 1) pe_int))))
      (pss_one (ps_ret (pe_make k3 G3 hr rfl n3 b3 .nil pass0 (pa_cons (pv 1) pa_nil)))) pss_nil)
    (pss_cons (ps_if (PW.pt (pw_and (pt_cmpR i_eq (pv 0) pe_int (nomark _)) (pw_and1 (pt_chain op_le op_le pe_int (pv 1) pe_int))))
      (pss_one (ps_ret (pe_make k4 G4 hr rfl n4 b4 .nil pass0 (pa_cons (pv 1) pa_nil)))) pss_nil)
    (pss_cons (ps_if (PW.pt (pw_and (pt_cmpR i_eq (pv 0) pe_int (nomark _)) (pw_and1 (pt_chain op_le op_le pe_int (pv 1) pe_int))))
      (pss_one (ps_ret (pe_make k5 G5 hr rfl n5 b5 .nil pass0 (pa_cons (pv 1) pa_nil)))) pss_nil)
    (pss_one (ps_ret pe_non))))))), ?_⟩)
  · obtain ⟨s, n, b, m, rfl, _⟩ := h
    rfl
  · obtain ⟨z, n, b, m, rfl, hb, hm, qN, qS⟩ := h
    have allE : (m.map fun t => decide (0 ≤ t) && decide (t ≤ 32)).all id = m.all fun t => decide (0 ≤ t ∧ t ≤ 32) := by
      rw [List.all_map]
      congr 1
      funext t
      simp
    have vLen : ∀ H', Same H H' → Val (tCB (fun xs H Q => ∃ p ys, xs = [.ref p] ∧ (SqL K H p ys ∨ SqT K H p ys) ∧ Q (.int ys.length) H) (tCons (tVar 2) tNil)) [some (.int z), some (.int n), some (.ref b), none] H' (.int (m.length : Nat)) := by
      intro H' s' Q k
      refine ⟨_, rfl, b, m.map V.int, rfl, .inl (s'.seq hb), ?_⟩
      rw [List.length_map]
      exact k H' (Same.refl H')
    have hseq : ∀ {H1 : Hp} {x dx C : Addr}, Same H H1 → H1 x = none → H1 dx = none → Same H (upd (upd H1 dx (.own x)) x (.ins C dx [])) := fun s1 nx nd => Same.upd_new (Same.upd_new s1 (s1.free nd)) (s1.free nx)
    unfold Arr.kdOf at qN qS
    refine cmp_if2 (cmp_and (cmp_int (val_var rfl) fun _ _ => val_c) fun _ _ _ => cmp_chain val_c (fun _ _ => val_var rfl) (fun _ _ => val_c))
      (fun _ H1 s1 => cmp_and (cmp_int (vLen H1 s1) fun _ _ => val_var rfl) fun _ H2 s2 => cmp_and (p := (m.map fun t => decide (0 ≤ t) && decide (t ≤ 32)).all id) ?_ fun _ H3 s3 => cmp_chain val_c (j := m.sum) (fun H4 s4 => ?_) (fun _ _ => val_c)) ?_ ?_
    · intro Q' k
      refine ⟨_, rfl, b, rfl, ⟨_, (Same.trans s1 s2).seq hb⟩, fun D hD => ?_⟩
      refine lc_map (g := fun t => V.bl (decide (0 ≤ t) && decide (t ≤ 32))) ((Same.trans s1 s2).seq hb) hD (by omega) (fun x H5 s5 => ?_) fun H5 s5 h5 => ?_
      · exact val_chain val_c (fun _ _ => val_var rfl) (fun _ _ => val_c)
      · exact ⟨D, m.map fun t => decide (0 ≤ t) && decide (t ≤ 32), rfl, SqL.of (by rw [List.map_map]; exact h5), _, rfl, k H5 s5⟩
    · intro Q' k
      exact ⟨_, rfl, b, m, rfl, (Same.trans s1 (Same.trans s2 (Same.trans s3 s4))).seq hb, k H4 (Same.refl H4)⟩
    · intro e H1 s1
      simp only [Bool.and_eq_true, decide_eq_true_eq] at e
      obtain ⟨⟨e1, e2, e3⟩, e4, e5, e6, e7⟩ := e
      rw [allE] at e5
      have h4 : ∀ t, t ∈ m → 0 ≤ t ∧ t ≤ 32 := fun t ht => of_decide_eq_true (List.all_eq_true.mp e5 t ht)
      have hs := Arr.sum_nats m fun t ht => (h4 t ht).1
      have hmv : m.map V.int = nVs (m.map Int.toNat) := by
        show _ = (m.map Int.toNat).map nV
        rw [List.map_map]
        refine List.map_congr_left fun t ht => ?_
        show V.int t = V.int ((t.toNat : Nat) : Int)
        rw [Int.toNat_of_nonneg (h4 t ht).1]
      refine ⟨_, rfl, fun x dx nx nd ne => ?_⟩
      have s2 := hseq (C := c.rep) s1 nx nd
      refine ⟨x, dx, .rep (m.map Int.toNat), rfl, ?_, upd_same, fun H' kin fr => ⟨rfl, qS H' x _ (if_pos ⟨e1, e2, e3, e4, e5, e6, e7⟩) (Same.trans s1 (Same.made nx nd fr)) ⟨?_, kin⟩⟩, b, rfl, ?_⟩
      · exact okRep hm h4 (by omega) e6 e7
      · exact okRep hm h4 (by omega) e6 e7
      · rw [← hmv]
        exact s2.seq hb
    · intro e H1 s1
      have nc : ¬ (z = 0 ∧ 1 ≤ n ∧ n ≤ 32 ∧ (m.length : Int) = n ∧ (m.all fun t => decide (0 ≤ t ∧ t ≤ 32)) = true ∧ 1 ≤ m.sum ∧ m.sum ≤ 32) := by
        rintro ⟨e1, e2, e3, e4, e5, e6, e7⟩
        rw [allE, e5, decide_eq_true e1, decide_eq_true e2, decide_eq_true e3, decide_eq_true e4, decide_eq_true e6, decide_eq_true e7] at e
        cases e
      rw [if_neg nc] at qN qS
      clear nc e
      refine cmp_if1 (cmp_and (cmp_int (val_var rfl) fun _ _ => val_c) fun _ H2 s2 => cmp_and (cmp_chain val_c (fun _ _ => val_var rfl) (fun _ _ => val_c)) fun _ H3 s3 => cmp_and (cmp_int (vLen H3 (Same.trans s1 (Same.trans s2 s3))) fun _ _ => val_c) fun e H4 s4 =>
        cmp_chain val_c (j := m.getD 0 0) (fun H5 s5 => more0 (K := K) ((Same.trans s1 (Same.trans s2 (Same.trans s3 (Same.trans s4 s5)))).seq hb) e) (fun _ _ => val_var rfl)) ?_ ?_
      · intro e H2 s2
        simp only [Bool.and_eq_true, decide_eq_true_eq] at e
        obtain ⟨e1, ⟨e2, e3⟩, e4, e5, e6⟩ := e
        have e4' : m.length = 1 := by omega
        obtain ⟨t, rfl⟩ := List.length_eq_one_iff.mp e4'
        have e5 : 0 ≤ t := e5
        have e6 : t ≤ n := e6
        have s2 := Same.trans s1 s2
        refine ⟨_, rfl, _, rfl, b, _, 0, _, rfl, rfl, s2.seq hb, at0, fun x dx nx nd ne => ?_⟩
        refine ⟨x, dx, .cho n.toNat t.toNat, rfl, ?_, upd_same, fun H' kin fr => ⟨rfl, qS H' x _ (if_pos ⟨e1, e2, e3, rfl, e5, e6⟩) (Same.trans s2 (Same.made nx nd fr)) ⟨?_, kin⟩⟩, ?_⟩
        · exact ⟨by omega, by omega, by omega⟩
        · exact ⟨by omega, by omega, by omega⟩
        · show [V.ref x, V.int n, V.int t] = [V.ref x, V.int (n.toNat : Nat), V.int (t.toNat : Nat)]
          rw [Int.toNat_of_nonneg e5, Int.toNat_of_nonneg (by omega)]
      · intro e H2 s2
        have s1 := Same.trans s1 s2
        have nc : ¬ (z = 1 ∧ 1 ≤ n ∧ n ≤ 64 ∧ m.length = 1 ∧ 0 ≤ m.getD 0 0 ∧ m.getD 0 0 ≤ n) := by
          rintro ⟨e1, e2, e3, e4, e5, e6⟩
          rw [decide_eq_true e1, decide_eq_true e2, decide_eq_true e3, decide_eq_true (show (m.length : Int) = 1 by omega), decide_eq_true e5, decide_eq_true e6] at e
          cases e
        rw [if_neg nc] at qN qS
        clear nc e
        refine cmp_if1 (cmp_and (cmp_int (val_var rfl) fun _ _ => val_c) fun _ H2 s2 => cmp_and (cmp_chain val_c (fun _ _ => val_var rfl) (fun _ _ => val_c)) fun _ H3 s3 => cmp_int (i := n % 2) (fun Q' k => ⟨_, rfl, _, _, rfl, rfl, by show (0 : Int) < 2; decide, k _ (Same.refl _)⟩) fun _ _ => val_c) ?_ ?_
        · intro e H2 s2
          simp only [Bool.and_eq_true, decide_eq_true_eq] at e
          obtain ⟨e1, ⟨e2, e3⟩, e4⟩ := e
          have s2 := Same.trans s1 s2
          refine ⟨_, rfl, fun x dx nx nd ne => ?_⟩
          refine ⟨x, dx, .bal n.toNat, rfl, ⟨by omega, by omega⟩, upd_same, fun H' kin fr => ⟨rfl, qS H' x _ (if_pos ⟨e1, e2, e3, e4⟩) (Same.trans s2 (Same.made nx nd fr)) ⟨⟨by omega, by omega⟩, kin⟩⟩, ?_⟩
          show [V.ref x, V.int n] = [V.ref x, V.int (n.toNat : Nat)]
          rw [Int.toNat_of_nonneg (by omega)]
        · intro e H2 s2
          have s1 := Same.trans s1 s2
          have nc : ¬ (z = 2 ∧ 1 ≤ n ∧ n ≤ 64 ∧ n % 2 = 0) := by
            rintro ⟨e1, e2, e3, e4⟩
            rw [decide_eq_true e1, decide_eq_true e2, decide_eq_true e3, decide_eq_true e4] at e
            cases e
          rw [if_neg nc] at qN qS
          clear nc e
          refine cmp_if1 (cmp_and (cmp_int (val_var rfl) fun _ _ => val_c) fun _ H2 s2 => cmp_chain val_c (fun _ _ => val_var rfl) (fun _ _ => val_c)) ?_ ?_
          · intro e H2 s2
            simp only [Bool.and_eq_true, decide_eq_true_eq] at e
            obtain ⟨e1, e2, e3⟩ := e
            have s2 := Same.trans s1 s2
            refine ⟨_, rfl, fun x dx nx nd ne => ?_⟩
            refine ⟨x, dx, .gro n.toNat, rfl, ⟨by omega, by omega⟩, upd_same, fun H' kin fr => ⟨rfl, qS H' x _ (if_pos ⟨e1, e2, e3⟩) (Same.trans s2 (Same.made nx nd fr)) ⟨⟨by omega, by omega⟩, kin⟩⟩, ?_⟩
            show [V.ref x, V.int n] = [V.ref x, V.int (n.toNat : Nat)]
            rw [Int.toNat_of_nonneg (by omega)]
          · intro e H2 s2
            have s1 := Same.trans s1 s2
            have nc : ¬ (z = 3 ∧ 1 ≤ n ∧ n ≤ 32) := by
              rintro ⟨e1, e2, e3⟩
              rw [decide_eq_true e1, decide_eq_true e2, decide_eq_true e3] at e
              cases e
            rw [if_neg nc] at qN qS
            clear nc e
            refine cmp_if1 (cmp_and (cmp_int (val_var rfl) fun _ _ => val_c) fun _ H2 s2 => cmp_chain val_c (fun _ _ => val_var rfl) (fun _ _ => val_c)) ?_ ?_
            · intro e H2 s2
              simp only [Bool.and_eq_true, decide_eq_true_eq] at e
              obtain ⟨e1, e2, e3⟩ := e
              have s2 := Same.trans s1 s2
              refine ⟨_, rfl, fun x dx nx nd ne => ?_⟩
              refine ⟨x, dx, .par n.toNat, rfl, ⟨by omega, by omega⟩, upd_same, fun H' kin fr => ⟨rfl, qS H' x _ (if_pos ⟨e1, e2, e3⟩) (Same.trans s2 (Same.made nx nd fr)) ⟨⟨by omega, by omega⟩, kin⟩⟩, ?_⟩
              show [V.ref x, V.int n] = [V.ref x, V.int (n.toNat : Nat)]
              rw [Int.toNat_of_nonneg (by omega)]
            · intro e H2 s2
              have s1 := Same.trans s1 s2
              have nc : ¬ (z = 4 ∧ 1 ≤ n ∧ n ≤ 128) := by
                rintro ⟨e1, e2, e3⟩
                rw [decide_eq_true e1, decide_eq_true e2, decide_eq_true e3] at e
                cases e
              rw [if_neg nc] at qN qS
              clear nc e
              refine cmp_if1 (cmp_and (cmp_int (val_var rfl) fun _ _ => val_c) fun _ H2 s2 => cmp_chain val_c (fun _ _ => val_var rfl) (fun _ _ => val_c)) ?_ ?_
              · intro e H2 s2
                simp only [Bool.and_eq_true, decide_eq_true_eq] at e
                obtain ⟨e1, e2, e3⟩ := e
                have s2 := Same.trans s1 s2
                refine ⟨_, rfl, fun x dx nx nd ne => ?_⟩
                refine ⟨x, dx, .dis n.toNat, rfl, ⟨by omega, by omega⟩, upd_same, fun H' kin fr => ⟨rfl, qS H' x _ (if_pos ⟨e1, e2, e3⟩) (Same.trans s2 (Same.made nx nd fr)) ⟨⟨by omega, by omega⟩, kin⟩⟩, ?_⟩
                show [V.ref x, V.int n] = [V.ref x, V.int (n.toNat : Nat)]
                rw [Int.toNat_of_nonneg (by omega)]
              · intro e H2 s2
                have s1 := Same.trans s1 s2
                have nc : ¬ (z = 5 ∧ 1 ≤ n ∧ n ≤ 32) := by
                  rintro ⟨e1, e2, e3⟩
                  rw [decide_eq_true e1, decide_eq_true e2, decide_eq_true e3] at e
                  cases e
                rw [if_neg nc] at qN qS
                clear nc e
                exact qN H2 rfl s1
end
end Wk

/-! ### numbers and behind -/
namespace Wk
open PySem PySem.Spec PyProof.Rows L2
theorem n_ne {X : Cx} : OpR X (compareOp .NotEq) (rN (fun _ _ => True) fun a b => .bl (a != b)) := opr_imp op_ne fun x y H Q ⟨a, b, hx, hy, _, q⟩ => by
  subst hx hy
  refine ⟨rfl, ?_⟩
  have e : (!decide (nV a = nV b)) = (a != b) := by
    rw [Bool.eq_iff_iff]
    simp
    omega
  rw [e]
  exact q
theorem range_filter (p : Nat → Bool) (i : Nat) : (List.range (i + 1)).filter p = (List.range i).filter p ++ if p i = true then [i] else [] := by
  rw [List.range_succ, List.filter_append]
  by_cases c : p i = true
  · rw [if_pos c, List.filter_cons_of_pos c, List.filter_nil]
  · rw [if_neg c, List.filter_cons_of_neg c, List.filter_nil]
/-- [i for i, x in enumerate(t) if x > 0] -/
theorem lc_enT {K : PySem.W.Frag} {a D : Addr} {xs : List Nat} {p q r s : Option V} {H1 : Hp} {Qd : Hp → Prop} (ha : H1 a = some (.tup (nVs xs))) (hD : H1 D = none) (hx : xs.length ≤ 1000)
    (hd : ∀ H, Same H1 H → H D = some (.lst (nVs (Arr.repNum xs))) → Qd H) :
    ∃ W : Nat → Nat → Hp → Prop, (∃ m, W 0 m (upd H1 D (.lst []))) ∧ ∀ i m H, W i m H →
      ((Iet a).stop i H ∧ Qd H) ∨ ((Iet a).go i H ∧ ∃ Nx : Hp → Prop, (∀ H', Nx H' → ∃ m', m' < m ∧ W (i + 1) m' H') ∧ ∀ x H', (Iet a).yld i H x H' → gTup K 2 (gCons (gName 2) (gCons (gName 3) gNil)) x (wipe [p, q, r, s] [2, 3]) H' fun σ2 H2 => wipe σ2 [2, 3] = wipe [p, q, r, s] [2, 3] ∧
        tTest (tOp (rN (fun _ _ => True) fun a b => .bl (decide (b < a))) (tVar 3) (tC (.int 0))) σ2 H2 fun b H3 =>
        if b = true then tVar 2 σ2 H3 fun y H4 => ∃ acc, H4 D = some (.lst acc) ∧ acc.length < sizeLine ∧ Nx (upd H4 D (.lst (acc ++ [y]))) else Nx H3) := by
  have pv : ∀ i, i ≤ xs.length → ((List.range i).filter fun i => decide (0 < xs.getD i 0)).length ≤ 1000 := fun i hi => by
    have := List.length_filter_le (fun i => decide (0 < xs.getD i 0)) (List.range i)
    rw [List.length_range] at this
    omega
  refine ⟨fun i m H => m = xs.length - i ∧ i ≤ xs.length ∧ Same H1 H ∧ H D = some (.lst (nVs ((List.range i).filter fun i => decide (0 < xs.getD i 0)))), ⟨xs.length, by simp, Nat.zero_le _, Same.new hD, upd_same⟩, ?_⟩
  rintro i m H ⟨rfl, hi, s1, hl⟩
  have ha1 := s1 _ _ ha
  by_cases hlt : i < xs.length
  · have ex : (nVs xs)[i]? = some (nV xs[i]) := by
      rw [List.getElem?_map, List.getElem?_eq_getElem hlt]
      rfl
    have eg : xs.getD i 0 = xs[i] := by
      rw [List.getD_eq_getElem?_getD, List.getElem?_eq_getElem hlt]
      rfl
    refine .inr ⟨⟨_, _, ha1, ex⟩, fun H' => i + 1 ≤ xs.length ∧ Same H1 H' ∧ H' D = some (.lst (nVs ((List.range (i + 1)).filter fun i => decide (0 < xs.getD i 0)))), fun H' ⟨b1, b2, b3⟩ => ⟨xs.length - (i + 1), by omega, rfl, b1, b2, b3⟩, ?_⟩
    rintro x H' ⟨T, y, rfl, hT, rfl, hy⟩
    have hy := hy _ ha1
    rw [ex] at hy
    cases hy
    have s2 : Same H1 (upd H T (.tup [.int (i : Nat), nV xs[i]])) := Same.upd_new s1 (s1.free hT)
    have hDT : D ≠ T := ne_new hl hT
    have hl2 : (upd H T (.tup [.int (i : Nat), nV xs[i]])) D = some (.lst (nVs ((List.range i).filter fun i => decide (0 < xs.getD i 0)))) := (upd_ne hDT).trans hl
    refine ⟨T, _, rfl, SqT.of upd_same, rfl, _, _, rfl, _, _, rfl, rfl, rfl, _, rfl, xs[i], 0, rfl, rfl, trivial, _, rfl, ?_⟩
    rw [range_filter, eg]
    by_cases c : 0 < xs[i]
    · refine ifT (decide_eq_true c) ⟨_, rfl, _, hl2, ?_, by omega, Same.upd_new s2 hD, ?_⟩
      · have := pv i hi
        rw [List.length_map]
        exact small1000 this
      · rw [upd_same, if_pos (decide_eq_true c)]
        show some (HO.lst (nVs _ ++ [nV i])) = some (HO.lst (nVs (_ ++ [i])))
        exact congrArg (fun z => some (HO.lst z)) (List.map_append (f := nV) (l₁ := (List.range i).filter fun i => decide (0 < xs.getD i 0)) (l₂ := [i])).symm
    · refine ifF (decide_eq_false c) ⟨by omega, s2, ?_⟩
      rw [if_neg (by rw [decide_eq_false c]; exact Bool.false_ne_true), List.append_nil]
      exact hl2
  · have e : i = xs.length := by omega
    subst e
    exact .inl ⟨⟨_, ha1, List.length_map _⟩, hd H s1 hl⟩
section
variable {P : Program} {w : World} {K : PySem.W.Frag} {mg : Str → Option Value} {base : Heap} {c : Cl}
theorem ok_num0 {f : Addr} {fd : FuncData} (F : Fun K "numbers" "Repeated.numbers" (sM 3 2) f fd) (N : Nos K c) (B : Bi mg) : FnOk P w K mg base CX0 1 f fd ["self", "state"] (spNumbers c 0) := by
  have sc : FnScope ["self", "state", "number", "left"] ["self", "state"] (defScope (sM 3 2)) := ⟨rfl, rfl, rfl, by decide +kernel, rfl, by decide +kernel, by decide +kernel⟩
  refine F.ok sc (fun vs H Q E h => ?_) (fun cdv A outer s H vs Q E hr h => ⟨_, pss_one (ps_ret (pe_lc (own := [("number", 2), ("left", 3)]) (g := gTup K 2 (gCons (gName 2) (gCons (gName 3) gNil))) (tt := tTest (tOp (rN (fun _ _ => True) fun a b => .bl (decide (b < a))) (tVar 3) (tC (.int 0)))) rfl sc.nd (pi_enumT rfl B.enumerate (pa_cons (pv 1) pa_nil))
      (blkOk_by (N := ["self", "state", "number", "left"]) (sc := defScope (sM 3 2)) (by decide +kernel)) (fun _ _ _ _ _ => pg_tup (by rfl) (pgs_cons (pg_name (i := 2) sc.nd rfl (.inl rfl)) (pgs_cons (pg_name (i := 3) sc.nd rfl (.inl rfl)) pgs_nil)))
      (fun _ _ _ _ _ => pts_one (pt_cmpR n_gt (pv 3) pe_int (nomark _))) (fun _ _ _ _ _ => pv 2))), ?_⟩)
  · obtain ⟨a, p, d, st, l, _, rfl, _⟩ := h
    rfl
  · obtain ⟨a, p, d, st, l, e, rfl, hk, hs, hv, hl, q⟩ := h
    obtain ⟨m, rfl⟩ := ix0 e
    rcases st with xs | _ | _ <;> try (exact False.elim hv)
    have hs : H p = some (.tup (nVs xs)) := hs
    have h1 : xs.length = m.length := hv.1
    have h2 : m.length ≤ 32 := hk.1.2.1
    refine ⟨_, rfl, p, nVs xs, rfl, hs, fun D hD => ?_⟩
    exact lc_enT hs hD (by omega) fun H1 s1 h => q H1 D s1 hD h
theorem ok_num1 {f : Addr} {fd : FuncData} (F : Fun K "numbers" "Chosen.numbers" (sM 4 2) f fd) (N : Nos K c) (B : Bi mg) : FnOk P w K mg base CX0 1 f fd ["self", "state"] (spNumbers c 1) := by
  have sc : FnScope ["self", "state"] ["self", "state"] (defScope (sM 4 2)) := ⟨rfl, rfl, rfl, by decide +kernel, rfl, by decide +kernel, by decide +kernel⟩
  refine F.ok sc (fun vs H Q E h => ?_) (fun cdv A outer s H vs Q E hr h => ⟨_, pss_one (ps_ret (pe_listRg rfl rfl B.list (prg_2 rfl B.range (pe_ix ix_tup (pv 1) pe_int (fun _ _ => rfl)) (pe_fld (pv 0) rfl)))), ?_⟩)
  · obtain ⟨a, p, d, st, l, _, rfl, _⟩ := h
    rfl
  · obtain ⟨a, p, d, st, l, e, rfl, hk, hs, hv, hl, q⟩ := h
    obtain ⟨n, k, rfl⟩ := ix1 e
    rcases st with _ | ⟨x, y⟩ | _ <;> try (exact False.elim hv)
    have hs : H p = some (.tup [nV x, nV y]) := hs
    obtain ⟨dx, h1⟩ := hk.2
    obtain ⟨o1, o2, o3⟩ := hk.1
    obtain ⟨v1, v2⟩ := hv
    refine ⟨_, rfl, p, _, 0, _, rfl, rfl, SqT.of hs, at0, _, rfl, a, c.cho, dx, _, _, rfl, h1, N.ok.cls 1 (by decide), N.many, lk_here, _, _, rfl, rfl, RgOk.of_le (by omega) (by omega) (by omega) (by omega), fun r hr => q _ r (Same.new hr) hr ?_⟩
    rw [upd_same, rgV_nat]
    rfl
theorem ok_num2 {f : Addr} {fd : FuncData} (F : Fun K "numbers" "Balanced.numbers" (sM 5 2) f fd) (N : Nos K c) : FnOk P w K mg base CX0 1 f fd ["self", "state"] (spNumbers c 2) := by
  have sc : FnScope ["self", "state"] ["self", "state"] (defScope (sM 5 2)) := ⟨rfl, rfl, rfl, by decide +kernel, rfl, by decide +kernel, by decide +kernel⟩
  refine F.ok sc (fun vs H Q E h => ?_) (fun cdv A outer s H vs Q E hr h => ⟨_, pss_one (ps_ret (pe_ifExp (pt_cmpR n_gt (pe_ix ix_tup (pv 1) pe_int (fun _ _ => rfl)) pe_int (nomark _)) (pe_lst (pa_cons pe_int (pa_cons pe_int pa_nil))) (pe_lst (pa_cons pe_int pa_nil)))), ?_⟩)
  · obtain ⟨a, p, d, st, l, _, rfl, _⟩ := h
    rfl
  · obtain ⟨a, p, d, st, l, e, rfl, hk, hs, hv, hl, q⟩ := h
    obtain ⟨n, rfl⟩ := ix2 e
    rcases st with _ | ⟨x, y⟩ | _ <;> try (exact False.elim hv)
    have hs : H p = some (.tup [nV x, nV y]) := hs
    refine ⟨_, rfl, p, _, 1, _, rfl, rfl, SqT.of hs, at1, y, 0, rfl, rfl, trivial, _, rfl, ?_⟩
    by_cases cc : 0 < y
    · refine ifT (decide_eq_true cc) ⟨two_line, fun r hr => q _ r (Same.new hr) hr ?_⟩
      rw [upd_same]
      show _ = some (HO.lst (nVs (if y = 0 then [0] else [0, 1])))
      rw [if_neg (by omega)]
      rfl
    · refine ifF (decide_eq_false cc) ⟨one_line, fun r hr => q _ r (Same.new hr) hr ?_⟩
      rw [upd_same]
      show _ = some (HO.lst (nVs (if y = 0 then [0] else [0, 1])))
      rw [if_pos (by omega)]
      rfl
theorem ok_num3 {f : Addr} {fd : FuncData} (F : Fun K "numbers" "Growing.numbers" (sM 6 2) f fd) (N : Nos K c) (B : Bi mg) : FnOk P w K mg base CX0 1 f fd ["self", "state"] (spNumbers c 3) := by
  have sc : FnScope ["self", "state"] ["self", "state"] (defScope (sM 6 2)) := ⟨rfl, rfl, rfl, by decide +kernel, rfl, by decide +kernel, by decide +kernel⟩
  refine F.ok sc (fun vs H Q E h => ?_) (fun cdv A outer s H vs Q E hr h => ⟨_, pss_one (ps_ret (pe_listRg rfl rfl B.list (prg_1 rfl B.range (pe_op n_add (pe_ix ix_tup (pv 1) pe_int (fun _ _ => rfl)) pe_int)))), ?_⟩)
  · obtain ⟨a, p, d, st, l, _, rfl, _⟩ := h
    rfl
  · obtain ⟨a, p, d, st, l, e, rfl, hk, hs, hv, hl, q⟩ := h
    obtain ⟨n, rfl⟩ := ix3 e
    rcases st with _ | ⟨x, y⟩ | _ <;> try (exact False.elim hv)
    have hs : H p = some (.tup [nV x, nV y]) := hs
    obtain ⟨o1, o2⟩ := hk.1
    obtain ⟨v1, v2⟩ := hv
    refine ⟨_, rfl, p, _, 1, _, rfl, rfl, SqT.of hs, at1, y, 1, rfl, rfl, trivial, _, rfl, RgOk.of_le (by omega) (by omega) (by omega) (by omega), fun r hr => q _ r (Same.new hr) hr ?_⟩
    rw [upd_same, rgV_zero]
    rfl
theorem ok_num4 {f : Addr} {fd : FuncData} (F : Fun K "numbers" "Parted.numbers" (sM 7 2) f fd) (N : Nos K c) (B : Bi mg) : FnOk P w K mg base CX0 1 f fd ["self", "state"] (spNumbers c 4) := by
  have sc : FnScope ["self", "state"] ["self", "state"] (defScope (sM 7 2)) := ⟨rfl, rfl, rfl, by decide +kernel, rfl, by decide +kernel, by decide +kernel⟩
  refine F.ok sc (fun vs H Q E h => ?_) (fun cdv A outer s H vs Q E hr h => ⟨_, pss_cons (ps_if (pt_cmpR i_eq (pe_ix ix_tup (pv 1) pe_int (fun _ _ => rfl)) pe_int (nomark _)) (pss_one (ps_ret (pe_lst (pa_cons pe_int pa_nil)))) pss_nil)
    (pss_one (ps_ret (pe_listRg rfl rfl B.list (prg_2 rfl B.range pe_int (pe_op n_add (pe_callB (call_min2 rfl) (by rfl) B.min (by decide +kernel) (pa_cons (pe_ix ix_tup (pv 1) pe_int (fun _ _ => rfl)) (pa_cons (pe_ix ix_tup (pv 1) pe_int (fun _ _ => rfl)) pa_nil))) pe_int))))), ?_⟩)
  · obtain ⟨a, p, d, st, l, _, rfl, _⟩ := h
    rfl
  · obtain ⟨a, p, d, st, l, e, rfl, hk, hs, hv, hl, q⟩ := h
    obtain ⟨n, rfl⟩ := ix4 e
    rcases st with _ | ⟨x, y⟩ | _ <;> try (exact False.elim hv)
    have hs : H p = some (.tup [nV x, nV y]) := hs
    obtain ⟨o1, o2⟩ := hk.1
    obtain ⟨v1, v2, v3⟩ := hv
    refine ⟨_, rfl, p, _, 1, _, rfl, rfl, SqT.of hs, at1, (y : Int), 0, rfl, rfl, _, rfl, ?_⟩
    by_cases cc : y = 0
    · refine ifT (decide_eq_true (by omega)) ⟨one_line, fun r hr => q _ r (Same.new hr) hr ?_⟩
      rw [upd_same]
      show _ = some (HO.lst (nVs (if y = 0 then [0] else (List.range (min x y)).map (1 + ·))))
      rw [if_pos cc]
      rfl
    · refine ifF (decide_eq_false (by omega)) ?_
      have em : V.int (if (y : Int) < (x : Int) then (y : Int) else (x : Int)) = nV (min x y) := by
        refine congrArg V.int ?_
        split <;> omega
      refine ⟨_, rfl, p, _, 0, _, rfl, rfl, SqT.of hs, at0, _, rfl, p, _, 1, _, rfl, rfl, SqT.of hs, at1, (x : Int), (y : Int), rfl, min x y, 1, em, rfl, trivial, 1, ((min x y + 1 : Nat) : Int), rfl, rfl, RgOk.of_le (by omega) (by omega) (by omega) (by omega), fun r hr => q _ r (Same.new hr) hr ?_⟩
      rw [upd_same]
      show some (HO.lst (rgV ((1 : Nat) : Int) ((min x y + 1 : Nat) : Int))) = some (HO.lst (nVs (if y = 0 then [0] else (List.range (min x y)).map (1 + ·))))
      rw [if_neg cc, rgV_nat, Nat.add_sub_cancel]
theorem ok_num5 {f : Addr} {fd : FuncData} (F : Fun K "numbers" "Displaced.numbers" (sM 8 2) f fd) (N : Nos K c) : FnOk P w K mg base CX0 1 f fd ["self", "state"] (spNumbers c 5) := by
  have sc : FnScope ["self", "state", "number"] ["self", "state"] (defScope (sM 8 2)) := ⟨rfl, rfl, rfl, by decide +kernel, rfl, by decide +kernel, by decide +kernel⟩
  refine F.ok sc (fun vs H Q E h => ?_) (fun cdv A outer s H vs Q E hr h => ⟨_, pss_one (ps_ret (pe_lc (own := [("number", 2)]) (g := gName 2) (tt := tTest (tOp (rN (fun _ _ => True) fun a b => .bl (a != b)) (tVar 2) (tOp (rIxT K) (tVar 1) (tC (.int 1))))) rfl sc.nd (pi_tup (pe_ix ix_tup (pv 1) pe_int (fun _ _ => rfl)))
      (blkOk_by (N := ["self", "state", "number"]) (sc := defScope (sM 8 2)) (by decide +kernel)) (fun _ _ _ _ _ => pg_name (i := 2) sc.nd rfl (.inl rfl)) (fun _ _ _ _ _ => pts_one (pt_cmpR n_ne (pv 2) (pe_ix ix_tup (pv 1) pe_int (fun _ _ => rfl)) (nomark _))) (fun _ _ _ _ _ => pv 2))), ?_⟩)
  · obtain ⟨a, p, d, st, l, _, rfl, _⟩ := h
    rfl
  · obtain ⟨a, p, d, st, l, e, rfl, hk, hs, hv, hl, q⟩ := h
    obtain ⟨n, rfl⟩ := ix5 e
    rcases st with _ | _ | ⟨xs, pl⟩ <;> try (exact False.elim hv)
    obtain ⟨t, h1, h2⟩ := hs
    obtain ⟨v1, v2, v3, v4⟩ := hv
    have hn : n ≤ 32 := hk.1.2
    refine ⟨_, rfl, p, _, 0, _, rfl, rfl, SqT.of h1, at0, t, rfl, ⟨_, SqT.of h2⟩, fun D hD => ?_⟩
    refine lc_filter (p := fun x => x != pl) h2 hD (by omega) (by show 2 < 3; decide) ?_ fun H1 s1 h => q H1 D s1 hD h
    intro i x H' Q' hx s1 q'
    exact ⟨_, rfl, _, rfl, p, _, 1, _, rfl, rfl, SqT.of (s1 _ _ h1), at1, x, pl, rfl, rfl, trivial, _, rfl, q'⟩
/-! ### behind -/
theorem ok_beh0 {f : Addr} {fd : FuncData} (F : Fun K "behind" "Repeated.behind" (sM 3 3) f fd) (N : Nos K c) (B : Bi mg) : FnOk P w K mg base CX0 1 f fd ["self", "state", "number"] (spBehind c 0) := by
  have sc : FnScope ["self", "state", "number", "left"] ["self", "state", "number"] (defScope (sM 3 3)) := ⟨rfl, rfl, rfl, by decide +kernel, rfl, by decide +kernel, by decide +kernel⟩
  refine F.ok sc (fun vs H Q E h => ?_) (fun cdv A outer s H vs Q E hr h => ⟨_, pss_cons (ps_set (i := 3) sc.nd rfl (.inl rfl) (pe_callTy call_list_of (by rfl) B.list (by decide +kernel) (pa_cons (pv 1) pa_nil)))
    (pss_cons (ps_asg (pe_op n_sub (pe_ix ix_list (pv 3) (pv 2) (fun _ _ => rfl)) pe_int) (pg_sub (pv 3) (pv 2) set_list))
    (pss_one (ps_ret (pe_callTy call_tuple_of (by rfl) B.tuple (by decide +kernel) (pa_cons (pv 3) pa_nil))))), ?_⟩)
  · obtain ⟨a, p, d, st, l, x, _, rfl, _⟩ := h
    rfl
  · obtain ⟨a, p, d, st, l, x, e, rfl, hk, hs, hv, hl, hx, q⟩ := h
    obtain ⟨m, rfl⟩ := ix0 e
    rcases st with xs | _ | _ <;> try (exact False.elim hv)
    have hs : H p = some (.tup (nVs xs)) := hs
    have hx : x ∈ Arr.repNum xs := hx
    unfold Arr.repNum at hx
    rw [List.mem_filter, List.mem_range] at hx
    have h0 : 0 < xs.getD x 0 := of_decide_eq_true hx.2
    have ex : (nVs xs)[x]? = some (nV (xs.getD x 0)) := by
      rw [List.getElem?_map, List.getD_eq_getElem?_getD, List.getElem?_eq_getElem hx.1]
      rfl
    refine ⟨_, rfl, p, nVs xs, rfl, .inr (SqT.of hs), fun r hr => ?_⟩
    refine ⟨_, rfl, _, rfl, r, _, (x : Int), _, rfl, rfl, SqL.of upd_same, atI_nat ex, xs.getD x 0, 1, rfl, rfl, h0, ?_⟩
    refine ⟨_, rfl, _, rfl, r, _, (x : Int), x, rfl, rfl, upd_same, ixN_nat (by rw [List.length_map]; exact hx.1), ?_⟩
    refine ⟨_, rfl, r, _, rfl, .inl ⟨SqL.of upd_same, fun t ht => q _ t (Same.upd_new (Same.upd_new (Same.new hr) hr) ?_) ?_⟩⟩
    · cases z : H t with
      | none => rfl
      | some o =>
        have := (Same.upd_new (o := .lst ((nVs xs).set x (nV (xs.getD x 0 - 1)))) (Same.new (o := .lst (nVs xs)) hr) hr) t o z
        rw [ht] at this
        cases this
    · show (upd _ t _) t = some (.tup (nVs (xs.set x (xs.getD x 0 - 1))))
      rw [upd_same]
      exact congrArg (fun z => some (HO.tup z)) List.map_set.symm
theorem ok_beh1 {f : Addr} {fd : FuncData} (F : Fun K "behind" "Chosen.behind" (sM 4 3) f fd) (N : Nos K c) : FnOk P w K mg base CX0 1 f fd ["self", "state", "number"] (spBehind c 1) := by
  have sc : FnScope ["self", "state", "number"] ["self", "state", "number"] (defScope (sM 4 3)) := ⟨rfl, rfl, rfl, by decide +kernel, rfl, by decide +kernel, by decide +kernel⟩
  refine F.ok sc (fun vs H Q E h => ?_) (fun cdv A outer s H vs Q E hr h => ⟨_, pss_one (ps_ret (pe_tup (pa_cons (pe_op n_add (pv 2) pe_int) (pa_cons (pe_op n_sub (pe_ix ix_tup (pv 1) pe_int (fun _ _ => rfl)) pe_int) pa_nil)))), ?_⟩)
  · obtain ⟨a, p, d, st, l, x, _, rfl, _⟩ := h
    rfl
  · obtain ⟨a, p, d, st, l, x, e, rfl, hk, hs, hv, hl, hx, q⟩ := h
    obtain ⟨n, k, rfl⟩ := ix1 e
    rcases st with _ | ⟨u, y⟩ | _ <;> try (exact False.elim hv)
    have hs : H p = some (.tup [nV u, nV y]) := hs
    obtain ⟨v1, v2⟩ := hv
    exact ⟨_, rfl, x, 1, rfl, rfl, trivial, _, rfl, p, _, 1, _, rfl, rfl, SqT.of hs, at1, y, 1, rfl, rfl, by omega, two_line, fun r hr => q _ r (Same.new hr) upd_same⟩
theorem ok_beh2 {f : Addr} {fd : FuncData} (F : Fun K "behind" "Balanced.behind" (sM 5 3) f fd) (N : Nos K c) : FnOk P w K mg base CX0 1 f fd ["self", "state", "number"] (spBehind c 2) := by
  have sc : FnScope ["self", "state", "number"] ["self", "state", "number"] (defScope (sM 5 3)) := ⟨rfl, rfl, rfl, by decide +kernel, rfl, by decide +kernel, by decide +kernel⟩
  refine F.ok sc (fun vs H Q E h => ?_) (fun cdv A outer s H vs Q E hr h => ⟨_, pss_one (ps_ret (pe_tup (pa_cons (pe_op n_sub (pe_ix ix_tup (pv 1) pe_int (fun _ _ => rfl)) pe_int) (pa_cons (pe_op n_sub (pe_op n_add (pe_ix ix_tup (pv 1) pe_int (fun _ _ => rfl)) pe_int) (pe_op n_mul pe_int (pv 2))) pa_nil)))), ?_⟩)
  · obtain ⟨a, p, d, st, l, x, _, rfl, _⟩ := h
    rfl
  · obtain ⟨a, p, d, st, l, x, e, rfl, hk, hs, hv, hl, hx, q⟩ := h
    obtain ⟨n, rfl⟩ := ix2 e
    rcases st with _ | ⟨u, y⟩ | _ <;> try (exact False.elim hv)
    have hs : H p = some (.tup [nV u, nV y]) := hs
    obtain ⟨v1, v2⟩ := hv
    have hx : x ∈ (if y = 0 then [0] else [0, 1]) := hx
    have hb : 2 * x ≤ y + 1 := by
      by_cases cc : y = 0
      · rw [if_pos cc] at hx
        have : x = 0 := by simpa using hx
        omega
      · rw [if_neg cc] at hx
        have : x = 0 ∨ x = 1 := by simpa using hx
        omega
    exact ⟨_, rfl, p, _, 0, _, rfl, rfl, SqT.of hs, at0, u, 1, rfl, rfl, by omega, _, rfl, p, _, 1, _, rfl, rfl, SqT.of hs, at1, y, 1, rfl, rfl, trivial, _, rfl, 2, x, rfl, rfl, .inl (by omega), y + 1, 2 * x, rfl, rfl, hb, two_line, fun r hr => q _ r (Same.new hr) upd_same⟩
theorem ok_beh3 {f : Addr} {fd : FuncData} (F : Fun K "behind" "Growing.behind" (sM 6 3) f fd) (N : Nos K c) (B : Bi mg) : FnOk P w K mg base CX0 1 f fd ["self", "state", "number"] (spBehind c 3) := by
  have sc : FnScope ["self", "state", "number"] ["self", "state", "number"] (defScope (sM 6 3)) := ⟨rfl, rfl, rfl, by decide +kernel, rfl, by decide +kernel, by decide +kernel⟩
  refine F.ok sc (fun vs H Q E h => ?_) (fun cdv A outer s H vs Q E hr h => ⟨_, pss_one (ps_ret (pe_tup (pa_cons (pe_op n_sub (pe_ix ix_tup (pv 1) pe_int (fun _ _ => rfl)) pe_int) (pa_cons (pe_callB (call_max2 rfl) (by rfl) B.max (by decide +kernel) (pa_cons (pe_ix ix_tup (pv 1) pe_int (fun _ _ => rfl)) (pa_cons (pe_op n_add (pv 2) pe_int) pa_nil))) pa_nil)))), ?_⟩)
  · obtain ⟨a, p, d, st, l, x, _, rfl, _⟩ := h
    rfl
  · obtain ⟨a, p, d, st, l, x, e, rfl, hk, hs, hv, hl, hx, q⟩ := h
    obtain ⟨n, rfl⟩ := ix3 e
    rcases st with _ | ⟨u, y⟩ | _ <;> try (exact False.elim hv)
    have hs : H p = some (.tup [nV u, nV y]) := hs
    obtain ⟨v1, v2⟩ := hv
    refine ⟨_, rfl, p, _, 0, _, rfl, rfl, SqT.of hs, at0, u, 1, rfl, rfl, by omega, _, rfl, p, _, 1, _, rfl, rfl, SqT.of hs, at1, _, rfl, x, 1, rfl, rfl, trivial, (y : Int), ((x + 1 : Nat) : Int), rfl, two_line, fun r hr => q _ r (Same.new hr) ?_⟩
    show (upd H r _) r = some (.tup [nV (u - 1), nV (max y (x + 1))])
    rw [upd_same]
    have em : V.int (if ((x + 1 : Nat) : Int) > (y : Int) then ((x + 1 : Nat) : Int) else (y : Int)) = nV (max y (x + 1)) := by
      refine congrArg V.int ?_
      split <;> omega
    exact congrArg (fun z => some (HO.tup [nV (u - 1), z])) em
theorem ok_beh4 {f : Addr} {fd : FuncData} (F : Fun K "behind" "Parted.behind" (sM 7 3) f fd) (N : Nos K c) : FnOk P w K mg base CX0 1 f fd ["self", "state", "number"] (spBehind c 4) := by
  have sc : FnScope ["self", "state", "number"] ["self", "state", "number"] (defScope (sM 7 3)) := ⟨rfl, rfl, rfl, by decide +kernel, rfl, by decide +kernel, by decide +kernel⟩
  refine F.ok sc (fun vs H Q E h => ?_) (fun cdv A outer s H vs Q E hr h => ⟨_, pss_one (ps_ret (pe_tup (pa_cons (pv 2) (pa_cons (pe_op n_sub (pe_ix ix_tup (pv 1) pe_int (fun _ _ => rfl)) (pv 2)) pa_nil)))), ?_⟩)
  · obtain ⟨a, p, d, st, l, x, _, rfl, _⟩ := h
    rfl
  · obtain ⟨a, p, d, st, l, x, e, rfl, hk, hs, hv, hl, hx, q⟩ := h
    obtain ⟨n, rfl⟩ := ix4 e
    rcases st with _ | ⟨u, y⟩ | _ <;> try (exact False.elim hv)
    have hs : H p = some (.tup [nV u, nV y]) := hs
    have hx : x ∈ (if y = 0 then [0] else (List.range (min u y)).map (1 + ·)) := hx
    have hb : x ≤ y := by
      by_cases cc : y = 0
      · rw [if_pos cc] at hx
        have : x = 0 := by simpa using hx
        omega
      · rw [if_neg cc] at hx
        have := Arr.mem_shift.mp hx
        omega
    exact ⟨_, rfl, _, rfl, p, _, 1, _, rfl, rfl, SqT.of hs, at1, _, rfl, y, x, rfl, rfl, hb, two_line, fun r hr => q _ r (Same.new hr) upd_same⟩
theorem ok_beh5 {f : Addr} {fd : FuncData} (F : Fun K "behind" "Displaced.behind" (sM 8 3) f fd) (N : Nos K c) (B : Bi mg) : FnOk P w K mg base CX0 1 f fd ["self", "state", "number"] (spBehind c 5) := by
  have sc : FnScope ["self", "state", "number", "other"] ["self", "state", "number"] (defScope (sM 8 3)) := ⟨rfl, rfl, rfl, by decide +kernel, rfl, by decide +kernel, by decide +kernel⟩
  refine F.ok sc (fun vs H Q E h => ?_) (fun cdv A outer s H vs Q E hr h => ⟨_, pss_one (ps_ret (pe_tup (pa_cons (pe_callTy call_tuple_of (by rfl) B.tuple (by decide +kernel) (pa_cons (pe_lc (own := [("other", 3)]) (g := gName 3) (tt := tTest (tOp (rN (fun _ _ => True) fun a b => .bl (a != b)) (tVar 3) (tVar 2))) rfl sc.nd (pi_tup (pe_ix ix_tup (pv 1) pe_int (fun _ _ => rfl)))
      (blkOk_by (N := ["self", "state", "number", "other"]) (sc := defScope (sM 8 3)) (by decide +kernel)) (fun _ _ _ _ _ => pg_name (i := 3) sc.nd rfl (.inl rfl)) (fun _ _ _ _ _ => pts_one (pt_cmpR n_ne (pv 3) (pv 2) (nomark _))) (fun _ _ _ _ _ => pv 3)) pa_nil)) (pa_cons (pe_op n_add (pe_ix ix_tup (pv 1) pe_int (fun _ _ => rfl)) pe_int) pa_nil)))), ?_⟩)
  · obtain ⟨a, p, d, st, l, x, _, rfl, _⟩ := h
    rfl
  · obtain ⟨a, p, d, st, l, x, e, rfl, hk, hs, hv, hl, hx, q⟩ := h
    obtain ⟨n, rfl⟩ := ix5 e
    rcases st with _ | _ | ⟨xs, pl⟩ <;> try (exact False.elim hv)
    obtain ⟨t, h1, h2⟩ := hs
    obtain ⟨v1, v2, v3, v4⟩ := hv
    have hn : n ≤ 32 := hk.1.2
    refine ⟨_, rfl, p, _, 0, _, rfl, rfl, SqT.of h1, at0, t, rfl, ⟨_, SqT.of h2⟩, fun D hD => ?_⟩
    refine lc_filter (p := fun y => y != x) h2 hD (by omega) (by show 3 < 4; decide) ?_ fun H1 s1 h => ?_
    · intro i y H' Q' hy s1 q'
      exact ⟨_, rfl, _, rfl, y, x, rfl, rfl, trivial, _, rfl, q'⟩
    · refine ⟨D, _, rfl, .inl ⟨SqL.of h, fun r hr => ?_⟩⟩
      have hpr : p ≠ r := ne_new (s1 _ _ h1) hr
      refine ⟨_, rfl, p, _, 1, _, rfl, rfl, SqT.of ((upd_ne hpr).trans (s1 _ _ h1)), at1, pl, 1, rfl, rfl, trivial, two_line, fun u hu => ?_⟩
      have hru : r ≠ u := ne_new upd_same hu
      refine q _ u (Same.upd_new (Same.upd_new s1 (s1.free hr)) (s1.free ?_)) ⟨r, upd_same, (upd_ne hru).trans upd_same⟩
      rw [← hu]
      exact (upd_ne (Ne.symm hru)).symm
end
end Wk

/-! ### row_of -/
namespace Wk
open PySem PySem.Spec PyProof.Rows L2
theorem len_small {d : Arr.Kd} (h : d.Ok) : d.len ≤ 128 := by
  cases d with
  | rep m => exact Nat.le_trans h.2.2.2.2 (by decide)
  | cho n k => exact Nat.le_trans h.2.2 (Nat.le_trans h.2.1 (by decide))
  | bal n => exact Nat.le_trans h.2 (by decide)
  | gro n => exact Nat.le_trans h.2 (by decide)
  | par n => exact h.2
  | dis n => exact Nat.le_trans h.2 (by decide)
/-- a state stands where one list is changed -/
theorem StAt.sameBut {H H' : Hp} {p r : Addr} {s : Arr.S} {xs : List V} (h : StAt H p s) (hr : H r = some (.lst xs)) (e : ∀ b o, b ≠ r → H b = some o → H' b = some o) : StAt H' p s := by
  have ne : ∀ {b : Addr} {ys : List V}, H b = some (.tup ys) → b ≠ r := fun {b ys} hb z => by
    rw [z, hr] at hb
    cases hb
  cases s with
  | tup xs => exact e _ _ (ne h) h
  | pr a b => exact e _ _ (ne h) h
  | dis xs q =>
    obtain ⟨t, h1, h2⟩ := h
    exact ⟨t, e _ _ (ne h1) h1, e _ _ (ne h2) h2⟩
theorem V_zero_row {d : Arr.Kd} {s : Arr.S} {k : Nat} : Arr.rowAt d.kind 0 s k = [] := rfl
theorem rowAt_step {d : Arr.Kd} {l : Nat} {s : Arr.S} {k x j : Nat} (h : Arr.pick d.kind s (d.numbers s) k = some (x, j)) : Arr.rowAt d.kind (l + 1) s k = x :: Arr.rowAt d.kind l (d.behind s x) j := by
  show (match Arr.pick d.kind s (d.numbers s) k with
    | some (x, q) => x :: Arr.rowAt d.kind l (d.behind s x) q
    | none => []) = _
  rw [h]
theorem pick_step {d : Arr.Kd} {s : Arr.S} {xs : List Nat} {j x k : Nat} (h : xs[j]? = some x) : Arr.pick d.kind s (xs.drop j) k = if k < d.ways (d.behind s x) then some (x, k) else Arr.pick d.kind s (xs.drop (j + 1)) (k - d.ways (d.behind s x)) := by
  obtain ⟨hj, e⟩ := List.getElem?_eq_some_iff.mp h
  rw [List.drop_eq_getElem_cons hj, e]
  rfl
section
variable {P : Program} {w : World} {K : PySem.W.Frag} {mg : Str → Option Value} {base : Heap} {c : Cl}
abbrev sRow : Stmt := top 13
theorem ok_row {f : Addr} {fd : FuncData} (F : Fun K "row_of" "row_of" sRow f fd) (B : Bi mg) (KT : Kinds2 P w K mg base c) : FnOk P w K mg base CX0 3 f fd ["kind", "place"] (spRow c) := by
  have sc : FnScope ["kind", "place", "state", "row", "step", "coming", "later", "many"] ["kind", "place"] (defScope sRow) := ⟨rfl, rfl, rfl, by decide +kernel, rfl, by decide +kernel, by decide +kernel⟩
  refine F.ok sc (fun vs H Q E h => ?_) (fun cdv A outer s H vs Q E hr h => ⟨_,
    pss_cons (ps_set (i := 2) sc.nd rfl (.inl rfl) (pe_km (c := c) (i := 0) (m := "begin") (sp := spBegin c) (t := tNil) (.inl rfl) (fun j hj => by
      obtain ⟨f, fd, M, F, b⟩ := KT.k.beg j hj
      exact pe_meth0 (pv 0) (KT.k.ok.cls j hj) M F (hr.mono (by decide)) b .nil pass0)))
    (pss_cons (ps_set (i := 3) sc.nd rfl (.inl rfl) (pe_lst pa_nil))
    (pss_cons (ps_for PassesOwn.never rfl (pi_range1 rfl B.range (pa_cons (pe_fld (pv 0) rfl) pa_nil)) (pg_name (i := 4) sc.nd rfl (.inl rfl))
      (pss_one (ps_for PassesOwn.never rfl (pi_list (pe_km (c := c) (i := 0) (m := "numbers") (sp := spNumbers c) (t := tCons (tVar 2) tNil) (.inr (.inl rfl)) (fun j hj => by
          obtain ⟨f, fd, M, F, b⟩ := KT.num j hj
          exact pe_meth (pv 0) (KT.k.ok.cls j hj) M F (hr.mono (by decide)) b .nil pass0 (pa_cons (pv 2) pa_nil)))) (pg_name (i := 5) sc.nd rfl (.inl rfl))
        (pss_cons (ps_set (i := 6) sc.nd rfl (.inl rfl) (pe_km (c := c) (i := 0) (m := "behind") (sp := spBehind c) (t := tCons (tVar 2) (tCons (tVar 5) tNil)) (.inr (.inr (.inl rfl))) (fun j hj => by
          obtain ⟨f, fd, M, F, b⟩ := KT.beh j hj
          exact pe_meth (pv 0) (KT.k.ok.cls j hj) M F (hr.mono (by decide)) b .nil pass0 (pa_cons (pv 2) (pa_cons (pv 5) pa_nil)))))
        (pss_cons (ps_set (i := 7) sc.nd rfl (.inl rfl) (pe_km (c := c) (i := 0) (m := "ways") (sp := spWays c) (t := tCons (tVar 6) tNil) (.inr (.inr (.inr rfl))) (fun j hj => by
          obtain ⟨f, fd, M, F, b⟩ := KT.k.way j hj
          exact pe_meth (pv 0) (KT.k.ok.cls j hj) M F (hr.mono (by decide)) b .nil pass0 (pa_cons (pv 6) pa_nil))))
        (pss_cons (ps_if (pt_cmpR n_lt (pv 1) (pv 7) (nomark _))
          (pss_cons (ps_expr (pe_bm PySem.F.plainAttrs_list PySem.F.slot_list_append PySem.F.type_list_append mt_append (pv 3) (pa_cons (pv 5) pa_nil)))
          (pss_cons (ps_set (i := 2) sc.nd rfl (.inl rfl) (pv 6))
          (pss_one ps_break))) pss_nil)
        (pss_one (ps_set (i := 1) sc.nd rfl (.inl rfl) (pe_op n_sub (pv 1) (pv 7))))))))))
    (pss_one (ps_ret (pv 3))))), ?_⟩)
  · obtain ⟨a, d, k, rfl, _⟩ := h
    rfl
  · obtain ⟨a, d, k0, rfl, hk, hk0, q⟩ := h
    refine ⟨a, d, rfl, hk, a, d, rfl, rfl, hk, fun H1 p1 s1 st1 => ?_⟩
    refine ⟨Nat.zero_le _, fun r hr1 => ?_⟩
    have hr0 : H r = none := s1.free hr1
    obtain ⟨dx, fs, h1, _, _, _, _, h2⟩ := (hk.same (Same.upd_new s1 hr0 (o := .lst []))).ins
    refine ⟨_, rfl, a, _, dx, fs, _, rfl, h1, KT.k.ok.cls (ix d) (ix_lt d), KT.k.ok.nLen (ix d) (ix_lt d), h2, (d.len : Int), rfl, ?_, ?_, ?_⟩
    · omega
    · have := len_small hk.1
      omega
    refine for_range (lo := 0) (n := d.len) (fun i σ H' => ∃ (v4 v5 v6 v7 : Option V) (k : Nat) (p : Addr) (st : Arr.S) (row : List Nat), σ = [some (.ref a), some (nV k), some (.ref p), some (.ref r), v4, v5, v6, v7] ∧ Same H H' ∧ H' r = some (.lst (nVs row)) ∧
        StAt H' p st ∧ d.V (d.len - i) st ∧ k < d.ways st ∧ row.length = i ∧ row ++ Arr.rowAt d.kind (d.len - i) st k = Arr.rowAt d.kind d.len d.begin k0)
      ⟨none, none, none, none, k0, p1, d.begin, [], rfl, Same.upd_new s1 hr0, upd_same, st1.same (Same.new hr1), Arr.V_begin d, hk0, rfl, rfl⟩ ?_ ?_
    · rintro i σ H2 hi ⟨v4, v5, v6, v7, k, p, st, row, rfl, s2, hrow, hst, hV, hkw, hrl, heq⟩
      obtain ⟨l, el⟩ : ∃ l, d.len - i = l + 1 := ⟨d.len - i - 1, by omega⟩
      have el2 : d.len - (i + 1) = l := by omega
      rw [el] at hV heq
      refine ⟨a, d, rfl, hk.same s2, _, rfl, a, p, d, st, l, rfl, rfl, hk.same s2, hst, hV, by omega, fun H3 x s3 hx3 hx => ?_⟩
      refine ⟨x, rfl, ⟨_, SqL.of hx⟩, ?_⟩
      have hG := Arr.good d
      have hsum := hG.sum l st hV
      have hpk : ∃ x q, Arr.pick d.kind st (d.numbers st) k = some (x, q) := by
        have hkw2 : k < ((d.kind.numbers st).map fun x => d.kind.ways (d.kind.behind st x)).sum := by
          rw [← hsum]
          exact hkw
        obtain ⟨x, q, e, _⟩ := Arr.pick_some (K := d.kind) st _ k hkw2
        exact ⟨x, q, e⟩
      refine for_list (K := K) (a := x) (xs := nVs (d.numbers st)) (fun j σ H' => ∃ (v5 v6 v7 : Option V) (k' : Nat), σ = [some (.ref a), some (nV k'), some (.ref p), some (.ref r), some (V.int (0 + (i : Int))), v5, v6, v7] ∧ Same H3 H' ∧
          Arr.pick d.kind st ((d.numbers st).drop j) k' = Arr.pick d.kind st (d.numbers st) k)
        ⟨v5, v6, v7, k, rfl, Same.refl H3, rfl⟩ (fun j σ H' _ ⟨_, _, _, _, _, s4, _⟩ => SqL.of (s4 _ _ hx)) ?_ ?_
      · rintro j y σ H4 hy ⟨v5, v6, v7, k', rfl, s4, hp⟩
        obtain ⟨z, hz, rfl⟩ := getV hy
        have hzm : z ∈ d.numbers st := List.mem_of_getElem? hz
        have s5 := Same.trans s2 (Same.trans s3 s4)
        have hst4 := hst.same (Same.trans s3 s4)
        refine ⟨a, d, rfl, hk.same s5, _, rfl, _, rfl, a, p, d, st, l, z, rfl, rfl, hk.same s5, hst4, hV, by omega, hzm, fun H5 p5 s6 st5 => ?_⟩
        have hV5 := hG.step l st z hV hzm
        have s7 := Same.trans s5 s6
        refine ⟨a, d, rfl, hk.same s7, _, rfl, a, p5, d, d.behind st z, l, rfl, rfl, hk.same s7, st5, hV5, by omega, fun H6 s8 => ?_⟩
        have s9 := Same.trans s7 s8
        have hrow6 : H6 r = some (.lst (nVs row)) := s8 _ _ (s6 _ _ (s4 _ _ (s3 _ _ hrow)))
        refine ⟨_, rfl, _, rfl, k', d.ways (d.behind st z), rfl, rfl, trivial, _, rfl, ?_⟩
        rw [pick_step hz] at hp
        by_cases cc : k' < d.ways (d.behind st z)
        · rw [if_pos cc] at hp
          refine ifT (decide_eq_true cc) ⟨_, rfl, .inl ⟨rfl, _, SqL.of hrow6⟩, _, rfl, r, _, _, rfl, rfl, hrow6, ?_, _, rfl, ?_⟩
          · have := len_small hk.1
            rw [List.length_map]
            exact small1000 (by omega)
          · refine ⟨_, _, _, _, k', p5, d.behind st z, row ++ [z], rfl, Same.upd_new s9 hr0, ?_, ?_, ?_, cc, by simp [hrl], ?_⟩
            · rw [upd_same]
              exact congrArg (fun z => some (HO.lst z)) (List.map_append (f := nV) (l₁ := row) (l₂ := [z])).symm
            · refine (st5.same s8).sameBut hrow6 fun b o hb e => (upd_ne hb).trans e
            · rw [el2]
              exact hV5
            · rw [el2, ← heq, rowAt_step hp.symm, List.append_assoc]
              rfl
        · rw [if_neg cc] at hp
          refine ifF (decide_eq_false cc) ⟨_, rfl, _, rfl, k', d.ways (d.behind st z), rfl, rfl, by omega, ?_⟩
          exact ⟨_, _, _, _, rfl, Same.trans s4 (Same.trans s6 s8), hp⟩
      · rintro σ H4 ⟨v5, v6, v7, k', rfl, s4, hp⟩
        obtain ⟨x2, q2, e2⟩ := hpk
        rw [List.length_map, List.drop_length, e2] at hp
        cases hp
    · rintro σ H2 ⟨v4, v5, v6, v7, k, p, st, row, rfl, s2, hrow, hst, hV, hkw, hrl, heq⟩
      rw [Nat.sub_self, V_zero_row, List.append_nil] at heq
      refine ⟨_, rfl, q H2 r s2 hr0 ?_⟩
      rw [hrow, heq]
end
end Wk

/-! ### of -/
namespace Wk
open PySem PySem.Spec PyProof.Rows L2
def spTop (K : PySem.W.Frag) : Sp := fun vs H Q _ => ∃ (s n : Int) (k : Nat) (b : Addr) (m : List Int), vs = [.int s, .int n, nV k, .ref b] ∧ SqL K H b (m.map V.int) ∧ m.length ≤ 32 ∧
  ∀ H' p, H' p = some (.lst ((Arr.ofM s n (k : Int) m).map V.int)) → Q (.ref p) H'
section
variable {P : Program} {w : World} {K : PySem.W.Frag} {mg : Str → Option Value} {base : Heap} {c : Cl}
abbrev sTop : Stmt := top 14
theorem ok_top {f : Addr} {fd : FuncData} {t t2 : Tok} (F : Fun K "of" "of" sTop f fd) (KT : Kinds2 P w K mg base c) (KF : FnAt P w K mg base 3 "kind_from" ["sort", "n", "more"] (spKind K c)) (RO : FnAt P w K mg base 3 "row_of" ["kind", "place"] (spRow c)) (hN : mg "NONE" = some (.int (-1) t)) (hS : mg "NOT_SO" = some (.int (-2) t2)) :
    FnOk P w K mg base CX0 4 f fd ["sort", "n", "number", "more"] (spTop K) := by
  have sc : FnScope ["sort", "n", "number", "more", "kind"] ["sort", "n", "number", "more"] (defScope sTop) := ⟨rfl, rfl, rfl, by decide +kernel, rfl, by decide +kernel, by decide +kernel⟩
  obtain ⟨g, gd, gm, gk, G, gb⟩ := KF
  obtain ⟨g2, gd2, gm2, gk2, G2, gb2⟩ := RO
  refine F.ok sc (fun vs H Q E h => ?_) (fun cdv A outer s H vs Q E hr h => ⟨_, pss_cons (ps_set (i := 4) sc.nd rfl (.inl rfl) (pe_call G hr rfl gm gk gb .nil pass0 (pa_cons (pv 0) (pa_cons (pv 1) (pa_cons (pv 3) pa_nil)))))
    (pss_cons (ps_if (pt_cmpR op_isN (pv 4) pe_non (nomark _)) (pss_one (ps_ret (pe_lst (pa_cons (pe_glob (v := .int (-2)) rfl hS ⟨_, rfl⟩) pa_nil)))) pss_nil)
    (pss_cons (ps_if (pt_cmpR n_ge (pv 2) (pe_km (c := c) (i := 4) (m := "ways") (sp := spWays c) (t := tCons (tKM c 4 "begin" (spBegin c) tNil) tNil) (.inr (.inr (.inr rfl))) (fun j hj => by
        obtain ⟨f, fd, M, F, b⟩ := KT.k.way j hj
        exact pe_meth (pv 4) (KT.k.ok.cls j hj) M F (hr.mono (by decide)) b .nil pass0 (pa_cons (pe_km (c := c) (i := 4) (m := "begin") (sp := spBegin c) (t := tNil) (.inl rfl) (fun j hj => by
          obtain ⟨f, fd, M, F, b⟩ := KT.k.beg j hj
          exact pe_meth0 (pv 4) (KT.k.ok.cls j hj) M F (hr.mono (by decide)) b .nil pass0)) pa_nil))) (nomark _)) (pss_one (ps_ret (pe_lst (pa_cons (pe_glob (v := .int (-1)) rfl hN ⟨_, rfl⟩) pa_nil)))) pss_nil)
    (pss_one (ps_ret (pe_op op_cat (pe_lst (pa_cons (pe_fld (pv 4) rfl) pa_nil)) (pe_call G2 hr rfl gm2 gk2 gb2 .nil pass0 (pa_cons (pv 4) (pa_cons (pv 2) pa_nil)))))))), ?_⟩)
  · obtain ⟨s, n, k, b, m, rfl, _⟩ := h
    rfl
  · obtain ⟨z, n, k, b, m, rfl, hb, hm, q⟩ := h
    unfold Arr.ofM at q
    refine ⟨_, rfl, _, rfl, _, rfl, z, n, b, m, rfl, hb, hm, fun H1 e s1 => ?_, fun H1 a d e s1 kd => ?_⟩
    · refine ⟨_, rfl, rfl, _, rfl, ifT (decide_eq_true rfl) ⟨one_line, fun p hp => q _ p ?_⟩⟩
      rw [upd_same, e]
      rfl
    · refine ⟨_, rfl, rfl, _, rfl, ifF (decide_eq_false fun z => nomatch z) ?_⟩
      refine ⟨_, rfl, a, d, rfl, kd, a, d, rfl, kd, a, d, rfl, rfl, kd, fun H2 p s2 st => ?_⟩
      refine ⟨a, p, d, d.begin, d.len, rfl, rfl, kd.same s2, st, Arr.V_begin d, Nat.le_refl _, fun H3 s3 => ?_⟩
      have s4 := Same.trans s2 s3
      have kd3 := kd.same s4
      refine ⟨k, d.ways d.begin, rfl, rfl, trivial, _, rfl, ?_⟩
      rw [e] at q
      by_cases cc : k < d.ways d.begin
      · refine ifF (decide_eq_false (by omega)) ?_
        obtain ⟨dx, fs, h1, _, _, _, _, h2⟩ := kd3.ins
        refine ⟨_, rfl, a, _, dx, fs, _, rfl, h1, KT.k.ok.cls (ix d) (ix_lt d), KT.k.ok.nLen (ix d) (ix_lt d), h2, one_line, fun u hu => ?_⟩
        refine ⟨_, rfl, _, rfl, a, d, k, rfl, kd3.same (Same.new hu), cc, fun H4 r s5 hr5 hrow => ?_⟩
        have hl := Arr.rowAt_length (Arr.good d) d.len d.begin k (Arr.V_begin d) cc
        have hs := len_small kd.1
        refine ⟨u, r, _, _, rfl, rfl, s5 _ _ upd_same, hrow, ?_, fun y hy => q _ y ?_⟩
        · rw [List.length_map, hl, sizeLine_eq]
          show 1 + d.len ≤ 16777216
          omega
        · rw [upd_same]
          show some (HO.lst (nV d.len :: nVs (Arr.rowAt d.kind d.len d.begin k))) = some (HO.lst ((if k < d.ways d.begin then ((d.len : Nat) : Int) :: (Arr.rowAt d.kind d.len d.begin k).map (fun (x : Nat) => (x : Int)) else [-1]).map V.int))
          rw [if_pos cc, ints_nVs]
          rfl
      · refine ifT (decide_eq_true (by omega)) ⟨one_line, fun u hu => q _ u ?_⟩
        rw [upd_same]
        show some (HO.lst [V.int (-1)]) = some (HO.lst ((if k < d.ways d.begin then ((d.len : Nat) : Int) :: (Arr.rowAt d.kind d.len d.begin k).map (fun (x : Nat) => (x : Int)) else [-1]).map V.int))
        rw [if_neg cc]
        rfl
open PySem.W (Codec) in
theorem top_ask (K : PySem.W.Frag) (H : Hp) (xs : List V) (a : Codec.denoteAll PySem.Challenge.rw_arrangements_s02_of.args) (hO : OnlyF H) (hwi : Codec.withinAll PySem.Challenge.rw_arrangements_s02_of.args a = true)
    (hask : Codec.app PySem.Challenge.rw_arrangements_s02_of.args PySem.Challenge.rw_arrangements_s02_of.asked a = true) (hx : DwAll K H xs (Codec.encAll PySem.Challenge.rw_arrangements_s02_of.args a)) :
    spTop K xs H (fun v H' => Dw K H' v (PySem.Challenge.rw_arrangements_s02_of.ret.enc (Codec.app PySem.Challenge.rw_arrangements_s02_of.args PySem.Challenge.rw_arrangements_s02_of.f a))) fun _ _ _ => False := by
  obtain ⟨z, n, k, m, u⟩ := a
  cases hx with
  | cons h1 hx => cases hx with
    | cons h2 hx => cases hx with
      | cons h3 hx => cases hx with
        | cons h4 hx =>
          cases hx
          cases h1
          cases h2
          cases h3
          cases h4 with
          | lst hs ha =>
            have e := L2.ints_dw m _ ha
            subst e
            have q : (Codec.inInt (-2147483648) 2147483647 z && (Codec.inInt (-2147483648) 2147483647 n && (Codec.inInt 0 340282366920938463463374607431768211455 k && ((Codec.inLen 0 32 m && m.all (Codec.inInt (-2147483648) 2147483647)) && true)))) = true := hwi
            simp only [Bool.and_eq_true] at q
            have hk : 0 ≤ k := (Codec.inInt_iff.mp q.2.2.1).1
            obtain ⟨j, rfl⟩ : ∃ j : Nat, k = (j : Int) := ⟨Int.toNat k, (Int.toNat_of_nonneg hk).symm⟩
            refine ⟨z, n, j, _, m, rfl, hs, (Codec.inNat_iff.mp q.2.2.2.1.1).2, fun H' p hp => ?_⟩
            show Dw K H' (.ref p) (.list ((PySw17.of z n (j : Int) m).map PySem.W.WData.int))
            rw [Arr.of_is z n (j : Int) m hask]
            exact .lst (L2.SqL.of hp) (L2.dw_ints _)
end
end Wk

/-! ### What the top has written -/
namespace Wk
open PySem PySem.Spec PyProof.Rows L2
theorem all_mk {P : Program} {w : World} {K : PySem.W.Frag} {h : Heap} {mg : Str → Option Value} {fa C0 C1 C2 C3 C4 C5 ff0 ff1 ff2 ff3 ff4 fm00 fm01 fm04 fm02 fm03 fm10 fm11 fm14 fm12 fm13 fm20 fm21 fm24 fm22 fm23 fm30 fm31 fm34 fm32 fm33 fm40 fm41 fm44 fm42 fm43 fm50 fm51 fm54 fm52 fm53 : Addr} (X : K.In h) (G : h.Ns mainGlobals mg) (hfa : mg "of" = some (.ref fa))
    {odf0 anf0 odf1 anf1 odf2 anf2 odf3 anf3 odf4 anf4 odm00 anm00 odm01 anm01 odm04 anm04 odm02 anm02 odm03 anm03 odm10 anm10 odm11 anm11 odm14 anm14 odm12 anm12 odm13 anm13 odm20 anm20 odm21 anm21 odm24 anm24 odm22 anm22 odm23 anm23 odm30 anm30 odm31 anm31 odm34 anm34 odm32 anm32 odm33 anm33 odm40 anm40 odm41 anm41 odm44 anm44 odm42 anm42 odm43 anm43 odm50 anm50 odm51 anm51 odm54 anm54 odm52 anm52 odm53 anm53 : Option Addr} {slf0 slf1 slf2 slf3 slf4 slm00 slm01 slm04 slm02 slm03 slm10 slm11 slm14 slm12 slm13 slm20 slm21 slm24 slm22 slm23 slm30 slm31 slm34 slm32 slm33 slm40 slm41 slm44 slm42 slm43 slm50 slm51 slm54 slm52 slm53 : Array (Option Value)} {ocf0 kVf0 dcf0 pmf0 cdf0 ctf0 ocf1 kVf1 dcf1 pmf1 cdf1 ctf1 ocf2 kVf2 dcf2 pmf2 cdf2 ctf2 ocf3 kVf3 dcf3 pmf3 cdf3 ctf3 ocf4 kVf4 dcf4 pmf4 cdf4 ctf4 ocm00 kVm00 dcm00 pmm00 cdm00 ctm00 ocm01 kVm01 dcm01 pmm01 cdm01 ctm01 ocm04 kVm04 dcm04 pmm04 cdm04 ctm04 ocm02 kVm02 dcm02 pmm02 cdm02 ctm02 ocm03 kVm03 dcm03 pmm03 cdm03 ctm03 ocm10 kVm10 dcm10 pmm10 cdm10 ctm10 ocm11 kVm11 dcm11 pmm11 cdm11 ctm11 ocm14 kVm14 dcm14 pmm14 cdm14 ctm14 ocm12 kVm12 dcm12 pmm12 cdm12 ctm12 ocm13 kVm13 dcm13 pmm13 cdm13 ctm13 ocm20 kVm20 dcm20 pmm20 cdm20 ctm20 ocm21 kVm21 dcm21 pmm21 cdm21 ctm21 ocm24 kVm24 dcm24 pmm24 cdm24 ctm24 ocm22 kVm22 dcm22 pmm22 cdm22 ctm22 ocm23 kVm23 dcm23 pmm23 cdm23 ctm23 ocm30 kVm30 dcm30 pmm30 cdm30 ctm30 ocm31 kVm31 dcm31 pmm31 cdm31 ctm31 ocm34 kVm34 dcm34 pmm34 cdm34 ctm34 ocm32 kVm32 dcm32 pmm32 cdm32 ctm32 ocm33 kVm33 dcm33 pmm33 cdm33 ctm33 ocm40 kVm40 dcm40 pmm40 cdm40 ctm40 ocm41 kVm41 dcm41 pmm41 cdm41 ctm41 ocm44 kVm44 dcm44 pmm44 cdm44 ctm44 ocm42 kVm42 dcm42 pmm42 cdm42 ctm42 ocm43 kVm43 dcm43 pmm43 cdm43 ctm43 ocm50 kVm50 dcm50 pmm50 cdm50 ctm50 ocm51 kVm51 dcm51 pmm51 cdm51 ctm51 ocm54 kVm54 dcm54 pmm54 cdm54 ctm54 ocm52 kVm52 dcm52 pmm52 cdm52 ctm52 ocm53 kVm53 dcm53 pmm53 cdm53 ctm53 : Value} {t_NONE t_NOT_SO : Tok}
    (aC0 : PySem.W.nsIn K mainGlobals "Repeated" = some (some (.ref C0)))
    (aC1 : PySem.W.nsIn K mainGlobals "Chosen" = some (some (.ref C1)))
    (aC2 : PySem.W.nsIn K mainGlobals "Balanced" = some (some (.ref C2)))
    (aC3 : PySem.W.nsIn K mainGlobals "Growing" = some (some (.ref C3)))
    (aC4 : PySem.W.nsIn K mainGlobals "Parted" = some (some (.ref C4)))
    (aC5 : PySem.W.nsIn K mainGlobals "Displaced" = some (some (.ref C5)))
    (af0 : PySem.W.nsIn K mainGlobals "choose" = some (some (.ref ff0)))
    (lf0 : K.lookup ff0 = some ⟨ocf0, odf0, .func (PySem.W.fnOf "choose" "choose" (defArgs (top 1)) (defBody (top 1)) (defScope (top 1)) .none kVf0 dcf0 pmf0 anf0 cdf0 ctf0), slf0⟩)
    (cf0 : PySem.W.codeIn K cdf0 "choose" = true)
    (kf0 : PySem.W.keepIn K (.ref ff0) = true)
    (af1 : PySem.W.nsIn K mainGlobals "factorial" = some (some (.ref ff1)))
    (lf1 : K.lookup ff1 = some ⟨ocf1, odf1, .func (PySem.W.fnOf "factorial" "factorial" (defArgs (top 2)) (defBody (top 2)) (defScope (top 2)) .none kVf1 dcf1 pmf1 anf1 cdf1 ctf1), slf1⟩)
    (cf1 : PySem.W.codeIn K cdf1 "factorial" = true)
    (kf1 : PySem.W.keepIn K (.ref ff1) = true)
    (af2 : PySem.W.nsIn K mainGlobals "kind_from" = some (some (.ref ff2)))
    (lf2 : K.lookup ff2 = some ⟨ocf2, odf2, .func (PySem.W.fnOf "kind_from" "kind_from" (defArgs (top 9)) (defBody (top 9)) (defScope (top 9)) .none kVf2 dcf2 pmf2 anf2 cdf2 ctf2), slf2⟩)
    (cf2 : PySem.W.codeIn K cdf2 "kind_from" = true)
    (kf2 : PySem.W.keepIn K (.ref ff2) = true)
    (af3 : PySem.W.nsIn K mainGlobals "row_of" = some (some (.ref ff3)))
    (lf3 : K.lookup ff3 = some ⟨ocf3, odf3, .func (PySem.W.fnOf "row_of" "row_of" (defArgs (top 13)) (defBody (top 13)) (defScope (top 13)) .none kVf3 dcf3 pmf3 anf3 cdf3 ctf3), slf3⟩)
    (cf3 : PySem.W.codeIn K cdf3 "row_of" = true)
    (kf3 : PySem.W.keepIn K (.ref ff3) = true)
    (af4 : PySem.W.nsIn K mainGlobals "of" = some (some (.ref ff4)))
    (lf4 : K.lookup ff4 = some ⟨ocf4, odf4, .func (PySem.W.fnOf "of" "of" (defArgs (top 14)) (defBody (top 14)) (defScope (top 14)) .none kVf4 dcf4 pmf4 anf4 cdf4 ctf4), slf4⟩)
    (cf4 : PySem.W.codeIn K cdf4 "of" = true)
    (kf4 : PySem.W.keepIn K (.ref ff4) = true)
    (am00 : PySem.W.findIn K (.ref C0) "__init__" = some (some (.ref fm00)))
    (im00 : PySem.W.isFn K (.ref fm00) = true)
    (lm00 : K.lookup fm00 = some ⟨ocm00, odm00, .func (PySem.W.fnOf "__init__" "Repeated.__init__" (defArgs (sM 3 0)) (defBody (sM 3 0)) (defScope (sM 3 0)) .none kVm00 dcm00 pmm00 anm00 cdm00 ctm00), slm00⟩)
    (cm00 : PySem.W.codeIn K cdm00 "Repeated.__init__" = true)
    (km00 : PySem.W.keepIn K (.ref fm00) = true)
    (am01 : PySem.W.findIn K (.ref C0) "begin" = some (some (.ref fm01)))
    (im01 : PySem.W.isFn K (.ref fm01) = true)
    (lm01 : K.lookup fm01 = some ⟨ocm01, odm01, .func (PySem.W.fnOf "begin" "Repeated.begin" (defArgs (sM 3 1)) (defBody (sM 3 1)) (defScope (sM 3 1)) .none kVm01 dcm01 pmm01 anm01 cdm01 ctm01), slm01⟩)
    (cm01 : PySem.W.codeIn K cdm01 "Repeated.begin" = true)
    (km01 : PySem.W.keepIn K (.ref fm01) = true)
    (am04 : PySem.W.findIn K (.ref C0) "ways" = some (some (.ref fm04)))
    (im04 : PySem.W.isFn K (.ref fm04) = true)
    (lm04 : K.lookup fm04 = some ⟨ocm04, odm04, .func (PySem.W.fnOf "ways" "Repeated.ways" (defArgs (sM 3 4)) (defBody (sM 3 4)) (defScope (sM 3 4)) .none kVm04 dcm04 pmm04 anm04 cdm04 ctm04), slm04⟩)
    (cm04 : PySem.W.codeIn K cdm04 "Repeated.ways" = true)
    (km04 : PySem.W.keepIn K (.ref fm04) = true)
    (am02 : PySem.W.findIn K (.ref C0) "numbers" = some (some (.ref fm02)))
    (im02 : PySem.W.isFn K (.ref fm02) = true)
    (lm02 : K.lookup fm02 = some ⟨ocm02, odm02, .func (PySem.W.fnOf "numbers" "Repeated.numbers" (defArgs (sM 3 2)) (defBody (sM 3 2)) (defScope (sM 3 2)) .none kVm02 dcm02 pmm02 anm02 cdm02 ctm02), slm02⟩)
    (cm02 : PySem.W.codeIn K cdm02 "Repeated.numbers" = true)
    (km02 : PySem.W.keepIn K (.ref fm02) = true)
    (am03 : PySem.W.findIn K (.ref C0) "behind" = some (some (.ref fm03)))
    (im03 : PySem.W.isFn K (.ref fm03) = true)
    (lm03 : K.lookup fm03 = some ⟨ocm03, odm03, .func (PySem.W.fnOf "behind" "Repeated.behind" (defArgs (sM 3 3)) (defBody (sM 3 3)) (defScope (sM 3 3)) .none kVm03 dcm03 pmm03 anm03 cdm03 ctm03), slm03⟩)
    (cm03 : PySem.W.codeIn K cdm03 "Repeated.behind" = true)
    (km03 : PySem.W.keepIn K (.ref fm03) = true)
    (am10 : PySem.W.findIn K (.ref C1) "__init__" = some (some (.ref fm10)))
    (im10 : PySem.W.isFn K (.ref fm10) = true)
    (lm10 : K.lookup fm10 = some ⟨ocm10, odm10, .func (PySem.W.fnOf "__init__" "Chosen.__init__" (defArgs (sM 4 0)) (defBody (sM 4 0)) (defScope (sM 4 0)) .none kVm10 dcm10 pmm10 anm10 cdm10 ctm10), slm10⟩)
    (cm10 : PySem.W.codeIn K cdm10 "Chosen.__init__" = true)
    (km10 : PySem.W.keepIn K (.ref fm10) = true)
    (am11 : PySem.W.findIn K (.ref C1) "begin" = some (some (.ref fm11)))
    (im11 : PySem.W.isFn K (.ref fm11) = true)
    (lm11 : K.lookup fm11 = some ⟨ocm11, odm11, .func (PySem.W.fnOf "begin" "Chosen.begin" (defArgs (sM 4 1)) (defBody (sM 4 1)) (defScope (sM 4 1)) .none kVm11 dcm11 pmm11 anm11 cdm11 ctm11), slm11⟩)
    (cm11 : PySem.W.codeIn K cdm11 "Chosen.begin" = true)
    (km11 : PySem.W.keepIn K (.ref fm11) = true)
    (am14 : PySem.W.findIn K (.ref C1) "ways" = some (some (.ref fm14)))
    (im14 : PySem.W.isFn K (.ref fm14) = true)
    (lm14 : K.lookup fm14 = some ⟨ocm14, odm14, .func (PySem.W.fnOf "ways" "Chosen.ways" (defArgs (sM 4 4)) (defBody (sM 4 4)) (defScope (sM 4 4)) .none kVm14 dcm14 pmm14 anm14 cdm14 ctm14), slm14⟩)
    (cm14 : PySem.W.codeIn K cdm14 "Chosen.ways" = true)
    (km14 : PySem.W.keepIn K (.ref fm14) = true)
    (am12 : PySem.W.findIn K (.ref C1) "numbers" = some (some (.ref fm12)))
    (im12 : PySem.W.isFn K (.ref fm12) = true)
    (lm12 : K.lookup fm12 = some ⟨ocm12, odm12, .func (PySem.W.fnOf "numbers" "Chosen.numbers" (defArgs (sM 4 2)) (defBody (sM 4 2)) (defScope (sM 4 2)) .none kVm12 dcm12 pmm12 anm12 cdm12 ctm12), slm12⟩)
    (cm12 : PySem.W.codeIn K cdm12 "Chosen.numbers" = true)
    (km12 : PySem.W.keepIn K (.ref fm12) = true)
    (am13 : PySem.W.findIn K (.ref C1) "behind" = some (some (.ref fm13)))
    (im13 : PySem.W.isFn K (.ref fm13) = true)
    (lm13 : K.lookup fm13 = some ⟨ocm13, odm13, .func (PySem.W.fnOf "behind" "Chosen.behind" (defArgs (sM 4 3)) (defBody (sM 4 3)) (defScope (sM 4 3)) .none kVm13 dcm13 pmm13 anm13 cdm13 ctm13), slm13⟩)
    (cm13 : PySem.W.codeIn K cdm13 "Chosen.behind" = true)
    (km13 : PySem.W.keepIn K (.ref fm13) = true)
    (am20 : PySem.W.findIn K (.ref C2) "__init__" = some (some (.ref fm20)))
    (im20 : PySem.W.isFn K (.ref fm20) = true)
    (lm20 : K.lookup fm20 = some ⟨ocm20, odm20, .func (PySem.W.fnOf "__init__" "Balanced.__init__" (defArgs (sM 5 0)) (defBody (sM 5 0)) (defScope (sM 5 0)) .none kVm20 dcm20 pmm20 anm20 cdm20 ctm20), slm20⟩)
    (cm20 : PySem.W.codeIn K cdm20 "Balanced.__init__" = true)
    (km20 : PySem.W.keepIn K (.ref fm20) = true)
    (am21 : PySem.W.findIn K (.ref C2) "begin" = some (some (.ref fm21)))
    (im21 : PySem.W.isFn K (.ref fm21) = true)
    (lm21 : K.lookup fm21 = some ⟨ocm21, odm21, .func (PySem.W.fnOf "begin" "Balanced.begin" (defArgs (sM 5 1)) (defBody (sM 5 1)) (defScope (sM 5 1)) .none kVm21 dcm21 pmm21 anm21 cdm21 ctm21), slm21⟩)
    (cm21 : PySem.W.codeIn K cdm21 "Balanced.begin" = true)
    (km21 : PySem.W.keepIn K (.ref fm21) = true)
    (am24 : PySem.W.findIn K (.ref C2) "ways" = some (some (.ref fm24)))
    (im24 : PySem.W.isFn K (.ref fm24) = true)
    (lm24 : K.lookup fm24 = some ⟨ocm24, odm24, .func (PySem.W.fnOf "ways" "Balanced.ways" (defArgs (sM 5 4)) (defBody (sM 5 4)) (defScope (sM 5 4)) .none kVm24 dcm24 pmm24 anm24 cdm24 ctm24), slm24⟩)
    (cm24 : PySem.W.codeIn K cdm24 "Balanced.ways" = true)
    (km24 : PySem.W.keepIn K (.ref fm24) = true)
    (am22 : PySem.W.findIn K (.ref C2) "numbers" = some (some (.ref fm22)))
    (im22 : PySem.W.isFn K (.ref fm22) = true)
    (lm22 : K.lookup fm22 = some ⟨ocm22, odm22, .func (PySem.W.fnOf "numbers" "Balanced.numbers" (defArgs (sM 5 2)) (defBody (sM 5 2)) (defScope (sM 5 2)) .none kVm22 dcm22 pmm22 anm22 cdm22 ctm22), slm22⟩)
    (cm22 : PySem.W.codeIn K cdm22 "Balanced.numbers" = true)
    (km22 : PySem.W.keepIn K (.ref fm22) = true)
    (am23 : PySem.W.findIn K (.ref C2) "behind" = some (some (.ref fm23)))
    (im23 : PySem.W.isFn K (.ref fm23) = true)
    (lm23 : K.lookup fm23 = some ⟨ocm23, odm23, .func (PySem.W.fnOf "behind" "Balanced.behind" (defArgs (sM 5 3)) (defBody (sM 5 3)) (defScope (sM 5 3)) .none kVm23 dcm23 pmm23 anm23 cdm23 ctm23), slm23⟩)
    (cm23 : PySem.W.codeIn K cdm23 "Balanced.behind" = true)
    (km23 : PySem.W.keepIn K (.ref fm23) = true)
    (am30 : PySem.W.findIn K (.ref C3) "__init__" = some (some (.ref fm30)))
    (im30 : PySem.W.isFn K (.ref fm30) = true)
    (lm30 : K.lookup fm30 = some ⟨ocm30, odm30, .func (PySem.W.fnOf "__init__" "Growing.__init__" (defArgs (sM 6 0)) (defBody (sM 6 0)) (defScope (sM 6 0)) .none kVm30 dcm30 pmm30 anm30 cdm30 ctm30), slm30⟩)
    (cm30 : PySem.W.codeIn K cdm30 "Growing.__init__" = true)
    (km30 : PySem.W.keepIn K (.ref fm30) = true)
    (am31 : PySem.W.findIn K (.ref C3) "begin" = some (some (.ref fm31)))
    (im31 : PySem.W.isFn K (.ref fm31) = true)
    (lm31 : K.lookup fm31 = some ⟨ocm31, odm31, .func (PySem.W.fnOf "begin" "Growing.begin" (defArgs (sM 6 1)) (defBody (sM 6 1)) (defScope (sM 6 1)) .none kVm31 dcm31 pmm31 anm31 cdm31 ctm31), slm31⟩)
    (cm31 : PySem.W.codeIn K cdm31 "Growing.begin" = true)
    (km31 : PySem.W.keepIn K (.ref fm31) = true)
    (am34 : PySem.W.findIn K (.ref C3) "ways" = some (some (.ref fm34)))
    (im34 : PySem.W.isFn K (.ref fm34) = true)
    (lm34 : K.lookup fm34 = some ⟨ocm34, odm34, .func (PySem.W.fnOf "ways" "Growing.ways" (defArgs (sM 6 4)) (defBody (sM 6 4)) (defScope (sM 6 4)) .none kVm34 dcm34 pmm34 anm34 cdm34 ctm34), slm34⟩)
    (cm34 : PySem.W.codeIn K cdm34 "Growing.ways" = true)
    (km34 : PySem.W.keepIn K (.ref fm34) = true)
    (am32 : PySem.W.findIn K (.ref C3) "numbers" = some (some (.ref fm32)))
    (im32 : PySem.W.isFn K (.ref fm32) = true)
    (lm32 : K.lookup fm32 = some ⟨ocm32, odm32, .func (PySem.W.fnOf "numbers" "Growing.numbers" (defArgs (sM 6 2)) (defBody (sM 6 2)) (defScope (sM 6 2)) .none kVm32 dcm32 pmm32 anm32 cdm32 ctm32), slm32⟩)
    (cm32 : PySem.W.codeIn K cdm32 "Growing.numbers" = true)
    (km32 : PySem.W.keepIn K (.ref fm32) = true)
    (am33 : PySem.W.findIn K (.ref C3) "behind" = some (some (.ref fm33)))
    (im33 : PySem.W.isFn K (.ref fm33) = true)
    (lm33 : K.lookup fm33 = some ⟨ocm33, odm33, .func (PySem.W.fnOf "behind" "Growing.behind" (defArgs (sM 6 3)) (defBody (sM 6 3)) (defScope (sM 6 3)) .none kVm33 dcm33 pmm33 anm33 cdm33 ctm33), slm33⟩)
    (cm33 : PySem.W.codeIn K cdm33 "Growing.behind" = true)
    (km33 : PySem.W.keepIn K (.ref fm33) = true)
    (am40 : PySem.W.findIn K (.ref C4) "__init__" = some (some (.ref fm40)))
    (im40 : PySem.W.isFn K (.ref fm40) = true)
    (lm40 : K.lookup fm40 = some ⟨ocm40, odm40, .func (PySem.W.fnOf "__init__" "Parted.__init__" (defArgs (sM 7 0)) (defBody (sM 7 0)) (defScope (sM 7 0)) .none kVm40 dcm40 pmm40 anm40 cdm40 ctm40), slm40⟩)
    (cm40 : PySem.W.codeIn K cdm40 "Parted.__init__" = true)
    (km40 : PySem.W.keepIn K (.ref fm40) = true)
    (am41 : PySem.W.findIn K (.ref C4) "begin" = some (some (.ref fm41)))
    (im41 : PySem.W.isFn K (.ref fm41) = true)
    (lm41 : K.lookup fm41 = some ⟨ocm41, odm41, .func (PySem.W.fnOf "begin" "Parted.begin" (defArgs (sM 7 1)) (defBody (sM 7 1)) (defScope (sM 7 1)) .none kVm41 dcm41 pmm41 anm41 cdm41 ctm41), slm41⟩)
    (cm41 : PySem.W.codeIn K cdm41 "Parted.begin" = true)
    (km41 : PySem.W.keepIn K (.ref fm41) = true)
    (am44 : PySem.W.findIn K (.ref C4) "ways" = some (some (.ref fm44)))
    (im44 : PySem.W.isFn K (.ref fm44) = true)
    (lm44 : K.lookup fm44 = some ⟨ocm44, odm44, .func (PySem.W.fnOf "ways" "Parted.ways" (defArgs (sM 7 4)) (defBody (sM 7 4)) (defScope (sM 7 4)) .none kVm44 dcm44 pmm44 anm44 cdm44 ctm44), slm44⟩)
    (cm44 : PySem.W.codeIn K cdm44 "Parted.ways" = true)
    (km44 : PySem.W.keepIn K (.ref fm44) = true)
    (am42 : PySem.W.findIn K (.ref C4) "numbers" = some (some (.ref fm42)))
    (im42 : PySem.W.isFn K (.ref fm42) = true)
    (lm42 : K.lookup fm42 = some ⟨ocm42, odm42, .func (PySem.W.fnOf "numbers" "Parted.numbers" (defArgs (sM 7 2)) (defBody (sM 7 2)) (defScope (sM 7 2)) .none kVm42 dcm42 pmm42 anm42 cdm42 ctm42), slm42⟩)
    (cm42 : PySem.W.codeIn K cdm42 "Parted.numbers" = true)
    (km42 : PySem.W.keepIn K (.ref fm42) = true)
    (am43 : PySem.W.findIn K (.ref C4) "behind" = some (some (.ref fm43)))
    (im43 : PySem.W.isFn K (.ref fm43) = true)
    (lm43 : K.lookup fm43 = some ⟨ocm43, odm43, .func (PySem.W.fnOf "behind" "Parted.behind" (defArgs (sM 7 3)) (defBody (sM 7 3)) (defScope (sM 7 3)) .none kVm43 dcm43 pmm43 anm43 cdm43 ctm43), slm43⟩)
    (cm43 : PySem.W.codeIn K cdm43 "Parted.behind" = true)
    (km43 : PySem.W.keepIn K (.ref fm43) = true)
    (am50 : PySem.W.findIn K (.ref C5) "__init__" = some (some (.ref fm50)))
    (im50 : PySem.W.isFn K (.ref fm50) = true)
    (lm50 : K.lookup fm50 = some ⟨ocm50, odm50, .func (PySem.W.fnOf "__init__" "Displaced.__init__" (defArgs (sM 8 0)) (defBody (sM 8 0)) (defScope (sM 8 0)) .none kVm50 dcm50 pmm50 anm50 cdm50 ctm50), slm50⟩)
    (cm50 : PySem.W.codeIn K cdm50 "Displaced.__init__" = true)
    (km50 : PySem.W.keepIn K (.ref fm50) = true)
    (am51 : PySem.W.findIn K (.ref C5) "begin" = some (some (.ref fm51)))
    (im51 : PySem.W.isFn K (.ref fm51) = true)
    (lm51 : K.lookup fm51 = some ⟨ocm51, odm51, .func (PySem.W.fnOf "begin" "Displaced.begin" (defArgs (sM 8 1)) (defBody (sM 8 1)) (defScope (sM 8 1)) .none kVm51 dcm51 pmm51 anm51 cdm51 ctm51), slm51⟩)
    (cm51 : PySem.W.codeIn K cdm51 "Displaced.begin" = true)
    (km51 : PySem.W.keepIn K (.ref fm51) = true)
    (am54 : PySem.W.findIn K (.ref C5) "ways" = some (some (.ref fm54)))
    (im54 : PySem.W.isFn K (.ref fm54) = true)
    (lm54 : K.lookup fm54 = some ⟨ocm54, odm54, .func (PySem.W.fnOf "ways" "Displaced.ways" (defArgs (sM 8 4)) (defBody (sM 8 4)) (defScope (sM 8 4)) .none kVm54 dcm54 pmm54 anm54 cdm54 ctm54), slm54⟩)
    (cm54 : PySem.W.codeIn K cdm54 "Displaced.ways" = true)
    (km54 : PySem.W.keepIn K (.ref fm54) = true)
    (am52 : PySem.W.findIn K (.ref C5) "numbers" = some (some (.ref fm52)))
    (im52 : PySem.W.isFn K (.ref fm52) = true)
    (lm52 : K.lookup fm52 = some ⟨ocm52, odm52, .func (PySem.W.fnOf "numbers" "Displaced.numbers" (defArgs (sM 8 2)) (defBody (sM 8 2)) (defScope (sM 8 2)) .none kVm52 dcm52 pmm52 anm52 cdm52 ctm52), slm52⟩)
    (cm52 : PySem.W.codeIn K cdm52 "Displaced.numbers" = true)
    (km52 : PySem.W.keepIn K (.ref fm52) = true)
    (am53 : PySem.W.findIn K (.ref C5) "behind" = some (some (.ref fm53)))
    (im53 : PySem.W.isFn K (.ref fm53) = true)
    (lm53 : K.lookup fm53 = some ⟨ocm53, odm53, .func (PySem.W.fnOf "behind" "Displaced.behind" (defArgs (sM 8 3)) (defBody (sM 8 3)) (defScope (sM 8 3)) .none kVm53 dcm53 pmm53 anm53 cdm53 ctm53), slm53⟩)
    (cm53 : PySem.W.codeIn K cdm53 "Displaced.behind" = true)
    (km53 : PySem.W.keepIn K (.ref fm53) = true)
    (pg0 : PySem.W.plainGet K C0 Str.empty = true)
    (hd0 : PySem.W.hasDictIn K C0 = true)
    (po0 : PySem.W.plainOver K C0 = true)
    (sa0 : PySem.W.findIn K (.ref C0) "__setattr__" = some (some (.builtin "object.__setattr__")))
    (mk0 : PySem.W.makesIn K C0 = true)
    (kc0 : PySem.W.keepIn K (.ref C0) = true)
    (nl0 : PySem.W.findIn K (.ref C0) "length" = some none)
    (pg1 : PySem.W.plainGet K C1 Str.empty = true)
    (hd1 : PySem.W.hasDictIn K C1 = true)
    (po1 : PySem.W.plainOver K C1 = true)
    (sa1 : PySem.W.findIn K (.ref C1) "__setattr__" = some (some (.builtin "object.__setattr__")))
    (mk1 : PySem.W.makesIn K C1 = true)
    (kc1 : PySem.W.keepIn K (.ref C1) = true)
    (nl1 : PySem.W.findIn K (.ref C1) "length" = some none)
    (pg2 : PySem.W.plainGet K C2 Str.empty = true)
    (hd2 : PySem.W.hasDictIn K C2 = true)
    (po2 : PySem.W.plainOver K C2 = true)
    (sa2 : PySem.W.findIn K (.ref C2) "__setattr__" = some (some (.builtin "object.__setattr__")))
    (mk2 : PySem.W.makesIn K C2 = true)
    (kc2 : PySem.W.keepIn K (.ref C2) = true)
    (nl2 : PySem.W.findIn K (.ref C2) "length" = some none)
    (pg3 : PySem.W.plainGet K C3 Str.empty = true)
    (hd3 : PySem.W.hasDictIn K C3 = true)
    (po3 : PySem.W.plainOver K C3 = true)
    (sa3 : PySem.W.findIn K (.ref C3) "__setattr__" = some (some (.builtin "object.__setattr__")))
    (mk3 : PySem.W.makesIn K C3 = true)
    (kc3 : PySem.W.keepIn K (.ref C3) = true)
    (nl3 : PySem.W.findIn K (.ref C3) "length" = some none)
    (pg4 : PySem.W.plainGet K C4 Str.empty = true)
    (hd4 : PySem.W.hasDictIn K C4 = true)
    (po4 : PySem.W.plainOver K C4 = true)
    (sa4 : PySem.W.findIn K (.ref C4) "__setattr__" = some (some (.builtin "object.__setattr__")))
    (mk4 : PySem.W.makesIn K C4 = true)
    (kc4 : PySem.W.keepIn K (.ref C4) = true)
    (nl4 : PySem.W.findIn K (.ref C4) "length" = some none)
    (pg5 : PySem.W.plainGet K C5 Str.empty = true)
    (hd5 : PySem.W.hasDictIn K C5 = true)
    (po5 : PySem.W.plainOver K C5 = true)
    (sa5 : PySem.W.findIn K (.ref C5) "__setattr__" = some (some (.builtin "object.__setattr__")))
    (mk5 : PySem.W.makesIn K C5 = true)
    (kc5 : PySem.W.keepIn K (.ref C5) = true)
    (nl5 : PySem.W.findIn K (.ref C5) "length" = some none)
    (nx0 : PySem.W.findIn K (.ref C0) "times" = some none)
    (nx1 : PySem.W.findIn K (.ref C1) "many" = some none)
    (nx2 : PySem.W.findIn K (.ref C2) "table" = some none)
    (nx3 : PySem.W.findIn K (.ref C3) "table" = some none)
    (nx4 : PySem.W.findIn K (.ref C4) "table" = some none)
    (z_range : PySem.W.nsIn K mainGlobals "range" = some none)
    (z_tuple : PySem.W.nsIn K mainGlobals "tuple" = some none)
    (z_list : PySem.W.nsIn K mainGlobals "list" = some none)
    (z_sum : PySem.W.nsIn K mainGlobals "sum" = some none)
    (z_enumerate : PySem.W.nsIn K mainGlobals "enumerate" = some none)
    (z_max : PySem.W.nsIn K mainGlobals "max" = some none)
    (z_min : PySem.W.nsIn K mainGlobals "min" = some none)
    (z_len : PySem.W.nsIn K mainGlobals "len" = some none)
    (z_all : PySem.W.nsIn K mainGlobals "all" = some none)
    (g_NONE : PySem.W.nsIn K mainGlobals "NONE" = some (some (.int (-1) t_NONE)))
    (g_NOT_SO : PySem.W.nsIn K mainGlobals "NOT_SO" = some (some (.int (-2) t_NOT_SO)))
    : ∃ fd : FuncData, (∀ (s : Shared) (us : List Value), us.length = (["sort", "n", "number", "more"] : List Str).length → BindsTo s fd ⟨us, []⟩ ((["sort", "n", "number", "more"] : List Str).zip us)) ∧ ∀ base : Heap, K.In base → base.Ns mainGlobals mg → FnOk P w K mg base CX0 4 fa fd ["sort", "n", "number", "more"] (spTop K) := by
  have e := hfa.symm.trans (PySem.W.mg_of X G af4)
  cases e
  have B : Bi mg := ⟨PySem.W.mg_none_of X G z_range, PySem.W.mg_none_of X G z_tuple, PySem.W.mg_none_of X G z_list, PySem.W.mg_none_of X G z_sum, PySem.W.mg_none_of X G z_enumerate, PySem.W.mg_none_of X G z_max, PySem.W.mg_none_of X G z_min, PySem.W.mg_none_of X G z_len, PySem.W.mg_none_of X G z_all⟩
  have Ff0 := fun_mk (st := (top 1)) lf0 cf0 kf0
  have bf0 := Ff0.binds (ps := ["many", "some"]) fun _ _ _ _ _ _ us hl => match us, hl with | [_, _], _ => rfl
  have Ff1 := fun_mk (st := (top 2)) lf1 cf1 kf1
  have bf1 := Ff1.binds (ps := ["many"]) fun _ _ _ _ _ _ us hl => match us, hl with | [_], _ => rfl
  have Ff2 := fun_mk (st := (top 9)) lf2 cf2 kf2
  have bf2 := Ff2.binds (ps := ["sort", "n", "more"]) fun _ _ _ _ _ _ us hl => match us, hl with | [_, _, _], _ => rfl
  have Ff3 := fun_mk (st := (top 13)) lf3 cf3 kf3
  have bf3 := Ff3.binds (ps := ["kind", "place"]) fun _ _ _ _ _ _ us hl => match us, hl with | [_, _], _ => rfl
  have Ff4 := fun_mk (st := (top 14)) lf4 cf4 kf4
  have Fm00 := fun_mk (st := (sM 3 0)) lm00 cm00 km00
  have bm00 := Fm00.binds (ps := ["self", "times"]) fun _ _ _ _ _ _ us hl => match us, hl with | [_, _], _ => rfl
  have Fm01 := fun_mk (st := (sM 3 1)) lm01 cm01 km01
  have bm01 := Fm01.binds (ps := ["self"]) fun _ _ _ _ _ _ us hl => match us, hl with | [_], _ => rfl
  have Fm04 := fun_mk (st := (sM 3 4)) lm04 cm04 km04
  have bm04 := Fm04.binds (ps := ["self", "state"]) fun _ _ _ _ _ _ us hl => match us, hl with | [_, _], _ => rfl
  have Fm02 := fun_mk (st := (sM 3 2)) lm02 cm02 km02
  have bm02 := Fm02.binds (ps := ["self", "state"]) fun _ _ _ _ _ _ us hl => match us, hl with | [_, _], _ => rfl
  have Fm03 := fun_mk (st := (sM 3 3)) lm03 cm03 km03
  have bm03 := Fm03.binds (ps := ["self", "state", "number"]) fun _ _ _ _ _ _ us hl => match us, hl with | [_, _, _], _ => rfl
  have Fm10 := fun_mk (st := (sM 4 0)) lm10 cm10 km10
  have bm10 := Fm10.binds (ps := ["self", "many", "some"]) fun _ _ _ _ _ _ us hl => match us, hl with | [_, _, _], _ => rfl
  have Fm11 := fun_mk (st := (sM 4 1)) lm11 cm11 km11
  have bm11 := Fm11.binds (ps := ["self"]) fun _ _ _ _ _ _ us hl => match us, hl with | [_], _ => rfl
  have Fm14 := fun_mk (st := (sM 4 4)) lm14 cm14 km14
  have bm14 := Fm14.binds (ps := ["self", "state"]) fun _ _ _ _ _ _ us hl => match us, hl with | [_, _], _ => rfl
  have Fm12 := fun_mk (st := (sM 4 2)) lm12 cm12 km12
  have bm12 := Fm12.binds (ps := ["self", "state"]) fun _ _ _ _ _ _ us hl => match us, hl with | [_, _], _ => rfl
  have Fm13 := fun_mk (st := (sM 4 3)) lm13 cm13 km13
  have bm13 := Fm13.binds (ps := ["self", "state", "number"]) fun _ _ _ _ _ _ us hl => match us, hl with | [_, _, _], _ => rfl
  have Fm20 := fun_mk (st := (sM 5 0)) lm20 cm20 km20
  have bm20 := Fm20.binds (ps := ["self", "length"]) fun _ _ _ _ _ _ us hl => match us, hl with | [_, _], _ => rfl
  have Fm21 := fun_mk (st := (sM 5 1)) lm21 cm21 km21
  have bm21 := Fm21.binds (ps := ["self"]) fun _ _ _ _ _ _ us hl => match us, hl with | [_], _ => rfl
  have Fm24 := fun_mk (st := (sM 5 4)) lm24 cm24 km24
  have bm24 := Fm24.binds (ps := ["self", "state"]) fun _ _ _ _ _ _ us hl => match us, hl with | [_, _], _ => rfl
  have Fm22 := fun_mk (st := (sM 5 2)) lm22 cm22 km22
  have bm22 := Fm22.binds (ps := ["self", "state"]) fun _ _ _ _ _ _ us hl => match us, hl with | [_, _], _ => rfl
  have Fm23 := fun_mk (st := (sM 5 3)) lm23 cm23 km23
  have bm23 := Fm23.binds (ps := ["self", "state", "number"]) fun _ _ _ _ _ _ us hl => match us, hl with | [_, _, _], _ => rfl
  have Fm30 := fun_mk (st := (sM 6 0)) lm30 cm30 km30
  have bm30 := Fm30.binds (ps := ["self", "length"]) fun _ _ _ _ _ _ us hl => match us, hl with | [_, _], _ => rfl
  have Fm31 := fun_mk (st := (sM 6 1)) lm31 cm31 km31
  have bm31 := Fm31.binds (ps := ["self"]) fun _ _ _ _ _ _ us hl => match us, hl with | [_], _ => rfl
  have Fm34 := fun_mk (st := (sM 6 4)) lm34 cm34 km34
  have bm34 := Fm34.binds (ps := ["self", "state"]) fun _ _ _ _ _ _ us hl => match us, hl with | [_, _], _ => rfl
  have Fm32 := fun_mk (st := (sM 6 2)) lm32 cm32 km32
  have bm32 := Fm32.binds (ps := ["self", "state"]) fun _ _ _ _ _ _ us hl => match us, hl with | [_, _], _ => rfl
  have Fm33 := fun_mk (st := (sM 6 3)) lm33 cm33 km33
  have bm33 := Fm33.binds (ps := ["self", "state", "number"]) fun _ _ _ _ _ _ us hl => match us, hl with | [_, _, _], _ => rfl
  have Fm40 := fun_mk (st := (sM 7 0)) lm40 cm40 km40
  have bm40 := Fm40.binds (ps := ["self", "whole"]) fun _ _ _ _ _ _ us hl => match us, hl with | [_, _], _ => rfl
  have Fm41 := fun_mk (st := (sM 7 1)) lm41 cm41 km41
  have bm41 := Fm41.binds (ps := ["self"]) fun _ _ _ _ _ _ us hl => match us, hl with | [_], _ => rfl
  have Fm44 := fun_mk (st := (sM 7 4)) lm44 cm44 km44
  have bm44 := Fm44.binds (ps := ["self", "state"]) fun _ _ _ _ _ _ us hl => match us, hl with | [_, _], _ => rfl
  have Fm42 := fun_mk (st := (sM 7 2)) lm42 cm42 km42
  have bm42 := Fm42.binds (ps := ["self", "state"]) fun _ _ _ _ _ _ us hl => match us, hl with | [_, _], _ => rfl
  have Fm43 := fun_mk (st := (sM 7 3)) lm43 cm43 km43
  have bm43 := Fm43.binds (ps := ["self", "state", "number"]) fun _ _ _ _ _ _ us hl => match us, hl with | [_, _, _], _ => rfl
  have Fm50 := fun_mk (st := (sM 8 0)) lm50 cm50 km50
  have bm50 := Fm50.binds (ps := ["self", "length"]) fun _ _ _ _ _ _ us hl => match us, hl with | [_, _], _ => rfl
  have Fm51 := fun_mk (st := (sM 8 1)) lm51 cm51 km51
  have bm51 := Fm51.binds (ps := ["self"]) fun _ _ _ _ _ _ us hl => match us, hl with | [_], _ => rfl
  have Fm54 := fun_mk (st := (sM 8 4)) lm54 cm54 km54
  have bm54 := Fm54.binds (ps := ["self", "state"]) fun _ _ _ _ _ _ us hl => match us, hl with | [_, _], _ => rfl
  have Fm52 := fun_mk (st := (sM 8 2)) lm52 cm52 km52
  have bm52 := Fm52.binds (ps := ["self", "state"]) fun _ _ _ _ _ _ us hl => match us, hl with | [_, _], _ => rfl
  have Fm53 := fun_mk (st := (sM 8 3)) lm53 cm53 km53
  have bm53 := Fm53.binds (ps := ["self", "state", "number"]) fun _ _ _ _ _ _ us hl => match us, hl with | [_, _, _], _ => rfl
  refine ⟨(PySem.W.fnOf "of" "of" (defArgs (top 14)) (defBody (top 14)) (defScope (top 14)) .none kVf4 dcf4 pmf4 anf4 cdf4 ctf4), fun s us hu => match us, hu with | [_, _, _, _], _ => .of_eq rfl, fun base _ _ => ?_⟩
  have cls : ClsOk K ⟨C0, C1, C2, C3, C4, C5⟩ := ⟨fun j hj => match j, hj with | 0, _ => ⟨pg0, hd0, po0, sa0⟩ | 1, _ => ⟨pg1, hd1, po1, sa1⟩ | 2, _ => ⟨pg2, hd2, po2, sa2⟩ | 3, _ => ⟨pg3, hd3, po3, sa3⟩ | 4, _ => ⟨pg4, hd4, po4, sa4⟩ | 5, _ => ⟨pg5, hd5, po5, sa5⟩ | j + 6, h => absurd h (by omega),
    fun j hj => match j, hj with | 0, _ => nl0 | 1, _ => nl1 | 2, _ => nl2 | 3, _ => nl3 | 4, _ => nl4 | 5, _ => nl5 | j + 6, h => absurd h (by omega)⟩
  have N : Nos K ⟨C0, C1, C2, C3, C4, C5⟩ := ⟨cls, nx0, nx1, nx2, nx3, nx4⟩
  have CH : FnAt P w K mg base 1 "choose" ["many", "some"] spChoose := ⟨_, _, PySem.W.mg_of X G af0, kf0, ok_choose Ff0 B, bf0⟩
  have FA : FnAt P w K mg base 1 "factorial" ["many"] spFact := ⟨_, _, PySem.W.mg_of X G af1, kf1, ok_fact Ff1 B, bf1⟩
  have M : Makers P w K mg base ⟨C0, C1, C2, C3, C4, C5⟩ := ⟨⟨_, _, PySem.W.mg_of X G aC0, ⟨mk0, am00, im00, kc0⟩, ok_init0 Fm00 N B, bm00⟩,
    ⟨_, _, PySem.W.mg_of X G aC1, ⟨mk1, am10, im10, kc1⟩, ok_init1 Fm10 N, bm10⟩,
    ⟨_, _, PySem.W.mg_of X G aC2, ⟨mk2, am20, im20, kc2⟩, ok_init2 Fm20 N B, bm20⟩,
    ⟨_, _, PySem.W.mg_of X G aC3, ⟨mk3, am30, im30, kc3⟩, ok_init3 Fm30 N B, bm30⟩,
    ⟨_, _, PySem.W.mg_of X G aC4, ⟨mk4, am40, im40, kc4⟩, ok_init4 Fm40 N B, bm40⟩,
    ⟨_, _, PySem.W.mg_of X G aC5, ⟨mk5, am50, im50, kc5⟩, ok_init5 Fm50 N, bm50⟩⟩
  have KF : FnAt P w K mg base 3 "kind_from" ["sort", "n", "more"] (spKind K ⟨C0, C1, C2, C3, C4, C5⟩) := ⟨_, _, PySem.W.mg_of X G af2, kf2, ok_kind Ff2 B M, bf2⟩
  have KS : Kinds P w K mg base ⟨C0, C1, C2, C3, C4, C5⟩ := ⟨cls, fun j hj => match j, hj with | 0, _ => ⟨_, _, ⟨am01, im01, km01⟩, ok_begin0 Fm01 N, bm01⟩ | 1, _ => ⟨_, _, ⟨am11, im11, km11⟩, ok_begin1 Fm11 N, bm11⟩ | 2, _ => ⟨_, _, ⟨am21, im21, km21⟩, ok_begin2 Fm21 N, bm21⟩ | 3, _ => ⟨_, _, ⟨am31, im31, km31⟩, ok_begin3 Fm31 N, bm31⟩ | 4, _ => ⟨_, _, ⟨am41, im41, km41⟩, ok_begin4 Fm41 N, bm41⟩ | 5, _ => ⟨_, _, ⟨am51, im51, km51⟩, ok_begin5 Fm51 N B, bm51⟩ | j + 6, h => absurd h (by omega),
    fun j hj => match j, hj with | 0, _ => ⟨_, _, ⟨am04, im04, km04⟩, ok_ways0 Fm04 CH, bm04⟩ | 1, _ => ⟨_, _, ⟨am14, im14, km14⟩, ok_ways1 Fm14 N CH, bm14⟩ | 2, _ => ⟨_, _, ⟨am24, im24, km24⟩, ok_ways2 Fm24 N, bm24⟩ | 3, _ => ⟨_, _, ⟨am34, im34, km34⟩, ok_ways3 Fm34 N, bm34⟩ | 4, _ => ⟨_, _, ⟨am44, im44, km44⟩, ok_ways4 Fm44 N, bm44⟩ | 5, _ => ⟨_, _, ⟨am54, im54, km54⟩, ok_ways5 Fm54 B CH FA, bm54⟩ | j + 6, h => absurd h (by omega)⟩
  have KT : Kinds2 P w K mg base ⟨C0, C1, C2, C3, C4, C5⟩ := ⟨KS, fun j hj => match j, hj with | 0, _ => ⟨_, _, ⟨am02, im02, km02⟩, ok_num0 Fm02 N B, bm02⟩ | 1, _ => ⟨_, _, ⟨am12, im12, km12⟩, ok_num1 Fm12 N B, bm12⟩ | 2, _ => ⟨_, _, ⟨am22, im22, km22⟩, ok_num2 Fm22 N, bm22⟩ | 3, _ => ⟨_, _, ⟨am32, im32, km32⟩, ok_num3 Fm32 N B, bm32⟩ | 4, _ => ⟨_, _, ⟨am42, im42, km42⟩, ok_num4 Fm42 N B, bm42⟩ | 5, _ => ⟨_, _, ⟨am52, im52, km52⟩, ok_num5 Fm52 N, bm52⟩ | j + 6, h => absurd h (by omega),
    fun j hj => match j, hj with | 0, _ => ⟨_, _, ⟨am03, im03, km03⟩, ok_beh0 Fm03 N B, bm03⟩ | 1, _ => ⟨_, _, ⟨am13, im13, km13⟩, ok_beh1 Fm13 N, bm13⟩ | 2, _ => ⟨_, _, ⟨am23, im23, km23⟩, ok_beh2 Fm23 N, bm23⟩ | 3, _ => ⟨_, _, ⟨am33, im33, km33⟩, ok_beh3 Fm33 N B, bm33⟩ | 4, _ => ⟨_, _, ⟨am43, im43, km43⟩, ok_beh4 Fm43 N, bm43⟩ | 5, _ => ⟨_, _, ⟨am53, im53, km53⟩, ok_beh5 Fm53 N B, bm53⟩ | j + 6, h => absurd h (by omega)⟩
  have RO : FnAt P w K mg base 3 "row_of" ["kind", "place"] (spRow ⟨C0, C1, C2, C3, C4, C5⟩) := ⟨_, _, PySem.W.mg_of X G af3, kf3, ok_row Ff3 B KT, bf3⟩
  exact ok_top Ff4 KT KF RO (PySem.W.mg_of X G g_NONE) (PySem.W.mg_of X G g_NOT_SO)
end Wk

open PySem PySem.W PyProof.Rows
set_option maxRecDepth 100000 in
set_option maxHeartbeats 8000000 in
theorem PySem.Challenge.cw_arrangements_s02_of_holds : PySem.Challenge.rw_arrangements_s02_of.Holds := by
  w_on; k_headS; (case hw => exact ⟨[.int 0, .int 0, .int 0, .list []], by decide +kernel, by decide +kernel⟩)
  k_fillS
  refine L2.walk_specK (r := PySem.Challenge.rw_arrangements_s02_of) (k := 4) (CX := L2.CX0) (ps := ["sort", "n", "number", "more"]) (sp := Wk.spTop) (by decide +kernel) rfl rfl ⟨rfl, by decide, by decide⟩ (fun w h Y => PySem.W.kIn_of Y) ?F ?S (fun _ _ _ _ z => z)
  case F =>
    intro w mg fa h Y KX G hmg
    refine' Wk.all_mk KX G hmg ?aC0 ?aC1 ?aC2 ?aC3 ?aC4 ?aC5 ?af0 ?lf0 ?cf0 ?kf0 ?af1 ?lf1 ?cf1 ?kf1 ?af2 ?lf2 ?cf2 ?kf2 ?af3 ?lf3 ?cf3 ?kf3 ?af4 ?lf4 ?cf4 ?kf4 ?am00 ?im00 ?lm00 ?cm00 ?km00 ?am01 ?im01 ?lm01 ?cm01 ?km01 ?am04 ?im04 ?lm04 ?cm04 ?km04 ?am02 ?im02 ?lm02 ?cm02 ?km02 ?am03 ?im03 ?lm03 ?cm03 ?km03 ?am10 ?im10 ?lm10 ?cm10 ?km10 ?am11 ?im11 ?lm11 ?cm11 ?km11 ?am14 ?im14 ?lm14 ?cm14 ?km14 ?am12 ?im12 ?lm12 ?cm12 ?km12 ?am13 ?im13 ?lm13 ?cm13 ?km13 ?am20 ?im20 ?lm20 ?cm20 ?km20 ?am21 ?im21 ?lm21 ?cm21 ?km21 ?am24 ?im24 ?lm24 ?cm24 ?km24 ?am22 ?im22 ?lm22 ?cm22 ?km22 ?am23 ?im23 ?lm23 ?cm23 ?km23 ?am30 ?im30 ?lm30 ?cm30 ?km30 ?am31 ?im31 ?lm31 ?cm31 ?km31 ?am34 ?im34 ?lm34 ?cm34 ?km34 ?am32 ?im32 ?lm32 ?cm32 ?km32 ?am33 ?im33 ?lm33 ?cm33 ?km33 ?am40 ?im40 ?lm40 ?cm40 ?km40 ?am41 ?im41 ?lm41 ?cm41 ?km41 ?am44 ?im44 ?lm44 ?cm44 ?km44 ?am42 ?im42 ?lm42 ?cm42 ?km42 ?am43 ?im43 ?lm43 ?cm43 ?km43 ?am50 ?im50 ?lm50 ?cm50 ?km50 ?am51 ?im51 ?lm51 ?cm51 ?km51 ?am54 ?im54 ?lm54 ?cm54 ?km54 ?am52 ?im52 ?lm52 ?cm52 ?km52 ?am53 ?im53 ?lm53 ?cm53 ?km53 ?pg0 ?hd0 ?po0 ?sa0 ?mk0 ?kc0 ?nl0 ?pg1 ?hd1 ?po1 ?sa1 ?mk1 ?kc1 ?nl1 ?pg2 ?hd2 ?po2 ?sa2 ?mk2 ?kc2 ?nl2 ?pg3 ?hd3 ?po3 ?sa3 ?mk3 ?kc3 ?nl3 ?pg4 ?hd4 ?po4 ?sa4 ?mk4 ?kc4 ?nl4 ?pg5 ?hd5 ?po5 ?sa5 ?mk5 ?kc5 ?nl5 ?nx0 ?nx1 ?nx2 ?nx3 ?nx4 ?z_range ?z_tuple ?z_list ?z_sum ?z_enumerate ?z_max ?z_min ?z_len ?z_all ?g_NONE ?g_NOT_SO
    (case aC0 => k_is)
    (case aC1 => k_is)
    (case aC2 => k_is)
    (case aC3 => k_is)
    (case aC4 => k_is)
    (case aC5 => k_is)
    (case af0 => k_is)
    (case lf0 => k_is)
    (case cf0 => k_is)
    (case kf0 => k_is)
    (case af1 => k_is)
    (case lf1 => k_is)
    (case cf1 => k_is)
    (case kf1 => k_is)
    (case af2 => k_is)
    (case lf2 => k_is)
    (case cf2 => k_is)
    (case kf2 => k_is)
    (case af3 => k_is)
    (case lf3 => k_is)
    (case cf3 => k_is)
    (case kf3 => k_is)
    (case af4 => k_is)
    (case lf4 => k_is)
    (case cf4 => k_is)
    (case kf4 => k_is)
    (case am00 => k_is)
    (case im00 => k_is)
    (case lm00 => k_is)
    (case cm00 => k_is)
    (case km00 => k_is)
    (case am01 => k_is)
    (case im01 => k_is)
    (case lm01 => k_is)
    (case cm01 => k_is)
    (case km01 => k_is)
    (case am04 => k_is)
    (case im04 => k_is)
    (case lm04 => k_is)
    (case cm04 => k_is)
    (case km04 => k_is)
    (case am02 => k_is)
    (case im02 => k_is)
    (case lm02 => k_is)
    (case cm02 => k_is)
    (case km02 => k_is)
    (case am03 => k_is)
    (case im03 => k_is)
    (case lm03 => k_is)
    (case cm03 => k_is)
    (case km03 => k_is)
    (case am10 => k_is)
    (case im10 => k_is)
    (case lm10 => k_is)
    (case cm10 => k_is)
    (case km10 => k_is)
    (case am11 => k_is)
    (case im11 => k_is)
    (case lm11 => k_is)
    (case cm11 => k_is)
    (case km11 => k_is)
    (case am14 => k_is)
    (case im14 => k_is)
    (case lm14 => k_is)
    (case cm14 => k_is)
    (case km14 => k_is)
    (case am12 => k_is)
    (case im12 => k_is)
    (case lm12 => k_is)
    (case cm12 => k_is)
    (case km12 => k_is)
    (case am13 => k_is)
    (case im13 => k_is)
    (case lm13 => k_is)
    (case cm13 => k_is)
    (case km13 => k_is)
    (case am20 => k_is)
    (case im20 => k_is)
    (case lm20 => k_is)
    (case cm20 => k_is)
    (case km20 => k_is)
    (case am21 => k_is)
    (case im21 => k_is)
    (case lm21 => k_is)
    (case cm21 => k_is)
    (case km21 => k_is)
    (case am24 => k_is)
    (case im24 => k_is)
    (case lm24 => k_is)
    (case cm24 => k_is)
    (case km24 => k_is)
    (case am22 => k_is)
    (case im22 => k_is)
    (case lm22 => k_is)
    (case cm22 => k_is)
    (case km22 => k_is)
    (case am23 => k_is)
    (case im23 => k_is)
    (case lm23 => k_is)
    (case cm23 => k_is)
    (case km23 => k_is)
    (case am30 => k_is)
    (case im30 => k_is)
    (case lm30 => k_is)
    (case cm30 => k_is)
    (case km30 => k_is)
    (case am31 => k_is)
    (case im31 => k_is)
    (case lm31 => k_is)
    (case cm31 => k_is)
    (case km31 => k_is)
    (case am34 => k_is)
    (case im34 => k_is)
    (case lm34 => k_is)
    (case cm34 => k_is)
    (case km34 => k_is)
    (case am32 => k_is)
    (case im32 => k_is)
    (case lm32 => k_is)
    (case cm32 => k_is)
    (case km32 => k_is)
    (case am33 => k_is)
    (case im33 => k_is)
    (case lm33 => k_is)
    (case cm33 => k_is)
    (case km33 => k_is)
    (case am40 => k_is)
    (case im40 => k_is)
    (case lm40 => k_is)
    (case cm40 => k_is)
    (case km40 => k_is)
    (case am41 => k_is)
    (case im41 => k_is)
    (case lm41 => k_is)
    (case cm41 => k_is)
    (case km41 => k_is)
    (case am44 => k_is)
    (case im44 => k_is)
    (case lm44 => k_is)
    (case cm44 => k_is)
    (case km44 => k_is)
    (case am42 => k_is)
    (case im42 => k_is)
    (case lm42 => k_is)
    (case cm42 => k_is)
    (case km42 => k_is)
    (case am43 => k_is)
    (case im43 => k_is)
    (case lm43 => k_is)
    (case cm43 => k_is)
    (case km43 => k_is)
    (case am50 => k_is)
    (case im50 => k_is)
    (case lm50 => k_is)
    (case cm50 => k_is)
    (case km50 => k_is)
    (case am51 => k_is)
    (case im51 => k_is)
    (case lm51 => k_is)
    (case cm51 => k_is)
    (case km51 => k_is)
    (case am54 => k_is)
    (case im54 => k_is)
    (case lm54 => k_is)
    (case cm54 => k_is)
    (case km54 => k_is)
    (case am52 => k_is)
    (case im52 => k_is)
    (case lm52 => k_is)
    (case cm52 => k_is)
    (case km52 => k_is)
    (case am53 => k_is)
    (case im53 => k_is)
    (case lm53 => k_is)
    (case cm53 => k_is)
    (case km53 => k_is)
    (case pg0 => k_is)
    (case hd0 => k_is)
    (case po0 => k_is)
    (case sa0 => k_is)
    (case mk0 => k_is)
    (case kc0 => k_is)
    (case nl0 => k_is)
    (case pg1 => k_is)
    (case hd1 => k_is)
    (case po1 => k_is)
    (case sa1 => k_is)
    (case mk1 => k_is)
    (case kc1 => k_is)
    (case nl1 => k_is)
    (case pg2 => k_is)
    (case hd2 => k_is)
    (case po2 => k_is)
    (case sa2 => k_is)
    (case mk2 => k_is)
    (case kc2 => k_is)
    (case nl2 => k_is)
    (case pg3 => k_is)
    (case hd3 => k_is)
    (case po3 => k_is)
    (case sa3 => k_is)
    (case mk3 => k_is)
    (case kc3 => k_is)
    (case nl3 => k_is)
    (case pg4 => k_is)
    (case hd4 => k_is)
    (case po4 => k_is)
    (case sa4 => k_is)
    (case mk4 => k_is)
    (case kc4 => k_is)
    (case nl4 => k_is)
    (case pg5 => k_is)
    (case hd5 => k_is)
    (case po5 => k_is)
    (case sa5 => k_is)
    (case mk5 => k_is)
    (case kc5 => k_is)
    (case nl5 => k_is)
    (case nx0 => k_is)
    (case nx1 => k_is)
    (case nx2 => k_is)
    (case nx3 => k_is)
    (case nx4 => k_is)
    (case z_range => k_is)
    (case z_tuple => k_is)
    (case z_list => k_is)
    (case z_sum => k_is)
    (case z_enumerate => k_is)
    (case z_max => k_is)
    (case z_min => k_is)
    (case z_len => k_is)
    (case z_all => k_is)
    (case g_NONE => k_is)
    (case g_NOT_SO => k_is)
  case S => exact Wk.top_ask
#print axioms PySem.Challenge.cw_arrangements_s02_of_holds
