import PyProof.Rows.All
import Wide.All
import OpenK.AllK
import Wide.FinOn
import Open.SpecLaws
import KE.OsGo
import HandS.ForSpec
import HandS.Codes
import HandS.Comp
import HandS.Wide
import HandS.WideMore
import HandS.WideBits
import HandS.Iter
import HandS.RevRange
import HandS.Style
import HandS.ListItems
import HandS.Flow
import HandS.Walk
import PyProof.AutoSeq1
import PySem.Challenge.RW_rootkeepers_s01_answers
set_option Elab.async false
set_option linter.all false
set_option maxRecDepth 100000
set_option maxHeartbeats 8000000
namespace RK
open Kqg1 (Poly)
abbrev ev (p : Poly) (t : Rat) : Rat := Kqg1.evaluate p t
abbrev co (p : Poly) (i : Nat) : Rat := Kqg1.coefficient p i

theorem ev_nil (t : Rat) : ev [] t = 0 := rfl
theorem ev_cons (c : Rat) (p : Poly) (t : Rat) : ev (c :: p) t = c + t * ev p t := rfl
theorem co_nil (i : Nat) : co [] i = 0 := by simp [co, Kqg1.coefficient]
theorem co_zero (c : Rat) (p : Poly) : co (c :: p) 0 = c := by simp [co, Kqg1.coefficient]
theorem co_succ (c : Rat) (p : Poly) (i : Nat) : co (c :: p) (i + 1) = co p i := by simp [co, Kqg1.coefficient]
theorem co_of_le {p : Poly} {i : Nat} (h : p.length ≤ i) : co p i = 0 := by
  simp only [co, Kqg1.coefficient, List.getD_eq_getElem?_getD, List.getElem?_eq_none h, Option.getD_none]
theorem co_getElem {p : Poly} {i : Nat} (h : i < p.length) : co p i = p[i] := by
  simp only [co, Kqg1.coefficient, List.getD_eq_getElem?_getD, List.getElem?_eq_getElem h, Option.getD_some]

theorem trim_nil : Kqg1.trim [] = [] := rfl
theorem trim_cons (c : Rat) (p : Poly) : Kqg1.trim (c :: p) = if Kqg1.trim p = [] then (if c = 0 then [] else [c]) else c :: Kqg1.trim p := by
  unfold Kqg1.trim
  rw [List.reverse_cons, List.dropWhile_append]
  by_cases h : (List.dropWhile (fun c => c == 0) p.reverse) = []
  · rw [h]
    by_cases hc : c = 0
    · simp [hc]
    · simp [hc]
  · have h' : ((List.dropWhile (fun c => c == 0) p.reverse).reverse = []) ↔ False := by simpa using h
    simp only [h', if_false]
    rw [if_neg (by simpa using h)]
    simp
theorem ev_congr : ∀ {p q : Poly} (t : Rat), (∀ i, co p i = co q i) → ev p t = ev q t
  | [], [], _, _ => rfl
  | [], b :: q, t, h => by
    have h0 := h 0
    have ih := ev_congr (p := []) (q := q) t (fun i => by have := h (i + 1); rw [co_succ, co_nil] at this; rw [co_nil]; exact this)
    rw [co_nil, co_zero] at h0
    rw [ev_cons, ← ih, ← h0, ev_nil]; grind
  | a :: p, [], t, h => by
    have h0 := h 0
    have ih := ev_congr (p := p) (q := []) t (fun i => by have := h (i + 1); rw [co_succ, co_nil] at this; rw [co_nil]; exact this)
    rw [co_nil, co_zero] at h0
    rw [ev_cons, ih, h0, ev_nil]; grind
  | a :: p, b :: q, t, h => by
    have h0 := h 0
    have ih := ev_congr (p := p) (q := q) t (fun i => by have := h (i + 1); rw [co_succ, co_succ] at this; exact this)
    rw [co_zero, co_zero] at h0
    rw [ev_cons, ev_cons, ih, h0]
theorem co_trim : ∀ (p : Poly) (i : Nat), co (Kqg1.trim p) i = co p i
  | [], i => rfl
  | c :: p, i => by
    rw [trim_cons]
    have ih := co_trim p
    split
    · rename_i h
      rw [h] at ih
      split
      · rename_i h0
        cases i with
        | zero => rw [co_nil, co_zero, h0]
        | succ i => rw [co_succ, co_nil, ← ih i, co_nil]
      · cases i with
        | zero => rw [co_zero, co_zero]
        | succ i => rw [co_succ, co_succ, ← ih i]
    · cases i with
      | zero => rw [co_zero, co_zero]
      | succ i => rw [co_succ, co_succ, ih i]
theorem trim_congr : ∀ {p q : Poly}, (∀ i, co p i = co q i) → Kqg1.trim p = Kqg1.trim q
  | [], [], _ => rfl
  | [], b :: q, h => by
    have h0 := h 0
    have ih := trim_congr (p := []) (q := q) (fun i => by have := h (i + 1); rw [co_succ, co_nil] at this; rw [co_nil]; exact this)
    rw [co_nil, co_zero] at h0
    rw [trim_cons, ← ih, trim_nil]; simp [← h0]
  | a :: p, [], h => by
    have h0 := h 0
    have ih := trim_congr (p := p) (q := []) (fun i => by have := h (i + 1); rw [co_succ, co_nil] at this; rw [co_nil]; exact this)
    rw [co_nil, co_zero] at h0
    rw [trim_cons, ih, trim_nil]; simp [h0]
  | a :: p, b :: q, h => by
    have h0 := h 0
    have ih := trim_congr (p := p) (q := q) (fun i => by have := h (i + 1); rw [co_succ, co_succ] at this; exact this)
    rw [co_zero, co_zero] at h0
    rw [trim_cons, trim_cons, ih, h0]
theorem ev_trim (p : Poly) (t : Rat) : ev (Kqg1.trim p) t = ev p t := ev_congr t (co_trim p)

/-- trimmed -/
def Tr (p : Poly) : Prop := Kqg1.trim p = p
theorem Tr.trim (p : Poly) : Tr (Kqg1.trim p) := trim_congr (co_trim p)
theorem Tr.ext {p q : Poly} (hp : Tr p) (hq : Tr q) (h : ∀ i, co p i = co q i) : p = q := by
  have := trim_congr h
  rw [hp, hq] at this
  exact this
theorem Tr.nil : Tr [] := rfl
theorem Tr.cons {c : Rat} {p : Poly} (hp : Tr p) (h : p ≠ [] ∨ c ≠ 0) : Tr (c :: p) := by
  unfold Tr
  rw [trim_cons, hp]
  grind
theorem Tr.tail {c : Rat} {p : Poly} (h : Tr (c :: p)) : Tr p := by
  unfold Tr at h
  rw [trim_cons] at h
  unfold Tr
  grind
/-- the last coefficient -/
theorem Tr.last : ∀ {p : Poly}, Tr p → p ≠ [] → co p (p.length - 1) ≠ 0
  | [c], h, _ => by
    unfold Tr at h
    rw [trim_cons, trim_nil] at h
    show co [c] 0 ≠ 0
    rw [co_zero]
    intro z
    simp [z] at h
  | c :: d :: p, h, _ => by
    have := Tr.last h.tail (by simp)
    simpa [co_succ] using this
theorem Tr.of_last : ∀ {p : Poly}, (p ≠ [] → co p (p.length - 1) ≠ 0) → Tr p
  | [], _ => rfl
  | [c], h => by
    have := h (by simp)
    have h' : c ≠ 0 := by simpa [co_zero] using this
    exact Tr.cons Tr.nil (.inr h')
  | c :: d :: p, h => by
    have := h (by simp)
    exact Tr.cons (Tr.of_last (p := d :: p) fun _ => by simpa [co_succ] using this) (.inl (by simp))
theorem Tr.length_le {p : Poly} (hp : Tr p) {n : Nat} (h : ∀ i, n ≤ i → co p i = 0) : p.length ≤ n := by
  cases hl : p.length with
  | zero => omega
  | succ m =>
    have hne : p ≠ [] := by intro z; simp [z] at hl
    have := hp.last hne
    apply Decidable.byContradiction
    intro hn
    exact this (h _ (by omega))
theorem length_trim_le (p : Poly) : (Kqg1.trim p).length ≤ p.length :=
  (Tr.trim p).length_le fun i hi => by rw [co_trim]; exact co_of_le hi
theorem Tr.length_of {p : Poly} {n : Nat} (hp : Tr p) (h : ∀ i, n < i → co p i = 0) (hn : co p n ≠ 0) : p.length = n + 1 := by
  have h1 := hp.length_le (n := n + 1) fun i hi => h i (by omega)
  have h2 : ¬ p.length ≤ n := fun z => hn (co_of_le z)
  omega
theorem Tr.lead {p : Poly} (hp : p ≠ []) : Kqg1.leadingCoefficient p = co p (p.length - 1) := by
  unfold Kqg1.leadingCoefficient
  have : 0 < p.length := List.length_pos_iff.mpr hp
  rw [co_getElem (by omega), List.getLast?_eq_getElem?, List.getElem?_eq_getElem (by omega)]
  rfl
theorem Tr.lead_ne {p : Poly} (h : Tr p) (hp : p ≠ []) : Kqg1.leadingCoefficient p ≠ 0 := by
  rw [Tr.lead hp]
  exact h.last hp

/-! ### a list by its places -/
theorem co_tab (n : Nat) (f : Nat → Rat) (i : Nat) : co ((List.range n).map f) i = if i < n then f i else 0 := by
  split
  · rename_i h
    rw [co_getElem (by simpa using h)]
    simp
  · rename_i h
    exact co_of_le (by simp; omega)
theorem co_map (f : Rat → Rat) (h0 : f 0 = 0) (p : Poly) (i : Nat) : co (p.map f) i = f (co p i) := by
  by_cases h : i < p.length
  · rw [co_getElem (by simpa using h), co_getElem h]
    simp
  · rw [co_of_le (by simp; omega), co_of_le (by omega), h0]
theorem co_add (p q : Poly) (i : Nat) : co (Kqg1.add p q) i = co p i + co q i := by
  unfold Kqg1.add
  rw [co_trim, co_tab]
  split
  · rfl
  · rw [co_of_le (p := p) (by omega), co_of_le (p := q) (by omega)]
    grind
theorem co_scale (c : Rat) (p : Poly) (i : Nat) : co (Kqg1.scale c p) i = c * co p i := by
  unfold Kqg1.scale
  rw [co_trim, co_map _ (by grind)]
theorem co_deriv (p : Poly) (i : Nat) : co (Kqg1.derivative p) i = ((i + 1 : Nat) : Rat) * co p (i + 1) := by
  unfold Kqg1.derivative
  rw [co_trim, co_tab]
  split
  · rfl
  · rw [co_of_le (p := p) (by omega)]
    grind
theorem Tr.add (p q : Poly) : Tr (Kqg1.add p q) := Tr.trim _
theorem Tr.scale (c : Rat) (p : Poly) : Tr (Kqg1.scale c p) := Tr.trim _
theorem Tr.deriv (p : Poly) : Tr (Kqg1.derivative p) := Tr.trim _
theorem Tr.multiply (p q : Poly) : Tr (Kqg1.multiply p q) := Tr.trim _

/-! ### sums -/
theorem foldl_add_start : ∀ (l : List Rat) (a : Rat), l.foldl (fun x y => x + y) a = a + l.foldl (fun x y => x + y) 0
  | [], a => by simp [Rat.add_zero]
  | x :: l, a => by
    rw [List.foldl_cons, List.foldl_cons, foldl_add_start l (a + x), foldl_add_start l (0 + x)]
    grind
def conv (p q : Poly) (i : Nat) : Rat := ((List.range (i + 1)).map fun j => co p j * co q (i - j)).foldl (fun x y => x + y) 0
theorem foldl_zero : ∀ (l : List Nat) (f : Nat → Rat), (∀ j ∈ l, f j = 0) → (l.map f).foldl (fun x y => x + y) 0 = 0
  | [], _, _ => rfl
  | x :: l, f, h => by
    rw [List.map_cons, List.foldl_cons, foldl_add_start, foldl_zero l f (fun j hj => h j (List.mem_cons_of_mem _ hj)), h x List.mem_cons_self]
    grind
theorem conv_nil (q : Poly) (i : Nat) : conv [] q i = 0 := foldl_zero _ _ fun j _ => by rw [co_nil]; grind
theorem conv_cons_zero (a : Rat) (p q : Poly) : conv (a :: p) q 0 = a * co q 0 := by
  unfold conv
  simp [co_zero, Rat.zero_add]
theorem conv_cons_succ (a : Rat) (p q : Poly) (i : Nat) : conv (a :: p) q (i + 1) = a * co q (i + 1) + conv p q i := by
  unfold conv
  rw [List.range_succ_eq_map, List.map_cons, List.foldl_cons, foldl_add_start, List.map_map]
  have e : ((fun j => co (a :: p) j * co q (i + 1 - j)) ∘ Nat.succ) = fun j => co p j * co q (i - j) := by
    funext j
    show co (a :: p) (j + 1) * co q (i + 1 - (j + 1)) = _
    rw [co_succ, Nat.add_sub_add_right]
  rw [e, co_zero]
  simp [Rat.zero_add]
theorem co_multiply (p q : Poly) (i : Nat) : co (Kqg1.multiply p q) i = conv p q i := by
  unfold Kqg1.multiply
  rw [co_trim, co_tab]
  split
  · rfl
  · rename_i h
    refine (foldl_zero _ _ fun j hj => ?_).symm
    have hj' : j < i + 1 := List.mem_range.mp hj
    by_cases hp : p.length ≤ j
    · rw [co_of_le hp]; grind
    · rw [co_of_le (p := q) (i := i - j) (by omega)]; grind

/-! ### values -/
def padd : Poly → Poly → Poly
  | [], q => q
  | a :: p, [] => a :: p
  | a :: p, b :: q => (a + b) :: padd p q
theorem co_padd : ∀ (p q : Poly) (i : Nat), co (padd p q) i = co p i + co q i
  | [], q, i => by rw [padd, co_nil]; grind
  | a :: p, [], i => by rw [padd, co_nil]; grind
  | a :: p, b :: q, 0 => by rw [padd, co_zero, co_zero, co_zero]
  | a :: p, b :: q, i + 1 => by rw [padd, co_succ, co_succ, co_succ, co_padd p q i]
theorem ev_padd : ∀ (p q : Poly) (t : Rat), ev (padd p q) t = ev p t + ev q t
  | [], q, t => by rw [padd, ev_nil]; grind
  | a :: p, [], t => by rw [padd, ev_nil]; grind
  | a :: p, b :: q, t => by rw [padd, ev_cons, ev_cons, ev_cons, ev_padd p q t]; grind
theorem ev_add (p q : Poly) (t : Rat) : ev (Kqg1.add p q) t = ev p t + ev q t := by
  rw [← ev_padd]
  exact ev_congr t fun i => by rw [co_add, co_padd]
theorem ev_map : ∀ (c : Rat) (p : Poly) (t : Rat), ev (p.map fun x => c * x) t = c * ev p t
  | c, [], t => by rw [List.map_nil, ev_nil]; grind
  | c, a :: p, t => by rw [List.map_cons, ev_cons, ev_cons, ev_map c p t]; grind
theorem ev_scale (c : Rat) (p : Poly) (t : Rat) : ev (Kqg1.scale c p) t = c * ev p t := by
  rw [← ev_map]
  exact ev_trim _ _
def pmul : Poly → Poly → Poly
  | [], _ => []
  | a :: p, q => padd (q.map fun x => a * x) (0 :: pmul p q)
theorem co_pmul : ∀ (p q : Poly) (i : Nat), co (pmul p q) i = conv p q i
  | [], q, i => by rw [pmul, co_nil, conv_nil]
  | a :: p, q, 0 => by rw [pmul, co_padd, co_map _ (by grind), co_zero, conv_cons_zero]; grind
  | a :: p, q, i + 1 => by rw [pmul, co_padd, co_map _ (by grind), co_succ, conv_cons_succ, co_pmul p q i]
theorem ev_pmul : ∀ (p q : Poly) (t : Rat), ev (pmul p q) t = ev p t * ev q t
  | [], q, t => by rw [pmul, ev_nil]; grind
  | a :: p, q, t => by rw [pmul, ev_padd, ev_map, ev_cons, ev_cons, ev_pmul p q t]; grind
theorem ev_multiply (p q : Poly) (t : Rat) : ev (Kqg1.multiply p q) t = ev p t * ev q t := by
  rw [← ev_pmul]
  exact ev_congr t fun i => by rw [co_multiply, co_pmul]
end RK
namespace RK
open Kqg1 (Poly)

abbrev ld (p : Poly) : Rat := Kqg1.leadingCoefficient p
theorem ld_single (c : Rat) : ld [c] = c := rfl
theorem ld_cons (c d : Rat) (p : Poly) : ld (c :: d :: p) = ld (d :: p) := by
  unfold ld Kqg1.leadingCoefficient
  rw [List.getLast?_cons_cons]
/-- each coefficient, against the last one -/
def CB (M l : Rat) (p : Poly) : Prop := ∀ c ∈ p, c * l ≤ M * (l * l) ∧ -(M * (l * l)) ≤ c * l
theorem mul_ge {a b x y : Rat} (h1 : a ≤ b) (h2 : x ≤ y) (ha : 0 ≤ b) (hx : 0 ≤ x) : a * x ≤ b * y := by
  have e1 := Rat.mul_le_mul_of_nonneg_right h1 hx
  have e2 := Rat.mul_le_mul_of_nonneg_left h2 ha
  grind
theorem sq_nonneg (l : Rat) : 0 ≤ l * l := by
  rcases Rat.le_total (a := 0) (b := l) with h | h
  · exact Rat.mul_nonneg h h
  · have : 0 ≤ (-l) * (-l) := Rat.mul_nonneg (by grind) (by grind)
    grind
theorem sq_pos {l : Rat} (h : l ≠ 0) : 0 < l * l := by
  have h1 := sq_nonneg l
  have h2 : l * l ≠ 0 := by
    intro z
    rcases Rat.mul_eq_zero.mp z with z | z <;> exact h z
  grind
theorem right_of {M l : Rat} (hM : 0 ≤ M) {t : Rat} (ht : M + 1 ≤ t) : ∀ {p : Poly}, p ≠ [] → ld p = l → CB M l p → l * l ≤ ev p t * l
  | [c], _, hl, _ => by
    rw [ld_single] at hl
    rw [ev_cons, ev_nil, ← hl]
    grind
  | c :: d :: p, _, hl, h => by
    rw [ld_cons] at hl
    have ih := right_of hM ht (p := d :: p) (by simp) hl fun x hx => h x (List.mem_cons_of_mem _ hx)
    have h0 := (h c List.mem_cons_self).2
    have hq := sq_nonneg l
    have key := mul_ge ht ih (by grind) hq
    rw [ev_cons]
    grind
/-- the sign far to the left -/
def alt (p : Poly) : Rat := if p.length % 2 = 1 then 1 else -1
theorem alt_cons (c : Rat) (p : Poly) : alt (c :: p) = - alt p := by
  unfold alt
  rw [List.length_cons]
  split <;> split <;> grind
theorem left_of {M l : Rat} (hM : 0 ≤ M) {t : Rat} (ht : t ≤ -(M + 1)) : ∀ {p : Poly}, p ≠ [] → ld p = l → CB M l p → l * l ≤ alt p * ev p t * l
  | [c], _, hl, _ => by
    rw [ld_single] at hl
    rw [ev_cons, ev_nil, ← hl]
    show c * c ≤ 1 * (c + t * 0) * c
    grind
  | c :: d :: p, _, hl, h => by
    rw [ld_cons] at hl
    have ih := left_of hM ht (p := d :: p) (by simp) hl fun x hx => h x (List.mem_cons_of_mem _ hx)
    have h0 := h c List.mem_cons_self
    have hq := sq_nonneg l
    have key := mul_ge (a := M + 1) (b := -t) (by grind) ih (by grind) hq
    rw [alt_cons, ev_cons]
    have ha : alt (d :: p) = 1 ∨ alt (d :: p) = -1 := by unfold alt; split <;> simp
    rcases ha with ha | ha <;> rw [ha] at key ⊢ <;> grind
theorem exists_CB {l : Rat} (hl : l ≠ 0) : ∀ p : Poly, ∃ M : Rat, 0 ≤ M ∧ CB M l p
  | [] => ⟨0, by grind, fun _ h => by cases h⟩
  | c :: p => by
    obtain ⟨M, h0, h⟩ := exists_CB hl p
    have hq := sq_pos hl
    have hqn := sq_nonneg l
    let z := (c * l) / (l * l)
    have hz : c * l = z * (l * l) := (Rat.div_mul_cancel (by grind)).symm
    refine ⟨M + (if z < 0 then -z else z), by split <;> grind, fun x hx => ?_⟩
    have hzn : 0 ≤ (if z < 0 then -z else z) := by split <;> grind
    have hzz : z ≤ (if z < 0 then -z else z) ∧ -(if z < 0 then -z else z) ≤ z := by split <;> grind
    generalize (if z < 0 then -z else z) = w at *
    have hw := Rat.mul_nonneg hzn hqn
    have hMM := Rat.mul_nonneg h0 hqn
    rcases List.mem_cons.mp hx with rfl | hx
    · have e1 := Rat.mul_le_mul_of_nonneg_right hzz.1 hqn
      have e2 := Rat.mul_le_mul_of_nonneg_right hzz.2 hqn
      rw [hz]
      grind
    · have := h x hx
      grind
/-- a polynomial that is not zero is not zero far to the right -/
theorem far {p : Poly} (hp : Tr p) (hne : p ≠ []) : ∃ B : Rat, 0 ≤ B ∧ (∀ t, B ≤ t → ld p * ld p ≤ ev p t * ld p) ∧ (∀ t, t ≤ -B → ld p * ld p ≤ alt p * ev p t * ld p) := by
  have hl := Tr.lead_ne hp hne
  obtain ⟨M, h0, h⟩ := exists_CB hl p
  exact ⟨M + 1, by grind, fun t ht => right_of h0 ht hne rfl h, fun t ht => left_of h0 ht hne rfl h⟩
theorem far_ne {p : Poly} (hp : Tr p) (hne : p ≠ []) : ∃ B : Rat, 0 ≤ B ∧ ∀ t, B ≤ t → ev p t ≠ 0 := by
  obtain ⟨B, h0, h, _⟩ := far hp hne
  refine ⟨B, h0, fun t ht z => ?_⟩
  have := h t ht
  have := sq_pos (Tr.lead_ne hp hne)
  rw [z] at *
  grind
theorem zero_of_ev {p : Poly} (hp : Tr p) (h : ∀ t, ev p t = 0) : p = [] := by
  apply Decidable.byContradiction
  intro hne
  obtain ⟨B, _, hB⟩ := far_ne hp hne
  exact hB B Rat.le_refl (h B)
theorem ext_ev {p q : Poly} (hp : Tr p) (hq : Tr q) (h : ∀ t, ev p t = ev q t) : p = q := by
  have e : Kqg1.add p (Kqg1.scale (-1) q) = [] := zero_of_ev (Tr.add _ _) fun t => by rw [ev_add, ev_scale, h]; grind
  refine Tr.ext hp hq fun i => ?_
  have := co_add p (Kqg1.scale (-1) q) i
  rw [e, co_nil, co_scale] at this
  grind
theorem co_of_ev {p q : Poly} (h : ∀ t, ev p t = ev q t) (i : Nat) : co p i = co q i := by
  rw [← co_trim p, ← co_trim q, ext_ev (Tr.trim p) (Tr.trim q) fun t => by rw [ev_trim, ev_trim, h t]]
theorem trim_eq_nil {p : Poly} : Kqg1.trim p = [] ↔ ∀ t, ev p t = 0 :=
  ⟨fun h t => by rw [← ev_trim, h, ev_nil], fun h => zero_of_ev (Tr.trim p) fun t => by rw [ev_trim, h]⟩
/-- a polynomial that is not zero, as a function -/
def NZ (p : Poly) : Prop := Kqg1.trim p ≠ []
theorem NZ.of {p : Poly} (hp : Tr p) (h : p ≠ []) : NZ p := by unfold NZ; rw [hp]; exact h
theorem NZ.far {p : Poly} (h : NZ p) : ∃ B : Rat, 0 ≤ B ∧ ∀ t, B ≤ t → ev p t ≠ 0 := by
  obtain ⟨B, h0, hB⟩ := far_ne (Tr.trim p) h
  exact ⟨B, h0, fun t ht => by have := hB t ht; rw [ev_trim] at this; exact this⟩
theorem NZ.of_val {p : Poly} {t : Rat} (h : ev p t ≠ 0) : NZ p := fun z => h (by rw [← ev_trim, z, ev_nil])
/-- no zero divisors -/
theorem cancel {d a b : Poly} (hd : NZ d) (h : ∀ t, ev d t * ev a t = ev d t * ev b t) (t : Rat) : ev a t = ev b t := by
  obtain ⟨B, h0, hB⟩ := hd.far
  have e : Kqg1.add a (Kqg1.scale (-1) b) = [] := by
    apply Decidable.byContradiction
    intro hne
    obtain ⟨C, c0, hC⟩ := far_ne (Tr.add _ _) hne
    have h1 := hB (B + C) (by grind)
    have h2 := hC (B + C) (by grind)
    have h3 := h (B + C)
    rw [ev_add, ev_scale] at h2
    have h4 : ev d (B + C) * (ev a (B + C) + -1 * ev b (B + C)) = 0 := by grind
    rcases Rat.mul_eq_zero.mp h4 with z | z
    · exact h1 z
    · exact h2 z
  have := ev_add a (Kqg1.scale (-1) b) t
  rw [e, ev_nil, ev_scale] at this
  grind
theorem NZ.mul {a b c : Poly} (ha : NZ a) (hb : NZ b) (h : ∀ t, ev c t = ev a t * ev b t) : NZ c := by
  obtain ⟨B, b0, hB⟩ := ha.far
  obtain ⟨C, c0, hC⟩ := hb.far
  refine NZ.of_val (t := B + C) ?_
  rw [h]
  intro z
  rcases Rat.mul_eq_zero.mp z with z | z
  · exact hB _ (by grind) z
  · exact hC _ (by grind) z
theorem NZ.left {a b c : Poly} (hc : NZ c) (h : ∀ t, ev c t = ev a t * ev b t) : NZ a := by
  obtain ⟨B, b0, hB⟩ := hc.far
  refine NZ.of_val (t := B) fun z => hB B Rat.le_refl ?_
  rw [h, z]; grind
theorem NZ.right {a b c : Poly} (hc : NZ c) (h : ∀ t, ev c t = ev a t * ev b t) : NZ b := by
  obtain ⟨B, b0, hB⟩ := hc.far
  refine NZ.of_val (t := B) fun z => hB B Rat.le_refl ?_
  rw [h, z]; grind

/-! ### degrees -/
theorem co_pmul_big : ∀ (p q : Poly) (i : Nat), p.length + q.length ≤ i + 1 → co (pmul p q) i = 0
  | [], q, i, _ => by rw [pmul, co_nil]
  | a :: p, q, i, h => by
    rw [pmul, co_padd, co_map _ (by grind), co_of_le (p := q) (by simp at h; omega)]
    cases i with
    | zero => rw [co_zero]; grind
    | succ i => rw [co_succ, co_pmul_big p q i (by simp at h; omega)]; grind
theorem co_pmul_top : ∀ (p q : Poly), p ≠ [] → q ≠ [] → co (pmul p q) (p.length - 1 + (q.length - 1)) = co p (p.length - 1) * co q (q.length - 1)
  | [a], q, _, hq => by
    rw [pmul, co_padd, co_map _ (by grind), pmul]
    have : co [(0 : Rat)] ([a].length - 1 + (q.length - 1)) = 0 := by
      cases ([a].length - 1 + (q.length - 1)) with
      | zero => rw [co_zero]
      | succ n => rw [co_succ, co_nil]
    rw [this]
    simp [co_zero]
    grind
  | a :: b :: p, q, _, hq => by
    have ih := co_pmul_top (b :: p) q (by simp) hq
    have hq' : 0 < q.length := List.length_pos_iff.mpr hq
    rw [pmul, co_padd, co_map _ (by grind), co_of_le (p := q) (by simp; omega)]
    have e : (a :: b :: p).length - 1 + (q.length - 1) = ((b :: p).length - 1 + (q.length - 1)) + 1 := by simp; omega
    have e2 : (a :: b :: p).length - 1 = ((b :: p).length - 1) + 1 := by simp
    rw [e, e2, co_succ, co_succ, ih]
    grind
theorem mul_length {p q r : Poly} (hp : Tr p) (hq : Tr q) (hr : Tr r) (np : p ≠ []) (nq : q ≠ []) (h : ∀ t, ev r t = ev p t * ev q t) : r.length + 1 = p.length + q.length := by
  have e : ∀ i, co r i = co (pmul p q) i := co_of_ev fun t => by rw [h, ev_pmul]
  have hp' : 0 < p.length := List.length_pos_iff.mpr np
  have hq' : 0 < q.length := List.length_pos_iff.mpr nq
  have := hr.length_of (n := p.length - 1 + (q.length - 1)) (fun i hi => by rw [e]; exact co_pmul_big _ _ _ (by omega)) (by
    rw [e, co_pmul_top p q np nq]
    intro z
    rcases Rat.mul_eq_zero.mp z with z | z
    · exact hp.last np z
    · exact hq.last nq z)
  omega
theorem mul_ld {p q r : Poly} (hp : Tr p) (hq : Tr q) (hr : Tr r) (np : p ≠ []) (nq : q ≠ []) (h : ∀ t, ev r t = ev p t * ev q t) : ld r = ld p * ld q := by
  have hl := mul_length hp hq hr np nq h
  have hp' : 0 < p.length := List.length_pos_iff.mpr np
  have hq' : 0 < q.length := List.length_pos_iff.mpr nq
  have nr : r ≠ [] := by intro z; rw [z] at hl; simp at hl; omega
  rw [ld, ld, ld, Tr.lead nr, Tr.lead np, Tr.lead nq, co_of_ev (q := pmul p q) (fun t => by rw [h, ev_pmul])]
  have : r.length - 1 = p.length - 1 + (q.length - 1) := by omega
  rw [this, co_pmul_top p q np nq]

/-! ### division -/
theorem co_term : ∀ (k : Nat) (c : Rat) (q : Poly) (i : Nat), co (pmul (List.replicate k 0 ++ [c]) q) i = if i < k then 0 else c * co q (i - k)
  | 0, c, q, i => by
    show co (pmul [c] q) i = _
    rw [pmul, co_padd, co_map _ (by grind), pmul]
    have : co [(0 : Rat)] i = 0 := by
      cases i with
      | zero => rw [co_zero]
      | succ n => rw [co_succ, co_nil]
    rw [this]
    simp
    grind
  | k + 1, c, q, 0 => by
    show co (pmul (0 :: (List.replicate k 0 ++ [c])) q) 0 = _
    rw [pmul, co_padd, co_map _ (by grind), co_zero]
    simp
    grind
  | k + 1, c, q, i + 1 => by
    show co (pmul (0 :: (List.replicate k 0 ++ [c])) q) (i + 1) = _
    rw [pmul, co_padd, co_map _ (by grind), co_succ, co_term k c q i]
    by_cases h : i < k
    · rw [if_pos h, if_pos (by omega)]; grind
    · rw [if_neg h, if_neg (by omega), Nat.add_sub_add_right]; grind
theorem divide_ok {q : Poly} (hq : Tr q) (nq : q ≠ []) : ∀ (fuel : Nat) (p a : Poly), Tr p → Tr a → p.length < fuel →
    Tr (Kqg1.divide fuel q p a).1 ∧ Tr (Kqg1.divide fuel q p a).2 ∧ (Kqg1.divide fuel q p a).2.length < q.length ∧
    ∀ t, ev q t * ev (Kqg1.divide fuel q p a).1 t + ev (Kqg1.divide fuel q p a).2 t = ev q t * ev a t + ev p t
  | 0, p, a, _, _, h => by omega
  | fuel + 1, p, a, hp, ha, h => by
    rw [Kqg1.divide]
    have hq' : 0 < q.length := List.length_pos_iff.mpr nq
    split
    · rename_i c
      refine ⟨ha, hp, ?_, fun t => rfl⟩
      rcases c with c | c
      · exact c
      · show p.length < q.length
        rw [c]; exact hq'
    · rename_i c
      have c1 : q.length ≤ p.length := by omega
      have np : p ≠ [] := fun z => c (.inr z)
      have hl : ∀ i, p.length - 1 ≤ i → co (Kqg1.add p (Kqg1.scale (-1) (Kqg1.multiply (List.replicate (p.length - q.length) 0 ++ [Kqg1.leadingCoefficient p / Kqg1.leadingCoefficient q]) q))) i = 0 := by
        intro i hi
        rw [co_add, co_scale, co_multiply, ← co_pmul, co_term, if_neg (by omega)]
        by_cases hi2 : i = p.length - 1
        · have e : i - (p.length - q.length) = q.length - 1 := by omega
          rw [e, hi2, Tr.lead np, Tr.lead nq]
          have := hq.last nq
          have := Rat.div_mul_cancel (a := co p (p.length - 1)) this
          grind
        · rw [co_of_le (p := p) (by omega), co_of_le (p := q) (by omega)]
          grind
      have hlen := (Tr.add p (Kqg1.scale (-1) (Kqg1.multiply (List.replicate (p.length - q.length) 0 ++ [Kqg1.leadingCoefficient p / Kqg1.leadingCoefficient q]) q))).length_le hl
      have np' : 0 < p.length := List.length_pos_iff.mpr np
      obtain ⟨i1, i2, i3, i4⟩ := divide_ok hq nq fuel _ (Kqg1.add a (List.replicate (p.length - q.length) 0 ++ [Kqg1.leadingCoefficient p / Kqg1.leadingCoefficient q])) (Tr.add _ _) (Tr.add _ _) (Nat.lt_of_le_of_lt hlen (by omega))
      refine ⟨i1, i2, i3, fun t => ?_⟩
      have := i4 t
      show ev q t * ev (Kqg1.divide fuel q _ _).1 t + ev (Kqg1.divide fuel q _ _).2 t = _
      rw [this, ev_add, ev_add, ev_scale, ev_multiply]
      grind
theorem Tr.quotient {p q : Poly} (hp : Tr p) (hq : Tr q) (nq : q ≠ []) : Tr (Kqg1.quotient p q) := (divide_ok hq nq _ p [] hp Tr.nil (Nat.lt_succ_self _)).1
theorem Tr.remainder {p q : Poly} (hp : Tr p) (hq : Tr q) (nq : q ≠ []) : Tr (Kqg1.remainder p q) := (divide_ok hq nq _ p [] hp Tr.nil (Nat.lt_succ_self _)).2.1
theorem rem_length {p q : Poly} (hp : Tr p) (hq : Tr q) (nq : q ≠ []) : (Kqg1.remainder p q).length < q.length := (divide_ok hq nq _ p [] hp Tr.nil (Nat.lt_succ_self _)).2.2.1
theorem quot_rem {p q : Poly} (hp : Tr p) (hq : Tr q) (nq : q ≠ []) (t : Rat) : ev p t = ev q t * ev (Kqg1.quotient p q) t + ev (Kqg1.remainder p q) t := by
  have := (divide_ok hq nq _ p [] hp Tr.nil (Nat.lt_succ_self _)).2.2.2 t
  rw [ev_nil] at this
  unfold Kqg1.quotient Kqg1.remainder
  grind
/-- uniqueness -/
theorem div_unique {p q a r : Poly} (hp : Tr p) (hq : Tr q) (nq : q ≠ []) (ha : Tr a) (hr : Tr r) (hl : r.length < q.length) (h : ∀ t, ev p t = ev q t * ev a t + ev r t) :
    a = Kqg1.quotient p q ∧ r = Kqg1.remainder p q := by
  have h2 := quot_rem hp hq nq
  have hl2 := rem_length hp hq nq
  have e : Kqg1.add a (Kqg1.scale (-1) (Kqg1.quotient p q)) = [] := by
    apply Decidable.byContradiction
    intro hne
    have := mul_length hq (Tr.add _ _) (Tr.add (Kqg1.remainder p q) (Kqg1.scale (-1) r)) nq hne fun t => by
      rw [ev_add, ev_add, ev_scale, ev_scale]
      have := h t
      have := h2 t
      grind
    have hne' : 0 < (Kqg1.add a (Kqg1.scale (-1) (Kqg1.quotient p q))).length := List.length_pos_iff.mpr hne
    have hx := (Tr.add (Kqg1.remainder p q) (Kqg1.scale (-1) r)).length_le (n := q.length - 1) fun i hi => by
      rw [co_add, co_scale, co_of_le (p := Kqg1.remainder p q) (by omega), co_of_le (p := r) (by omega)]
      grind
    omega
  have ea : ∀ t, ev a t = ev (Kqg1.quotient p q) t := fun t => by
    have := ev_add a (Kqg1.scale (-1) (Kqg1.quotient p q)) t
    rw [e, ev_nil, ev_scale] at this
    grind
  refine ⟨ext_ev ha (Tr.quotient hp hq nq) ea, ext_ev hr (Tr.remainder hp hq nq) fun t => ?_⟩
  have := h t
  have := h2 t
  have := ea t
  grind
end RK
namespace RK
open Kqg1 (Poly)
/-! ### the derivative -/
abbrev D (p : Poly) (t : Rat) : Rat := ev (Kqg1.derivative p) t
theorem D_congr {p q : Poly} (h : ∀ t, ev p t = ev q t) (t : Rat) : D p t = D q t :=
  ev_congr t fun i => by rw [co_deriv, co_deriv, co_of_ev h]
theorem D_nil (t : Rat) : D [] t = 0 := rfl
theorem D_cons (c : Rat) (p : Poly) (t : Rat) : D (c :: p) t = ev p t + t * D p t := by
  have e : ev (padd p (0 :: Kqg1.derivative p)) t = ev p t + t * D p t := by
    rw [ev_padd, ev_cons]; grind
  rw [← e]
  refine ev_congr t fun i => ?_
  rw [co_deriv, co_padd, co_succ]
  cases i with
  | zero => rw [co_zero]; simp; grind
  | succ i =>
    have e3 : ((i + 1 + 1 : Nat) : Rat) = ((i + 1 : Nat) : Rat) + 1 := by rw [Rat.natCast_add (i + 1) 1]; rfl
    rw [co_succ, co_deriv, e3]
    grind
theorem D_padd (p q : Poly) (t : Rat) : D (padd p q) t = D p t + D q t := by
  rw [D, D, D, ← ev_padd]
  exact ev_congr t fun i => by rw [co_deriv, co_padd, co_padd, co_deriv, co_deriv]; grind
theorem D_map (c : Rat) (p : Poly) (t : Rat) : D (p.map fun x => c * x) t = c * D p t := by
  rw [D, D, ← ev_map]
  exact ev_congr t fun i => by rw [co_deriv, co_map _ (by grind), co_map _ (by grind), co_deriv]; grind
theorem D_pmul : ∀ (p q : Poly) (t : Rat), D (pmul p q) t = D p t * ev q t + ev p t * D q t
  | [], q, t => by rw [pmul, D_nil, ev_nil]; grind
  | a :: p, q, t => by
    rw [pmul, D_padd, D_map, D_cons, D_cons, ev_cons, ev_pmul, D_pmul p q t]
    grind
theorem D_mul {p q r : Poly} (h : ∀ t, ev r t = ev p t * ev q t) (t : Rat) : D r t = D p t * ev q t + ev p t * D q t := by
  rw [← D_pmul]
  exact D_congr (fun t => by rw [h, ev_pmul]) t

/-! ### divisors -/
def Dv (d p : Poly) : Prop := ∃ a : Poly, ∀ t, ev p t = ev d t * ev a t
theorem Dv.refl (p : Poly) : Dv p p := ⟨[1], fun t => by rw [ev_cons, ev_nil]; grind⟩
theorem Dv.trans {a b c : Poly} (h : Dv a b) (k : Dv b c) : Dv a c := by
  obtain ⟨x, hx⟩ := h
  obtain ⟨y, hy⟩ := k
  exact ⟨pmul x y, fun t => by rw [hy, hx, ev_pmul]; grind⟩
theorem Dv.nil (p : Poly) : Dv p [] := ⟨[], fun t => by rw [ev_nil]; grind⟩
theorem Dv.lin {d p q r : Poly} (a b : Poly) (hp : Dv d p) (hq : Dv d q) (h : ∀ t, ev r t = ev a t * ev p t + ev b t * ev q t) : Dv d r := by
  obtain ⟨x, hx⟩ := hp
  obtain ⟨y, hy⟩ := hq
  exact ⟨padd (pmul a x) (pmul b y), fun t => by rw [h, hx, hy, ev_padd, ev_pmul, ev_pmul]; grind⟩
theorem Dv.length {d p : Poly} (hd : Tr d) (hp : Tr p) (np : p ≠ []) (h : Dv d p) : d ≠ [] ∧ d.length ≤ p.length := by
  obtain ⟨a, ha⟩ := h
  have ha' : ∀ t, ev p t = ev d t * ev (Kqg1.trim a) t := fun t => by rw [ev_trim, ha]
  have nd := (NZ.of hp np).left ha'
  have na := (NZ.of hp np).right ha'
  unfold NZ at nd na
  rw [hd] at nd
  rw [Tr.trim a] at na
  have := mul_length hd (Tr.trim a) hp nd na ha'
  have : 0 < (Kqg1.trim a).length := List.length_pos_iff.mpr na
  exact ⟨nd, by omega⟩
/-- coprime -/
def Cp (p q : Poly) : Prop := ∃ a b : Poly, ∀ t, ev a t * ev p t + ev b t * ev q t = 1
theorem euclid_ok : ∀ (fuel : Nat) (p q : Poly), Tr p → Tr q → (p ≠ [] ∨ q ≠ []) → q.length < fuel →
    Tr (Kqg1.euclid fuel p q) ∧ Kqg1.euclid fuel p q ≠ [] ∧ Dv (Kqg1.euclid fuel p q) p ∧ Dv (Kqg1.euclid fuel p q) q ∧
    ∃ u v : Poly, ∀ t, ev (Kqg1.euclid fuel p q) t = ev u t * ev p t + ev v t * ev q t
  | 0, _, _, _, _, _, h => by omega
  | fuel + 1, p, q, hp, hq, hn, h => by
    rw [Kqg1.euclid]
    split
    · rename_i e
      subst e
      refine ⟨hp, by simpa using hn, Dv.refl p, Dv.nil p, [1], [], fun t => ?_⟩
      rw [ev_cons, ev_nil]; grind
    · rename_i nq
      have hl := rem_length hp hq nq
      obtain ⟨i1, i2, i3, i4, u, v, i5⟩ := euclid_ok fuel q (Kqg1.remainder p q) hq (Tr.remainder hp hq nq) (.inl nq) (by omega)
      have hqr := quot_rem hp hq nq
      refine ⟨i1, i2, ?_, i3, v, padd u (pmul (Kqg1.scale (-1) v) (Kqg1.quotient p q)), fun t => ?_⟩
      · exact Dv.lin (Kqg1.quotient p q) [1] i3 i4 fun t => by rw [hqr, ev_cons, ev_nil]; grind
      · rw [i5, ev_padd, ev_pmul, ev_scale]
        have := hqr t
        grind
/-- more fuel changes nothing -/
theorem euclid_fuel : ∀ (f1 f2 : Nat) (p q : Poly), Tr p → Tr q → q.length < f1 → q.length < f2 → Kqg1.euclid f1 p q = Kqg1.euclid f2 p q
  | 0, _, _, _, _, _, h, _ => by omega
  | _, 0, _, _, _, _, _, h => by omega
  | f1 + 1, f2 + 1, p, q, hp, hq, h1, h2 => by
    rw [Kqg1.euclid, Kqg1.euclid]
    split
    · rfl
    · rename_i nq
      have hl := rem_length hp hq nq
      exact euclid_fuel f1 f2 q _ hq (Tr.remainder hp hq nq) (by omega) (by omega)

/-! ### powers -/
def pw (d : Poly) : Nat → Poly
  | 0 => [1]
  | j + 1 => Kqg1.multiply d (pw d j)
theorem pw_tr (d : Poly) : ∀ j, Tr (pw d j)
  | 0 => Tr.cons Tr.nil (.inr (by decide))
  | j + 1 => Tr.multiply _ _
theorem pw_succ (d : Poly) (j : Nat) (t : Rat) : ev (pw d (j + 1)) t = ev d t * ev (pw d j) t := by rw [pw, ev_multiply]
theorem pw_zero (d : Poly) (t : Rat) : ev (pw d 0) t = 1 := by rw [pw, ev_cons, ev_nil]; grind
theorem pw_length {d : Poly} (hd : Tr d) (h2 : 2 ≤ d.length) : ∀ j, pw d j ≠ [] ∧ j + 1 ≤ (pw d j).length
  | 0 => ⟨by simp [pw], by simp [pw]⟩
  | j + 1 => by
    obtain ⟨n, l⟩ := pw_length hd h2 j
    have nd : d ≠ [] := by intro z; simp [z] at h2
    have := mul_length hd (pw_tr d j) (pw_tr d (j + 1)) nd n (pw_succ d j)
    refine ⟨?_, by omega⟩
    intro z
    rw [z] at this
    simp at this
    omega
/-- the derivative of a power: d times it is j d' d^j -/
theorem D_pw (d : Poly) : ∀ (j : Nat) (t : Rat), D (pw d (j + 1)) t = ((j + 1 : Nat) : Rat) * D d t * ev (pw d j) t
  | 0, t => by
    rw [D_mul (pw_succ d 0), pw_zero]
    have : D (pw d 0) t = 0 := by
      show D [1] t = 0
      rw [D_cons, ev_nil, D_nil]; grind
    rw [this]
    simp
    grind
  | j + 1, t => by
    rw [D_mul (pw_succ d (j + 1)), D_pw d j t, pw_succ, Rat.natCast_add (j + 1) 1]
    grind
/-- nothing but a constant has all its powers divide -/
theorem const_of_powers {d g : Poly} (hd : Tr d) (hg : Tr g) (ng : g ≠ []) (h : ∀ j, Dv (pw d j) g) : d.length ≤ 1 := by
  apply Decidable.byContradiction
  intro h2
  have := (pw_length hd (by omega) g.length).2
  have := (h g.length).length (pw_tr d _) hg ng
  omega
theorem const_ne {d : Poly} (hd : Tr d) (nd : d ≠ []) (h : d.length ≤ 1) : ∃ c : Rat, c ≠ 0 ∧ ∀ t, ev d t = c := by
  match d, hd, nd, h with
  | [c], hd, _, _ =>
    refine ⟨c, ?_, fun t => by rw [ev_cons, ev_nil]; grind⟩
    have := hd.last (by simp)
    simpa [co_zero] using this

/-! ### the part without squares -/
/-- p = g s, g a greatest common divisor of p and p' -/
structure Part (p g s : Poly) : Prop where
  tp : Tr p
  np : p ≠ []
  tg : Tr g
  ts : Tr s
  mul : ∀ t, ev p t = ev g t * ev s t
  dv : Dv g (Kqg1.derivative p)
  bez : ∃ u v : Poly, ∀ t, ev g t = ev u t * ev p t + ev v t * D p t
theorem Part.ng {p g s : Poly} (P : Part p g s) : g ≠ [] := by
  have := (NZ.of P.tp P.np).left P.mul
  unfold NZ at this
  rw [P.tg] at this
  exact this
theorem Part.ns {p g s : Poly} (P : Part p g s) : s ≠ [] := by
  have := (NZ.of P.tp P.np).right P.mul
  unfold NZ at this
  rw [P.ts] at this
  exact this
/-- p' = g h; u s + v h = 1; g (h - s') = g' s -/
theorem Part.parts {p g s : Poly} (P : Part p g s) : ∃ h u v : Poly, (∀ t, ev u t * ev s t + ev v t * ev h t = 1) ∧ ∀ t, ev g t * (ev h t - D s t) = D g t * ev s t := by
  obtain ⟨h, hh⟩ := P.dv
  obtain ⟨u, v, huv⟩ := P.bez
  have hD := D_mul P.mul
  refine ⟨h, u, v, fun t => ?_, fun t => ?_⟩
  · have := cancel (d := g) (a := padd (pmul u s) (pmul v h)) (b := [1]) (NZ.of P.tg P.ng) (fun t => by
      rw [ev_padd, ev_pmul, ev_pmul, ev_cons, ev_nil]
      have := huv t
      have := hh t
      have := P.mul t
      have e : D p t = ev g t * ev h t := hh t
      grind) t
    rw [ev_padd, ev_pmul, ev_pmul, ev_cons, ev_nil] at this
    grind
  · have e : D p t = ev g t * ev h t := hh t
    have := hD t
    grind
def Sqf (s : Poly) : Prop := Cp s (Kqg1.derivative s)
theorem Part.sqf {p g s : Poly} (P : Part p g s) : Sqf s := by
  obtain ⟨h, u, v, h1, h2⟩ := P.parts
  obtain ⟨td, nd, ⟨e, he⟩, ⟨f, hf⟩, x, y, hxy⟩ := euclid_ok ((Kqg1.derivative s).length + 1) s (Kqg1.derivative s) P.ts (Tr.deriv s) (.inl P.ns) (Nat.lt_succ_self _)
  generalize Kqg1.euclid ((Kqg1.derivative s).length + 1) s (Kqg1.derivative s) = d at *
  have hf' : ∀ t, D s t = ev d t * ev f t := hf
  have hD := D_mul he
  have key : ∀ j, Dv (pw d j) g := by
    intro j
    induction j with
    | zero => exact ⟨g, fun t => by rw [pw_zero]; grind⟩
    | succ j ih =>
      obtain ⟨w, hw⟩ := ih
      have hgD := D_mul hw
      -- A = u e + v f; m with g k = d^(j+1) m
      have hm : ∃ m : Poly, ∀ t, ev g t * (ev h t - D s t) = ev (pw d (j + 1)) t * ev m t := by
        cases j with
        | zero =>
          refine ⟨pmul (Kqg1.derivative g) e, fun t => ?_⟩
          rw [ev_pmul, pw_succ, pw_zero, h2, he]
          grind
        | succ j =>
          refine ⟨padd (pmul (Kqg1.scale ((j + 1 : Nat) : Rat) w) (padd f (Kqg1.scale (-1) (Kqg1.derivative e)))) (pmul (Kqg1.derivative w) e), fun t => ?_⟩
          rw [ev_padd, ev_pmul, ev_pmul, ev_padd, ev_scale, ev_scale, h2, hgD, D_pw, pw_succ d (j + 1), pw_succ d j, he]
          have h5 := hD t
          have h6 := hf' t
          grind
      obtain ⟨m, hm⟩ := hm
      refine ⟨padd (pmul (padd (pmul u e) (pmul v f)) w) (pmul v m), fun t => ?_⟩
      rw [ev_padd, ev_pmul, ev_padd, ev_pmul, ev_pmul, ev_pmul]
      have e1 := h1 t
      have e2 := hm t
      have e3 := he t
      have e4 := hf' t
      have e5 := hw t
      have e6 := pw_succ d j t
      -- g = g (u s + v h) = g u d e + v (g k) + v g d f
      have : ev g t = ev g t * (ev u t * ev s t + ev v t * ev h t) := by rw [e1]; grind
      rw [e3] at this
      have e7 : ev g t * ev h t = ev (pw d (j + 1)) t * ev m t + ev g t * (ev d t * ev f t) := by grind
      grind
  obtain ⟨c, c0, hc⟩ := const_ne td nd (const_of_powers td P.tg P.ng key)
  refine ⟨Kqg1.scale (1 / c) x, Kqg1.scale (1 / c) y, fun t => ?_⟩
  rw [ev_scale, ev_scale]
  have := hxy t
  rw [hc] at this
  have hcc := Rat.div_mul_cancel (a := 1) c0
  grind
/-- coprime and a divisor of a product -/
theorem Cp.dvd {e s g r : Poly} (c : Cp e s) (h : ∀ t, ev r t = ev g t * ev s t) (k : Dv e r) : Dv e g := by
  obtain ⟨a, b, hab⟩ := c
  obtain ⟨x, hx⟩ := k
  refine ⟨padd (pmul a g) (pmul b x), fun t => ?_⟩
  rw [ev_padd, ev_pmul, ev_pmul]
  have := hab t
  have := hx t
  have := h t
  grind
theorem Cp.mul {e a b r : Poly} (h1 : Cp e a) (h2 : Cp e b) (h : ∀ t, ev r t = ev a t * ev b t) : Cp e r := by
  obtain ⟨x, y, hxy⟩ := h1
  obtain ⟨z, w, hzw⟩ := h2
  refine ⟨padd (pmul x (padd (pmul z e) (pmul w b))) (pmul (pmul y a) z), pmul y w, fun t => ?_⟩
  rw [ev_padd, ev_pmul, ev_pmul, ev_pmul, ev_pmul, ev_padd, ev_pmul, ev_pmul, h]
  have := hxy t
  have := hzw t
  grind
/-- a divisor without squares divides the part without squares -/
theorem Part.dvd {p g s : Poly} (P : Part p g s) {f : Poly} (tf : Tr f) (nf : f ≠ []) (sf : Sqf f) (df : Dv f p) : Dv f s := by
  obtain ⟨h, u, v, h1, h2⟩ := P.parts
  obtain ⟨td, nd, ⟨e, he⟩, ⟨m, hm⟩, x, y, hxy⟩ := euclid_ok (s.length + 1) f s tf P.ts (.inl nf) (Nat.lt_succ_self _)
  generalize Kqg1.euclid (s.length + 1) f s = d at *
  have he' : ∀ t, ev f t = ev d t * ev (Kqg1.trim e) t := fun t => by rw [ev_trim, he]
  have te := Tr.trim e
  have ne := (NZ.of tf nf).right he'
  unfold NZ at ne
  rw [te] at ne
  generalize Kqg1.trim e = e at *
  have hD := D_mul he'
  obtain ⟨al, be, hs⟩ := sf
  have hs' : ∀ t, ev al t * ev f t + ev be t * D f t = 1 := hs
  have c1 : Cp e d := ⟨pmul be (Kqg1.derivative d), padd (pmul al e) (pmul be (Kqg1.derivative e)), fun t => by
    rw [ev_padd, ev_pmul, ev_pmul, ev_pmul]
    have := hs' t
    have := hD t
    have := he' t
    grind⟩
  have c2 : Cp e (Kqg1.derivative e) := ⟨padd (pmul al d) (pmul be (Kqg1.derivative d)), pmul be d, fun t => by
    rw [ev_padd, ev_pmul, ev_pmul, ev_pmul]
    have := hs' t
    have := hD t
    have := he' t
    grind⟩
  have c3 : Cp e m := ⟨x, y, fun t => by
    have := cancel (d := d) (a := padd (pmul x e) (pmul y m)) (b := [1]) (NZ.of td nd) (fun t => by
      rw [ev_padd, ev_pmul, ev_pmul, ev_cons, ev_nil]
      have := hxy t
      have := he' t
      have := hm t
      grind) t
    rw [ev_padd, ev_pmul, ev_pmul, ev_cons, ev_nil] at this
    grind⟩
  have c4 : Cp e s := c1.mul c3 hm
  have d1 : Dv e g := by
    refine c4.dvd P.mul (Dv.trans ?_ df)
    exact ⟨d, fun t => by rw [he']; grind⟩
  have key : ∀ j, Dv (pw e (j + 1)) g := by
    intro j
    induction j with
    | zero =>
      obtain ⟨w, hw⟩ := d1
      exact ⟨w, fun t => by rw [pw_succ, pw_zero, hw]; grind⟩
    | succ j ih =>
      obtain ⟨w, hw⟩ := ih
      have hgD := D_mul hw
      -- (j + 1) e' w s + e w' s = e w k
      have eq1 : ∀ t, ((j + 1 : Nat) : Rat) * D e t * ev w t * ev s t + ev e t * (D w t * ev s t) = ev e t * (ev w t * (ev h t - D s t)) := fun t => by
        have nz : NZ (pw e j) := NZ.of (pw_tr e j) (by
          intro z
          have hz : ∀ t, ev g t = 0 := fun t => by rw [hw, pw_succ, z, ev_nil]; grind
          exact P.ng (zero_of_ev P.tg hz))
        have := cancel (d := pw e j) (a := padd (Kqg1.scale ((j + 1 : Nat) : Rat) (pmul (pmul (Kqg1.derivative e) w) s)) (pmul e (pmul (Kqg1.derivative w) s))) (b := pmul e (pmul w (padd h (Kqg1.scale (-1) (Kqg1.derivative s))))) nz (fun t => by
          rw [ev_padd, ev_scale, ev_pmul, ev_pmul, ev_pmul, ev_pmul, ev_pmul, ev_pmul, ev_padd, ev_scale]
          have e1 := h2 t
          have e2 := hgD t
          rw [D_pw] at e2
          have e3 := hw t
          have e4 := pw_succ e j t
          grind) t
        rw [ev_padd, ev_scale, ev_pmul, ev_pmul, ev_pmul, ev_pmul, ev_pmul, ev_pmul, ev_padd, ev_scale] at this
        grind
      have hj : ((j + 1 : Nat) : Rat) ≠ 0 := by
        intro z
        have := Rat.natCast_eq_zero_iff.mp z
        omega
      have d2 : Dv e (pmul (pmul w (Kqg1.derivative e)) s) := by
        refine ⟨Kqg1.scale (1 / ((j + 1 : Nat) : Rat)) (padd (pmul w (padd h (Kqg1.scale (-1) (Kqg1.derivative s)))) (Kqg1.scale (-1) (pmul (Kqg1.derivative w) s))), fun t => ?_⟩
        rw [ev_pmul, ev_pmul, ev_scale, ev_padd, ev_pmul, ev_padd, ev_scale, ev_scale, ev_pmul]
        have e1 := eq1 t
        have hcc := Rat.div_mul_cancel (a := 1) hj
        generalize ((j + 1 : Nat) : Rat) = J at *
        have e2 : ev w t * D e t * ev s t = 1 / J * (J * D e t * ev w t * ev s t) := by
          have : 1 / J * (J * D e t * ev w t * ev s t) = (1 / J * J) * (D e t * ev w t * ev s t) := by grind
          rw [this, hcc]; grind
        show ev w t * D e t * ev s t = _
        rw [e2]
        have e3 : J * D e t * ev w t * ev s t = ev e t * (ev w t * (ev h t - D s t)) - ev e t * (D w t * ev s t) := by grind
        rw [e3]
        grind
      have d3 : Dv e (pmul w (Kqg1.derivative e)) := c4.dvd (ev_pmul _ _) d2
      obtain ⟨z, hz⟩ := c2.dvd (ev_pmul _ _) d3
      exact ⟨z, fun t => by rw [hw, hz, pw_succ e (j + 1)]; grind⟩
  have hc : e.length ≤ 1 := by
    refine const_of_powers te P.tg P.ng fun j => ?_
    cases j with
    | zero => exact ⟨g, fun t => by rw [pw_zero]; grind⟩
    | succ j => exact key j
  obtain ⟨c, c0, hc⟩ := const_ne te ne hc
  refine ⟨Kqg1.scale (1 / c) m, fun t => ?_⟩
  rw [ev_scale, hm, he', hc]
  have hcc := Rat.div_mul_cancel (a := 1) c0
  grind
end RK
namespace RK
open Kqg1 (Poly)
/-! ### bounds -/
def Bd (K x : Rat) : Prop := -K ≤ x ∧ x ≤ K
theorem Bd.add {a b x y : Rat} (h : Bd a x) (k : Bd b y) : Bd (a + b) (x + y) := by
  unfold Bd at *; grind
theorem mul_le_bd {a b x y : Rat} (h : Bd a x) (k : Bd b y) : x * y ≤ a * b := by
  have ha : 0 ≤ a := by unfold Bd at h; grind
  have hb : 0 ≤ b := by unfold Bd at k; grind
  obtain ⟨h1, h2⟩ := h
  obtain ⟨k1, k2⟩ := k
  rcases Rat.le_total (a := 0) (b := y) with hy | hy
  · have e1 := Rat.mul_le_mul_of_nonneg_right h2 hy
    have e2 := Rat.mul_le_mul_of_nonneg_left k2 ha
    grind
  · have e1 := Rat.mul_le_mul_of_nonneg_right (a := -x) (b := a) (c := -y) (by grind) (by grind)
    have e2 := Rat.mul_le_mul_of_nonneg_left (a := -y) (b := b) (c := a) (by grind) ha
    grind
theorem Bd.neg {a x : Rat} (h : Bd a x) : Bd a (-x) := by unfold Bd at *; grind
theorem Bd.mul {a b x y : Rat} (h : Bd a x) (k : Bd b y) : Bd (a * b) (x * y) := by
  have e1 := mul_le_bd h k
  have e2 := mul_le_bd h.neg k
  unfold Bd
  grind
theorem Bd.mono {a b x : Rat} (h : Bd a x) (k : a ≤ b) : Bd b x := by unfold Bd at *; grind
theorem Bd.nn {a x : Rat} (h : Bd a x) : 0 ≤ a := by unfold Bd at *; grind
theorem Bd.self (x : Rat) : Bd (if x < 0 then -x else x) x := by unfold Bd; split <;> grind
/-- difference quotients -/
def dq : Poly → Rat → Rat → Rat
  | [], _, _ => 0
  | _ :: p, x, y => ev p y + x * dq p x y
def sq : Poly → Rat → Rat → Rat
  | [], _, _ => 0
  | _ :: p, x, y => dq p x y + x * sq p x y
theorem dq_eq : ∀ (p : Poly) (x y : Rat), ev p y - ev p x = (y - x) * dq p x y
  | [], x, y => by rw [ev_nil, ev_nil, dq]; grind
  | c :: p, x, y => by
    have := dq_eq p x y
    rw [ev_cons, ev_cons, dq]
    grind
theorem sq_eq : ∀ (p : Poly) (x y : Rat), dq p x y = D p x + (y - x) * sq p x y
  | [], x, y => by rw [dq, sq, D_nil]; grind
  | c :: p, x, y => by
    have := dq_eq p x y
    have := sq_eq p x y
    rw [dq, sq, D_cons]
    grind
theorem bd_ev {R : Rat} (h0 : 0 ≤ R) : ∀ p : Poly, ∃ K, 0 ≤ K ∧ ∀ x, Bd R x → Bd K (ev p x)
  | [] => ⟨0, by grind, fun x _ => by rw [ev_nil]; unfold Bd; grind⟩
  | c :: p => by
    obtain ⟨K, k0, h⟩ := bd_ev h0 p
    have hc := Bd.self c
    refine ⟨_, ?_, fun x hx => by rw [ev_cons]; exact hc.add (hx.mul (h x hx))⟩
    have := Rat.mul_nonneg h0 k0
    have := hc.nn
    grind
theorem bd_dq {R : Rat} (h0 : 0 ≤ R) : ∀ p : Poly, ∃ K, 0 ≤ K ∧ ∀ x y, Bd R x → Bd R y → Bd K (dq p x y)
  | [] => ⟨0, by grind, fun x y _ _ => by rw [dq]; unfold Bd; grind⟩
  | c :: p => by
    obtain ⟨K, k0, h⟩ := bd_dq h0 p
    obtain ⟨L, l0, hl⟩ := bd_ev h0 p
    refine ⟨L + R * K, ?_, fun x y hx hy => by rw [dq]; exact (hl y hy).add (hx.mul (h x y hx hy))⟩
    have := Rat.mul_nonneg h0 k0
    grind
theorem bd_sq {R : Rat} (h0 : 0 ≤ R) : ∀ p : Poly, ∃ K, 0 ≤ K ∧ ∀ x y, Bd R x → Bd R y → Bd K (sq p x y)
  | [] => ⟨0, by grind, fun x y _ _ => by rw [sq]; unfold Bd; grind⟩
  | c :: p => by
    obtain ⟨K, k0, h⟩ := bd_sq h0 p
    obtain ⟨L, l0, hl⟩ := bd_dq h0 p
    refine ⟨L + R * K, ?_, fun x y hx hy => by rw [sq]; exact (hl x y hx hy).add (hx.mul (h x y hx hy))⟩
    have := Rat.mul_nonneg h0 k0
    grind

/-! ### nests of intervals -/
structure Nest where
  a : Nat → Rat
  b : Nat → Rat
  le : ∀ n, a n ≤ b n
  ma : ∀ n, a n ≤ a (n + 1)
  mb : ∀ n, b (n + 1) ≤ b n
  small : ∀ e : Rat, 0 < e → ∃ n, b n - a n ≤ e
namespace Nest
variable (N : Nest)
theorem ma' {m n : Nat} (h : m ≤ n) : N.a m ≤ N.a n := by
  induction h with
  | refl => exact Rat.le_refl
  | step _ ih => exact Rat.le_trans ih (N.ma _)
theorem mb' {m n : Nat} (h : m ≤ n) : N.b n ≤ N.b m := by
  induction h with
  | refl => exact Rat.le_refl
  | step _ ih => exact Rat.le_trans (N.mb _) ih
def Near (P : Rat → Prop) : Prop := ∃ n, ∀ x, N.a n ≤ x → x ≤ N.b n → P x
theorem Near.and {N : Nest} {P Q : Rat → Prop} (h : N.Near P) (k : N.Near Q) : N.Near fun x => P x ∧ Q x := by
  obtain ⟨m, hm⟩ := h
  obtain ⟨n, hn⟩ := k
  refine ⟨max m n, fun x h1 h2 => ⟨hm x ?_ ?_, hn x ?_ ?_⟩⟩
  · exact Rat.le_trans (N.ma' (Nat.le_max_left _ _)) h1
  · exact Rat.le_trans h2 (N.mb' (Nat.le_max_left _ _))
  · exact Rat.le_trans (N.ma' (Nat.le_max_right _ _)) h1
  · exact Rat.le_trans h2 (N.mb' (Nat.le_max_right _ _))
theorem Near.mono {N : Nest} {P Q : Rat → Prop} (h : N.Near P) (k : ∀ x, P x → Q x) : N.Near Q := by
  obtain ⟨m, hm⟩ := h
  exact ⟨m, fun x h1 h2 => k x (hm x h1 h2)⟩
theorem Near.get {N : Nest} {P : Rat → Prop} (h : N.Near P) : ∃ x, P x := by
  obtain ⟨m, hm⟩ := h
  exact ⟨N.a m, hm _ Rat.le_refl (N.le m)⟩
/-- two near points, near one another -/
theorem Near.two {N : Nest} {P : Rat → Prop} (h : N.Near P) {e : Rat} (he : 0 < e) : ∃ n, ∀ x y, N.a n ≤ x → x ≤ y → y ≤ N.b n → P x ∧ P y ∧ y - x ≤ e := by
  obtain ⟨m, hm⟩ := h
  obtain ⟨k, hk⟩ := N.small e he
  have a1 := N.ma' (Nat.le_max_left m k)
  have a2 := N.ma' (Nat.le_max_right m k)
  have b1 := N.mb' (Nat.le_max_left m k)
  have b2 := N.mb' (Nat.le_max_right m k)
  refine ⟨max m k, fun x y h1 h2 h3 => ⟨hm x ?_ ?_, hm y ?_ ?_, ?_⟩⟩ <;> grind
/-- all near points lie within a bound -/
theorem radius : ∃ R, 0 ≤ R ∧ ∀ n x, N.a n ≤ x → x ≤ N.b n → Bd R x := by
  refine ⟨(if N.a 0 < 0 then -N.a 0 else N.a 0) + (if N.b 0 < 0 then -N.b 0 else N.b 0), ?_, fun n x h1 h2 => ?_⟩
  · split <;> split <;> grind
  · have := N.ma' (Nat.zero_le n)
    have := N.mb' (Nat.zero_le n)
    unfold Bd
    split <;> split <;> grind
def Pos (f : Rat → Rat) : Prop := ∃ d, 0 < d ∧ N.Near fun x => d ≤ f x
def Neg (f : Rat → Rat) : Prop := ∃ d, 0 < d ∧ N.Near fun x => f x ≤ -d
def Nul (f : Rat → Rat) : Prop := ∀ e, 0 < e → N.Near fun x => Bd e (f x)
variable {N}
theorem tri (p : Poly) : N.Pos (ev p) ∨ N.Neg (ev p) ∨ N.Nul (ev p) := by
  obtain ⟨R, r0, hR⟩ := N.radius
  obtain ⟨K, k0, hK⟩ := bd_dq r0 p
  have lip : ∀ n x, N.a n ≤ x → x ≤ N.b n → Bd (K * (N.b n - N.a n)) (ev p x - ev p (N.a n)) := fun n x h1 h2 => by
    rw [dq_eq]
    have e1 := hK (N.a n) x (hR n _ Rat.le_refl (N.le n)) (hR n x h1 h2)
    have e2 : Bd (N.b n - N.a n) (x - N.a n) := by unfold Bd; grind
    have := e2.mul e1
    have e3 : (N.b n - N.a n) * K = K * (N.b n - N.a n) := by grind
    rw [e3] at this
    exact this
  by_cases c1 : ∃ n, K * (N.b n - N.a n) < ev p (N.a n)
  · obtain ⟨n, hn⟩ := c1
    refine .inl ⟨ev p (N.a n) - K * (N.b n - N.a n), by grind, n, fun x h1 h2 => ?_⟩
    have := (lip n x h1 h2).1
    grind
  by_cases c2 : ∃ n, ev p (N.a n) < -(K * (N.b n - N.a n))
  · obtain ⟨n, hn⟩ := c2
    refine .inr (.inl ⟨-ev p (N.a n) - K * (N.b n - N.a n), by grind, n, fun x h1 h2 => ?_⟩)
    have := (lip n x h1 h2).2
    grind
  refine .inr (.inr fun e he => ?_)
  have hk2 : 0 < 2 * K + 1 := by grind
  obtain ⟨n, hn⟩ := N.small (e / (2 * K + 1)) (by rw [Rat.div_def]; exact Rat.mul_pos he (Rat.inv_pos.mpr hk2))
  refine ⟨n, fun x h1 h2 => ?_⟩
  have n1 : ¬ K * (N.b n - N.a n) < ev p (N.a n) := fun z => c1 ⟨n, z⟩
  have n2 : ¬ ev p (N.a n) < -(K * (N.b n - N.a n)) := fun z => c2 ⟨n, z⟩
  have l := lip n x h1 h2
  have hw : 0 ≤ N.b n - N.a n := by have := N.le n; grind
  have e1 := Rat.mul_le_mul_of_nonneg_right hn (Rat.le_of_lt hk2)
  rw [Rat.div_mul_cancel (by grind)] at e1
  obtain ⟨l1, l2⟩ := l
  generalize N.b n - N.a n = w at *
  generalize ev p (N.a n) = y at *
  show -e ≤ ev p x ∧ ev p x ≤ e
  generalize ev p x = z at *
  clear lip hK hR c1 c2 h1 h2 hn
  constructor <;> grind
theorem Pos.not_nul {f : Rat → Rat} (h : N.Pos f) : ¬ N.Nul f := fun k => by
  obtain ⟨d, d0, hd⟩ := h
  obtain ⟨x, h1, h2⟩ := (hd.and (k (d / 2) (by grind))).get
  have := h2.2
  grind
theorem Neg.not_nul {f : Rat → Rat} (h : N.Neg f) : ¬ N.Nul f := fun k => by
  obtain ⟨d, d0, hd⟩ := h
  obtain ⟨x, h1, h2⟩ := (hd.and (k (d / 2) (by grind))).get
  have := h2.1
  grind
theorem Nul.add {f g h : Rat → Rat} (a : N.Nul f) (b : N.Nul g) (e : ∀ x, h x = f x + g x) : N.Nul h := fun d d0 => by
  refine ((a (d / 2) (by grind)).and (b (d / 2) (by grind))).mono fun x ⟨h1, h2⟩ => ?_
  rw [e]
  exact (h1.add h2).mono (by grind)
theorem Nul.mul {f h : Rat → Rat} (a : N.Nul f) (g : Poly) (e : ∀ x, h x = f x * ev g x) : N.Nul h := fun d d0 => by
  obtain ⟨R, r0, hR⟩ := N.radius
  obtain ⟨K, k0, hK⟩ := bd_ev r0 g
  have hk1 : 0 < K + 1 := by grind
  obtain ⟨n, hn⟩ := a (d / (K + 1)) (by rw [Rat.div_def]; exact Rat.mul_pos d0 (Rat.inv_pos.mpr hk1))
  refine ⟨n, fun x h1 h2 => ?_⟩
  show Bd d (h x)
  rw [e]
  refine ((hn x h1 h2).mul (hK x (hR n x h1 h2))).mono ?_
  have e1 := Rat.div_mul_cancel (a := d) (b := K + 1) (by grind)
  have e2 : 0 ≤ d / (K + 1) := (hn x h1 h2).nn
  grind
theorem Nul.one_false {f : Rat → Rat} (h : N.Nul f) (e : ∀ x, f x = 1) : False := by
  obtain ⟨x, hx⟩ := (h (1 / 2) (by grind)).get
  rw [e] at hx
  have := hx.2
  grind
theorem Pos.mul {f g h : Rat → Rat} (a : N.Pos f) (b : N.Pos g) (e : ∀ x, h x = f x * g x) : N.Pos h := by
  obtain ⟨d, d0, hd⟩ := a
  obtain ⟨c, c0, hc⟩ := b
  refine ⟨d * c, Rat.mul_pos d0 c0, (hd.and hc).mono fun x ⟨h1, h2⟩ => ?_⟩
  rw [e]
  exact mul_ge h1 h2 (by grind) (by grind)
theorem Neg.flip {f g : Rat → Rat} (a : N.Neg f) (e : ∀ x, g x = - f x) : N.Pos g := by
  obtain ⟨d, d0, hd⟩ := a
  exact ⟨d, d0, hd.mono fun x h => by rw [e]; grind⟩
theorem Pos.flip {f g : Rat → Rat} (a : N.Pos f) (e : ∀ x, g x = - f x) : N.Neg g := by
  obtain ⟨d, d0, hd⟩ := a
  exact ⟨d, d0, hd.mono fun x h => by rw [e]; grind⟩
theorem Pos.add {f g h : Rat → Rat} (a : N.Pos f) (b : N.Nul g) (e : ∀ x, h x = f x + g x) : N.Pos h := by
  obtain ⟨d, d0, hd⟩ := a
  refine ⟨d / 2, by grind, (hd.and (b (d / 2) (by grind))).mono fun x ⟨h1, h2⟩ => ?_⟩
  rw [e]
  have := h2.1
  grind
end Nest

/-! ### from all points to intervals -/
theorem two_pow_gt (n : Nat) : n < 2 ^ n := Nat.lt_two_pow_self
/-- halves, for ever -/
def halve (R : Rat → Rat → Prop) [∀ x y, Decidable (R x y)] (p : Rat × Rat) : Rat × Rat :=
  if R p.1 ((p.1 + p.2) / 2) then ((p.1 + p.2) / 2, p.2) else (p.1, (p.1 + p.2) / 2)
open Classical in
noncomputable def halves (R : Rat → Rat → Prop) (p : Rat × Rat) : Nat → Rat × Rat
  | 0 => p
  | n + 1 => halve R (halves R p n)
theorem exists_nat_ge (q : Rat) : ∃ n : Nat, q ≤ (n : Rat) := by
  refine ⟨q.ceil.toNat, ?_⟩
  have h1 : q ≤ ((q.ceil : Int) : Rat) := Rat.le_ceil
  have h2 : ((q.ceil : Int) : Rat) ≤ ((q.ceil.toNat : Int) : Rat) := Rat.intCast_le_intCast.mpr (Int.self_le_toNat _)
  exact Rat.le_trans h1 h2
open Classical in
theorem cover {R : Rat → Rat → Prop} {a b : Rat} (hab : a ≤ b) (tr : ∀ x y z, x ≤ y → y ≤ z → R x y → R y z → R x z)
    (loc : ∀ N : Nest, (∀ n, a ≤ N.a n ∧ N.b n ≤ b) → ∃ n, R (N.a n) (N.b n)) : R a b := by
  apply Classical.byContradiction
  intro hR
  let h := halves R (a, b)
  have inv : ∀ n, (h n).1 ≤ (h n).2 ∧ ¬ R (h n).1 (h n).2 ∧ a ≤ (h n).1 ∧ (h n).2 ≤ b ∧ ((h n).2 - (h n).1) * ((2 ^ n : Nat) : Rat) = b - a := by
    intro n
    induction n with
    | zero => exact ⟨hab, hR, Rat.le_refl, Rat.le_refl, by show (b - a) * ((1 : Nat) : Rat) = b - a; simp⟩
    | succ n ih =>
      obtain ⟨i1, i2, i3, i4, i5⟩ := ih
      have e2 : ((2 ^ (n + 1) : Nat) : Rat) = 2 * ((2 ^ n : Nat) : Rat) := by
        rw [Nat.pow_succ, Rat.natCast_mul]
        show ((2 ^ n : Nat) : Rat) * 2 = _
        grind
      rw [e2]
      show (halve R (h n)).1 ≤ (halve R (h n)).2 ∧ ¬ R (halve R (h n)).1 (halve R (h n)).2 ∧ a ≤ (halve R (h n)).1 ∧ (halve R (h n)).2 ≤ b ∧ ((halve R (h n)).2 - (halve R (h n)).1) * _ = b - a
      unfold halve
      split
      · rename_i hc
        refine ⟨by grind, fun z => i2 (tr _ _ _ (by grind) (by grind) hc z), by grind, i4, by grind⟩
      · rename_i hc
        exact ⟨by grind, hc, i3, by grind, by grind⟩
  have st : ∀ n, (h n).1 ≤ (h (n + 1)).1 ∧ (h (n + 1)).2 ≤ (h n).2 := fun n => by
    have := (inv n).1
    show (h n).1 ≤ (halve R (h n)).1 ∧ (halve R (h n)).2 ≤ (h n).2
    unfold halve
    split <;> constructor <;> grind
  let N : Nest := ⟨fun n => (h n).1, fun n => (h n).2, fun n => (inv n).1, fun n => (st n).1, fun n => (st n).2, fun e he => by
    obtain ⟨n, hn⟩ := exists_nat_ge ((b - a) / e)
    refine ⟨n, ?_⟩
    have h5 := (inv n).2.2.2.2
    have h0 := (inv n).1
    have h2 : (n : Rat) ≤ ((2 ^ n : Nat) : Rat) := Rat.natCast_le_natCast.mpr (Nat.le_of_lt (two_pow_gt n))
    have h6 : (0 : Rat) < ((2 ^ n : Nat) : Rat) := Rat.natCast_pos.mpr (Nat.pow_pos (by decide))
    have h7 := Rat.mul_le_mul_of_nonneg_right (Rat.le_trans hn h2) (Rat.le_of_lt he)
    rw [Rat.div_mul_cancel (by grind)] at h7
    refine Rat.le_of_mul_le_mul_right (c := ((2 ^ n : Nat) : Rat)) ?_ h6
    show ((h n).2 - (h n).1) * _ ≤ _
    rw [h5]
    grind⟩
  obtain ⟨n, hn⟩ := loc N fun n => ⟨(inv n).2.2.1, (inv n).2.2.2.1⟩
  exact (inv n).2.1 hn
end RK
namespace RK
open Kqg1 (Poly)
open Nest
/-! ### signs -/
abbrev sg (x : Rat) : Int := Kqg1.sign x
theorem sg_pos {x : Rat} (h : 0 < x) : sg x = 1 := by unfold sg Kqg1.sign; grind
theorem sg_neg {x : Rat} (h : x < 0) : sg x = -1 := by unfold sg Kqg1.sign; grind
theorem sg_zero : sg 0 = 0 := by unfold sg Kqg1.sign; grind
theorem sg_cases (x : Rat) : sg x = 1 ∧ 0 < x ∨ sg x = -1 ∧ x < 0 ∨ sg x = 0 ∧ x = 0 := by unfold sg Kqg1.sign; grind
theorem sg_mul (x y : Rat) : sg (x * y) = sg x * sg y := by
  rcases sg_cases x with ⟨h, k⟩ | ⟨h, k⟩ | ⟨h, k⟩ <;> rcases sg_cases y with ⟨h', k'⟩ | ⟨h', k'⟩ | ⟨h', k'⟩ <;> rw [h, h']
  · exact sg_pos (Rat.mul_pos k k')
  · refine sg_neg ?_
    have := Rat.mul_pos k (b := -y) (by grind)
    grind
  · rw [k']; simp [sg_zero]
  · refine sg_neg ?_
    have := Rat.mul_pos (a := -x) (b := y) (by grind) k'
    grind
  · refine sg_pos ?_
    have := Rat.mul_pos (a := -x) (b := -y) (by grind) (by grind)
    grind
  · rw [k']; simp [sg_zero]
  · rw [k]; simp [sg_zero]
  · rw [k]; simp [sg_zero]
  · rw [k]; simp [sg_zero]
/-- sign changes -/
abbrev sc (l : List Int) : Nat := Kqg1.signChanges l
theorem sc_nil : sc [] = 0 := rfl
theorem sc_zero (l : List Int) : sc (0 :: l) = sc l := by simp [sc, Kqg1.signChanges]
theorem sc_zero2 (a : Int) (l : List Int) : sc (a :: 0 :: l) = sc (a :: l) := by
  by_cases h : a = 0
  · subst h; rw [sc_zero]
  · simp [sc, Kqg1.signChanges, h]
theorem sc_one (a : Int) : sc [a] = 0 := by
  by_cases h : a = 0
  · subst h; rfl
  · simp [sc, Kqg1.signChanges, h]
theorem sc_two {a b : Int} (ha : a ≠ 0) (hb : b ≠ 0) (l : List Int) : sc (a :: b :: l) = (if a = b then 0 else 1) + sc (b :: l) := by
  simp only [sc, Kqg1.signChanges]
  have h1 : (List.filter (fun x => x != 0) (a :: b :: l)) = a :: b :: List.filter (fun x => x != 0) l := by simp [ha, hb]
  have h2 : (List.filter (fun x => x != 0) (b :: l)) = b :: List.filter (fun x => x != 0) l := by simp [hb]
  rw [h1, h2]
  show (List.filter _ ((a, b) :: List.zip (b :: List.filter (fun x => x != 0) l) (List.filter (fun x => x != 0) l))).length = _ + (List.filter _ (List.zip (b :: List.filter (fun x => x != 0) l) (List.filter (fun x => x != 0) l))).length
  by_cases h : a = b
  · simp [h]
  · simp [h]; omega
theorem sc_le (l : List Int) : sc l ≤ l.length - 1 := by
  simp only [sc, Kqg1.signChanges]
  have h1 := List.length_filter_le (fun p : Int × Int => p.1 != p.2) ((List.filter (fun x => x != 0) l).zip ((List.filter (fun x => x != 0) l).drop 1))
  have h2 := List.length_filter_le (fun x : Int => x != 0) l
  rw [List.length_zip, List.length_drop] at h1
  omega

/-! ### chains -/
abbrev chn (fuel : Nat) (p q : Poly) : List Poly := Kqg1.sturmChainFrom fuel p q
abbrev V (c : List Poly) (x : Rat) : Nat := Kqg1.changesAt c (.at x)
theorem V_eq (c : List Poly) (x : Rat) : V c x = sc (c.map fun q => sg (ev q x)) := rfl
theorem chn_nil (fuel : Nat) (p : Poly) : chn (fuel + 1) p [] = [p] := by
  show Kqg1.sturmChainFrom (fuel + 1) p [] = _
  rw [Kqg1.sturmChainFrom, if_pos rfl]
theorem chn_cons (fuel : Nat) (p : Poly) {q : Poly} (h : q ≠ []) : chn (fuel + 1) p q = p :: chn fuel q (Kqg1.scale (-1) (Kqg1.remainder p q)) := by
  show Kqg1.sturmChainFrom (fuel + 1) p q = _
  rw [Kqg1.sturmChainFrom, if_neg h]
theorem chn_head (fuel : Nat) (p q : Poly) : ∃ r, chn (fuel + 1) p q = p :: r := by
  by_cases h : q = []
  · subst h; exact ⟨_, chn_nil fuel p⟩
  · exact ⟨_, chn_cons fuel p h⟩
/-- the next remainder -/
abbrev nx (p q : Poly) : Poly := Kqg1.scale (-1) (Kqg1.remainder p q)
theorem nx_ev {p q : Poly} (hp : Tr p) (hq : Tr q) (nq : q ≠ []) (t : Rat) : ev (nx p q) t = ev q t * ev (Kqg1.quotient p q) t - ev p t := by
  have := quot_rem hp hq nq t
  rw [ev_scale]
  grind
theorem nx_length {p q : Poly} (hp : Tr p) (hq : Tr q) (nq : q ≠ []) : (nx p q).length < q.length := by
  have h1 := rem_length hp hq nq
  have h2 : (nx p q).length ≤ (Kqg1.remainder p q).length := by
    have := length_trim_le ((Kqg1.remainder p q).map fun x => -1 * x)
    simpa [Kqg1.scale] using this
  omega
theorem Cp.nx {p q : Poly} (hp : Tr p) (hq : Tr q) (nq : q ≠ []) (h : Cp p q) : Cp q (nx p q) := by
  obtain ⟨a, b, hab⟩ := h
  refine ⟨padd (pmul a (Kqg1.quotient p q)) b, Kqg1.scale (-1) a, fun t => ?_⟩
  have := hab t
  have := nx_ev hp hq nq t
  rw [ev_padd, ev_pmul, this, ev_scale]
  grind
theorem not_both {N : Nest} {p q : Poly} (h : Cp p q) (hp : N.Nul (ev p)) : ¬ N.Nul (ev q) := fun hq => by
  obtain ⟨a, b, hab⟩ := h
  exact Nul.one_false (Nul.add (hp.mul a fun x => rfl) (hq.mul b fun x => rfl) fun x => rfl) fun x => by
    have := hab x
    grind
/-- a polynomial that does not vanish there has one sign near it -/
theorem sign_near {N : Nest} {p : Poly} (h : ¬ N.Nul (ev p)) : ∃ s : Int, (s = 1 ∨ s = -1) ∧ N.Near fun x => sg (ev p x) = s := by
  rcases tri (N := N) p with ⟨d, d0, hd⟩ | ⟨d, d0, hd⟩ | k
  · exact ⟨1, .inl rfl, hd.mono fun x hx => sg_pos (by grind)⟩
  · exact ⟨-1, .inr rfl, hd.mono fun x hx => sg_neg (by grind)⟩
  · exact absurd k h
theorem nul_nil {N : Nest} : N.Nul (ev []) := fun e he => ⟨0, fun x _ _ => by show Bd e (ev [] x); rw [ev_nil]; unfold Bd; grind⟩
theorem V_const {N : Nest} : ∀ (fuel : Nat) (p q : Poly), Tr p → Tr q → Cp p q → q.length < fuel → ¬ N.Nul (ev p) → ∃ k, N.Near fun x => V (chn fuel p q) x = k
  | 0, _, _, _, _, _, h, _ => by omega
  | fuel + 1, p, q, hp, hq, c, hl, np => by
    by_cases nq : q = []
    · subst nq
      refine ⟨0, 0, fun x _ _ => ?_⟩
      show V (chn (fuel + 1) p []) x = 0
      rw [chn_nil, V_eq]
      exact sc_one _
    rw [chn_cons _ _ nq]
    have hl2 := nx_length hp hq nq
    have tn : Tr (nx p q) := Tr.scale _ _
    have cn := c.nx hp hq nq
    obtain ⟨s, hs, hsn⟩ := sign_near np
    by_cases hz : N.Nul (ev q)
    · -- the next one vanishes: its neighbours have other signs
      have nr : ¬ N.Nul (ev (nx p q)) := not_both cn hz
      have nr' : nx p q ≠ [] := fun z => nr (by rw [z]; exact nul_nil)
      obtain ⟨f', rfl⟩ : ∃ f', fuel = f' + 1 := ⟨fuel - 1, by
        have : 0 < q.length := List.length_pos_iff.mpr nq
        omega⟩
      rw [chn_cons _ _ nr']
      have hl3 := nx_length hq tn nr'
      obtain ⟨k, hk⟩ := V_const f' (nx p q) (nx q (nx p q)) tn (Tr.scale _ _) (cn.nx hq tn nr') (by omega) nr
      obtain ⟨f2, rfl⟩ : ∃ f2, f' = f2 + 1 := ⟨f' - 1, by
        have : 0 < (nx p q).length := List.length_pos_iff.mpr nr'
        omega⟩
      obtain ⟨rest, hr⟩ := chn_head f2 (nx p q) (nx q (nx p q))
      rw [hr] at hk ⊢
      -- signs
      have hopp : N.Near fun x => sg (ev (nx p q) x) = -s := by
        have e : ∀ x, ev (nx p q) x = -1 * ev p x + ev q x * ev (Kqg1.quotient p q) x := fun x => by rw [nx_ev hp hq nq]; grind
        have nq0 : N.Nul fun x => ev q x * ev (Kqg1.quotient p q) x := hz.mul _ fun x => rfl
        rcases tri (N := N) p with h1 | h1 | h1
        · have e1 : s = 1 := by
            obtain ⟨d, d0, hd⟩ := h1
            obtain ⟨x, hx, hx2⟩ := (hsn.and hd).get
            rw [sg_pos (by grind)] at hx
            exact hx.symm
          have h2 : N.Pos fun x => -(ev (nx p q) x) := by
            refine Pos.add h1 (nq0.mul [-1] fun x => rfl) fun x => ?_
            rw [e, ev_cons, ev_nil]; grind
          obtain ⟨d, d0, hd⟩ := h2
          exact hd.mono fun x hx => by rw [e1]; exact sg_neg (by grind)
        · have e1 : s = -1 := by
            obtain ⟨d, d0, hd⟩ := h1
            obtain ⟨x, hx, hx2⟩ := (hsn.and hd).get
            rw [sg_neg (by grind)] at hx
            exact hx.symm
          have h2 : N.Pos fun x => ev (nx p q) x := by
            refine Pos.add (h1.flip (g := fun x => - ev p x) fun x => rfl) nq0 fun x => ?_
            rw [e]; grind
          obtain ⟨d, d0, hd⟩ := h2
          exact hd.mono fun x hx => by rw [e1]; exact sg_pos (by grind)
        · exact absurd h1 np
      refine ⟨1 + k, ((hsn.and hopp).and hk).mono fun x ⟨⟨h1, h2⟩, h3⟩ => ?_⟩
      rw [V_eq] at h3 ⊢
      simp only [List.map_cons] at h3 ⊢
      rw [h2] at h3 ⊢
      rw [h1]
      have s0 : s ≠ 0 := by rcases hs with rfl | rfl <;> decide
      have s1 : -s ≠ 0 := by omega
      have s2 : s ≠ -s := by omega
      rcases sg_cases (ev q x) with ⟨hq1, _⟩ | ⟨hq1, _⟩ | ⟨hq1, _⟩ <;> rw [hq1]
      · rw [sc_two s0 (by decide), sc_two (by decide) s1, h3]
        rcases hs with rfl | rfl <;> simp
      · rw [sc_two s0 (by decide), sc_two (by decide) s1, h3]
        rcases hs with rfl | rfl <;> simp
      · rw [sc_zero2, sc_two s0 s1, h3, if_neg s2]
    · obtain ⟨k, hk⟩ := V_const fuel q (nx p q) hq tn cn (by omega) hz
      obtain ⟨f', rfl⟩ : ∃ f', fuel = f' + 1 := ⟨fuel - 1, by
        have : 0 < q.length := List.length_pos_iff.mpr nq
        omega⟩
      obtain ⟨rest, hr⟩ := chn_head f' q (nx p q)
      rw [hr] at hk ⊢
      obtain ⟨u, hu, hun⟩ := sign_near hz
      refine ⟨(if s = u then 0 else 1) + k, ((hsn.and hun).and hk).mono fun x ⟨⟨h1, h2⟩, h3⟩ => ?_⟩
      rw [V_eq] at h3 ⊢
      simp only [List.map_cons] at h3 ⊢
      rw [h2] at h3 ⊢
      rw [h1, sc_two (by rcases hs with rfl | rfl <;> decide) (by rcases hu with rfl | rfl <;> decide), h3]
/-- the chain of a polynomial without squares -/
abbrev chS (s : Poly) : List Poly := chn (s.length + 1) s (Kqg1.derivative s)
theorem deriv_length (s : Poly) : (Kqg1.derivative s).length ≤ s.length - 1 := by
  have := length_trim_le ((List.range (s.length - 1)).map fun i => ((i + 1 : Nat) : Rat) * Kqg1.coefficient s (i + 1))
  simpa [Kqg1.derivative] using this
theorem V_const_s {N : Nest} {s : Poly} (hs : Tr s) (q : Sqf s) (h : ¬ N.Nul (ev s)) : ∃ k, N.Near fun x => V (chS s) x = k :=
  V_const _ s _ hs (Tr.deriv s) q (by have := deriv_length s; omega) h
theorem V_root {N : Nest} {s : Poly} (hs : Tr s) (q : Sqf s) (h : N.Nul (ev s)) : ∃ (k : Nat) (u : Int), (u = 1 ∨ u = -1) ∧ N.Near fun x => sg (D s x) = u ∧ V (chS s) x = k + if sg (ev s x) = -u then 1 else 0 := by
  have nd : ¬ N.Nul (ev (Kqg1.derivative s)) := not_both q h
  have nd' : Kqg1.derivative s ≠ [] := fun z => nd (by rw [z]; exact nul_nil)
  have dl := deriv_length s
  have d0 : 0 < (Kqg1.derivative s).length := List.length_pos_iff.mpr nd'
  have hl2 := nx_length hs (Tr.deriv s) nd'
  obtain ⟨u, hu, hun⟩ := sign_near nd
  obtain ⟨k, hk⟩ := V_const s.length (Kqg1.derivative s) (nx s (Kqg1.derivative s)) (Tr.deriv s) (Tr.scale _ _) (Cp.nx hs (Tr.deriv s) nd' q) (by omega) nd
  refine ⟨k, u, hu, (hun.and hk).mono fun x ⟨h1, h2⟩ => ⟨h1, ?_⟩⟩
  show V (chn (s.length + 1) s (Kqg1.derivative s)) x = _
  rw [chn_cons _ _ nd']
  obtain ⟨f', hf'⟩ : ∃ f', s.length = f' + 1 := ⟨s.length - 1, by omega⟩
  rw [hf'] at h2 ⊢
  obtain ⟨rest, hr⟩ := chn_head f' (Kqg1.derivative s) (nx s (Kqg1.derivative s))
  rw [hr] at h2 ⊢
  rw [V_eq] at h2 ⊢
  simp only [List.map_cons] at h2 ⊢
  have h1' : sg (ev (Kqg1.derivative s) x) = u := h1
  rw [h1'] at h2 ⊢
  have u0 : u ≠ 0 := by rcases hu with rfl | rfl <;> decide
  rcases sg_cases (ev s x) with ⟨hq1, _⟩ | ⟨hq1, _⟩ | ⟨hq1, _⟩ <;> rw [hq1]
  · rw [sc_two (by decide) u0, h2]
    rcases hu with rfl | rfl <;> simp <;> omega
  · rw [sc_two (by decide) u0, h2]
    rcases hu with rfl | rfl <;> simp <;> omega
  · rw [sc_zero, h2]
    rcases hu with rfl | rfl <;> simp
/-- a polynomial goes up, or down, near a simple root -/
theorem steep {N : Nest} {s : Poly} {u : Int} (hu : u = 1 ∨ u = -1) (nd : ¬ N.Nul (ev (Kqg1.derivative s))) (h : N.Near fun x => sg (D s x) = u) :
    ∃ n, ∀ x y, N.a n ≤ x → x < y → y ≤ N.b n → 0 < (u : Rat) * (ev s y - ev s x) := by
  obtain ⟨R, r0, hR⟩ := N.radius
  obtain ⟨K, k0, hK⟩ := bd_sq r0 s
  have hd : ∃ d, 0 < d ∧ N.Near fun x => d ≤ (u : Rat) * D s x := by
    rcases tri (N := N) (Kqg1.derivative s) with ⟨d, d0, hd⟩ | ⟨d, d0, hd⟩ | z
    · refine ⟨d, d0, (hd.and h).mono fun x ⟨h1, h2⟩ => ?_⟩
      rw [sg_pos (by show 0 < D s x; grind)] at h2
      rw [← h2]
      show d ≤ ((1 : Int) : Rat) * D s x
      simp
      exact h1
    · refine ⟨d, d0, (hd.and h).mono fun x ⟨h1, h2⟩ => ?_⟩
      rw [sg_neg (by show D s x < 0; grind)] at h2
      rw [← h2]
      show d ≤ ((-1 : Int) : Rat) * D s x
      have : ((-1 : Int) : Rat) = -1 := rfl
      rw [this]
      grind
    · exact absurd z nd
  obtain ⟨d, d0, hd⟩ := hd
  have hk1 : 0 < K + 1 := by grind
  have e0 : 0 < d / (K + 1) / 2 := by
    have : 0 < d / (K + 1) := by rw [Rat.div_def]; exact Rat.mul_pos d0 (Rat.inv_pos.mpr hk1)
    grind
  obtain ⟨n, hn⟩ := hd.two e0
  refine ⟨n, fun x y h1 h2 h3 => ?_⟩
  obtain ⟨n1, n2, n3⟩ := hn x y h1 (Rat.le_of_lt h2) h3
  have hx := hR n x h1 (by grind)
  have hy := hR n y (by grind) h3
  have hq := hK x y hx hy
  have e1 : Bd (d / (K + 1) / 2) (y - x) := by unfold Bd; grind
  have e2 := e1.mul hq
  have e3 : d / (K + 1) / 2 * K ≤ d / 2 := by
    have a1 := Rat.div_mul_cancel (a := d) (b := K + 1) (by grind)
    have a2 : 0 ≤ d / (K + 1) / 2 := by grind
    grind
  have e4 : 0 < (u : Rat) * dq s x y := by
    rw [sq_eq]
    have e5 := e2.mono e3
    rcases hu with rfl | rfl
    · have : ((1 : Int) : Rat) = 1 := rfl
      rw [this] at n1 ⊢
      have := e5.1
      grind
    · have : ((-1 : Int) : Rat) = -1 := rfl
      rw [this] at n1 ⊢
      have := e5.2
      grind
  rw [dq_eq]
  have := Rat.mul_pos (a := y - x) (by grind) e4
  grind
end RK
namespace RK
open Kqg1 (Poly)
open Nest
/-! ### Sturm's theorem, as far as it is asked -/
theorem V_eq_of_no_root {s : Poly} (hs : Tr s) (q : Sqf s) {a b : Rat} (hab : a ≤ b) (h : ∀ N : Nest, (∀ n, a ≤ N.a n ∧ N.b n ≤ b) → ¬ N.Nul (ev s)) : V (chS s) a = V (chS s) b := by
  refine cover (R := fun x y => V (chS s) x = V (chS s) y) hab (fun x y z _ _ h1 h2 => h1.trans h2) fun N hN => ?_
  obtain ⟨k, n, hk⟩ := V_const_s hs q (h N hN)
  exact ⟨n, (hk _ Rat.le_refl (N.le n)).trans (hk _ (N.le n) Rat.le_refl).symm⟩
theorem V_anti {s : Poly} (hs : Tr s) (q : Sqf s) {a b : Rat} (hab : a ≤ b) : V (chS s) b ≤ V (chS s) a := by
  refine cover (R := fun x y => V (chS s) y ≤ V (chS s) x) hab (fun x y z _ _ h1 h2 => Nat.le_trans h2 h1) fun N _ => ?_
  by_cases h : N.Nul (ev s)
  · obtain ⟨k, u, hu, hk⟩ := V_root hs q h
    obtain ⟨n, hn⟩ := steep hu (not_both q h) (hk.mono fun x h => h.1)
    obtain ⟨m, hm⟩ := hk
    have a1 := N.ma' (Nat.le_max_left m n)
    have a2 := N.ma' (Nat.le_max_right m n)
    have b1 := N.mb' (Nat.le_max_left m n)
    have b2 := N.mb' (Nat.le_max_right m n)
    have l := N.le (max m n)
    refine ⟨max m n, ?_⟩
    have e1 := (hm (N.a (max m n)) (by grind) (by grind)).2
    have e2 := (hm (N.b (max m n)) (by grind) (by grind)).2
    rw [e1, e2]
    by_cases he : N.a (max m n) = N.b (max m n)
    · rw [he]; exact Nat.le_refl _
    · have st := hn (N.a (max m n)) (N.b (max m n)) (by grind) (by grind) (by grind)
      generalize ev s (N.a (max m n)) = x at *
      generalize ev s (N.b (max m n)) = y at *
      have : sg y = -u → sg x = -u := by
        intro hy
        rcases hu with rfl | rfl
        · have c : ((1 : Int) : Rat) = 1 := rfl
          rw [c] at st
          rcases sg_cases y with ⟨h1, h2⟩ | ⟨h1, h2⟩ | ⟨h1, h2⟩ <;> rw [h1] at hy
          · exact absurd hy (by decide)
          · exact sg_neg (by grind)
          · exact absurd hy (by decide)
        · have c : ((-1 : Int) : Rat) = -1 := rfl
          rw [c] at st
          rcases sg_cases y with ⟨h1, h2⟩ | ⟨h1, h2⟩ | ⟨h1, h2⟩ <;> rw [h1] at hy
          · exact sg_pos (by grind)
          · exact absurd hy (by decide)
          · exact absurd hy (by decide)
      by_cases hy : sg y = -u
      · rw [if_pos hy, if_pos (this hy)]; exact Nat.le_refl _
      · rw [if_neg hy]; omega
  · obtain ⟨k, n, hk⟩ := V_const_s hs q h
    exact ⟨n, Nat.le_of_eq ((hk _ (N.le n) Rat.le_refl).trans (hk _ Rat.le_refl (N.le n)).symm)⟩
/-- the nest that ends in y -/
def upTo (x y : Rat) (h : x < y) : Nest where
  a := fun n => y - (y - x) / ((2 ^ n : Nat) : Rat)
  b := fun _ => y
  le := fun n => by
    have h6 : (0 : Rat) < ((2 ^ n : Nat) : Rat) := Rat.natCast_pos.mpr (Nat.pow_pos (by decide))
    have : 0 < (y - x) / ((2 ^ n : Nat) : Rat) := by rw [Rat.div_def]; exact Rat.mul_pos (by grind) (Rat.inv_pos.mpr h6)
    grind
  ma := fun n => by
    have h6 : (0 : Rat) < ((2 ^ n : Nat) : Rat) := Rat.natCast_pos.mpr (Nat.pow_pos (by decide))
    have e2 : ((2 ^ (n + 1) : Nat) : Rat) = 2 * ((2 ^ n : Nat) : Rat) := by
      rw [Nat.pow_succ, Rat.natCast_mul]
      show ((2 ^ n : Nat) : Rat) * 2 = _
      grind
    have p1 : 0 < (y - x) / ((2 ^ n : Nat) : Rat) := by rw [Rat.div_def]; exact Rat.mul_pos (by grind) (Rat.inv_pos.mpr h6)
    have p2 : (y - x) / ((2 ^ (n + 1) : Nat) : Rat) = (y - x) / ((2 ^ n : Nat) : Rat) / 2 := by rw [e2]; grind
    rw [p2]
    grind
  mb := fun _ => Rat.le_refl
  small := fun e he => by
    obtain ⟨n, hn⟩ := exists_nat_ge ((y - x) / e)
    refine ⟨n, ?_⟩
    have h2 : (n : Rat) ≤ ((2 ^ n : Nat) : Rat) := Rat.natCast_le_natCast.mpr (Nat.le_of_lt (two_pow_gt n))
    have h6 : (0 : Rat) < ((2 ^ n : Nat) : Rat) := Rat.natCast_pos.mpr (Nat.pow_pos (by decide))
    have h7 := Rat.mul_le_mul_of_nonneg_right (Rat.le_trans hn h2) (Rat.le_of_lt he)
    rw [Rat.div_mul_cancel (by grind)] at h7
    refine Rat.le_of_mul_le_mul_right (c := ((2 ^ n : Nat) : Rat)) ?_ h6
    have e3 := Rat.div_mul_cancel (a := y - x) (b := ((2 ^ n : Nat) : Rat)) (by grind)
    grind
theorem V_strict {s : Poly} (hs : Tr s) (q : Sqf s) {x y : Rat} (h : x < y) (hy : ev s y = 0) : V (chS s) y + 1 ≤ V (chS s) x := by
  let N := upTo x y h
  have bn : ∀ n, N.b n = y := fun _ => rfl
  have hz : N.Nul (ev s) := by
    rcases tri (N := N) s with ⟨d, d0, n, hd⟩ | ⟨d, d0, n, hd⟩ | k
    · have : d ≤ ev s y := hd y (by rw [← bn n]; exact N.le n) (by rw [bn n]; exact Rat.le_refl)
      rw [hy] at this; grind
    · have : ev s y ≤ -d := hd y (by rw [← bn n]; exact N.le n) (by rw [bn n]; exact Rat.le_refl)
      rw [hy] at this; grind
    · exact k
  obtain ⟨k, u, hu, hk⟩ := V_root hs q hz
  obtain ⟨n, hn⟩ := steep hu (not_both q hz) (hk.mono fun x h => h.1)
  obtain ⟨m, hm⟩ := hk
  have a0 : N.a 0 = x := by
    show y - (y - x) / ((1 : Nat) : Rat) = x
    simp
    grind
  have a1 := N.ma' (Nat.le_max_left m n)
  have a2 := N.ma' (Nat.le_max_right m n)
  have a3 := N.ma' (Nat.zero_le (max m n))
  have l : N.a (max m n) < y := by
    show y - (y - x) / ((2 ^ (max m n) : Nat) : Rat) < y
    have h6 : (0 : Rat) < ((2 ^ (max m n) : Nat) : Rat) := Rat.natCast_pos.mpr (Nat.pow_pos (by decide))
    have : 0 < (y - x) / ((2 ^ (max m n) : Nat) : Rat) := by rw [Rat.div_def]; exact Rat.mul_pos (by grind) (Rat.inv_pos.mpr h6)
    grind
  generalize N.a (max m n) = z at *
  have e1 := (hm z (by grind) (by rw [bn m]; grind)).2
  have e2 := (hm y (by grind) (by rw [bn m]; exact Rat.le_refl)).2
  have st := hn z y (by grind) l (by rw [bn n]; exact Rat.le_refl)
  rw [hy] at e2 st
  have mono := V_anti hs q (a := x) (b := z) (by grind)
  have : sg (ev s z) = -u := by
    rcases hu with rfl | rfl
    · have c : ((1 : Int) : Rat) = 1 := rfl
      rw [c] at st
      exact sg_neg (by grind)
    · have c : ((-1 : Int) : Rat) = -1 := rfl
      rw [c] at st
      exact sg_pos (by grind)
  rw [if_pos this] at e1
  rw [sg_zero, if_neg (by rcases hu with rfl | rfl <;> decide)] at e2
  omega
/-- a divisor of a polynomial without squares has none -/
theorem Sqf.left {s t u : Poly} (q : Sqf s) (h : ∀ x, ev s x = ev t x * ev u x) : Sqf t := by
  obtain ⟨a, b, hab⟩ := q
  have hD := D_mul h
  refine ⟨padd (pmul a u) (pmul b (Kqg1.derivative u)), pmul b u, fun x => ?_⟩
  rw [ev_padd, ev_pmul, ev_pmul, ev_pmul]
  have h1 : ev a x * ev s x + ev b x * D s x = 1 := hab x
  have h2 := h x
  have h3 := hD x
  show _ + ev b x * ev u x * D t x = 1
  grind
theorem V_split {s t u : Poly} (hs : Tr s) (ht : Tr t) (hu : Tr u) (q : Sqf s) (h : ∀ x, ev s x = ev t x * ev u x) {a b : Rat} (hab : a ≤ b) :
    V (chS s) a + V (chS t) b + V (chS u) b = V (chS s) b + V (chS t) a + V (chS u) a := by
  have h' : ∀ x, ev s x = ev u x * ev t x := fun x => by rw [h]; grind
  have qt := q.left h
  have qu := q.left h'
  have half : ∀ (N : Nest) (t u : Poly), Tr t → Tr u → Sqf t → Sqf u → (∀ x, ev s x = ev t x * ev u x) → N.Nul (ev t) → ∃ n, V (chS s) (N.a n) + V (chS t) (N.b n) + V (chS u) (N.b n) = V (chS s) (N.b n) + V (chS t) (N.a n) + V (chS u) (N.a n) := by
    intro N t u ht hu qt qu h hz
    have hsz : N.Nul (ev s) := hz.mul u h
    have hD := D_mul h
    have nu : ¬ N.Nul (ev u) := fun z => not_both q hsz ((hz.mul (Kqg1.derivative u) fun x => rfl).add (z.mul (Kqg1.derivative t) fun x => rfl) fun x => by
      have := hD x
      show D s x = _
      rw [this]
      show D t x * ev u x + ev t x * D u x = ev t x * D u x + ev u x * D t x
      grind)
    obtain ⟨k, us, hus, hk⟩ := V_root hs q hsz
    obtain ⟨k', ut, hut, hk'⟩ := V_root ht qt hz
    obtain ⟨k2, hk2⟩ := V_const_s hu qu nu
    obtain ⟨v, hv, hvn⟩ := sign_near nu
    -- the sign of s' is that of t' times that of u
    have key : us = ut * v := by
      have ndt : ¬ N.Nul (ev (Kqg1.derivative t)) := not_both qt hz
      have z2 : N.Nul fun x => ev t x * D u x := hz.mul (Kqg1.derivative u) fun x => rfl
      have pos : N.Pos fun x => ((ut * v : Int) : Rat) * (D t x * ev u x) := by
        have p1 : N.Pos fun x => (ut : Rat) * D t x := by
          rcases tri (N := N) (Kqg1.derivative t) with ⟨d, d0, hd⟩ | ⟨d, d0, hd⟩ | z
          · refine ⟨d, d0, (hd.and hk').mono fun x ⟨h1, h2, _⟩ => ?_⟩
            rw [sg_pos (by show 0 < D t x; grind)] at h2
            rw [← h2]
            show d ≤ ((1 : Int) : Rat) * D t x
            simp
            exact h1
          · refine ⟨d, d0, (hd.and hk').mono fun x ⟨h1, h2, _⟩ => ?_⟩
            rw [sg_neg (by show D t x < 0; grind)] at h2
            rw [← h2]
            show d ≤ ((-1 : Int) : Rat) * D t x
            have : ((-1 : Int) : Rat) = -1 := rfl
            rw [this]
            grind
          · exact absurd z ndt
        have p2 : N.Pos fun x => (v : Rat) * ev u x := by
          rcases tri (N := N) u with ⟨d, d0, hd⟩ | ⟨d, d0, hd⟩ | z
          · refine ⟨d, d0, (hd.and hvn).mono fun x ⟨h1, h2⟩ => ?_⟩
            rw [sg_pos (by grind)] at h2
            rw [← h2]
            show d ≤ ((1 : Int) : Rat) * ev u x
            simp
            exact h1
          · refine ⟨d, d0, (hd.and hvn).mono fun x ⟨h1, h2⟩ => ?_⟩
            rw [sg_neg (by grind)] at h2
            rw [← h2]
            show d ≤ ((-1 : Int) : Rat) * ev u x
            have : ((-1 : Int) : Rat) = -1 := rfl
            rw [this]
            grind
          · exact absurd z nu
        refine p1.mul p2 fun x => ?_
        rw [Rat.intCast_mul]
        grind
      have pos2 : N.Pos fun x => ((ut * v : Int) : Rat) * D s x := pos.add (z2.mul [((ut * v : Int) : Rat)] fun x => rfl) fun x => by
        rw [hD, ev_cons, ev_nil]; grind
      obtain ⟨d, d0, hd⟩ := pos2
      obtain ⟨x, h1, h2, _⟩ := (hd.and hk).get
      rcases hut with rfl | rfl <;> rcases hv with rfl | rfl
      · have c : ((1 * 1 : Int) : Rat) = 1 := rfl
        rw [c] at h1
        rw [sg_pos (by grind)] at h2
        exact h2.symm
      · have c : ((1 * -1 : Int) : Rat) = -1 := rfl
        rw [c] at h1
        rw [sg_neg (by grind)] at h2
        exact h2.symm
      · have c : ((-1 * 1 : Int) : Rat) = -1 := rfl
        rw [c] at h1
        rw [sg_neg (by grind)] at h2
        exact h2.symm
      · have c : ((-1 * -1 : Int) : Rat) = 1 := rfl
        rw [c] at h1
        rw [sg_pos (by grind)] at h2
        exact h2.symm
    have all := ((hk.and hk').and hk2).and hvn
    obtain ⟨n, hn⟩ := all
    refine ⟨n, ?_⟩
    have one : ∀ x, N.a n ≤ x → x ≤ N.b n → V (chS s) x + k' = V (chS t) x + k := fun x h1 h2 => by
      obtain ⟨⟨⟨⟨_, e1⟩, ⟨_, e2⟩⟩, _⟩, e4⟩ := hn x h1 h2
      rw [e1, e2]
      have : sg (ev s x) = sg (ev t x) * v := by rw [h, sg_mul, e4]
      rw [this, key]
      have : (sg (ev t x) * v = -(ut * v)) ↔ (sg (ev t x) = -ut) := by
        rcases hv with rfl | rfl
        · constructor <;> intro z <;> omega
        · constructor <;> intro z <;> omega
      simp only [this]
      omega
    have o1 := one _ Rat.le_refl (N.le n)
    have o2 := one _ (N.le n) Rat.le_refl
    have u1 := (hn _ Rat.le_refl (N.le n)).1.2
    have u2 := (hn _ (N.le n) Rat.le_refl).1.2
    omega
  refine cover (R := fun x y => V (chS s) x + V (chS t) y + V (chS u) y = V (chS s) y + V (chS t) x + V (chS u) x) hab (fun x y z _ _ h1 h2 => by omega) fun N _ => ?_
  by_cases h1 : N.Nul (ev t)
  · exact half N t u ht hu qt qu h h1
  by_cases h2 : N.Nul (ev u)
  · obtain ⟨n, hn⟩ := half N u t hu ht qu qt h' h2
    exact ⟨n, by omega⟩
  · have h3 : ¬ N.Nul (ev s) := by
      rcases tri (N := N) t with a1 | a1 | a1
      · rcases tri (N := N) u with a2 | a2 | a2
        · exact (a1.mul a2 h).not_nul
        · exact (Pos.flip (a1.mul (a2.flip (g := fun x => - ev u x) fun x => rfl) fun x => rfl) (g := ev s) fun x => by rw [h]; grind).not_nul
        · exact absurd a2 h2
      · rcases tri (N := N) u with a2 | a2 | a2
        · exact (Pos.flip ((a1.flip (g := fun x => - ev t x) fun x => rfl).mul a2 fun x => rfl) (g := ev s) fun x => by rw [h]; grind).not_nul
        · exact (((a1.flip (g := fun x => - ev t x) fun x => rfl).mul (a2.flip (g := fun x => - ev u x) fun x => rfl) (h := ev s)) fun x => by rw [h]; grind).not_nul
        · exact absurd a2 h2
      · exact absurd a1 h1
    obtain ⟨k1, n1⟩ := V_const_s hs q h3
    obtain ⟨k2, n2⟩ := V_const_s ht qt h1
    obtain ⟨k3, n3⟩ := V_const_s hu qu h2
    obtain ⟨n, hn⟩ := (n1.and n2).and n3
    have o1 := hn _ Rat.le_refl (N.le n)
    have o2 := hn _ (N.le n) Rat.le_refl
    exact ⟨n, by rw [o1.1.1, o1.1.2, o1.2, o2.1.1, o2.1.2, o2.2]⟩

/-! ### far away -/
theorem chn_ok : ∀ (fuel : Nat) (p q : Poly), Tr p → p ≠ [] → Tr q → ∀ f ∈ chn fuel p q, Tr f ∧ f ≠ []
  | 0, _, _, _, _, _, f, hf => by cases hf
  | fuel + 1, p, q, hp, np, hq, f, hf => by
    by_cases nq : q = []
    · subst nq
      rw [chn_nil] at hf
      rw [List.mem_singleton.mp hf]
      exact ⟨hp, np⟩
    · rw [chn_cons _ _ nq] at hf
      rcases List.mem_cons.mp hf with rfl | hf
      · exact ⟨hp, np⟩
      · exact chn_ok fuel q _ hq nq (Tr.scale _ _) f hf
abbrev Vp (c : List Poly) : Nat := Kqg1.changesAt c .plusInfinity
abbrev Vm (c : List Poly) : Nat := Kqg1.changesAt c .minusInfinity
theorem sg_of {x l : Rat} (hl : l ≠ 0) (h : l * l ≤ x * l) : sg x = sg l := by
  have h2 := sq_pos hl
  have h3 : sg (x * l) = 1 := sg_pos (by grind)
  rw [sg_mul] at h3
  rcases sg_cases l with ⟨a, b⟩ | ⟨a, b⟩ | ⟨a, b⟩
  · rw [a] at h3 ⊢; omega
  · rw [a] at h3 ⊢; omega
  · exact absurd b hl
theorem far_chain : ∀ (c : List Poly), (∀ f ∈ c, Tr f ∧ f ≠ []) → ∃ B : Rat, 0 ≤ B ∧ (∀ x, B ≤ x → ∀ f ∈ c, sg (ev f x) = Kqg1.signAt f .plusInfinity) ∧ (∀ x, x ≤ -B → ∀ f ∈ c, sg (ev f x) = Kqg1.signAt f .minusInfinity)
  | [], _ => ⟨0, by grind, (fun _ _ _ h => nomatch h), (fun _ _ _ h => nomatch h)⟩
  | g :: c, h => by
    obtain ⟨B, b0, h1, h2⟩ := far_chain c fun f hf => h f (List.mem_cons_of_mem _ hf)
    obtain ⟨tg, ng⟩ := h g List.mem_cons_self
    obtain ⟨C, c0, k1, k2⟩ := far tg ng
    have hl := Tr.lead_ne tg ng
    refine ⟨B + C, by grind, ⟨fun x hx f hf => ?_, fun x hx f hf => ?_⟩⟩
    · rcases List.mem_cons.mp hf with rfl | hf
      · exact sg_of hl (k1 x (by grind))
      · exact h1 x (by grind) f hf
    · rcases List.mem_cons.mp hf with rfl | hf
      · have e := sg_of hl (k2 x (by grind))
        rw [sg_mul] at e
        show sg (ev f x) = if Kqg1.degree f % 2 = 0 then sg (ld f) else -(sg (ld f))
        have hlen : 0 < f.length := List.length_pos_iff.mpr ng
        have hdg : Kqg1.degree f = f.length - 1 := rfl
        have e' : sg (alt f) * sg (ev f x) = sg (ld f) := e
        clear e
        have e := e'
        generalize sg (ld f) = L at *
        generalize sg (ev f x) = E at *
        unfold alt at e
        by_cases hp : f.length % 2 = 1
        · rw [if_pos hp, sg_pos (by grind)] at e
          rw [hdg, if_pos (by omega)]
          omega
        · rw [if_neg hp, sg_neg (by grind)] at e
          rw [hdg, if_neg (by omega)]
          omega
      · exact h2 x (by grind) f hf
theorem V_far {s : Poly} (hs : Tr s) (ns : s ≠ []) : ∃ B : Rat, 0 ≤ B ∧ (∀ x, B ≤ x → V (chS s) x = Vp (chS s)) ∧ (∀ x, x ≤ -B → V (chS s) x = Vm (chS s)) := by
  obtain ⟨B, b0, h1, h2⟩ := far_chain (chS s) (chn_ok _ _ _ hs ns (Tr.deriv s))
  refine ⟨B, b0, fun x hx => ?_, fun x hx => ?_⟩
  · exact congrArg sc (List.map_congr_left fun f hf => h1 x hx f hf)
  · exact congrArg sc (List.map_congr_left fun f hf => h2 x hx f hf)
theorem chn_length : ∀ (fuel : Nat) (p q : Poly), Tr p → Tr q → (chn fuel p q).length ≤ q.length + 1
  | 0, _, _, _, _ => by show 0 ≤ _; omega
  | fuel + 1, p, q, hp, hq => by
    by_cases nq : q = []
    · subst nq; rw [chn_nil]; exact Nat.le_refl _
    · rw [chn_cons _ _ nq, List.length_cons]
      have h1 := chn_length fuel q (nx p q) hq (Tr.scale _ _)
      have h2 := nx_length hp hq nq
      show (chn fuel q (nx p q)).length + 1 ≤ _
      omega
theorem Vm_le {s : Poly} (hs : Tr s) : Vm (chS s) ≤ s.length - 1 := by
  have h1 : (chS s).length ≤ (Kqg1.derivative s).length + 1 := chn_length (s.length + 1) s _ hs (Tr.deriv s)
  have h2 := deriv_length s
  have h3 := sc_le ((chS s).map fun q => Kqg1.signAt q .minusInfinity)
  rw [List.length_map] at h3
  show sc ((chS s).map fun q => Kqg1.signAt q .minusInfinity) ≤ _
  by_cases hz : s = []
  · subst hz
    refine Nat.le_trans h3 ?_
    have : (chS []).length ≤ 0 + 1 := chn_length 1 [] [] Tr.nil Tr.nil
    show (chS []).length - 1 ≤ 0
    omega
  · omega
end RK
namespace RK
open Kqg1 (Poly)
open Nest
/-! ### counts -/
def cnt (s : Poly) : Nat := Vm (chS s) - Vp (chS s)
def below (s : Poly) (x : Rat) : Nat := (Vm (chS s) - V (chS s) x) - if ev s x = 0 then 1 else 0
structure Sq (s : Poly) : Prop where
  t : Tr s
  n : s ≠ []
  q : Sqf s
theorem Sq.chain {s : Poly} (h : Sq s) (x : Rat) : Vp (chS s) ≤ V (chS s) x ∧ V (chS s) x ≤ Vm (chS s) := by
  obtain ⟨B, b0, h1, h2⟩ := V_far h.t h.n
  by_cases c : B ≤ x
  · rw [h1 x c]
    refine ⟨Nat.le_refl _, ?_⟩
    rw [← h1 B Rat.le_refl, ← h2 (-B) Rat.le_refl]
    exact V_anti h.t h.q (by grind)
  by_cases c2 : x ≤ -B
  · rw [h2 x c2]
    refine ⟨?_, Nat.le_refl _⟩
    rw [← h1 B Rat.le_refl, ← h2 (-B) Rat.le_refl]
    exact V_anti h.t h.q (by grind)
  · rw [← h1 B Rat.le_refl, ← h2 (-B) Rat.le_refl]
    exact ⟨V_anti h.t h.q (by grind), V_anti h.t h.q (by grind)⟩
theorem Sq.root {s : Poly} (h : Sq s) {x : Rat} (hx : ev s x = 0) : V (chS s) x + 1 ≤ Vm (chS s) := by
  have h1 := V_strict h.t h.q (x := x - 1) (y := x) (by grind) hx
  have h2 := (h.chain (x - 1)).2
  omega
theorem Sq.below_le {s : Poly} (h : Sq s) (x : Rat) : below s x ≤ cnt s := by
  have := h.chain x
  unfold below cnt
  omega
theorem Sq.cnt_le {s : Poly} (h : Sq s) : cnt s ≤ s.length - 1 := by
  have := Vm_le h.t
  unfold cnt
  omega
/-- monotone -/
theorem Sq.mono {s : Poly} (h : Sq s) {x y : Rat} (hxy : x ≤ y) : below s x ≤ below s y := by
  have h1 := V_anti h.t h.q hxy
  have h2 := h.chain x
  unfold below
  by_cases hy : ev s y = 0
  · by_cases he : x = y
    · subst he; exact Nat.le_refl _
    · have := V_strict h.t h.q (x := x) (y := y) (by grind) hy
      rw [if_pos hy]
      split <;> omega
  · rw [if_neg hy]
    omega
/-- a divisor and its cofactor -/
theorem Sq.split {s t : Poly} (h : Sq s) (tt : Tr t) (d : Dv t s) : ∃ u, Sq t ∧ Sq u ∧ (∀ x, ev s x = ev t x * ev u x) ∧ s.length + 1 = t.length + u.length := by
  obtain ⟨a, ha⟩ := d
  have ha' : ∀ x, ev s x = ev t x * ev (Kqg1.trim a) x := fun x => by rw [ev_trim, ha]
  have nt := (NZ.of h.t h.n).left ha'
  have nu := (NZ.of h.t h.n).right ha'
  unfold NZ at nt nu
  rw [tt] at nt
  rw [Tr.trim a] at nu
  refine ⟨Kqg1.trim a, ⟨tt, nt, h.q.left ha'⟩, ⟨Tr.trim a, nu, h.q.left (u := t) fun x => by rw [ha']; grind⟩, ha', ?_⟩
  exact mul_length tt (Tr.trim a) h.t nt nu ha'
theorem cnt_add {s t u : Poly} (hs : Sq s) (ht : Sq t) (hu : Sq u) (h : ∀ x, ev s x = ev t x * ev u x) (x : Rat) :
    cnt s = cnt t + cnt u ∧ below s x = below t x + below u x := by
  obtain ⟨B, b0, h1, h2⟩ := V_far hs.t hs.n
  obtain ⟨C, c0, k1, k2⟩ := V_far ht.t ht.n
  obtain ⟨E, e0, l1, l2⟩ := V_far hu.t hu.n
  have hB : 0 ≤ B + C + E := by grind
  have all := V_split hs.t ht.t hu.t hs.q h (a := -(B + C + E)) (b := B + C + E) (by grind)
  rw [h2 _ (by grind), k1 _ (by grind), l1 _ (by grind), h1 _ (by grind), k2 _ (by grind), l2 _ (by grind)] at all
  have p1 := hs.chain x
  have p2 := ht.chain x
  have p3 := hu.chain x
  have left : Vm (chS s) + V (chS t) x + V (chS u) x = V (chS s) x + Vm (chS t) + Vm (chS u) := by
    by_cases hx : x ≤ -(B + C + E)
    · rw [h2 x (by grind), k2 x (by grind), l2 x (by grind)]
    · have := V_split hs.t ht.t hu.t hs.q h (a := -(B + C + E)) (b := x) (by grind)
      rw [h2 (-(B + C + E)) (by grind), k2 (-(B + C + E)) (by grind), l2 (-(B + C + E)) (by grind)] at this
      exact this
  have r1 := fun z => ht.root (x := x) z
  have r2 := fun z => hu.root (x := x) z
  have hz : ev s x = 0 ↔ (ev t x = 0 ∨ ev u x = 0) := by rw [h]; exact Rat.mul_eq_zero
  have nb : ¬ (ev t x = 0 ∧ ev u x = 0) := by
    rintro ⟨z1, z2⟩
    obtain ⟨a, b, hab⟩ := hs.q
    have := hab x
    have hD : D s x = _ := D_mul h x
    have hD' : ev (Kqg1.derivative s) x = 0 := by
      show D s x = 0
      rw [hD, z1, z2]; grind
    rw [hD', h, z1] at this
    grind
  unfold cnt below
  refine ⟨by omega, ?_⟩
  by_cases z1 : ev t x = 0
  · have z2 : ¬ ev u x = 0 := fun z2 => nb ⟨z1, z2⟩
    have := r1 z1
    rw [if_pos z1, if_neg z2, if_pos (hz.mpr (.inl z1))]
    omega
  · by_cases z2 : ev u x = 0
    · have := r2 z2
      rw [if_neg z1, if_pos z2, if_pos (hz.mpr (.inr z2))]
      omega
    · rw [if_neg z1, if_neg z2, if_neg (fun z => (hz.mp z).elim z1 z2)]
      omega
theorem Sq.full {s t : Poly} (hs : Sq s) (tt : Tr t) (d : Dv t s) (h : cnt s = s.length - 1) : cnt t = t.length - 1 := by
  obtain ⟨u, ht, hu, e, l⟩ := hs.split tt d
  have h1 := (cnt_add hs ht hu e 0).1
  have h2 := ht.cnt_le
  have h3 := hu.cnt_le
  have : 0 < t.length := List.length_pos_iff.mpr ht.n
  have : 0 < u.length := List.length_pos_iff.mpr hu.n
  omega
theorem Sq.none {s t : Poly} (hs : Sq s) (tt : Tr t) (d : Dv t s) (h : cnt s = 0) : cnt t = 0 := by
  obtain ⟨u, ht, hu, e, l⟩ := hs.split tt d
  have h1 := (cnt_add hs ht hu e 0).1
  omega
theorem Sq.all {s t : Poly} (hs : Sq s) (tt : Tr t) (d : Dv t s) {x : Rat} (h : below s x = cnt s) : below t x = cnt t := by
  obtain ⟨u, ht, hu, e, l⟩ := hs.split tt d
  have h1 := cnt_add hs ht hu e x
  have h2 := ht.below_le x
  have h3 := hu.below_le x
  omega
theorem Sq.zero {s t : Poly} (hs : Sq s) (tt : Tr t) (d : Dv t s) {x : Rat} (h : below s x = 0) : below t x = 0 := by
  obtain ⟨u, ht, hu, e, l⟩ := hs.split tt d
  have h1 := cnt_add hs ht hu e x
  omega

/-! ### the specification's layers -/
theorem monic_ok {g : Poly} (tg : Tr g) (ng : g ≠ []) : Tr (Kqg1.monic g) ∧ Kqg1.monic g ≠ [] ∧ (∃ c : Rat, c ≠ 0 ∧ ∀ t, ev (Kqg1.monic g) t = c * ev g t) := by
  have hl := Tr.lead_ne tg ng
  unfold Kqg1.monic
  rw [if_neg ng]
  have hc : 1 / Kqg1.leadingCoefficient g ≠ 0 := by grind
  refine ⟨Tr.scale _ _, ?_, 1 / Kqg1.leadingCoefficient g, hc, fun t => ev_scale _ _ _⟩
  intro z
  have hz : ∀ t, ev g t = 0 := fun t => by
    have := ev_scale (1 / Kqg1.leadingCoefficient g) g t
    rw [z, ev_nil] at this
    rcases Rat.mul_eq_zero.mp this.symm with h | h
    · exact absurd h hc
    · exact h
  exact ng (zero_of_ev tg hz)
/-- from a greatest common divisor, by division -/
theorem Part.of {p g : Poly} (tp : Tr p) (np : p ≠ []) (tg : Tr g) (ng : g ≠ []) (d1 : Dv g p) (d2 : Dv g (Kqg1.derivative p)) (bz : ∃ u v : Poly, ∀ t, ev g t = ev u t * ev p t + ev v t * D p t) : Part p g (Kqg1.quotient p g) := by
  have h := quot_rem tp tg ng
  obtain ⟨a, ha⟩ := d1
  have ha' : ∀ t, ev p t = ev g t * ev (Kqg1.trim a) t + ev [] t := fun t => by rw [ev_trim, ha, ev_nil]; grind
  have u := div_unique tp tg ng (Tr.trim a) Tr.nil (List.length_pos_iff.mpr ng) ha'
  refine ⟨tp, np, tg, Tr.quotient tp tg ng, fun t => ?_, d2, bz⟩
  have := h t
  rw [← u.2, ev_nil] at this
  grind
theorem gcd_ok {p : Poly} (tp : Tr p) (np : p ≠ []) : Part p (Kqg1.gcd p (Kqg1.derivative p)) (Kqg1.quotient p (Kqg1.gcd p (Kqg1.derivative p))) := by
  obtain ⟨i1, i2, i3, i4, u, v, i5⟩ := euclid_ok (p.length + (Kqg1.derivative p).length + 2) p (Kqg1.derivative p) tp (Tr.deriv p) (.inl np) (by omega)
  obtain ⟨m1, m2, c, c0, m3⟩ := monic_ok i1 i2
  have dm : Dv (Kqg1.gcd p (Kqg1.derivative p)) (Kqg1.euclid (p.length + (Kqg1.derivative p).length + 2) p (Kqg1.derivative p)) := ⟨[1 / c], fun t => by
    show _ = ev (Kqg1.monic _) t * _
    rw [m3, ev_cons, ev_nil]
    have := Rat.div_mul_cancel (a := 1) c0
    grind⟩
  refine Part.of tp np m1 m2 (dm.trans i3) (dm.trans i4) ⟨Kqg1.scale c u, Kqg1.scale c v, fun t => ?_⟩
  show ev (Kqg1.monic _) t = _
  rw [m3, i5, ev_scale, ev_scale]
  show _ = c * ev u t * ev p t + c * ev v t * ev (Kqg1.derivative p) t
  grind
theorem Part.lengths {p g s : Poly} (P : Part p g s) : p.length + 1 = g.length + s.length ∧ 0 < g.length ∧ 0 < s.length ∧ (1 < p.length → g.length < p.length) ∧ (p.length ≤ 1 → s.length = 1) := by
  have l := mul_length P.tg P.ts P.tp P.ng P.ns P.mul
  have g0 : 0 < g.length := List.length_pos_iff.mpr P.ng
  have s0 : 0 < s.length := List.length_pos_iff.mpr P.ns
  refine ⟨l, g0, s0, fun h => ?_, fun h => by omega⟩
  have nd : Kqg1.derivative p ≠ [] := by
    intro z
    have e := co_deriv p (p.length - 2)
    rw [z, co_nil] at e
    have hp := P.tp.last P.np
    have e2 : p.length - 2 + 1 = p.length - 1 := by omega
    rw [e2] at e
    rcases Rat.mul_eq_zero.mp e.symm with h1 | h1
    · have := Rat.natCast_eq_zero_iff.mp h1
      omega
    · exact hp h1
  have := P.dv.length P.tg (Tr.deriv p) nd
  have := deriv_length p
  omega
theorem Part.Sq {p g s : Poly} (P : Part p g s) : Sq s := ⟨P.ts, P.ns, P.sqf⟩
theorem squarefree_eq {p : Poly} (h : 1 < p.length) : Kqg1.squarefree p = Kqg1.quotient p (Kqg1.gcd p (Kqg1.derivative p)) := by
  unfold Kqg1.squarefree
  rw [if_neg (by omega)]
/-- what is asked of each layer -/
structure LayerOk (p q : Poly) : Prop where
  t : Tr q
  l : 1 < q.length
  d : Dv q p
theorem layers_ok : ∀ (fuel : Nat) (p : Poly), Tr p → p ≠ [] → p.length ≤ fuel →
    (∀ q ∈ Kqg1.multiplicityLayers fuel p, LayerOk p q) ∧ ((Kqg1.multiplicityLayers fuel p).map fun q => (Kqg1.squarefree q).length - 1).sum = p.length - 1
  | 0, p, _, np, h => by
    have : 0 < p.length := List.length_pos_iff.mpr np
    omega
  | fuel + 1, p, tp, np, h => by
    rw [Kqg1.multiplicityLayers]
    split
    · exact ⟨(fun q hq => nomatch hq), by show 0 = _; omega⟩
    · rename_i c
      have P := gcd_ok tp np
      obtain ⟨l1, l2, l3, l4, _⟩ := P.lengths
      have l5 := l4 (by omega)
      obtain ⟨i1, i2⟩ := layers_ok fuel _ P.tg P.ng (by omega)
      refine ⟨fun q hq => ?_, ?_⟩
      · rcases List.mem_cons.mp hq with rfl | hq
        · exact ⟨tp, by omega, Dv.refl _⟩
        · have := i1 q hq
          exact ⟨this.t, this.l, this.d.trans ⟨_, P.mul⟩⟩
      · rw [List.map_cons, List.sum_cons, i2, squarefree_eq (by omega)]
        omega
theorem LayerOk.sq {p q : Poly} (h : LayerOk p q) : Sq (Kqg1.squarefree q) := by
  have nq : q ≠ [] := by
    intro z
    have := h.l
    rw [z] at this
    simp at this
  have P := gcd_ok h.t nq
  rw [squarefree_eq h.l]
  exact P.Sq
theorem LayerOk.dvd {p q g s : Poly} (h : LayerOk p q) (P : Part p g s) : Dv (Kqg1.squarefree q) s := by
  refine P.dvd h.sq.t h.sq.n h.sq.q (Dv.trans ?_ h.d)
  have nq : q ≠ [] := by
    intro z
    have := h.l
    rw [z] at this
    simp at this
  have P2 := gcd_ok h.t nq
  rw [squarefree_eq h.l]
  exact ⟨Kqg1.gcd q (Kqg1.derivative q), fun t => by rw [P2.mul]; grind⟩
theorem chain_eq (q : Poly) : Kqg1.sturmChain q = chS (Kqg1.squarefree q) := rfl
theorem foldl_nat : ∀ (l : List Nat) (a : Nat), l.foldl (fun x y => x + y) a = a + l.sum
  | [], a => by simp
  | x :: l, a => by rw [List.foldl_cons, foldl_nat l, List.sum_cons]; omega
theorem headD_chS {s : Poly} : (chS s).headD [] = s := by
  obtain ⟨r, hr⟩ := chn_head s.length s (Kqg1.derivative s)
  show (chn (s.length + 1) s (Kqg1.derivative s)).headD [] = s
  rw [hr]
  rfl
def lay (p : Poly) : List Poly := (Kqg1.multiplicityLayers p.length p).map Kqg1.squarefree
theorem countRoots_eq (p : Poly) : Kqg1.countRoots p .minusInfinity .plusInfinity = ((lay p).map cnt).sum := by
  unfold Kqg1.countRoots Kqg1.countByChains Kqg1.layerChains lay
  rw [foldl_nat, List.map_map, List.map_map, Nat.zero_add]
  rfl
theorem sum_sub : ∀ (l : List Poly) (x : Rat), (∀ s ∈ l, Sq s) → ((l.map chS).map fun c => Kqg1.countByChain c .minusInfinity (.at x)).sum = (l.map (fun s => below s x)).sum + ((l.map chS).filter fun c => Kqg1.evaluate (c.headD []) x == 0).length
  | [], x, _ => rfl
  | s :: l, x, h => by
    have ih := sum_sub l x fun s hs => h s (List.mem_cons_of_mem _ hs)
    have hs := h s List.mem_cons_self
    simp only [List.map_cons, List.sum_cons, ih]
    rw [List.filter_cons, headD_chS]
    have e : Kqg1.countByChain (chS s) .minusInfinity (.at x) = Vm (chS s) - V (chS s) x := rfl
    rw [e]
    have hr := fun z => hs.root (x := x) z
    unfold below
    by_cases hz : ev s x = 0
    · have := hr hz
      rw [if_pos hz, if_pos (by show (ev s x == 0) = true; rw [hz]; rfl), List.length_cons]
      omega
    · rw [if_neg hz, if_neg (by show ¬ (ev s x == 0) = true; simpa using hz)]
      omega
theorem lay_sq {p : Poly} (tp : Tr p) (np : p ≠ []) : ∀ s ∈ lay p, Sq s := fun s hs => by
  obtain ⟨q, hq, rfl⟩ := List.mem_map.mp hs
  exact ((layers_ok p.length p tp np (Nat.le_refl _)).1 q hq).sq
theorem countBelow_eq {p : Poly} (tp : Tr p) (np : p ≠ []) (x : Rat) : Kqg1.countBelow p x = ((lay p).map fun s => below s x).sum := by
  have h := sum_sub (lay p) x (lay_sq tp np)
  have e : Kqg1.layerChains p = (lay p).map chS := by
    unfold Kqg1.layerChains lay
    rw [List.map_map]
    rfl
  unfold Kqg1.countBelow Kqg1.countBelowByChains Kqg1.countByChains Kqg1.multiplicityByChains
  rw [foldl_nat, Nat.zero_add, e, h]
  omega
theorem sum_eq_of_le : ∀ (l : List Poly) (f g : Poly → Nat), (∀ s ∈ l, f s ≤ g s) → ((l.map f).sum = (l.map g).sum ↔ ∀ s ∈ l, f s = g s)
  | [], f, g, _ => by simp
  | s :: l, f, g, h => by
    have ih := sum_eq_of_le l f g fun s hs => h s (List.mem_cons_of_mem _ hs)
    have hs := h s List.mem_cons_self
    have hle : ∀ l : List Poly, (∀ s ∈ l, f s ≤ g s) → (l.map f).sum ≤ (l.map g).sum := by
      intro l
      induction l with
      | nil => intro _; exact Nat.le_refl _
      | cons a l ih =>
        intro h
        have := h a List.mem_cons_self
        have := ih fun s hs => h s (List.mem_cons_of_mem _ hs)
        simp only [List.map_cons, List.sum_cons]
        omega
    have := hle l fun s hs => h s (List.mem_cons_of_mem _ hs)
    simp only [List.map_cons, List.sum_cons, List.forall_mem_cons]
    constructor
    · intro e
      exact ⟨by omega, ih.mp (by omega)⟩
    · rintro ⟨e1, e2⟩
      have := ih.mpr e2
      omega
theorem sum_le_of_le : ∀ (l : List Poly) (f g : Poly → Nat), (∀ s ∈ l, f s ≤ g s) → (l.map f).sum ≤ (l.map g).sum
  | [], f, g, _ => Nat.le_refl _
  | s :: l, f, g, h => by
    have := sum_le_of_le l f g fun s hs => h s (List.mem_cons_of_mem _ hs)
    have := h s List.mem_cons_self
    simp only [List.map_cons, List.sum_cons]
    omega
theorem sum_zero (l : List Poly) (f : Poly → Nat) : (l.map f).sum = 0 ↔ ∀ s ∈ l, f s = 0 := by
  induction l with
  | nil => simp
  | cons s l ih => simp only [List.map_cons, List.sum_cons, List.forall_mem_cons, ← ih]; omega
/-- each layer divides the part without squares; and that divides the first layer -/
theorem lay_dvd {p g s : Poly} (P : Part p g s) : ∀ t ∈ lay p, Dv t s := fun t ht => by
  obtain ⟨q, hq, rfl⟩ := List.mem_map.mp ht
  exact ((layers_ok p.length p P.tp P.np (Nat.le_refl _)).1 q hq).dvd P
theorem lay_first {p g s : Poly} (P : Part p g s) : p.length ≤ 1 ∧ s.length = 1 ∨ ∃ t ∈ lay p, Dv s t := by
  by_cases h : p.length ≤ 1
  · exact .inl ⟨h, P.lengths.2.2.2.2 h⟩
  · refine .inr ⟨Kqg1.squarefree p, ?_, ?_⟩
    · refine List.mem_map.mpr ⟨p, ?_, rfl⟩
      obtain ⟨n, hn⟩ : ∃ n, p.length = n + 1 := ⟨p.length - 1, by omega⟩
      rw [hn, Kqg1.multiplicityLayers, if_neg (by omega)]
      exact List.mem_cons_self
    · rw [squarefree_eq (by omega)]
      refine (gcd_ok P.tp P.np).dvd P.ts P.ns P.sqf ⟨g, fun t => by rw [P.mul]; grind⟩
theorem cnt_const {s : Poly} (h : Sq s) (l : s.length = 1) : cnt s = 0 := by
  have := h.cnt_le
  omega
/-! ### the four questions -/
theorem isRealRooted_eq {p g s : Poly} (P : Part p g s) : Kqg1.isRealRooted p = decide (cnt s = s.length - 1) := by
  have hlen : ((lay p).map fun t => t.length - 1).sum = p.length - 1 := by
    have := (layers_ok p.length p P.tp P.np (Nat.le_refl _)).2
    unfold lay
    rw [List.map_map]
    exact this
  have key : Kqg1.countRoots p .minusInfinity .plusInfinity = Kqg1.degree p ↔ cnt s = s.length - 1 := by
    rw [countRoots_eq]
    show _ = p.length - 1 ↔ _
    rw [← hlen, sum_eq_of_le _ _ _ fun t ht => (lay_sq P.tp P.np t ht).cnt_le]
    constructor
    · intro h
      rcases lay_first P with ⟨h1, h2⟩ | ⟨t, ht, d⟩
      · rw [cnt_const P.Sq h2]; omega
      · exact (lay_sq P.tp P.np t ht).full P.ts d (h t ht)
    · intro h t ht
      exact P.Sq.full (lay_sq P.tp P.np t ht).t (lay_dvd P t ht) h
  unfold Kqg1.isRealRooted
  have e1 : (p != []) = true := by simpa using P.np
  rw [e1, Bool.true_and]
  by_cases h : cnt s = s.length - 1
  · rw [decide_eq_true h]; exact beq_iff_eq.mpr (key.mpr h)
  · rw [decide_eq_false h]; exact beq_eq_false_iff_ne.mpr fun z => h (key.mp z)
theorem rootCount_zero {p g s : Poly} (P : Part p g s) : Kqg3.rootCount p = 0 ↔ cnt s = 0 := by
  show Kqg1.countRoots p .minusInfinity .plusInfinity = 0 ↔ _
  rw [countRoots_eq, sum_zero]
  constructor
  · intro h
    rcases lay_first P with ⟨h1, h2⟩ | ⟨t, ht, d⟩
    · exact cnt_const P.Sq h2
    · exact (lay_sq P.tp P.np t ht).none P.ts d (h t ht)
  · intro h t ht
    exact P.Sq.none (lay_sq P.tp P.np t ht).t (lay_dvd P t ht) h
theorem countBelow_zero {p g s : Poly} (P : Part p g s) (x : Rat) : Kqg1.countBelow p x = 0 ↔ below s x = 0 := by
  rw [countBelow_eq P.tp P.np, sum_zero]
  constructor
  · intro h
    rcases lay_first P with ⟨h1, h2⟩ | ⟨t, ht, d⟩
    · have := P.Sq.below_le x
      rw [cnt_const P.Sq h2] at this
      omega
    · exact (lay_sq P.tp P.np t ht).zero P.ts d (h t ht)
  · intro h t ht
    exact P.Sq.zero (lay_sq P.tp P.np t ht).t (lay_dvd P t ht) h
theorem countBelow_all {p g s : Poly} (P : Part p g s) (x : Rat) : Kqg1.countBelow p x = Kqg3.rootCount p ↔ below s x = cnt s := by
  show _ = Kqg1.countRoots p .minusInfinity .plusInfinity ↔ _
  rw [countBelow_eq P.tp P.np, countRoots_eq, sum_eq_of_le _ _ _ fun t ht => (lay_sq P.tp P.np t ht).below_le x]
  constructor
  · intro h
    rcases lay_first P with ⟨h1, h2⟩ | ⟨t, ht, d⟩
    · have := P.Sq.below_le x
      rw [cnt_const P.Sq h2] at this ⊢
      omega
    · exact (lay_sq P.tp P.np t ht).all P.ts d (h t ht)
  · intro h t ht
    exact P.Sq.all (lay_sq P.tp P.np t ht).t (lay_dvd P t ht) h
theorem countBelow_le {p g s : Poly} (P : Part p g s) (x : Rat) : Kqg1.countBelow p x ≤ Kqg3.rootCount p := by
  show _ ≤ Kqg1.countRoots p .minusInfinity .plusInfinity
  rw [countBelow_eq P.tp P.np, countRoots_eq]
  exact sum_le_of_le _ _ _ fun t ht => (lay_sq P.tp P.np t ht).below_le x
/-- is the greatest root this point or above it? -/
theorem greatest_test {p g s : Poly} (P : Part p g s) (h : Kqg3.rootCount p ≠ 0) (x : Rat) : decide (Kqg1.countBelow p x ≤ Kqg3.rootCount p - 1) = decide (below s x < cnt s) := by
  have h1 := countBelow_all P x
  have h2 := countBelow_le P x
  have h3 := P.Sq.below_le x
  by_cases c : below s x = cnt s
  · have := h1.mpr c
    rw [decide_eq_false (by omega), decide_eq_false (by omega)]
  · have : ¬ Kqg1.countBelow p x = Kqg3.rootCount p := fun z => c (h1.mp z)
    rw [decide_eq_true (by omega), decide_eq_true (by omega)]
theorem smallest_test {p g s : Poly} (P : Part p g s) (x : Rat) : decide (Kqg1.countBelow p x ≤ 0) = decide (below s x = 0) := by
  have h1 := countBelow_zero P x
  by_cases c : below s x = 0
  · have := h1.mpr c
    rw [decide_eq_true (by omega), decide_eq_true c]
  · have : ¬ Kqg1.countBelow p x = 0 := fun z => c (h1.mp z)
    rw [decide_eq_false (by omega), decide_eq_false c]
theorem nonneg_eq {p g s : Poly} (P : Part p g s) : Kqg3.hasNonnegativeRoots p = (decide (cnt s = s.length - 1) && decide (below s 0 = 0)) := by
  unfold Kqg3.hasNonnegativeRoots
  rw [isRealRooted_eq P]
  congr 1
  have h1 := countBelow_zero P 0
  by_cases c : below s 0 = 0
  · rw [decide_eq_true c]; exact beq_iff_eq.mpr (h1.mpr c)
  · rw [decide_eq_false c]; exact beq_eq_false_iff_ne.mpr fun z => c (h1.mp z)
end RK
namespace RW
open PySem PySem.Spec PyProof.Rows L2 C8
/-! ### rules of our own: products and quotients of great ints -/
def CMulB (i j : Int) : Prop := ∃ a b : Nat, i.natAbs < 2 ^ a ∧ j.natAbs < 2 ^ b ∧ a + b ≤ 134000000
theorem CMulB.ok {i j : Int} (h : CMulB i j) : IntMulOk i j := by
  obtain ⟨a, b, ha, hb, hab⟩ := h
  have h1 := PyProof.Rows.intBits_le ha
  have h2 := PyProof.Rows.intBits_le hb
  have e : bitsLine = 134217728 := by decide
  unfold IntMulOk
  intro z
  have z2 := (Bool.and_eq_true_iff.mp z).2
  unfold Builtin.Int.intTooBig at z2
  have z3 := of_decide_eq_true z2
  rw [e] at z3
  omega
section
variable {X : Cx}
theorem op_mulB : OpR X (binaryOp .Mult) (rI CMulB fun i j => .int (i * j)) := opI fun _ _ _ _ _ _ _ hc q => mul_int q hc.ok
theorem iop_mulB : OpR X (inplaceOp .Mult) (rI CMulB fun i j => .int (i * j)) := opI fun _ _ _ _ _ _ _ hc q => imul_int q hc.ok
/-- where a quotient of any size may be taken -/
structure Py (X : Cx) : Prop where
  seer : X.base.NoSeer
  tree : X.prog.given.tree = none
  dp : X.A.depth + 100 < recursionLimit
  top : ∃ (env : Env) (l : List Env), X.stack = env :: l ∧ env.scope.isGenerator = false ∧ env.scope.isCoroutine = false ∧ env.builtins = builtinsNs ∧ env.globals = mainGlobals
theorem Py.room {pins : List (Addr × Obj)} {σ : L2.St} {H : Hp} {s : Shared} (h : Py X) (I : Inv X pins σ H s) : PySem.PylongRoom (model X.prog X.w) X.A s := by
  obtain ⟨env, l, e, g1, g2, g3, g4⟩ := h.top
  refine PylongRoom.of I.nolimit h.dp ?_
  exact SeerAt.of (h.seer.keeps I.bk) h.tree (I.ok.frames.trans (congrArg some e)) g1 g2 g3 g4
/-- a quotient by a positive divisor -/
theorem op_fdivB (hP : Py X) : OpR X (binaryOp .FloorDiv) (rI (fun _ j => 0 < j) fun i j => .int (i / j)) := by
  intro pins s σ H x y v u Q I rx ry h
  obtain ⟨i, j, rfl, rfl, hc, q⟩ := h
  obtain ⟨t, rfl⟩ := rx
  obtain ⟨t', rfl⟩ := ry
  have h1 : (0 : Int) < j := hc
  refine floordiv_int (by omega) ?_ (.inr (hP.room I))
  rw [Int.fdiv_eq_ediv_of_nonneg i (by omega)]
  exact ⟨.int (i / j), H, I.tok _, ⟨_, rfl⟩, q⟩
/-- .. of either sign -/
theorem op_fdivS (hP : Py X) : OpR X (binaryOp .FloorDiv) (rI (fun _ j => j ≠ 0) fun i j => .int (i.fdiv j)) := by
  intro pins s σ H x y v u Q I rx ry h
  obtain ⟨i, j, rfl, rfl, hc, q⟩ := h
  obtain ⟨t, rfl⟩ := rx
  obtain ⟨t', rfl⟩ := ry
  refine floordiv_int hc ?_ (.inr (hP.room I))
  exact ⟨.int (i.fdiv j), H, I.tok _, ⟨_, rfl⟩, q⟩
end
theorem py_of {CX : CXT} {P : Program} {w : World} {K : PySem.W.Frag} {mg : Str → Option Value} {base : Heap} {N : List Str} {qual : Str} {scope : Scope} {f : Addr} {cd : Value} {A : Around} {outer : List Env} {s : Shared} {H : Hp} {E : XK} {k : Nat}
    (hS : base.NoSeer) (ht : P.given.tree = none) (hr : Room k (A.deeper (envOfC qual scope s.heap.objs.size f cd))) (hk : Nat.ble 32 k = true) (hg : scope.isGenerator = false := by rfl) (hc : scope.isCoroutine = false := by rfl) :
    Py (cxOf CX P w K mg base N qual scope f cd A outer s H E).nox := by
  refine ⟨hS, ht, ?_, _, _, rfl, hg, hc, rfl, rfl⟩
  have h1 := hr.dp
  have h2 := Nat.le_of_ble_eq_true hk
  show (A.deeper (envOfC qual scope s.heap.objs.size f cd)).depth + 100 < recursionLimit
  omega
end RW
namespace RW
open PySem PySem.Spec PyProof.Rows L2 C8
/-! ### the text -/
abbrev top (i : Nat) : Stmt := PySem.Challenge.pw_rootkeepers_s01_answers.main.body.getD i (.Pass ⟨0, 0, 0, 0⟩)
def inClass : Stmt → Nat → Stmt
  | .ClassDef (body := b) .., i => b.getD i (.Pass ⟨0, 0, 0, 0⟩)
  | _, _ => .Pass ⟨0, 0, 0, 0⟩
/-- a tuple of the written part -/
def TupK (K : PySem.W.Frag) (a : Addr) (xs : List V) : Prop := ∀ H : Hp, SqT K H a xs
/-- what the top has written, beside the defs -/
structure Txt (P : Program) (K : PySem.W.Frag) (mg : Str → Option Value) (base : Heap) : Prop where
  seer : base.NoSeer
  tree : P.given.tree = none
  len : mg "len" = none
  abs : mg "abs" = none
  max : mg "max" = none
  list : mg "list" = none
  range : mg "range" = none
  reversed : mg "reversed" = none
  gZERO : ∃ a, (∃ u, mg "ZERO" = some u ∧ RelV (.ref a) u) ∧ TupK K a [.int 0, .int 1]
  gONE : ∃ a, (∃ u, mg "ONE" = some u ∧ RelV (.ref a) u) ∧ TupK K a [.int 1, .int 1]
  gNOT_CREATED : ∃ u, mg "NOT_CREATED" = some u ∧ RelV (.int (-11)) u
  gNO_SLOT : ∃ u, mg "NO_SLOT" = some u ∧ RelV (.int (-2)) u
  gOUT_OF_RANGE : ∃ u, mg "OUT_OF_RANGE" = some u ∧ RelV (.int (-22)) u
  gIS_ZERO : ∃ u, mg "IS_ZERO" = some u ∧ RelV (.int (-33)) u
  gNOT_FITTING : ∃ u, mg "NOT_FITTING" = some u ∧ RelV (.int (-34)) u
  gTOO_LARGE : ∃ u, mg "TOO_LARGE" = some u ∧ RelV (.int (-75)) u
  gSLOTS : ∃ u, mg "SLOTS" = some u ∧ RelV (.int 4) u
  gMOST_COEFFICIENTS : ∃ u, mg "MOST_COEFFICIENTS" = some u ∧ RelV (.int 7) u
  gMOST_ROOTS : ∃ u, mg "MOST_ROOTS" = some u ∧ RelV (.int 6) u
  gMOST_NUMERATOR : ∃ u, mg "MOST_NUMERATOR" = some u ∧ RelV (.int 1000) u
  gMOST_DENOMINATOR : ∃ u, mg "MOST_DENOMINATOR" = some u ∧ RelV (.int 1000) u
  gMOST_SEQUENCE : ∃ u, mg "MOST_SEQUENCE" = some u ∧ RelV (.int 5) u
  gMOST_BITS : ∃ u, mg "MOST_BITS" = some u ∧ RelV (.int 30) u
  gMOST_STORED : ∃ u, mg "MOST_STORED" = some u ∧ RelV (.int 1000000000000000000000000000000) u
  gORIGIN : ∃ a, (∃ u, mg "ORIGIN" = some u ∧ RelV (.ref a) u) ∧ TupK K a [.int 0, .int 0]
  gCREATE : ∃ u, mg "CREATE" = some u ∧ RelV (.int 0) u
  gSET_POLYNOMIAL : ∃ u, mg "SET_POLYNOMIAL" = some u ∧ RelV (.int 1) u
  gSET_ROOTS : ∃ u, mg "SET_ROOTS" = some u ∧ RelV (.int 2) u
  gGET_POLYNOMIAL : ∃ u, mg "GET_POLYNOMIAL" = some u ∧ RelV (.int 3) u
  gIS_REAL_ROOTED : ∃ u, mg "IS_REAL_ROOTED" = some u ∧ RelV (.int 4) u
  gSHIFT_ROOTS : ∃ u, mg "SHIFT_ROOTS" = some u ∧ RelV (.int 5) u
  gSCALE_ROOTS : ∃ u, mg "SCALE_ROOTS" = some u ∧ RelV (.int 6) u
  gRECIPROCAL : ∃ u, mg "RECIPROCAL" = some u ∧ RelV (.int 7) u
  gDERIVATIVE : ∃ u, mg "DERIVATIVE" = some u ∧ RelV (.int 8) u
  gSUBTRACT_DERIVATIVE : ∃ u, mg "SUBTRACT_DERIVATIVE" = some u ∧ RelV (.int 9) u
  gAPPLY_MULTIPLIER : ∃ u, mg "APPLY_MULTIPLIER" = some u ∧ RelV (.int 11) u
  gSCHUR_SZEGO : ∃ u, mg "SCHUR_SZEGO" = some u ∧ RelV (.int 12) u
  gSCHUR_PRODUCT : ∃ u, mg "SCHUR_PRODUCT" = some u ∧ RelV (.int 13) u
  gHADAMARD_PRODUCT : ∃ u, mg "HADAMARD_PRODUCT" = some u ∧ RelV (.int 14) u
  gFREE_SUM : ∃ u, mg "FREE_SUM" = some u ∧ RelV (.int 15) u
  gMEAN : ∃ u, mg "MEAN" = some u ∧ RelV (.int 16) u
  gVARIANCE : ∃ u, mg "VARIANCE" = some u ∧ RelV (.int 17) u
  gGREATEST_ROOT : ∃ u, mg "GREATEST_ROOT" = some u ∧ RelV (.int 18) u
  gSMALLEST_ROOT : ∃ u, mg "SMALLEST_ROOT" = some u ∧ RelV (.int 19) u
  gSUMMARY : ∃ u, mg "SUMMARY" = some u ∧ RelV (.int 21) u
  gCALL_SIZES : ∃ a, (∃ u, mg "CALL_SIZES" = some u ∧ RelV (.ref a) u) ∧ TupK K a [.int 1, .int 4, .int 4, .int 2, .int 2, .int 5, .int 5, .int 3, .int 3, .int 5, .int 5, .int 4, .int 4, .int 4, .int 4, .int 4, .int 2, .int 2, .int 3, .int 3, .int 2, .int 1]
/-- a def of the module, with how its arguments bind -/
def DefB (K : PySem.W.Frag) (mg : Str → Option Value) (x : Str) (st : Stmt) (ps : List Str) : Prop := ∃ (f : Addr) (fd : FuncData), C8.Def K mg x st f fd ∧ Binds K fd ps []
def MetB (K : PySem.W.Frag) (C : Addr) (x : Str) (qual : Str) (st : Stmt) (ps : List Str) : Prop := ∃ (f : Addr) (fd : FuncData), C8.Fun K x qual st f fd ∧ Binds K fd ps [] ∧ Cls K C ∧ Meth K C x f
/-! ### promises by how many arguments there are -/
def sp1 (B : V → Hp → VK → Prop) : Sp := fun vs H Q _ => ∃ a, vs = [a] ∧ B a H Q
def sp2 (B : V → V → Hp → VK → Prop) : Sp := fun vs H Q _ => ∃ a b, vs = [a, b] ∧ B a b H Q
def sp3 (B : V → V → V → Hp → VK → Prop) : Sp := fun vs H Q _ => ∃ a b c, vs = [a, b, c] ∧ B a b c H Q
def sp4 (B : V → V → V → V → Hp → VK → Prop) : Sp := fun vs H Q _ => ∃ a b c d, vs = [a, b, c, d] ∧ B a b c d H Q
section
variable {P : Program} {w : World} {K : PySem.W.Frag} {mg : Str → Option Value} {base : Heap} {x qual : Str} {st : Stmt} {N ps : List Str} {k : Nat} {C : Addr}
abbrev Bd1 (P : Program) (w : World) (K : PySem.W.Frag) (mg : Str → Option Value) (base : Heap) (k : Nat) (x : Str) (st : Stmt) (N : List Str) (vs : List V) (B : Hp → VK → Prop) : Prop :=
  ∀ (f : Addr) (cdv : Value) (A : Around) (outer : List Env) (s : Shared) (H : Hp) (Q : VK) (E : XK), Room k (A.deeper (envOfC x (fnScope st) s.heap.objs.size f cdv)) → B H Q →
    ∃ t, PSs (cxOf C8.CX0 P w K mg base N x (fnScope st) f cdv A outer s H E).nox (fnBody st) t ∧ t { nx := fun _ H' => Q .non H', rt := Q } (start N vs) H
theorem mk1 {p1 : Str} {B : V → Hp → VK → Prop} (d : DefB K mg x st [p1]) (S : FnScope N [p1] (fnScope st))
    (h : ∀ (f : Addr) (cdv : Value) (A : Around) (outer : List Env) (s : Shared) (H : Hp) (a : V) (Q : VK) (E : XK), Room k (A.deeper (envOfC x (fnScope st) s.heap.objs.size f cdv)) → B a H Q →
      ∃ t, PSs (cxOf C8.CX0 P w K mg base N x (fnScope st) f cdv A outer s H E).nox (fnBody st) t ∧ t { nx := fun _ H' => Q .non H', rt := Q } (start N [a]) H) : Cal P w K mg base (k + 1) x (sp1 B) [] := by
  obtain ⟨f, fd, F, b⟩ := d
  refine cal0 F b .nil S (fun vs H Q E h => ?_) fun cdv A outer s H vs Q E hr hq => ?_
  · obtain ⟨_, rfl, _⟩ := h
    rfl
  · obtain ⟨a, rfl, q⟩ := hq
    exact h f cdv A outer s H a Q E hr q
theorem mk2 {p1 p2 : Str} {B : V → V → Hp → VK → Prop} (d : DefB K mg x st [p1, p2]) (S : FnScope N [p1, p2] (fnScope st))
    (h : ∀ (f : Addr) (cdv : Value) (A : Around) (outer : List Env) (s : Shared) (H : Hp) (a b : V) (Q : VK) (E : XK), Room k (A.deeper (envOfC x (fnScope st) s.heap.objs.size f cdv)) → B a b H Q →
      ∃ t, PSs (cxOf C8.CX0 P w K mg base N x (fnScope st) f cdv A outer s H E).nox (fnBody st) t ∧ t { nx := fun _ H' => Q .non H', rt := Q } (start N [a, b]) H) : Cal P w K mg base (k + 1) x (sp2 B) [] := by
  obtain ⟨f, fd, F, b⟩ := d
  refine cal0 F b .nil S (fun vs H Q E h => ?_) fun cdv A outer s H vs Q E hr hq => ?_
  · obtain ⟨_, _, rfl, _⟩ := h
    rfl
  · obtain ⟨a, b, rfl, q⟩ := hq
    exact h f cdv A outer s H a b Q E hr q
theorem mk3 {p1 p2 p3 : Str} {B : V → V → V → Hp → VK → Prop} (d : DefB K mg x st [p1, p2, p3]) (S : FnScope N [p1, p2, p3] (fnScope st))
    (h : ∀ (f : Addr) (cdv : Value) (A : Around) (outer : List Env) (s : Shared) (H : Hp) (a b c : V) (Q : VK) (E : XK), Room k (A.deeper (envOfC x (fnScope st) s.heap.objs.size f cdv)) → B a b c H Q →
      ∃ t, PSs (cxOf C8.CX0 P w K mg base N x (fnScope st) f cdv A outer s H E).nox (fnBody st) t ∧ t { nx := fun _ H' => Q .non H', rt := Q } (start N [a, b, c]) H) : Cal P w K mg base (k + 1) x (sp3 B) [] := by
  obtain ⟨f, fd, F, b⟩ := d
  refine cal0 F b .nil S (fun vs H Q E h => ?_) fun cdv A outer s H vs Q E hr hq => ?_
  · obtain ⟨_, _, _, rfl, _⟩ := h
    rfl
  · obtain ⟨a, b, c, rfl, q⟩ := hq
    exact h f cdv A outer s H a b c Q E hr q
theorem mt1 {p1 : Str} {B : V → Hp → VK → Prop} (d : MetB K C x qual st [p1]) (S : FnScope N [p1] (fnScope st))
    (h : ∀ (f : Addr) (cdv : Value) (A : Around) (outer : List Env) (s : Shared) (H : Hp) (a : V) (Q : VK) (E : XK), Room k (A.deeper (envOfC qual (fnScope st) s.heap.objs.size f cdv)) → B a H Q →
      ∃ t, PSs (cxOf C8.CX0 P w K mg base N qual (fnScope st) f cdv A outer s H E).nox (fnBody st) t ∧ t { nx := fun _ H' => Q .non H', rt := Q } (start N [a]) H) : Met P w K mg base (k + 1) C x (sp1 B) [] := by
  obtain ⟨f, fd, F, b, cl, me⟩ := d
  refine met0 cl me F b S (fun vs H Q E h => ?_) fun cdv A outer s H vs Q E hr hq => ?_
  · obtain ⟨_, rfl, _⟩ := h
    rfl
  · obtain ⟨a, rfl, q⟩ := hq
    exact h f cdv A outer s H a Q E hr q
theorem mt2 {p1 p2 : Str} {B : V → V → Hp → VK → Prop} (d : MetB K C x qual st [p1, p2]) (S : FnScope N [p1, p2] (fnScope st))
    (h : ∀ (f : Addr) (cdv : Value) (A : Around) (outer : List Env) (s : Shared) (H : Hp) (a b : V) (Q : VK) (E : XK), Room k (A.deeper (envOfC qual (fnScope st) s.heap.objs.size f cdv)) → B a b H Q →
      ∃ t, PSs (cxOf C8.CX0 P w K mg base N qual (fnScope st) f cdv A outer s H E).nox (fnBody st) t ∧ t { nx := fun _ H' => Q .non H', rt := Q } (start N [a, b]) H) : Met P w K mg base (k + 1) C x (sp2 B) [] := by
  obtain ⟨f, fd, F, b, cl, me⟩ := d
  refine met0 cl me F b S (fun vs H Q E h => ?_) fun cdv A outer s H vs Q E hr hq => ?_
  · obtain ⟨_, _, rfl, _⟩ := h
    rfl
  · obtain ⟨a, b, rfl, q⟩ := hq
    exact h f cdv A outer s H a b Q E hr q
theorem mt3 {p1 p2 p3 : Str} {B : V → V → V → Hp → VK → Prop} (d : MetB K C x qual st [p1, p2, p3]) (S : FnScope N [p1, p2, p3] (fnScope st))
    (h : ∀ (f : Addr) (cdv : Value) (A : Around) (outer : List Env) (s : Shared) (H : Hp) (a b c : V) (Q : VK) (E : XK), Room k (A.deeper (envOfC qual (fnScope st) s.heap.objs.size f cdv)) → B a b c H Q →
      ∃ t, PSs (cxOf C8.CX0 P w K mg base N qual (fnScope st) f cdv A outer s H E).nox (fnBody st) t ∧ t { nx := fun _ H' => Q .non H', rt := Q } (start N [a, b, c]) H) : Met P w K mg base (k + 1) C x (sp3 B) [] := by
  obtain ⟨f, fd, F, b, cl, me⟩ := d
  refine met0 cl me F b S (fun vs H Q E h => ?_) fun cdv A outer s H vs Q E hr hq => ?_
  · obtain ⟨_, _, _, rfl, _⟩ := h
    rfl
  · obtain ⟨a, b, c, rfl, q⟩ := hq
    exact h f cdv A outer s H a b c Q E hr q
theorem mt4 {p1 p2 p3 p4 : Str} {B : V → V → V → V → Hp → VK → Prop} (d : MetB K C x qual st [p1, p2, p3, p4]) (S : FnScope N [p1, p2, p3, p4] (fnScope st))
    (h : ∀ (f : Addr) (cdv : Value) (A : Around) (outer : List Env) (s : Shared) (H : Hp) (a b c e : V) (Q : VK) (E : XK), Room k (A.deeper (envOfC qual (fnScope st) s.heap.objs.size f cdv)) → B a b c e H Q →
      ∃ t, PSs (cxOf C8.CX0 P w K mg base N qual (fnScope st) f cdv A outer s H E).nox (fnBody st) t ∧ t { nx := fun _ H' => Q .non H', rt := Q } (start N [a, b, c, e]) H) : Met P w K mg base (k + 1) C x (sp4 B) [] := by
  obtain ⟨f, fd, F, b, cl, me⟩ := d
  refine met0 cl me F b S (fun vs H Q E h => ?_) fun cdv A outer s H vs Q E hr hq => ?_
  · obtain ⟨_, _, _, _, rfl, _⟩ := h
    rfl
  · obtain ⟨a, b, c, e, rfl, q⟩ := hq
    exact h f cdv A outer s H a b c e Q E hr q
end

theorem ifT {c : Bool} {A B : Prop} (h : c = true) (a : A) : if c = true then A else B := by
  rw [if_pos h]
  exact a
theorem ifF {c : Bool} {A B : Prop} (h : c = false) (b : B) : if c = true then A else B := by
  rw [h, if_neg Bool.false_ne_true]
  exact b
theorem yes {σ : L2.St} {H : Hp} {A B : Hp → Prop} (h : A H) : tYes σ H (fun b H3 => if b = true then A H3 else B H3) := by
  show if true = true then A H else B H
  rw [if_pos rfl]
  exact h
/-! ### how data lies in the heap -/
/-- a value comes out, and all that was there stands -/
def Ret (R : Hp → V → Prop) (H : Hp) (Q : VK) : Prop := ∀ (H' : Hp) (r : V), Same H H' → R H' r → Q r H'
/-- a place that was free, and is taken -/
structure Nw (H H' : Hp) (a : Addr) : Prop where
  free : H a = none
  there : H' a ≠ none
theorem Nw.after {H0 H H' : Hp} {a : Addr} (s : Same H0 H) (n : Nw H H' a) : Nw H0 H' a := ⟨s.free n.free, n.there⟩
theorem Nw.keep {H H' H2 : Hp} {a : Addr} (n : Nw H H' a) (s : Same H' H2) : Nw H H2 a := ⟨n.free, fun z => n.there (s.free z)⟩
theorem Nw.lay {H : Hp} {a : Addr} {o : HO} (h : H a = none) : Nw H (L2.upd H a o) a := ⟨h, fun z => by rw [upd_same] at z; cases z⟩
theorem Nw.ne {H H' : Hp} {a l : Addr} (n : Nw H H' a) (h : H' l = none) : a ≠ l := fun e => n.there (by rw [e]; exact h)
theorem Nw.ne2 {H H' : Hp} {a l : Addr} {o : HO} (n : Nw H H' a) (h : H l = some o) : a ≠ l := fun e => by
  have := n.free
  rw [e, h] at this
  cases this
/-- a new object comes out -/
def RetN (R : Hp → V → Prop) (H : Hp) (Q : VK) : Prop := ∀ (H' : Hp) (a : Addr), Same H H' → Nw H H' a → R H' (.ref a) → Q (.ref a) H'
/-- a fraction: a tuple of numerator and denominator -/
def Fr (K : PySem.W.Frag) (H : Hp) (v : V) (q : Rat) : Prop := ∃ a, v = .ref a ∧ SqT K H a [.int q.num, .int (q.den : Int)]
/-- a list of items, each told by F -/
def Ls {α : Type} (K : PySem.W.Frag) (F : Hp → V → α → Prop) (H : Hp) (v : V) (l : List α) : Prop := ∃ a vs, v = .ref a ∧ SqL K H a vs ∧ Paired (F H) vs l
abbrev Po (K : PySem.W.Frag) (H : Hp) (v : V) (p : List Rat) : Prop := Ls K (Fr K) H v p
/-- .. at a place that was free -/
def PoN (K : PySem.W.Frag) (H0 H : Hp) (v : V) (p : List Rat) : Prop := ∃ a, v = .ref a ∧ Nw H0 H a ∧ Po K H (.ref a) p
/-- numbers that may be multiplied -/
def Sz (q : Rat) : Prop := ∃ k : Nat, k ≤ 67000000 ∧ q.num.natAbs < 2 ^ k ∧ q.den < 2 ^ k
theorem sqT_same {K : PySem.W.Frag} {H H' : Hp} {a : Addr} {xs : List V} (s : Same H H') (h : SqT K H a xs) : SqT K H' a xs := by
  rcases h with h | h
  · rcases h with h | ⟨o, h⟩
    · exact .inl (.inl (s _ _ h))
    · exact .inl (.inr ⟨o, s _ _ h⟩)
  · exact .inr h
theorem sqL_same {K : PySem.W.Frag} {H H' : Hp} {a : Addr} {xs : List V} (s : Same H H') (h : SqL K H a xs) : SqL K H' a xs := by
  rcases h with h | h
  · rcases h with h | ⟨o, h⟩
    · exact .inl (.inl (s _ _ h))
    · exact .inl (.inr ⟨o, s _ _ h⟩)
  · exact .inr h
theorem Fr.same {K : PySem.W.Frag} {H H' : Hp} {v : V} {q : Rat} (s : Same H H') (h : Fr K H v q) : Fr K H' v q :=
  let ⟨a, e, t⟩ := h; ⟨a, e, sqT_same s t⟩
theorem Ls.same {α : Type} {K : PySem.W.Frag} {F : Hp → V → α → Prop} {H H' : Hp} {v : V} {l : List α} (hF : ∀ v x, F H v x → F H' v x) (s : Same H H') (h : Ls K F H v l) : Ls K F H' v l :=
  let ⟨a, vs, e, t, p⟩ := h; ⟨a, vs, e, sqL_same s t, Paired.mapP p hF⟩
theorem Po.same {K : PySem.W.Frag} {H H' : Hp} {v : V} {p : List Rat} (s : Same H H') (h : Po K H v p) : Po K H' v p := Ls.same (fun _ _ => Fr.same s) s h
/-- a list that is written: what is a tuple stands -/
theorem sqT_upd {K : PySem.W.Frag} {H : Hp} {l : Addr} {xs ys : List V} {a : Addr} {zs : List V} (hl : H l = some (.lst xs)) (h : SqT K H a zs) : SqT K (upd H l (.lst ys)) a zs := by
  rcases h with h | h
  · rcases h with h | ⟨o, h⟩
    · exact .inl (.inl (by rw [upd_ne (ne_of h hl (by intro z; cases z))]; exact h))
    · exact .inl (.inr ⟨o, by rw [upd_ne (ne_of h hl (by intro z; cases z))]; exact h⟩)
  · exact .inr h
theorem Fr.upd {K : PySem.W.Frag} {H : Hp} {l : Addr} {xs ys : List V} {v : V} {q : Rat} (hl : H l = some (.lst xs)) (h : Fr K H v q) : Fr K (L2.upd H l (.lst ys)) v q :=
  let ⟨a, e, t⟩ := h; ⟨a, e, sqT_upd hl t⟩
/-- what stood ahead stands where a new object is laid or written -/
theorem same_new {H H' : Hp} {l : Addr} {o : HO} (s : Same H H') (n : H l = none) : Same H (L2.upd H' l o) := fun b u e => by
  rw [upd_ne (ne_of_none e n)]
  exact s b u e
theorem same_lay {H : Hp} {l : Addr} {o : HO} (n : H l = none) : Same H (L2.upd H l o) := same_new (Same.refl H) n
/-- a list stands where another one is written -/
theorem sqL_upd {K : PySem.W.Frag} {H : Hp} {l a : Addr} {ys zs : List V} (ne : a ≠ l) (h : SqL K H a zs) : SqL K (L2.upd H l (.lst ys)) a zs := by
  rcases h with h | h
  · rcases h with h | ⟨o, h⟩
    · exact .inl (.inl (by rw [upd_ne ne]; exact h))
    · exact .inl (.inr ⟨o, by rw [upd_ne ne]; exact h⟩)
  · exact .inr h
theorem Po.upd {K : PySem.W.Frag} {H : Hp} {l a : Addr} {xs ys : List V} {p : List Rat} (hl : H l = some (.lst xs)) (ne : a ≠ l) (h : Po K H (.ref a) p) : Po K (L2.upd H l (.lst ys)) (.ref a) p := by
  obtain ⟨b, vs, e, t, pr⟩ := h
  cases e
  exact ⟨a, vs, rfl, sqL_upd ne t, Paired.mapP pr fun v x f => f.upd hl⟩
theorem LsI.same {α : Type} {K : PySem.W.Frag} {G : V → α → Prop} {H H' : Hp} {v : V} {l : List α} (s : Same H H') (h : Ls K (fun _ => G) H v l) : Ls K (fun _ => G) H' v l :=
  let ⟨a, vs, e, t, p⟩ := h; ⟨a, vs, e, sqL_same s t, p⟩
theorem Paired.app {α β : Type} {F : α → β → Prop} : ∀ {xs : List α} {ys : List β} {x : α} {y : β}, Paired F xs ys → F x y → Paired F (xs ++ [x]) (ys ++ [y])
  | _, _, _, _, .nil, h => .cons h .nil
  | _, _, _, _, .cons r t, h => .cons r (Paired.app t h)
theorem Paired.len {α β : Type} {F : α → β → Prop} : ∀ {xs : List α} {ys : List β}, Paired F xs ys → xs.length = ys.length
  | _, _, .nil => rfl
  | _, _, .cons _ t => congrArg (· + 1) (Paired.len t)
theorem Paired.at {α β : Type} {F : α → β → Prop} : ∀ {xs : List α} {ys : List β} {i : Nat} {x : α}, Paired F xs ys → xs[i]? = some x → ∃ y, ys[i]? = some y ∧ F x y
  | _, _, _, _, .nil, e => by simp at e
  | _, _, 0, _, .cons r _, e => by simp at e; subst e; exact ⟨_, rfl, r⟩
  | _, _, i + 1, _, .cons _ t, e => by
    obtain ⟨y, h1, h2⟩ := Paired.at (i := i) t (by simpa using e)
    exact ⟨y, by simpa using h1, h2⟩
theorem Paired.at' {α β : Type} {F : α → β → Prop} : ∀ {xs : List α} {ys : List β} {i : Nat} {y : β}, Paired F xs ys → ys[i]? = some y → ∃ x, xs[i]? = some x ∧ F x y
  | _, _, _, _, .nil, e => by simp at e
  | _, _, 0, _, .cons r _, e => by simp at e; subst e; exact ⟨_, rfl, r⟩
  | _, _, i + 1, _, .cons _ t, e => by
    obtain ⟨y, h1, h2⟩ := Paired.at' (i := i) t (by simpa using e)
    exact ⟨y, by simpa using h1, h2⟩
end RW
namespace RW
open PySem PySem.Spec PyProof.Rows L2 C8
/-! ### a list taken on by a tuple's items -/
theorem ext_tup (l : Addr) (items : Array Value) (n : Nat) (b : Addr) (items2 : Array Value) (n2 : Nat) (dd : Option Addr) (sl : Array (Option Value))
    (h0 : ¬(!items.isEmpty && Builtin.List.listTooLong (items.size + items2.size)) = true) (h1 : items.size ≤ sizeLine) (h2 : items.size + items2.size ≤ sizeLine + 1) :
    Meets (Builtin.«list.extend» ⟨[.ref l, .ref b], []⟩) (fun _ R s =>
      s.heap.get? l = some { cls := .type "list", dict := none, data := .seq items n, slots := #[] } ∧
      s.heap.get? b = some { cls := .type "tuple", dict := dd, data := .seq items2 n2, slots := sl } ∧
      R (.ok (.ret Value.none)) { s with heap := s.heap.update l (Obj.mapSeq fun x => x ++ items2), toks := s.toks }) :=
  .of_wp fun prog w A R s h => by
    obtain ⟨hp, g, d, tk, os⟩ := s
    obtain ⟨hl, hb, h⟩ := h
    have f1 := AutoSeq1.idx_int
    have f2 := AutoSeq1.sub_tuple_tuple
    have f3 := AutoSeq1.sub_list_list
    have f4 := AutoSeq1.sub_tuple_list
    have f5 := AutoSeq1.sub_list_tuple
    have hz : (items ++ items2).size ≤ sizeLine + 1 := by
      rw [Array.size_append]
      exact h2
    wp_walk using (wpAny_updateSeq hl rfl (hz := h1) (_hz' := hz)), AutoSeq1.wpAny_loadPart' hl, AutoSeq1.wpAny_loadPart' hb
    exact ⟨_, rfl, h⟩
theorem mt_extendT {X : Cx} : MtM X "list.extend" (fun x vs H Q => ∃ (l b : Addr) (xs zs : List V), x = .ref l ∧ vs = [.ref b] ∧ H l = some (.lst xs) ∧ SqT X.K H b zs ∧ xs.length + zs.length ≤ sizeLine ∧ Q .non (L2.upd H l (.lst (xs ++ zs)))) := by
  intro pins s σ H x vs v us Q I rx rv h
  obtain ⟨l, b, xs, zs, rfl, rfl, hH, hB, hz, q⟩ := h
  cases rx
  obtain ⟨u, rfl, ru⟩ := rv.one
  cases ru
  obtain ⟨z, its, n, r, hl, e⟩ := I.lstM hH
  obtain ⟨its2, r2, ⟨o, e2, c2, n2, d2⟩, z2⟩ := I.tuple hB
  have hl2 := r2.length
  obtain ⟨cls, dd, dat, sl⟩ := o
  have c2' : cls = .type "tuple" := c2
  have d2' : dat = .seq its2.toArray n2 := d2
  subst c2' d2'
  have n1 : its.toArray.size = xs.length := by rw [List.size_toArray]; exact r.length.symm
  have n3 : its2.toArray.size = zs.length := by rw [List.size_toArray]; exact hl2.symm
  have hlong : ¬ (!its.toArray.isEmpty && Builtin.List.listTooLong (its.toArray.size + its2.toArray.size)) = true := by
    rw [notLongL (by omega), Bool.and_false]
    exact Bool.false_ne_true
  refine call_meets PySem.F.slot_list_extend ⟨_, e, rfl⟩ PySem.F.entry_list_extend (PySem.F.args_list_extend_2 _ _) (ext_tup l its.toArray n b its2.toArray n2 dd sl hlong (by omega) (by omega)) ⟨e, e2, ?_⟩
  have app := r.append r2
  refine ⟨.non, _, I.lset (its' := its ++ its2) hH e (by simp) app (by rw [List.length_append]; omega), rfl, q⟩
end RW
namespace RW
open PySem PySem.Spec PyProof.Rows L2 C8
theorem low_fst {n d : Int} (h : d ≠ 0) : n.fdiv (if d < 0 then -((Nat.gcd n.natAbs d.natAbs : Nat) : Int) else ((Nat.gcd n.natAbs d.natAbs : Nat) : Int)) = (Rat.divInt n d).num := by
  rw [Rat.num_divInt]
  have hg : Int.gcd d n = Nat.gcd n.natAbs d.natAbs := by rw [Int.gcd_comm]; rfl
  rw [hg]
  have dv : ((Nat.gcd n.natAbs d.natAbs : Nat) : Int) ∣ n := Int.ofNat_dvd_left.mpr (Nat.gcd_dvd_left _ _)
  generalize ((Nat.gcd n.natAbs d.natAbs : Nat) : Int) = g at *
  by_cases hd : d < 0
  · rw [if_pos hd, Int.sign_eq_neg_one_of_neg hd, Int.fdiv_eq_ediv_of_dvd (Int.neg_dvd.mpr dv), Int.ediv_neg, Int.neg_one_mul, Int.neg_ediv_of_dvd dv]
  · rw [if_neg hd, Int.sign_eq_one_of_pos (by omega), Int.fdiv_eq_ediv_of_dvd dv, Int.one_mul]
theorem low_snd {n d : Int} (h : d ≠ 0) : d.fdiv (if d < 0 then -((Nat.gcd n.natAbs d.natAbs : Nat) : Int) else ((Nat.gcd n.natAbs d.natAbs : Nat) : Int)) = ((Rat.divInt n d).den : Int) := by
  rw [Rat.den_divInt, if_neg h]
  have hg : Int.gcd d n = Nat.gcd n.natAbs d.natAbs := by rw [Int.gcd_comm]; rfl
  rw [hg]
  have dv : ((Nat.gcd n.natAbs d.natAbs : Nat) : Int) ∣ d := Int.ofNat_dvd_left.mpr (Nat.gcd_dvd_right _ _)
  rw [Int.natCast_ediv]
  generalize ((Nat.gcd n.natAbs d.natAbs : Nat) : Int) = g at *
  by_cases hd : d < 0
  · rw [if_pos hd, Int.fdiv_eq_ediv_of_dvd (Int.neg_dvd.mpr dv), Int.ediv_neg]
    have : (d.natAbs : Int) = -d := by omega
    rw [this, Int.neg_ediv_of_dvd dv]
  · rw [if_neg hd, Int.fdiv_eq_ediv_of_dvd dv]
    have : (d.natAbs : Int) = d := by omega
    rw [this]
theorem low_ne {n d : Int} (h : d ≠ 0) : (if d < 0 then -((Nat.gcd n.natAbs d.natAbs : Nat) : Int) else ((Nat.gcd n.natAbs d.natAbs : Nat) : Int)) ≠ 0 := by
  have : 0 < Nat.gcd n.natAbs d.natAbs := Nat.gcd_pos_of_pos_right _ (by omega)
  split <;> omega
theorem divInt_add (p q : Rat) : Rat.divInt (p.num * (q.den : Int) + q.num * (p.den : Int)) ((p.den : Int) * (q.den : Int)) = p + q := by
  rw [Rat.add_def', ← Int.natCast_mul, Rat.divInt_ofNat]
theorem divInt_sub (p q : Rat) : Rat.divInt (p.num * (q.den : Int) - q.num * (p.den : Int)) ((p.den : Int) * (q.den : Int)) = p - q := by
  rw [Rat.sub_def', ← Int.natCast_mul, Rat.divInt_ofNat]
theorem divInt_mul (p q : Rat) : Rat.divInt (p.num * q.num) ((p.den : Int) * (q.den : Int)) = p * q := by
  rw [Rat.mul_def', ← Int.natCast_mul, Rat.divInt_ofNat]
theorem num_over (q : Rat) : q = (q.num : Rat) / ((q.den : Int) : Rat) := by
  have := Rat.num_divInt_den q
  rw [Rat.divInt_eq_div] at this
  exact this.symm
theorem divInt_div (p q : Rat) (h : q ≠ 0) : Rat.divInt (p.num * (q.den : Int)) ((p.den : Int) * q.num) = p / q := by
  rw [Rat.divInt_eq_div, Rat.intCast_mul, Rat.intCast_mul]
  have e1 := num_over p
  have e2 := num_over q
  have d1 : ((p.den : Int) : Rat) ≠ 0 := by
    intro z
    have := Rat.intCast_eq_zero_iff.mp z
    have := p.den_nz
    omega
  have d2 : ((q.den : Int) : Rat) ≠ 0 := by
    intro z
    have := Rat.intCast_eq_zero_iff.mp z
    have := q.den_nz
    omega
  have d3 : (q.num : Rat) ≠ 0 := by
    intro z
    have := Rat.intCast_eq_zero_iff.mp z
    exact h (Rat.num_eq_zero.mp this)
  generalize (p.num : Rat) = a at *
  generalize ((p.den : Int) : Rat) = b at *
  generalize (q.num : Rat) = c at *
  generalize ((q.den : Int) : Rat) = d at *
  rw [e1, e2]
  grind
section
variable {P : Program} {w : World} {K : PySem.W.Frag} {mg : Str → Option Value} {base : Heap} {C : Addr}
/-- the greatest common divisor of two whole numbers from 0 on -/
def S_common_divisor (K : PySem.W.Frag) (a b : V) (H : Hp) (Q : VK) : Prop := ∃ m n : Nat, a = .int m ∧ b = .int n ∧ Q (.int (Nat.gcd m n : Nat)) H
theorem c_common_divisor (T : Txt P K mg base) (d : DefB K mg "common_divisor" (top 3) ["one", "other"]) : Cal P w K mg base 1 "common_divisor" (sp2 (S_common_divisor K)) [] := by
  have S : FnScope ["one", "other"] ["one", "other"] (fnScope (top 3)) := fnScope_by (by decide +kernel)
  refine mk2 (k := 0) d S fun f cdv A outer s H a1 a2 Q E hr h => ?_
  refine ⟨_, (pss_cons (ps_while PassesOwn.never (pt_cmpR op_ne (pv 1) pe_int (nomark _)) (pss_one (ps_par (i := 0) (j := 1) rfl S.nd rfl rfl (by decide) rfl rfl (pa_cons (pv 1) (pa_cons (pe_op op_mod (pv 0) (pv 1)) pa_nil)) (by rfl)))) (pss_one (ps_ret (pv 0)))), ?_⟩
  obtain ⟨m, n, rfl, rfl, q⟩ := h
  refine while_by (fun σ H' => ∃ i j : Nat, σ = [some (.int i), some (.int j)] ∧ H' = H ∧ Nat.gcd i j = Nat.gcd m n) (fun σ _ => match σ with
    | [_, some (.int j)] => j.toNat
    | _ => 0) ⟨m, n, rfl, rfl, rfl⟩ ?_ ?_
  · rintro σ H' ⟨i, j, rfl, rfl, e⟩
    refine ⟨_, rfl, rfl, _, rfl, ?_⟩
    by_cases hj : j = 0
    · subst hj
      refine ifF (by simp) ?_
      refine ⟨_, rfl, ?_⟩
      have e2 : i = Nat.gcd m n := by rw [← e, Nat.gcd_zero_right]
      rw [← e2] at q
      exact q
    · refine ifT (by simpa using hj) ?_
      refine ⟨_, rfl, _, rfl, _, rfl, _, _, rfl, rfl, (by show (0 : Int) < (j : Int); omega), _, _, rfl, ?_⟩
      refine ⟨⟨j, i % j, rfl, rfl, ?_⟩, ?_⟩
      · rw [Nat.gcd_comm, ← Nat.gcd_rec, Nat.gcd_comm]
        exact e
      · show ((i : Int) % (j : Int)).toNat < (j : Int).toNat
        have := Nat.mod_lt i (Nat.pos_of_ne_zero hj)
        omega
  · exact fun _ _ _ _ f ⟨a, e, sc, b, e2, q⟩ => ⟨a, e, sc, b, e2, f _ _ q⟩

def S_lowest (K : PySem.W.Frag) (a b : V) (H : Hp) (Q : VK) : Prop := ∃ n d : Int, a = .int n ∧ b = .int d ∧ d ≠ 0 ∧ Ret (fun H' r => Fr K H' r (Rat.divInt n d)) H Q
theorem c_lowest (T : Txt P K mg base) (d : DefB K mg "lowest" (top 4) ["numerator", "denominator"]) (c_common_divisor : Cal P w K mg base 1 "common_divisor" (sp2 (S_common_divisor K)) []) : Cal P w K mg base 33 "lowest" (sp2 (S_lowest K)) [] := by
  have S : FnScope ["numerator", "denominator", "divisor"] ["numerator", "denominator"] (fnScope (top 4)) := fnScope_by (by decide +kernel)
  refine mk2 (k := 32) d S fun f cdv A outer s H a1 a2 Q E hr h => ?_
  have hP := py_of (w := w) (K := K) (mg := mg) (N := ["numerator", "denominator", "divisor"]) (f := f) (cd := cdv) (outer := outer) (H := H) (E := E) (CX := C8.CX0) T.seer T.tree hr rfl
  refine ⟨_, (pss_cons (ps_set (i := 2) S.nd rfl (Or.inl rfl) (pe_c c_common_divisor hr (by decide) rfl (pa_cons (pe_callB call_abs (by rfl) T.abs (by decide +kernel) (pa_cons (pv 0) pa_nil)) (pa_cons (pe_callB call_abs (by rfl) T.abs (by decide +kernel) (pa_cons (pv 1) pa_nil)) pa_nil)))) (pss_cons (ps_if (pt_cmpR op_lt (pv 1) pe_int (nomark _)) (pss_one (ps_set (i := 2) S.nd rfl (Or.inl rfl) (pe_un un_neg (pv 2)))) pss_nil) (pss_one (ps_ret (pe_tup (pa_cons (pe_op (op_fdivS hP) (pv 0) (pv 2)) (pa_cons (pe_op (op_fdivS hP) (pv 1) (pv 2)) pa_nil))))))), ?_⟩
  obtain ⟨n, d, rfl, rfl, h0, q⟩ := h
  refine ⟨_, rfl, _, rfl, _, rfl, _, rfl, ?_⟩
  refine ⟨_, _, rfl, n.natAbs, d.natAbs, ?_, ?_, ?_⟩
  · show V.int _ = _
    congr 1
    split <;> omega
  · show V.int _ = _
    congr 1
    split <;> omega
  refine ⟨_, rfl, _, _, rfl, rfl, _, rfl, ?_⟩
  have fin : ∀ g : Int, g = (if d < 0 then -((Nat.gcd n.natAbs d.natAbs : Nat) : Int) else ((Nat.gcd n.natAbs d.natAbs : Nat) : Int)) →
      tRet (tTup (tCons (tOp (rI (fun _ j => j ≠ 0) fun i j => .int (i.fdiv j)) (tVar 0) (tVar 2)) (tCons (tOp (rI (fun _ j => j ≠ 0) fun i j => .int (i.fdiv j)) (tVar 1) (tVar 2)) tNil))) { nx := fun _ H' => Q .non H', rt := Q } [some (.int n), some (.int d), some (.int g)] H := by
    rintro g rfl
    refine ⟨_, rfl, _, rfl, _, _, rfl, rfl, low_ne h0, _, rfl, _, rfl, _, _, rfl, rfl, low_ne h0, (by show 2 ≤ sizeLine; decide), fun p hp => ?_⟩
    refine q _ _ (same_lay hp) ⟨p, rfl, ?_⟩
    rw [← low_fst h0, ← low_snd h0]
    exact SqT.of upd_same
  by_cases hd : d < 0
  · refine ifT (by simpa using hd) ?_
    refine ⟨_, rfl, _, rfl, ?_⟩
    exact fin _ (by rw [if_pos hd])
  · refine ifF (by simpa using hd) ?_
    exact fin _ (by rw [if_neg hd])
def S_whole (K : PySem.W.Frag) (a : V) (H : Hp) (Q : VK) : Prop := ∃ n : Int, a = .int n ∧ Ret (fun H' r => Fr K H' r (n : Rat)) H Q
theorem c_whole (T : Txt P K mg base) (d : DefB K mg "whole" (top 5) ["number"]) : Cal P w K mg base 1 "whole" (sp1 (S_whole K)) [] := by
  have S : FnScope ["number"] ["number"] (fnScope (top 5)) := fnScope_by (by decide +kernel)
  refine mk1 (k := 0) d S fun f cdv A outer s H a1 Q E hr h => ?_
  refine ⟨_, (pss_one (ps_ret (pe_tup (pa_cons (pv 0) (pa_cons pe_int pa_nil))))), ?_⟩
  obtain ⟨n, rfl, q⟩ := h
  refine ⟨_, rfl, (by show 2 ≤ sizeLine; decide), fun p hp => ?_⟩
  exact q _ _ (same_lay hp) ⟨p, rfl, SqT.of upd_same⟩
/-- an operation on two fractions -/
def S_fr2 (pre : Rat → Rat → Prop) (g : Rat → Rat → Rat) (K : PySem.W.Frag) (a b : V) (H : Hp) (Q : VK) : Prop := ∃ p q : Rat, Fr K H a p ∧ Fr K H b q ∧ Sz p ∧ Sz q ∧ pre p q ∧ Ret (fun H' r => Fr K H' r (g p q)) H Q
def S_add := S_fr2 (fun _ _ => True) (fun p q => p + q)
def S_subtract := S_fr2 (fun _ _ => True) (fun p q => p - q)
def S_multiply := S_fr2 (fun _ _ => True) (fun p q => p * q)
def S_divide := S_fr2 (fun _ q => q ≠ 0) (fun p q => p / q)
theorem Sz.nn {p q : Rat} (hp : Sz p) (hq : Sz q) : CMulB p.num q.num :=
  let ⟨k, h1, h2, h3⟩ := hp; let ⟨l, i1, i2, i3⟩ := hq; ⟨k, l, h2, i2, by omega⟩
theorem Sz.nd {p q : Rat} (hp : Sz p) (hq : Sz q) : CMulB p.num (q.den : Int) :=
  let ⟨k, h1, h2, h3⟩ := hp; let ⟨l, i1, i2, i3⟩ := hq; ⟨k, l, h2, i3, by omega⟩
theorem Sz.dn {p q : Rat} (hp : Sz p) (hq : Sz q) : CMulB (p.den : Int) q.num :=
  let ⟨k, h1, h2, h3⟩ := hp; let ⟨l, i1, i2, i3⟩ := hq; ⟨k, l, h3, i2, by omega⟩
theorem Sz.dd {p q : Rat} (hp : Sz p) (hq : Sz q) : CMulB (p.den : Int) (q.den : Int) :=
  let ⟨k, h1, h2, h3⟩ := hp; let ⟨l, i1, i2, i3⟩ := hq; ⟨k, l, h3, i3, by omega⟩
theorem den_ne (p q : Rat) : (p.den : Int) * (q.den : Int) ≠ 0 := by
  intro z
  have h1 := p.den_nz
  have h2 := q.den_nz
  rcases Int.mul_eq_zero.mp z with h | h <;> omega
theorem at0 {a b : V} : atI [a, b] 0 = some a := rfl
theorem at1 {a b : V} : atI [a, b] 1 = some b := rfl
theorem c_add (T : Txt P K mg base) (d : DefB K mg "add" (top 6) ["one", "other"]) (c_lowest : Cal P w K mg base 33 "lowest" (sp2 (S_lowest K)) []) : Cal P w K mg base 34 "add" (sp2 (S_add K)) [] := by
  have S : FnScope ["one", "other"] ["one", "other"] (fnScope (top 6)) := fnScope_by (by decide +kernel)
  refine mk2 (k := 33) d S fun f cdv A outer s H a1 a2 Q E hr h => ?_
  refine ⟨_, (pss_one (ps_ret (pe_c c_lowest hr (by decide) rfl (pa_cons (pe_op op_add (pe_op op_mulB (pe_ix ix_tup (pv 0) pe_int (fun _ _ => rfl)) (pe_ix ix_tup (pv 1) pe_int (fun _ _ => rfl))) (pe_op op_mulB (pe_ix ix_tup (pv 1) pe_int (fun _ _ => rfl)) (pe_ix ix_tup (pv 0) pe_int (fun _ _ => rfl)))) (pa_cons (pe_op op_mulB (pe_ix ix_tup (pv 0) pe_int (fun _ _ => rfl)) (pe_ix ix_tup (pv 1) pe_int (fun _ _ => rfl))) pa_nil))))), ?_⟩
  obtain ⟨p, q, ⟨x, rfl, hx⟩, ⟨y, rfl, hy⟩, sp, sq, _, k⟩ := h
  refine ⟨_, rfl, x, _, 0, _, rfl, rfl, hx, at0, _, rfl, y, _, 1, _, rfl, rfl, hy, at1, _, _, rfl, rfl, sp.nd sq, _, rfl, y, _, 0, _, rfl, rfl, hy, at0, _, rfl, x, _, 1, _, rfl, rfl, hx, at1, _, _, rfl, rfl, sq.nd sp, _, _, rfl, rfl, _, rfl, x, _, 1, _, rfl, rfl, hx, at1, _, rfl, y, _, 1, _, rfl, rfl, hy, at1, _, _, rfl, rfl, sp.dd sq, ?_⟩
  refine ⟨_, _, rfl, _, _, rfl, rfl, den_ne p q, fun H' r s f => k H' r s ?_⟩
  rw [divInt_add] at f
  exact f
theorem c_subtract (T : Txt P K mg base) (d : DefB K mg "subtract" (top 7) ["one", "other"]) (c_lowest : Cal P w K mg base 33 "lowest" (sp2 (S_lowest K)) []) : Cal P w K mg base 34 "subtract" (sp2 (S_subtract K)) [] := by
  have S : FnScope ["one", "other"] ["one", "other"] (fnScope (top 7)) := fnScope_by (by decide +kernel)
  refine mk2 (k := 33) d S fun f cdv A outer s H a1 a2 Q E hr h => ?_
  refine ⟨_, (pss_one (ps_ret (pe_c c_lowest hr (by decide) rfl (pa_cons (pe_op op_sub (pe_op op_mulB (pe_ix ix_tup (pv 0) pe_int (fun _ _ => rfl)) (pe_ix ix_tup (pv 1) pe_int (fun _ _ => rfl))) (pe_op op_mulB (pe_ix ix_tup (pv 1) pe_int (fun _ _ => rfl)) (pe_ix ix_tup (pv 0) pe_int (fun _ _ => rfl)))) (pa_cons (pe_op op_mulB (pe_ix ix_tup (pv 0) pe_int (fun _ _ => rfl)) (pe_ix ix_tup (pv 1) pe_int (fun _ _ => rfl))) pa_nil))))), ?_⟩
  obtain ⟨p, q, ⟨x, rfl, hx⟩, ⟨y, rfl, hy⟩, sp, sq, _, k⟩ := h
  refine ⟨_, rfl, x, _, 0, _, rfl, rfl, hx, at0, _, rfl, y, _, 1, _, rfl, rfl, hy, at1, _, _, rfl, rfl, sp.nd sq, _, rfl, y, _, 0, _, rfl, rfl, hy, at0, _, rfl, x, _, 1, _, rfl, rfl, hx, at1, _, _, rfl, rfl, sq.nd sp, _, _, rfl, rfl, _, rfl, x, _, 1, _, rfl, rfl, hx, at1, _, rfl, y, _, 1, _, rfl, rfl, hy, at1, _, _, rfl, rfl, sp.dd sq, ?_⟩
  refine ⟨_, _, rfl, _, _, rfl, rfl, den_ne p q, fun H' r s f => k H' r s ?_⟩
  rw [divInt_sub] at f
  exact f
theorem c_multiply (T : Txt P K mg base) (d : DefB K mg "multiply" (top 8) ["one", "other"]) (c_lowest : Cal P w K mg base 33 "lowest" (sp2 (S_lowest K)) []) : Cal P w K mg base 34 "multiply" (sp2 (S_multiply K)) [] := by
  have S : FnScope ["one", "other"] ["one", "other"] (fnScope (top 8)) := fnScope_by (by decide +kernel)
  refine mk2 (k := 33) d S fun f cdv A outer s H a1 a2 Q E hr h => ?_
  refine ⟨_, (pss_one (ps_ret (pe_c c_lowest hr (by decide) rfl (pa_cons (pe_op op_mulB (pe_ix ix_tup (pv 0) pe_int (fun _ _ => rfl)) (pe_ix ix_tup (pv 1) pe_int (fun _ _ => rfl))) (pa_cons (pe_op op_mulB (pe_ix ix_tup (pv 0) pe_int (fun _ _ => rfl)) (pe_ix ix_tup (pv 1) pe_int (fun _ _ => rfl))) pa_nil))))), ?_⟩
  obtain ⟨p, q, ⟨x, rfl, hx⟩, ⟨y, rfl, hy⟩, sp, sq, _, k⟩ := h
  refine ⟨_, rfl, x, _, 0, _, rfl, rfl, hx, at0, _, rfl, y, _, 0, _, rfl, rfl, hy, at0, _, _, rfl, rfl, sp.nn sq, _, rfl, x, _, 1, _, rfl, rfl, hx, at1, _, rfl, y, _, 1, _, rfl, rfl, hy, at1, _, _, rfl, rfl, sp.dd sq, ?_⟩
  refine ⟨_, _, rfl, _, _, rfl, rfl, den_ne p q, fun H' r s f => k H' r s ?_⟩
  rw [divInt_mul] at f
  exact f
theorem c_divide (T : Txt P K mg base) (d : DefB K mg "divide" (top 9) ["one", "other"]) (c_lowest : Cal P w K mg base 33 "lowest" (sp2 (S_lowest K)) []) : Cal P w K mg base 34 "divide" (sp2 (S_divide K)) [] := by
  have S : FnScope ["one", "other"] ["one", "other"] (fnScope (top 9)) := fnScope_by (by decide +kernel)
  refine mk2 (k := 33) d S fun f cdv A outer s H a1 a2 Q E hr h => ?_
  refine ⟨_, (pss_one (ps_ret (pe_c c_lowest hr (by decide) rfl (pa_cons (pe_op op_mulB (pe_ix ix_tup (pv 0) pe_int (fun _ _ => rfl)) (pe_ix ix_tup (pv 1) pe_int (fun _ _ => rfl))) (pa_cons (pe_op op_mulB (pe_ix ix_tup (pv 0) pe_int (fun _ _ => rfl)) (pe_ix ix_tup (pv 1) pe_int (fun _ _ => rfl))) pa_nil))))), ?_⟩
  obtain ⟨p, q, ⟨x, rfl, hx⟩, ⟨y, rfl, hy⟩, sp, sq, h0, k⟩ := h
  refine ⟨_, rfl, x, _, 0, _, rfl, rfl, hx, at0, _, rfl, y, _, 1, _, rfl, rfl, hy, at1, _, _, rfl, rfl, sp.nd sq, _, rfl, x, _, 1, _, rfl, rfl, hx, at1, _, rfl, y, _, 0, _, rfl, rfl, hy, at0, _, _, rfl, rfl, sp.dn sq, ?_⟩
  refine ⟨_, _, rfl, _, _, rfl, rfl, ?_, fun H' r s f => k H' r s ?_⟩
  · intro z
    have h1 := p.den_nz
    rcases Int.mul_eq_zero.mp z with h | h
    · omega
    · exact h0 (Rat.num_eq_zero.mp h)
  · rw [divInt_div p q h0] at f
    exact f
def S_negative (K : PySem.W.Frag) (a : V) (H : Hp) (Q : VK) : Prop := ∃ q : Rat, Fr K H a q ∧ Ret (fun H' r => Fr K H' r (-q)) H Q
theorem c_negative (T : Txt P K mg base) (d : DefB K mg "negative" (top 10) ["one"]) : Cal P w K mg base 1 "negative" (sp1 (S_negative K)) [] := by
  have S : FnScope ["one"] ["one"] (fnScope (top 10)) := fnScope_by (by decide +kernel)
  refine mk1 (k := 0) d S fun f cdv A outer s H a1 Q E hr h => ?_
  refine ⟨_, (pss_one (ps_ret (pe_tup (pa_cons (pe_un un_neg (pe_ix ix_tup (pv 0) pe_int (fun _ _ => rfl))) (pa_cons (pe_ix ix_tup (pv 0) pe_int (fun _ _ => rfl)) pa_nil))))), ?_⟩
  obtain ⟨q, ⟨x, rfl, hx⟩, k⟩ := h
  refine ⟨_, rfl, x, _, 0, _, rfl, rfl, hx, at0, _, rfl, _, rfl, x, _, 1, _, rfl, rfl, hx, at1, (by show 2 ≤ sizeLine; decide), fun p hp => ?_⟩
  exact k _ _ (same_lay hp) ⟨p, rfl, SqT.of upd_same⟩
/-- a fraction to a power: every one on the way is small -/
def S_power (K : PySem.W.Frag) (a b : V) (H : Hp) (Q : VK) : Prop := ∃ (q : Rat) (n : Nat), Fr K H a q ∧ b = .int n ∧ n < 1000 ∧ Sz q ∧ (∀ i, i < n → Sz (q ^ i)) ∧ Ret (fun H' r => Fr K H' r (q ^ n)) H Q
theorem c_power (T : Txt P K mg base) (d : DefB K mg "power" (top 11) ["one", "exponent"]) (c_multiply : Cal P w K mg base 34 "multiply" (sp2 (S_multiply K)) []) : Cal P w K mg base 35 "power" (sp2 (S_power K)) [] := by
  have S : FnScope ["one", "exponent", "found", "turn"] ["one", "exponent"] (fnScope (top 11)) := fnScope_by (by decide +kernel)
  refine mk2 (k := 34) d S fun f cdv A outer s H a1 a2 Q E hr h => ?_
  obtain ⟨aONE, gONE, tONE⟩ := T.gONE
  refine ⟨_, (pss_cons (ps_set (i := 2) S.nd rfl (Or.inl rfl) (pe_gc rfl gONE)) (pss_cons (ps_for PassesOwn.never rfl (pi_range1 (by rfl) T.range (pa_cons (pv 1) pa_nil)) (pg_name (i := 3) S.nd rfl (Or.inl rfl)) (pss_one (ps_set (i := 2) S.nd rfl (Or.inl rfl) (pe_c c_multiply hr (by decide) rfl (pa_cons (pv 2) (pa_cons (pv 0) pa_nil)))))) (pss_one (ps_ret (pv 2))))), ?_⟩
  obtain ⟨q, n, hq, rfl, hn, sq, sz, k⟩ := h
  refine ⟨_, rfl, _, rfl, by omega, by omega, ?_⟩
  rw [Int.toNat_natCast]
  refine for_range (lo := 0) (n := n) (fun i σ H' => ∃ v x, σ = [some a1, some (.int n), some v, x] ∧ Same H H' ∧ Fr K H' v (q ^ i)) ⟨_, _, rfl, Same.refl _, aONE, rfl, ?_⟩ ?_ ?_
  · rw [Rat.pow_zero]
    exact tONE _
  · rintro i σ H' hi ⟨v, x, rfl, sm, fv⟩
    refine ⟨_, rfl, _, rfl, _, _, rfl, q ^ i, q, fv, hq.same sm, sz i hi, sq, trivial, fun H2 r s2 f2 => ?_⟩
    refine ⟨r, _, rfl, sm.trans s2, ?_⟩
    rw [Rat.pow_succ]
    exact f2
  · rintro σ H' ⟨v, x, rfl, sm, fv⟩
    exact ⟨_, rfl, k _ _ sm fv⟩
end
end RW
namespace RW
open PySem PySem.Spec PyProof.Rows L2 C8
/-! ### a list that grows -/
/-- what holds of an item goes on to hold -/
structure Stab {α : Type} (F : Hp → V → α → Prop) (l : Addr) : Prop where
  same : ∀ (H H' : Hp) (v : V) (x : α), Same H H' → F H v x → F H' v x
  upd : ∀ (H : Hp) (xs ys : List V) (v : V) (x : α), H l = some (.lst xs) → F H v x → F (L2.upd H l (.lst ys)) v x
theorem Fr.stab {K : PySem.W.Frag} {l : Addr} : Stab (Fr K) l := ⟨fun _ _ _ _ s h => h.same s, fun _ _ _ _ _ e h => h.upd e⟩
/-- a whole number -/
def In (_ : Hp) (v : V) (n : Int) : Prop := v = .int n
theorem In.stab {l : Addr} : Stab In l := ⟨fun _ _ _ _ _ h => h, fun _ _ _ _ _ _ h => h⟩
structure Gr {α : Type} (F : Hp → V → α → Prop) (H0 H : Hp) (l : Addr) (vs : List V) (xs : List α) : Prop where
  n : H0 l = none
  s : Same H0 H
  h : H l = some (.lst vs)
  p : Paired (F H) vs xs
section
variable {α : Type} {K : PySem.W.Frag} {F : Hp → V → α → Prop} {H0 H H' : Hp} {l : Addr} {vs : List V} {xs : List α}
theorem Gr.new (n : H l = none) : Gr F H (upd H l (.lst [])) l [] [] := ⟨n, same_lay n, upd_same, .nil⟩
theorem Gr.same (g : Gr F H0 H l vs xs) (hF : Stab F l) (s : Same H H') : Gr F H0 H' l vs xs := ⟨g.n, g.s.trans s, s _ _ g.h, Paired.mapP g.p fun v x => hF.same _ _ v x s⟩
theorem Gr.push {v : V} {x : α} (g : Gr F H0 H l vs xs) (hF : Stab F l) (hv : F H v x) : Gr F H0 (upd H l (.lst (vs ++ [v]))) l (vs ++ [v]) (xs ++ [x]) :=
  ⟨g.n, same_new g.s g.n, upd_same, Paired.app (Paired.mapP g.p fun v x => hF.upd _ _ _ v x g.h) (hF.upd _ _ _ v x g.h hv)⟩
theorem Gr.put {v : V} {x : α} {i : Nat} (g : Gr F H0 H l vs xs) (hF : Stab F l) (hv : F H v x) : Gr F H0 (upd H l (.lst (vs.set i v))) l (vs.set i v) (xs.set i x) := by
  refine ⟨g.n, same_new g.s g.n, upd_same, ?_⟩
  have hv' := hF.upd _ _ (vs.set i v) v x g.h hv
  have p' := Paired.mapP g.p fun w y => hF.upd _ _ (vs.set i v) w y g.h
  generalize L2.upd H l (.lst (vs.set i v)) = HH at hv' p'
  clear g
  induction p' generalizing i with
  | nil => exact .nil
  | cons r t ih =>
    cases i with
    | zero => exact .cons hv' t
    | succ i => exact .cons r ih
theorem Gr.nn (g : Gr F H0 H l vs xs) : Nw H0 H l := ⟨g.n, fun z => by rw [g.h] at z; cases z⟩
theorem Gr.len (g : Gr F H0 H l vs xs) : vs.length = xs.length := Paired.len g.p
theorem Gr.ls (g : Gr F H0 H l vs xs) : Ls K F H (.ref l) xs := ⟨l, vs, rfl, SqL.of g.h, g.p⟩
theorem Ls.at {a : V} (h : Ls K F H a xs) : ∃ p vs, a = .ref p ∧ SqL K H p vs ∧ vs.length = xs.length ∧ ∀ (i : Nat) (x : α), xs[i]? = some x → ∃ v, vs[i]? = some v ∧ F H v x := by
  obtain ⟨p, vs, rfl, hs, hp⟩ := h
  exact ⟨p, vs, rfl, hs, Paired.len hp, fun i x e => Paired.at' hp e⟩
end
theorem lt_line {n : Nat} (h : n ≤ 1000000) : n < sizeLine := Nat.lt_of_le_of_lt h (by decide)
theorem Gr.room {α : Type} {F : Hp → V → α → Prop} {H0 H : Hp} {l : Addr} {vs : List V} {xs : List α} (g : Gr F H0 H l vs xs) (h : xs.length ≤ 1000000) : vs.length < sizeLine := lt_line (by rw [g.len]; exact h)
theorem atI_of {xs : List V} {i : Nat} {v : V} (h : xs[i]? = some v) : atI xs (i : Int) = some v := atI_nat h
/-! ### tuples and lists compared -/
def dFr (q : Rat) : PyData := .tuple [.int q.num, .int (q.den : Int)]
theorem Fr.dp {K : PySem.W.Frag} {H : Hp} {v : V} {q : Rat} (h : Fr K H v q) : Dp K H v (dFr q) := by
  obtain ⟨a, rfl, t⟩ := h
  exact .tup t (.cons (.int _) (.cons (.int _) .nil))
theorem dFr_zero (q : Rat) : PyData.eqv (dFr q) (.tuple [.int 0, .int 1]) = decide (q = 0) := by
  by_cases h : q = 0
  · subst h
    rw [decide_eq_true rfl]
    rfl
  · rw [decide_eq_false h]
    have hn : ¬ q.num = 0 := fun z => h (Rat.num_eq_zero.mp z)
    simp [dFr, PyData.eqv, PyData.eqvAll, hn]
theorem dFr_shaped (q : Rat) : SeqAt.shaped (dFr q) = true := rfl
theorem dpAll {K : PySem.W.Frag} {H : Hp} : ∀ {vs : List V} {p : List Rat}, Paired (Fr K H) vs p → DpAll K H vs (p.map dFr)
  | _, _, .nil => .nil
  | _, _, .cons h t => .cons h.dp (dpAll t)
theorem Po.dp {K : PySem.W.Frag} {H : Hp} {v : V} {p : List Rat} (h : Po K H v p) : Dp K H v (.list (p.map dFr)) := by
  obtain ⟨a, vs, rfl, t, pr⟩ := h
  exact .lst t (dpAll pr)
theorem allLay : ∀ p : List Rat, PyData.canLayAll0 (p.map dFr) = true ∧ PyData.depthAll (p.map dFr) ≤ 63
  | [] => ⟨rfl, Nat.zero_le _⟩
  | q :: p => by
    obtain ⟨h1, h2⟩ := allLay p
    simp only [List.map_cons, PyData.canLayAll0, PyData.depthAll, h1, Bool.and_true]
    exact ⟨rfl, Nat.max_le.mpr ⟨(by show 1 ≤ 63; decide), h2⟩⟩
theorem Po_shaped (p : List Rat) : SeqAt.shaped (.list (p.map dFr)) = true := by
  obtain ⟨h1, h2⟩ := allLay p
  unfold SeqAt.shaped
  rw [Bool.and_eq_true]
  refine ⟨h1, decide_eq_true ?_⟩
  show PyData.depthAll (p.map dFr) + 1 ≤ 64
  omega
theorem Po_nil (p : List Rat) : PyData.eqv (.list (p.map dFr)) (.list []) = p.isEmpty := by
  cases p <;> simp [PyData.eqv, PyData.eqvAll]
/-! ### polynomials -/
open RK (co Tr)
def SzP (p : List Rat) : Prop := ∀ c ∈ p, Sz c
section
variable {P : Program} {w : World} {K : PySem.W.Frag} {mg : Str → Option Value} {base : Heap} {C : Addr}
def S_trimmed (K : PySem.W.Frag) (a : V) (H : Hp) (Q : VK) : Prop := ∃ p : List Rat, Po K H a p ∧ RetN (fun H' r => Po K H' r (Kqg1.trim p)) H Q
theorem trim_take {p : List Rat} {n : Nat} (h : ∀ i, n ≤ i → co p i = 0) : Kqg1.trim p = Kqg1.trim (p.take n) := by
  refine RK.trim_congr fun i => ?_
  by_cases hi : i < n
  · simp only [co, Kqg1.coefficient, List.getD_eq_getElem?_getD, List.getElem?_take_of_lt hi]
  · rw [h i (by omega), RK.co_of_le (by rw [List.length_take]; omega)]
theorem cut0 (xs : List V) (n : Nat) (h : n ≤ xs.length) : cutV xs none (some (n : Int)) = xs.take n := by
  show (xs.drop 0).take (HT.sIx xs.length xs.length (some (n : Int)) - 0) = xs.take n
  rw [HT.sIx_nat, Nat.min_eq_left h]
  rfl
theorem atI_pred {xs : List V} {i : Nat} {v : V} (h : xs[i]? = some v) : atI xs (((i + 1 : Nat) : Int) - 1) = some v := by
  have e : ((i + 1 : Nat) : Int) - 1 = (i : Int) := by omega
  rw [e]
  exact atI_nat h
theorem getI {p : List Rat} {i : Nat} (h : i < p.length) : p[i]? = some (co p i) := by
  rw [RK.co_getElem h, List.getElem?_eq_getElem h]
theorem pairs_take {α : Type} {F : V → α → Prop} : ∀ {vs : List V} {xs : List α}, Paired F vs xs → ∀ n : Nat, Paired F (vs.take n) (xs.take n)
  | _, _, _, 0 => .nil
  | _, _, .nil, _ + 1 => .nil
  | _, _, .cons r t, n + 1 => .cons r (pairs_take t n)
theorem c_trimmed (T : Txt P K mg base) (d : DefB K mg "trimmed" (top 13) ["coefficients"]) : Cal P w K mg base 1 "trimmed" (sp1 (S_trimmed K)) [] := by
  have S : FnScope ["coefficients", "size"] ["coefficients"] (fnScope (top 13)) := fnScope_by (by decide +kernel)
  refine mk1 (k := 0) d S fun f cdv A outer s H a1 Q E hr h => ?_
  obtain ⟨aZERO, gZERO, tZERO⟩ := T.gZERO
  refine ⟨_, (pss_cons (ps_set (i := 1) S.nd rfl (Or.inl rfl) (pe_callB call_len_seq (by rfl) T.len PySem.boot_len (pa_cons (pv 0) pa_nil))) (pss_cons (ps_while PassesOwn.never (PW.pt (pw_and (pt_cmpR op_gt (pv 1) pe_int (nomark _)) (pw_and1 (pt_cmpR (op_eqD hr.units) (pe_ix ix_list (pv 0) (pe_op op_sub (pv 1) pe_int) (fun _ _ => rfl)) (pe_gc rfl gZERO) (nomark _))))) (pss_one (ps_aug (i := 1) S.nd rfl (Or.inl rfl) pe_int ip_sub))) (pss_one (ps_ret (pe_slice sl_list (pv 0) po_none (po_some (pv 1))))))), ?_⟩
  obtain ⟨p, hp, k⟩ := h
  obtain ⟨l, vs, rfl, hs, hpr⟩ := hp
  have hl := Paired.len hpr
  have hi : ∀ (i : Nat) (x : Rat), p[i]? = some x → ∃ v, vs[i]? = some v ∧ Fr K H v x := fun i x e => Paired.at' hpr e
  refine ⟨_, rfl, l, vs, rfl, .inl hs, ?_⟩
  have fin : ∀ n : Nat, n ≤ p.length → (∀ i, n ≤ i → co p i = 0) → (n = 0 ∨ co p (n - 1) ≠ 0) → ∀ r, H r = none → Q (.ref r) (upd H r (.lst (cutV vs none (some (n : Int))))) := by
    intro n hn hz h0 r hr
    refine k _ _ (same_lay hr) (Nw.lay hr) ⟨r, _, rfl, SqL.of upd_same, ?_⟩
    rw [cut0 _ _ (by omega)]
    have e : Kqg1.trim p = p.take n := by
      rw [trim_take hz]
      refine RK.Tr.of_last fun hne => ?_
      have hl2 : (p.take n).length = n := by rw [List.length_take]; omega
      have n0 : n ≠ 0 := by
        intro z
        subst z
        exact hne rfl
      rw [hl2]
      have : co (p.take n) (n - 1) = co p (n - 1) := by
        simp only [co, Kqg1.coefficient, List.getD_eq_getElem?_getD, List.getElem?_take_of_lt (show n - 1 < n by omega)]
      rw [this]
      exact h0.resolve_left n0
    rw [e]
    refine pairs_take ?_ n
    exact Paired.mapP hpr fun v x h => h.same (same_lay hr)
  refine while_by (fun σ H' => ∃ n : Nat, σ = [some (.ref l), some (.int n)] ∧ H' = H ∧ n ≤ p.length ∧ ∀ i, n ≤ i → co p i = 0) (fun σ _ => match σ with
    | [_, some (.int j)] => j.toNat
    | _ => 0) ⟨p.length, by rw [hl]; rfl, rfl, Nat.le_refl _, fun i h => RK.co_of_le h⟩ ?_ ?_
  · rintro σ H' ⟨n, rfl, rfl, hn, hz⟩
    refine ⟨_, rfl, _, _, rfl, rfl, _, rfl, ?_⟩
    cases n with
    | zero =>
      refine ifF (by simp) (ifF rfl ?_)
      exact ⟨_, rfl, _, rfl, _, rfl, l, vs, rfl, hs, fin 0 hn hz (.inl rfl)⟩
    | succ n =>
      refine ifT (by simp) ?_
      obtain ⟨v, hv, fv⟩ := hi n _ (getI (by omega))
      refine ⟨_, rfl, _, rfl, _, _, rfl, rfl, l, vs, _, v, rfl, rfl, hs, atI_pred hv, _, _, fv.dp, .tup (tZERO _) (.cons (.int _) (.cons (.int _) .nil)), dFr_shaped _, rfl, _, rfl, ?_⟩
      rw [dFr_zero]
      by_cases hz0 : co p n = 0
      · refine ifT (decide_eq_true hz0) ?_
        refine ⟨_, rfl, _, _, rfl, rfl, ⟨n, ?_, rfl, by omega, fun i h => ?_⟩, ?_⟩
        · have e : ((n + 1 : Nat) : Int) - 1 = (n : Int) := by omega
          show [some (V.ref l), some (V.int (((n + 1 : Nat) : Int) - 1))] = _
          rw [e]
        · by_cases hin : i = n
          · rw [hin]; exact hz0
          · exact hz i (by omega)
        · show (((n + 1 : Nat) : Int) - 1).toNat < ((n + 1 : Nat) : Int).toNat
          omega
      · refine ifF (decide_eq_false hz0) ?_
        exact ⟨_, rfl, _, rfl, _, rfl, l, vs, rfl, hs, fin (n + 1) hn hz (.inr hz0)⟩
  · rintro σ H Q Q' f ⟨v, e, i, j, e1, e2, c, e3, h⟩
    refine ⟨v, e, i, j, e1, e2, c, e3, ?_⟩
    cases c with
    | false => exact ifF rfl (f _ _ (by simpa using h))
    | true =>
      refine ifT rfl ?_
      obtain ⟨a, b, a2, b2, i2, j2, c2, c3, p2, xs2, n2, v2, f1, f2, f3, f4, d, e4, g1, g2, g3, g4, b5, g5, h5⟩ := (show tTest _ σ H Q by simpa using h)
      exact ⟨a, b, a2, b2, i2, j2, c2, c3, p2, xs2, n2, v2, f1, f2, f3, f4, d, e4, g1, g2, g3, g4, b5, g5, f _ _ h5⟩

def S_degree_of (K : PySem.W.Frag) (a : V) (H : Hp) (Q : VK) : Prop := ∃ p : List Rat, Po K H a p ∧ Q (.int ((p.length : Int) - 1)) H
theorem c_degree_of (T : Txt P K mg base) (d : DefB K mg "degree_of" (top 14) ["polynomial"]) : Cal P w K mg base 1 "degree_of" (sp1 (S_degree_of K)) [] := by
  have S : FnScope ["polynomial"] ["polynomial"] (fnScope (top 14)) := fnScope_by (by decide +kernel)
  refine mk1 (k := 0) d S fun f cdv A outer s H a1 Q E hr h => ?_
  refine ⟨_, (pss_one (ps_ret (pe_op op_sub (pe_callB call_len_seq (by rfl) T.len PySem.boot_len (pa_cons (pv 0) pa_nil)) pe_int))), ?_⟩
  obtain ⟨p, ⟨l, vs, rfl, hs, hpr⟩, k⟩ := h
  refine ⟨_, rfl, l, vs, rfl, .inl hs, _, _, rfl, rfl, ?_⟩
  rw [Paired.len hpr]
  exact k
def S_coefficient_at (K : PySem.W.Frag) (a b : V) (H : Hp) (Q : VK) : Prop := ∃ (p : List Rat) (i : Nat), Po K H a p ∧ b = .int i ∧ ∀ v, Fr K H v (co p i) → Q v H
theorem c_coefficient_at (T : Txt P K mg base) (d : DefB K mg "coefficient_at" (top 15) ["polynomial", "place"]) : Cal P w K mg base 1 "coefficient_at" (sp2 (S_coefficient_at K)) [] := by
  have S : FnScope ["polynomial", "place"] ["polynomial", "place"] (fnScope (top 15)) := fnScope_by (by decide +kernel)
  refine mk2 (k := 0) d S fun f cdv A outer s H a1 a2 Q E hr h => ?_
  obtain ⟨aZERO, gZERO, tZERO⟩ := T.gZERO
  refine ⟨_, (pss_cons (ps_if (pt_cmpR op_lt (pv 1) (pe_callB call_len_seq (by rfl) T.len PySem.boot_len (pa_cons (pv 0) pa_nil)) (nomark _)) (pss_one (ps_ret (pe_ix ix_list (pv 0) (pv 1) (fun _ _ => rfl)))) pss_nil) (pss_one (ps_ret (pe_gc rfl gZERO)))), ?_⟩
  obtain ⟨p, i, ⟨l, vs, rfl, hs, hpr⟩, rfl, k⟩ := h
  have hl := Paired.len hpr
  refine ⟨_, rfl, _, rfl, l, vs, rfl, .inl hs, _, _, rfl, rfl, _, rfl, ?_⟩
  by_cases hi : i < p.length
  · refine ifT (decide_eq_true (by omega)) ?_
    obtain ⟨v, hv, fv⟩ := Paired.at' hpr (getI hi)
    exact ⟨_, rfl, _, rfl, l, vs, _, v, rfl, rfl, hs, atI_nat hv, k v fv⟩
  · refine ifF (decide_eq_false (by omega)) ?_
    refine k _ ?_
    rw [RK.co_of_le (by omega)]
    exact ⟨aZERO, rfl, tZERO H⟩
/-- a list made by a comprehension or by appends: the first i items -/
theorem take_succ {α : Type} {l : List α} {i : Nat} {x : α} (h : l[i]? = some x) : l.take (i + 1) = l.take i ++ [x] := by
  rw [List.take_succ, h]
  rfl
theorem map_take_succ {α β : Type} {f : α → β} {l : List α} {i : Nat} {x : α} (h : l[i]? = some x) : (l.take (i + 1)).map f = (l.take i).map f ++ [f x] := by
  rw [take_succ h, List.map_append]
  rfl
theorem range_map_succ {β : Type} (f : Nat → β) (n : Nat) : (List.range (n + 1)).map f = (List.range n).map f ++ [f n] := by
  rw [List.range_succ, List.map_append]
  rfl
def S_negated (K : PySem.W.Frag) (a : V) (H : Hp) (Q : VK) : Prop := ∃ p : List Rat, Po K H a p ∧ p.length ≤ 1000 ∧ RetN (fun H' r => Po K H' r (p.map fun c => -c)) H Q
theorem c_negated (T : Txt P K mg base) (d : DefB K mg "negated" (top 17) ["polynomial"]) (c_negative : Cal P w K mg base 1 "negative" (sp1 (S_negative K)) []) : Cal P w K mg base 2 "negated" (sp1 (S_negated K)) [] := by
  have S : FnScope ["polynomial", "one"] ["polynomial"] (fnScope (top 17)) := fnScope_by (by decide +kernel)
  refine mk1 (k := 1) d S fun f cdv A outer s H a1 Q E hr h => ?_
  refine ⟨_, (pss_one (ps_ret (pe_lc (own := [("one", 1)]) rfl S.nd (pi_list (pv 0)) (blkOk_by (own := [("one", 1)]) (N := ["polynomial", "one"]) (sc := fnScope (top 17)) (by decide +kernel)) (fun _ _ _ _ _ => (pg_name (i := 1) S.nd rfl (Or.inl rfl))) (fun _ _ _ _ _ => pts_nil) (fun _ _ _ _ _ => (pe_c c_negative hr (by decide) rfl (pa_cons (pv 1) pa_nil)))))), ?_⟩
  obtain ⟨p, ⟨l, vs, rfl, hs, hpr⟩, hn, k⟩ := h
  have hl := Paired.len hpr
  refine ⟨_, rfl, l, rfl, ⟨_, hs⟩, fun D hD => lc_list (K := K) (a := l) (xs := vs) (fun i H' => ∃ us, Gr (Fr K) H H' D us ((p.take i).map fun c => -c)) ⟨_, Gr.new hD⟩ ?_ ?_ ?_⟩
  · rintro i H' _ ⟨us, g⟩
    exact sqL_same g.s hs
  · rintro i v H' hv ⟨us, g⟩
    obtain ⟨c, hc, fc⟩ := Paired.at hpr hv
    refine ⟨rfl, yes ?_⟩
    refine ⟨_, rfl, _, rfl, c, fc.same g.s, fun H2 r s2 f2 => ?_⟩
    have g2 := g.same Fr.stab s2
    refine ⟨us, g2.h, g2.room (by rw [List.length_map, List.length_take]; omega), us ++ [r], ?_⟩
    · rw [map_take_succ hc]
      exact g2.push Fr.stab f2
  · rintro H' ⟨us, g⟩
    have e : vs.length = p.length := hl
    rw [e, List.take_length] at g
    exact k _ _ g.s g.nn g.ls
def S_times_fraction (K : PySem.W.Frag) (a b : V) (H : Hp) (Q : VK) : Prop := ∃ (p : List Rat) (q : Rat), Po K H a p ∧ Fr K H b q ∧ p.length ≤ 1000 ∧ SzP p ∧ Sz q ∧ RetN (fun H' r => Po K H' r (Kqg1.scale q p)) H Q
theorem c_times_fraction (T : Txt P K mg base) (d : DefB K mg "times_fraction" (top 16) ["polynomial", "factor"]) (c_multiply : Cal P w K mg base 34 "multiply" (sp2 (S_multiply K)) []) (c_trimmed : Cal P w K mg base 1 "trimmed" (sp1 (S_trimmed K)) []) : Cal P w K mg base 35 "times_fraction" (sp2 (S_times_fraction K)) [] := by
  have S : FnScope ["polynomial", "factor", "one"] ["polynomial", "factor"] (fnScope (top 16)) := fnScope_by (by decide +kernel)
  refine mk2 (k := 34) d S fun f cdv A outer s H a1 a2 Q E hr h => ?_
  refine ⟨_, (pss_one (ps_ret (pe_c c_trimmed hr (by decide) rfl (pa_cons (pe_lc (own := [("one", 2)]) rfl S.nd (pi_list (pv 0)) (blkOk_by (own := [("one", 2)]) (N := ["polynomial", "factor", "one"]) (sc := fnScope (top 16)) (by decide +kernel)) (fun _ _ _ _ _ => (pg_name (i := 2) S.nd rfl (Or.inl rfl))) (fun _ _ _ _ _ => pts_nil) (fun _ _ _ _ _ => (pe_c c_multiply hr (by decide) rfl (pa_cons (pv 2) (pa_cons (pv 1) pa_nil))))) pa_nil)))), ?_⟩
  obtain ⟨p, q, ⟨l, vs, rfl, hs, hpr⟩, hq, hn, sp, sq, k⟩ := h
  have hl := Paired.len hpr
  refine ⟨_, rfl, l, rfl, ⟨_, hs⟩, fun D hD => lc_list (K := K) (a := l) (xs := vs) (fun i H' => ∃ us, Gr (Fr K) H H' D us ((p.take i).map fun c => q * c)) ⟨_, Gr.new hD⟩ ?_ ?_ ?_⟩
  · rintro i H' _ ⟨us, g⟩
    exact sqL_same g.s hs
  · rintro i v H' hv ⟨us, g⟩
    obtain ⟨c, hc, fc⟩ := Paired.at hpr hv
    refine ⟨rfl, yes ?_⟩
    refine ⟨_, rfl, _, rfl, _, _, rfl, c, q, fc.same g.s, hq.same g.s, sp c (List.mem_of_getElem? hc), sq, trivial, fun H2 r s2 f2 => ?_⟩
    have g2 := g.same Fr.stab s2
    refine ⟨us, g2.h, g2.room (by rw [List.length_map, List.length_take]; omega), us ++ [r], ?_⟩
    · rw [map_take_succ hc]
      refine g2.push Fr.stab ?_
      rw [Rat.mul_comm]
      exact f2
  · rintro H' ⟨us, g⟩
    have e : vs.length = p.length := hl
    rw [e, List.take_length] at g
    refine ⟨_, rfl, _, g.ls, fun H2 r s2 n2 f2 => k _ _ (g.s.trans s2) (n2.after g.s) f2⟩
end
end RW
namespace RW
open PySem PySem.Spec PyProof.Rows L2 C8
open RK (co Tr)
theorem Sz.zero : Sz 0 := ⟨1, by decide, by decide, by decide⟩
theorem SzP.co {p : List Rat} (h : SzP p) (i : Nat) : Sz (co p i) := by
  by_cases hi : i < p.length
  · rw [RK.co_getElem hi]
    exact h _ (List.getElem_mem hi)
  · rw [RK.co_of_le (by omega)]
    exact Sz.zero
theorem zadd (i : Nat) : V.int (0 + (i : Int)) = V.int (i : Int) := congrArg V.int (Int.zero_add _)
theorem max_int (a b : Nat) : (if (b : Int) > (a : Int) then (b : Int) else (a : Int)) = ((max a b : Nat) : Int) := by
  split <;> omega
/-! ### the product, step by step -/
def prow (p q : List Rat) (xs : List Rat) (i : Nat) : Nat → List Rat
  | 0 => xs
  | j + 1 => (prow p q xs i j).set (i + j) (co (prow p q xs i j) (i + j) + co p i * co q j)
def pgrid (p q : List Rat) : Nat → List Rat
  | 0 => List.replicate (p.length + q.length) 0
  | i + 1 => prow p q (pgrid p q i) i q.length
/-- a part of a coefficient of the product -/
def psum (p q : List Rat) (t : Nat) : Nat → Rat
  | 0 => 0
  | i + 1 => psum p q t i + if i ≤ t then co p i * co q (t - i) else 0
theorem prow_length (p q xs : List Rat) (i : Nat) : ∀ j, (prow p q xs i j).length = xs.length
  | 0 => rfl
  | j + 1 => by rw [prow, List.length_set, prow_length p q xs i j]
theorem pgrid_length (p q : List Rat) : ∀ i, (pgrid p q i).length = p.length + q.length
  | 0 => by rw [pgrid, List.length_replicate]
  | i + 1 => by rw [pgrid, prow_length, pgrid_length p q i]
theorem co_set (xs : List Rat) (i : Nat) (x : Rat) (t : Nat) (h : i < xs.length) : co (xs.set i x) t = if t = i then x else co xs t := by
  simp only [co, Kqg1.coefficient, List.getD_eq_getElem?_getD, List.getElem?_set]
  by_cases e : i = t
  · subst e
    simp [h]
  · have : ¬ t = i := fun z => e z.symm
    simp [e, this]
theorem co_prow (p q xs : List Rat) (i : Nat) : ∀ j, i + j ≤ xs.length → ∀ t, co (prow p q xs i j) t = co xs t + if i ≤ t ∧ t < i + j then co p i * co q (t - i) else 0
  | 0, _, t => by
    rw [prow, if_neg (by omega)]
    grind
  | j + 1, h, t => by
    have ih := co_prow p q xs i j (by omega)
    rw [prow, co_set _ _ _ _ (by rw [prow_length]; omega)]
    by_cases e : t = i + j
    · rw [if_pos e, ih, if_neg (by omega), if_pos (by omega), e]
      have : i + j - i = j := by omega
      rw [this]
      grind
    · rw [if_neg e, ih]
      by_cases c : i ≤ t ∧ t < i + j
      · rw [if_pos c, if_pos (by omega)]
      · rw [if_neg c, if_neg (by omega)]
theorem co_pgrid (p q : List Rat) : ∀ i, i ≤ p.length → ∀ t, co (pgrid p q i) t = psum p q t i
  | 0, _, t => by
    rw [pgrid, psum]
    by_cases h : t < p.length + q.length
    · rw [RK.co_getElem (by simpa using h)]
      simp
    · rw [RK.co_of_le (by simp; omega)]
  | i + 1, h, t => by
    rw [pgrid, co_prow _ _ _ _ _ (by rw [pgrid_length]; omega), co_pgrid p q i (by omega), psum]
    by_cases c : i ≤ t
    · by_cases c2 : t < i + q.length
      · rw [if_pos ⟨c, c2⟩, if_pos c]
      · rw [if_neg (by omega), if_pos c, RK.co_of_le (p := q) (by omega)]
        grind
    · rw [if_neg (by omega), if_neg c]
theorem foldl_snoc (l : List Nat) (f : Nat → Rat) (i : Nat) : ((l ++ [i]).map f).foldl (fun x y => x + y) 0 = (l.map f).foldl (fun x y => x + y) 0 + f i := by
  rw [List.map_append, List.foldl_append]
  rfl
theorem psum_range (p q : List Rat) (t : Nat) : ∀ i, i ≤ t + 1 → psum p q t i = ((List.range i).map fun j => co p j * co q (t - j)).foldl (fun x y => x + y) 0
  | 0, _ => rfl
  | i + 1, h => by rw [psum, List.range_succ, foldl_snoc, psum_range p q t i (by omega), if_pos (by omega)]
theorem psum_stop (p q : List Rat) (t : Nat) : ∀ i, t + 1 ≤ i → psum p q t i = psum p q t (t + 1)
  | 0, h => by omega
  | i + 1, h => by
    by_cases e : t + 1 = i + 1
    · rw [e]
    · rw [psum, psum_stop p q t i (by omega), if_neg (by omega)]
      grind
theorem psum_over (p q : List Rat) (t : Nat) : ∀ i, p.length ≤ i → psum p q t i = psum p q t p.length
  | 0, h => by
    have : p.length = 0 := by omega
    rw [this]
  | i + 1, h => by
    by_cases e : p.length = i + 1
    · rw [e]
    · rw [psum, psum_over p q t i (by omega), RK.co_of_le (p := p) (by omega)]
      split <;> grind
theorem psum_conv (p q : List Rat) (t : Nat) : psum p q t p.length = RK.conv p q t := by
  have h1 : psum p q t (p.length + (t + 1)) = psum p q t p.length := psum_over p q t _ (by omega)
  have h2 : psum p q t (p.length + (t + 1)) = psum p q t (t + 1) := psum_stop p q t _ (by omega)
  rw [← h1, h2, psum_range p q t (t + 1) (Nat.le_refl _)]
  rfl
theorem trim_pgrid (p q : List Rat) : Kqg1.trim (pgrid p q p.length) = Kqg1.multiply p q := by
  rw [← RK.Tr.multiply p q]
  exact RK.trim_congr fun i => by rw [co_pgrid p q _ (Nat.le_refl _), psum_conv, RK.co_multiply]
/-- all that is reckoned on the way is small -/
structure SzMul (p q : List Rat) : Prop where
  a : SzP p
  b : SzP q
  m : ∀ i j, Sz (co p i * co q j)
  s : ∀ t i, i < p.length → Sz (psum p q t i)
section
variable {P : Program} {w : World} {K : PySem.W.Frag} {mg : Str → Option Value} {base : Heap} {C : Addr}
def S_sum_of (K : PySem.W.Frag) (a b : V) (H : Hp) (Q : VK) : Prop := ∃ p q : List Rat, Po K H a p ∧ Po K H b q ∧ p.length ≤ 1000 ∧ q.length ≤ 1000 ∧ SzP p ∧ SzP q ∧ RetN (fun H' r => Po K H' r (Kqg1.add p q)) H Q
theorem c_sum_of (T : Txt P K mg base) (d : DefB K mg "sum_of" (top 18) ["first", "second"]) (c_add : Cal P w K mg base 34 "add" (sp2 (S_add K)) []) (c_coefficient_at : Cal P w K mg base 1 "coefficient_at" (sp2 (S_coefficient_at K)) []) (c_trimmed : Cal P w K mg base 1 "trimmed" (sp1 (S_trimmed K)) []) : Cal P w K mg base 35 "sum_of" (sp2 (S_sum_of K)) [] := by
  have S : FnScope ["first", "second", "found", "place"] ["first", "second"] (fnScope (top 18)) := fnScope_by (by decide +kernel)
  refine mk2 (k := 34) d S fun f cdv A outer s H a1 a2 Q E hr h => ?_
  refine ⟨_, (pss_cons (ps_set (i := 2) S.nd rfl (Or.inl rfl) (pe_lst pa_nil)) (pss_cons (ps_for PassesOwn.never rfl (pi_range1 (by rfl) T.range (pa_cons (pe_callB (call_max2 rfl) (by rfl) T.max (by decide +kernel) (pa_cons (pe_callB call_len_seq (by rfl) T.len PySem.boot_len (pa_cons (pv 0) pa_nil)) (pa_cons (pe_callB call_len_seq (by rfl) T.len PySem.boot_len (pa_cons (pv 1) pa_nil)) pa_nil))) pa_nil)) (pg_name (i := 3) S.nd rfl (Or.inl rfl)) (pss_one (ps_expr (pe_bm PySem.F.plainAttrs_list PySem.F.slot_list_append PySem.F.type_list_append mt_append (pv 2) (pa_cons (pe_c c_add hr (by decide) rfl (pa_cons (pe_c c_coefficient_at hr (by decide) rfl (pa_cons (pv 0) (pa_cons (pv 3) pa_nil))) (pa_cons (pe_c c_coefficient_at hr (by decide) rfl (pa_cons (pv 1) (pa_cons (pv 3) pa_nil))) pa_nil))) pa_nil))))) (pss_one (ps_ret (pe_c c_trimmed hr (by decide) rfl (pa_cons (pv 2) pa_nil)))))), ?_⟩
  obtain ⟨p, q, hp, hq, hn, hm, sp, sq, k⟩ := h
  obtain ⟨l1, vs1, rfl, hs1, hpr1⟩ := id hp
  obtain ⟨l2, vs2, rfl, hs2, hpr2⟩ := id hq
  refine ⟨Nat.zero_le _, fun l hl => ?_⟩
  have g0 := Gr.new (F := Fr K) hl
  refine ⟨_, rfl, l1, vs1, rfl, .inl (sqL_same g0.s hs1), _, rfl, l2, vs2, rfl, .inl (sqL_same g0.s hs2), _, _, rfl, ((max p.length q.length : Nat) : Int), ?_, by omega, by omega, ?_⟩
  · rw [← max_int, Paired.len hpr1, Paired.len hpr2]
  rw [Int.toNat_natCast]
  refine for_range (lo := 0) (n := max p.length q.length) (fun i σ H' => ∃ us x, σ = [some (.ref l1), some (.ref l2), some (.ref l), x] ∧ Gr (Fr K) H H' l us ((List.range i).map fun j => co p j + co q j)) ⟨_, _, rfl, g0⟩ ?_ ?_
  · rintro i σ H' hi ⟨us, x, rfl, g⟩
    refine ⟨_, rfl, .inl ⟨rfl, _, SqL.of g.h⟩, _, rfl, _, rfl, _, _, rfl, p, i, hp.same g.s, zadd i, fun v fv => ?_⟩
    refine ⟨_, rfl, _, rfl, _, _, rfl, q, i, hq.same g.s, zadd i, fun u fu => ?_⟩
    refine ⟨_, _, rfl, co p i, co q i, fv, fu, sp.co i, sq.co i, trivial, fun H2 r s2 f2 => ?_⟩
    have g2 := g.same Fr.stab s2
    refine ⟨l, us, r, rfl, rfl, g2.h, g2.room (by simp; omega), us ++ [r], _, rfl, ?_⟩
    rw [range_map_succ]
    exact g2.push Fr.stab f2
  · rintro σ H' ⟨us, x, rfl, g⟩
    exact ⟨_, rfl, _, rfl, _, g.ls, fun H2 r s2 n2 f2 => k _ _ (g.s.trans s2) (n2.after g.s) f2⟩
def S_difference_of (K : PySem.W.Frag) (a b : V) (H : Hp) (Q : VK) : Prop := ∃ p q : List Rat, Po K H a p ∧ Po K H b q ∧ p.length ≤ 1000 ∧ q.length ≤ 1000 ∧ SzP p ∧ SzP q ∧ RetN (fun H' r => Po K H' r (Kqg1.add p (q.map fun c => -c))) H Q
theorem Sz.neg {q : Rat} (h : Sz q) : Sz (-q) := by
  obtain ⟨k, h1, h2, h3⟩ := h
  refine ⟨k, h1, ?_, ?_⟩
  · rw [Rat.neg_num, Int.natAbs_neg]; exact h2
  · rw [Rat.neg_den]; exact h3
theorem c_difference_of (T : Txt P K mg base) (d : DefB K mg "difference_of" (top 19) ["first", "second"]) (c_negated : Cal P w K mg base 2 "negated" (sp1 (S_negated K)) []) (c_sum_of : Cal P w K mg base 35 "sum_of" (sp2 (S_sum_of K)) []) : Cal P w K mg base 36 "difference_of" (sp2 (S_difference_of K)) [] := by
  have S : FnScope ["first", "second"] ["first", "second"] (fnScope (top 19)) := fnScope_by (by decide +kernel)
  refine mk2 (k := 35) d S fun f cdv A outer s H a1 a2 Q E hr h => ?_
  refine ⟨_, (pss_one (ps_ret (pe_c c_sum_of hr (by decide) rfl (pa_cons (pv 0) (pa_cons (pe_c c_negated hr (by decide) rfl (pa_cons (pv 1) pa_nil)) pa_nil))))), ?_⟩
  obtain ⟨p, q, hp, hq, hn, hm, sp, sq, k⟩ := h
  refine ⟨_, rfl, _, rfl, _, rfl, q, hq, hm, fun H1 r1 s1 n1 f1 => ?_⟩
  refine ⟨_, _, rfl, p, _, hp.same s1, f1, hn, by rw [List.length_map]; exact hm, sp, ?_, fun H2 r2 s2 n2 f2 => k _ _ (s1.trans s2) (n2.after s1) f2⟩
  intro c hc
  obtain ⟨d, hd, rfl⟩ := List.mem_map.mp hc
  exact (sq d hd).neg
def S_line_with_root (K : PySem.W.Frag) (a : V) (H : Hp) (Q : VK) : Prop := ∃ q : Rat, Fr K H a q ∧ RetN (fun H' r => Po K H' r [-q, 1]) H Q
theorem c_line_with_root (T : Txt P K mg base) (d : DefB K mg "line_with_root" (top 21) ["root"]) (c_negative : Cal P w K mg base 1 "negative" (sp1 (S_negative K)) []) : Cal P w K mg base 2 "line_with_root" (sp1 (S_line_with_root K)) [] := by
  have S : FnScope ["root"] ["root"] (fnScope (top 21)) := fnScope_by (by decide +kernel)
  refine mk1 (k := 1) d S fun f cdv A outer s H a1 Q E hr h => ?_
  obtain ⟨aONE, gONE, tONE⟩ := T.gONE
  refine ⟨_, (pss_one (ps_ret (pe_lst (pa_cons (pe_c c_negative hr (by decide) rfl (pa_cons (pv 0) pa_nil)) (pa_cons (pe_gc rfl gONE) pa_nil))))), ?_⟩
  obtain ⟨q, hq, k⟩ := h
  refine ⟨_, rfl, _, rfl, q, hq, fun H1 r1 s1 f1 => ?_⟩
  refine ⟨(by show 2 ≤ sizeLine; decide), fun l hl => k _ _ (s1.trans (same_lay hl)) ((Nw.lay hl).after s1) ⟨l, _, rfl, SqL.of upd_same, .cons (f1.same (same_lay hl)) (.cons ⟨aONE, rfl, tONE _⟩ .nil)⟩⟩
def S_product_of (K : PySem.W.Frag) (a b : V) (H : Hp) (Q : VK) : Prop := ∃ p q : List Rat, Po K H a p ∧ Po K H b q ∧ p.length ≤ 1000 ∧ q.length ≤ 1000 ∧ SzMul p q ∧ RetN (fun H' r => Po K H' r (Kqg1.multiply p q)) H Q
theorem rep_flat (v : V) : ∀ n : Nat, (List.replicate n [v]).flatten = List.replicate n v
  | 0 => rfl
  | n + 1 => by rw [List.replicate_succ, List.flatten_cons, rep_flat v n]; rfl
theorem rep_pair {F : V → Rat → Prop} {v : V} {q : Rat} (h : F v q) : ∀ n : Nat, Paired F (List.replicate n v) (List.replicate n q)
  | 0 => .nil
  | n + 1 => .cons h (rep_pair h n)
theorem c_product_of (T : Txt P K mg base) (d : DefB K mg "product_of" (top 20) ["first", "second"]) (c_add : Cal P w K mg base 34 "add" (sp2 (S_add K)) []) (c_multiply : Cal P w K mg base 34 "multiply" (sp2 (S_multiply K)) []) (c_trimmed : Cal P w K mg base 1 "trimmed" (sp1 (S_trimmed K)) []) : Cal P w K mg base 35 "product_of" (sp2 (S_product_of K)) [] := by
  have S : FnScope ["first", "second", "found", "place", "other"] ["first", "second"] (fnScope (top 20)) := fnScope_by (by decide +kernel)
  refine mk2 (k := 34) d S fun f cdv A outer s H a1 a2 Q E hr h => ?_
  obtain ⟨aZERO, gZERO, tZERO⟩ := T.gZERO
  refine ⟨_, (pss_cons (ps_set (i := 2) S.nd rfl (Or.inl rfl) (pe_op op_rep (pe_lst (pa_cons (pe_gc rfl gZERO) pa_nil)) (pe_op op_add (pe_callB call_len_seq (by rfl) T.len PySem.boot_len (pa_cons (pv 0) pa_nil)) (pe_callB call_len_seq (by rfl) T.len PySem.boot_len (pa_cons (pv 1) pa_nil))))) (pss_cons (ps_for PassesOwn.never rfl (pi_range1 (by rfl) T.range (pa_cons (pe_callB call_len_seq (by rfl) T.len PySem.boot_len (pa_cons (pv 0) pa_nil)) pa_nil)) (pg_name (i := 3) S.nd rfl (Or.inl rfl)) (pss_one (ps_for PassesOwn.never rfl (pi_range1 (by rfl) T.range (pa_cons (pe_callB call_len_seq (by rfl) T.len PySem.boot_len (pa_cons (pv 1) pa_nil)) pa_nil)) (pg_name (i := 4) S.nd rfl (Or.inl rfl)) (pss_one (ps_asg (pe_c c_add hr (by decide) rfl (pa_cons (pe_ix ix_list (pv 2) (pe_op op_add (pv 3) (pv 4)) (fun _ _ => rfl)) (pa_cons (pe_c c_multiply hr (by decide) rfl (pa_cons (pe_ix ix_list (pv 0) (pv 3) (fun _ _ => rfl)) (pa_cons (pe_ix ix_list (pv 1) (pv 4) (fun _ _ => rfl)) pa_nil))) pa_nil))) (pg_sub (pv 2) (pe_op op_add (pv 3) (pv 4)) set_list)))))) (pss_one (ps_ret (pe_c c_trimmed hr (by decide) rfl (pa_cons (pv 2) pa_nil)))))), ?_⟩
  obtain ⟨p, q, hp, hq, hn, hm, sz, k⟩ := h
  obtain ⟨l1, vs1, rfl, hs1, hpr1⟩ := id hp
  obtain ⟨l2, vs2, rfl, hs2, hpr2⟩ := id hq
  refine ⟨(by show 1 ≤ sizeLine; decide), fun l0 hl0 => ?_⟩
  have s0 : Same H (upd H l0 (.lst [.ref aZERO])) := same_lay hl0
  refine ⟨_, rfl, l1, vs1, rfl, .inl (sqL_same s0 hs1), _, rfl, l2, vs2, rfl, .inl (sqL_same s0 hs2), _, _, rfl, rfl, ?_⟩
  rw [Paired.len hpr1, Paired.len hpr2]
  refine ⟨l0, _, _, rfl, rfl, upd_same, by omega, by omega, ?_, fun l hl => ?_⟩
  · show 1 * ((p.length : Int) + (q.length : Int)).toNat ≤ sizeLine
    have : ((p.length : Int) + (q.length : Int)).toNat ≤ 1000000 := by omega
    rw [Nat.one_mul]
    exact Nat.le_of_lt (lt_line this)
  have hnm : ((p.length : Int) + (q.length : Int)).toNat = p.length + q.length := by omega
  rw [hnm, rep_flat]
  have g0 : Gr (Fr K) H (upd (upd H l0 (.lst [.ref aZERO])) l (.lst (List.replicate (p.length + q.length) (.ref aZERO)))) l (List.replicate (p.length + q.length) (.ref aZERO)) (pgrid p q 0) :=
    ⟨s0.free hl, s0.trans (same_lay hl), upd_same, rep_pair (F := Fr K _) ⟨aZERO, rfl, tZERO _⟩ _⟩
  refine ⟨_, rfl, l1, vs1, rfl, .inl (sqL_same g0.s hs1), (p.length : Int), ?_, by omega, by omega, ?_⟩
  · rw [Paired.len hpr1]
  rw [Int.toNat_natCast]
  refine for_range (lo := 0) (n := p.length) (fun i σ H' => ∃ us x y, σ = [some (.ref l1), some (.ref l2), some (.ref l), x, y] ∧ Gr (Fr K) H H' l us (pgrid p q i)) ⟨_, _, _, rfl, g0⟩ ?_ ?_
  · rintro i σ H' hi ⟨us, x, y, rfl, g⟩
    refine ⟨_, rfl, l2, vs2, rfl, .inl (sqL_same g.s hs2), (q.length : Int), ?_, by omega, by omega, ?_⟩
    · rw [Paired.len hpr2]
    rw [Int.toNat_natCast]
    refine for_range (lo := 0) (n := q.length) (fun j σ H' => ∃ us y, σ = [some (.ref l1), some (.ref l2), some (.ref l), some (.int i), y] ∧ Gr (Fr K) H H' l us (prow p q (pgrid p q i) i j)) ⟨us, y, ?_, g⟩ ?_ ?_
    · rw [zadd]
      rfl
    · rintro j σ H' hj ⟨us, y, rfl, g⟩
      have hlen : (prow p q (pgrid p q i) i j).length = p.length + q.length := by rw [prow_length, pgrid_length]
      have hul := g.len
      rw [hlen] at hul
      obtain ⟨v, hv, fv⟩ := Paired.at' g.p (getI (p := prow p q (pgrid p q i) i j) (i := i + j) (by omega))
      obtain ⟨v1, hv1, fv1⟩ := Paired.at' hpr1 (getI hi)
      obtain ⟨v2, hv2, fv2⟩ := Paired.at' hpr2 (getI hj)
      have hco : co (prow p q (pgrid p q i) i j) (i + j) = psum p q (i + j) i := by
        rw [co_prow _ _ _ _ _ (by rw [pgrid_length]; omega), if_neg (by omega), co_pgrid p q i (by omega)]
        grind
      have eij : (i : Int) + (0 + (j : Int)) = ((i + j : Nat) : Int) := by omega
      refine ⟨_, rfl, _, rfl, _, rfl, _, _, rfl, rfl, l, us, _, v, rfl, rfl, SqL.of g.h, ?_, ?_⟩
      · show atI us ((i : Int) + (0 + (j : Int))) = some v
        rw [eij]
        exact atI_nat hv
      refine ⟨_, rfl, _, rfl, l1, vs1, _, v1, rfl, rfl, sqL_same g.s hs1, atI_nat hv1, _, rfl, _, rfl, l2, vs2, _, v2, rfl, rfl, sqL_same g.s hs2, ?_, ?_⟩
      · rw [Int.zero_add]
        exact atI_nat hv2
      refine ⟨_, _, rfl, co p i, co q j, fv1.same g.s, fv2.same g.s, sz.a.co i, sz.b.co j, trivial, fun H2 r s2 f2 => ?_⟩
      refine ⟨_, _, rfl, _, _, fv.same s2, f2, ?_, sz.m i j, trivial, fun H3 r3 s3 f3 => ?_⟩
      · rw [hco]
        exact sz.s _ _ hi
      have g3 := (g.same Fr.stab s2).same Fr.stab s3
      refine ⟨_, rfl, _, rfl, _, rfl, _, _, rfl, rfl, l, us, _, i + j, rfl, rfl, g3.h, ?_, ?_⟩
      · show ixN us.length ((i : Int) + (0 + (j : Int))) = some (i + j)
        rw [eij]
        unfold ixN
        rw [if_pos (by omega), if_pos (by omega), Int.toNat_natCast]
      exact ⟨_, _, rfl, g3.put Fr.stab f3⟩
    · rintro σ H' ⟨us, y, rfl, g⟩
      exact ⟨us, _, _, rfl, g⟩
  · rintro σ H' ⟨us, x, y, rfl, g⟩
    refine ⟨_, rfl, _, rfl, _, g.ls, fun H2 r s2 n2 f2 => k _ _ (g.s.trans s2) (n2.after g.s) ?_⟩
    rw [trim_pgrid] at f2
    exact f2
/-- the derivative as the program's list -/
def dlist (p : List Rat) (n : Nat) : List Rat := (List.range n).map fun i => ((i + 1 : Nat) : Rat) * co p (i + 1)
theorem dlist_eq {p : List Rat} (hp : Tr p) : dlist p (p.length - 1) = Kqg1.derivative p := by
  have h : Tr (dlist p (p.length - 1)) := by
    refine RK.Tr.of_last fun hne => ?_
    have hl : (dlist p (p.length - 1)).length = p.length - 1 := by simp [dlist]
    have h0 : 0 < (dlist p (p.length - 1)).length := List.length_pos_iff.mpr hne
    rw [hl] at h0 ⊢
    rw [dlist, RK.co_tab, if_pos (by omega)]
    have e : p.length - 1 - 1 + 1 = p.length - 1 := by omega
    rw [e]
    intro z
    rcases Rat.mul_eq_zero.mp z with z | z
    · have := Rat.natCast_eq_zero_iff.mp z
      omega
    · refine hp.last ?_ z
      intro w
      rw [w] at h0
      simp at h0
  rw [← h]
  rfl
def S_derivative_of (K : PySem.W.Frag) (a : V) (H : Hp) (Q : VK) : Prop := ∃ p : List Rat, Po K H a p ∧ Tr p ∧ p.length ≤ 1000 ∧ SzP p ∧ RetN (fun H' r => Po K H' r (Kqg1.derivative p)) H Q
theorem Sz.nat {n : Nat} (h : n ≤ 1000000) : Sz (n : Rat) := by
  refine ⟨20, by decide, ?_, by show 1 < 2 ^ 20; decide⟩
  show ((n : Int)).natAbs < 2 ^ 20
  rw [Int.natAbs_natCast]
  omega
theorem c_derivative_of (T : Txt P K mg base) (d : DefB K mg "derivative_of" (top 22) ["polynomial"]) (c_multiply : Cal P w K mg base 34 "multiply" (sp2 (S_multiply K)) []) (c_whole : Cal P w K mg base 1 "whole" (sp1 (S_whole K)) []) : Cal P w K mg base 35 "derivative_of" (sp1 (S_derivative_of K)) [] := by
  have S : FnScope ["polynomial", "found", "place"] ["polynomial"] (fnScope (top 22)) := fnScope_by (by decide +kernel)
  refine mk1 (k := 34) d S fun f cdv A outer s H a1 Q E hr h => ?_
  refine ⟨_, (pss_cons (ps_set (i := 1) S.nd rfl (Or.inl rfl) (pe_lst pa_nil)) (pss_cons (ps_for PassesOwn.never rfl (pi_range2 (by rfl) T.range (pa_cons pe_int (pa_cons (pe_callB call_len_seq (by rfl) T.len PySem.boot_len (pa_cons (pv 0) pa_nil)) pa_nil))) (pg_name (i := 2) S.nd rfl (Or.inl rfl)) (pss_one (ps_expr (pe_bm PySem.F.plainAttrs_list PySem.F.slot_list_append PySem.F.type_list_append mt_append (pv 1) (pa_cons (pe_c c_multiply hr (by decide) rfl (pa_cons (pe_ix ix_list (pv 0) (pv 2) (fun _ _ => rfl)) (pa_cons (pe_c c_whole hr (by decide) rfl (pa_cons (pv 2) pa_nil)) pa_nil))) pa_nil))))) (pss_one (ps_ret (pv 1))))), ?_⟩
  obtain ⟨p, hp, tp, hn, sp, k⟩ := h
  obtain ⟨l1, vs1, rfl, hs1, hpr1⟩ := id hp
  refine ⟨Nat.zero_le _, fun l hl => ?_⟩
  have g0 := Gr.new (F := Fr K) hl
  refine ⟨_, rfl, l1, vs1, rfl, .inl (sqL_same g0.s hs1), 1, (p.length : Int), ?_, ⟨by omega, by omega, by omega, by omega⟩, ?_⟩
  · rw [Paired.len hpr1]
  have e1 : ((p.length : Int) - 1).toNat = p.length - 1 := by omega
  rw [e1]
  refine for_range (lo := 1) (n := p.length - 1) (fun i σ H' => ∃ us x, σ = [some (.ref l1), some (.ref l), x] ∧ Gr (Fr K) H H' l us (dlist p i)) ⟨_, _, rfl, g0⟩ ?_ ?_
  · rintro i σ H' hi ⟨us, x, rfl, g⟩
    obtain ⟨v1, hv1, fv1⟩ := Paired.at' hpr1 (getI (p := p) (i := i + 1) (by omega))
    have e2 : (1 : Int) + (i : Int) = ((i + 1 : Nat) : Int) := by omega
    refine ⟨_, rfl, .inl ⟨rfl, _, SqL.of g.h⟩, _, rfl, _, rfl, l1, vs1, _, v1, rfl, rfl, sqL_same g.s hs1, ?_, _, rfl, _, rfl, _, rfl, fun H1 r1 s1 f1 => ?_⟩
    · rw [e2]
      exact atI_nat hv1
    rw [e2] at f1
    refine ⟨_, _, rfl, co p (i + 1), ((i + 1 : Nat) : Rat), (fv1.same g.s).same s1, f1, sp.co _, Sz.nat (by omega), trivial, fun H2 r s2 f2 => ?_⟩
    have g2 := (g.same Fr.stab s1).same Fr.stab s2
    refine ⟨l, us, r, rfl, rfl, g2.h, g2.room (by simp [dlist]; omega), us ++ [r], _, rfl, ?_⟩
    rw [dlist, range_map_succ]
    refine g2.push Fr.stab ?_
    rw [Rat.mul_comm]
    exact f2
  · rintro σ H' ⟨us, x, rfl, g⟩
    rw [dlist_eq tp] at g
    exact ⟨_, rfl, k _ _ g.s g.nn g.ls⟩
end
end RW
namespace RW
open PySem PySem.Spec PyProof.Rows L2 C8
open RK (co Tr ld ev)
/-! ### division, step by step -/
/-- the first j places of a step with the factor f -/
def dstep (r d : List Rat) (k : Nat) (f : Rat) : Nat → List Rat
  | 0 => r
  | j + 1 => (dstep r d k f j).set (k + j) (co (dstep r d k f j) (k + j) - f * co d j)
def dfac (r d : List Rat) (k : Nat) : Rat := co r (k + d.length - 1) / ld d
theorem dstep_length (r d : List Rat) (k : Nat) (f : Rat) : ∀ j, (dstep r d k f j).length = r.length
  | 0 => rfl
  | j + 1 => by rw [dstep, List.length_set, dstep_length r d k f j]
theorem co_dstep (r d : List Rat) (k : Nat) (f : Rat) : ∀ j, k + j ≤ r.length → ∀ t, co (dstep r d k f j) t = if k ≤ t ∧ t < k + j then co r t - f * co d (t - k) else co r t
  | 0, _, t => by rw [dstep, if_neg (by omega)]
  | j + 1, h, t => by
    have ih := co_dstep r d k f j (by omega)
    rw [dstep, co_set _ _ _ _ (by rw [dstep_length]; omega)]
    by_cases e : t = k + j
    · rw [if_pos e, ih, if_neg (by omega), if_pos (by omega), e]
      have : k + j - k = j := by omega
      rw [this]
    · rw [if_neg e, ih]
      by_cases c : k ≤ t ∧ t < k + j
      · rw [if_pos c, if_pos (by omega)]
      · rw [if_neg c, if_neg (by omega)]
/-- t steps: the rest, the factors -/
def dvs (p d : List Rat) : Nat → List Rat × List Rat
  | 0 => (p, [])
  | t + 1 => (dstep (dvs p d t).1 d (p.length - d.length - t) (dfac (dvs p d t).1 d (p.length - d.length - t)) d.length, (dvs p d t).2 ++ [dfac (dvs p d t).1 d (p.length - d.length - t)])
def dfc (p d : List Rat) (t : Nat) : Rat := dfac (dvs p d t).1 d (p.length - d.length - t)
theorem dvs_length (p d : List Rat) : ∀ t, (dvs p d t).1.length = p.length ∧ (dvs p d t).2.length = t
  | 0 => ⟨rfl, rfl⟩
  | t + 1 => by
    obtain ⟨h1, h2⟩ := dvs_length p d t
    rw [dvs, dstep_length]
    exact ⟨h1, by rw [List.length_append, h2]; rfl⟩
/-- how many steps there are -/
def dn (p d : List Rat) : Nat := p.length + 1 - d.length
/-- the rest is p less d times the factors' polynomial -/
theorem dvs_ev (p d : List Rat) (hd : d ≠ []) (x : Rat) : ∀ t, t ≤ dn p d → ev p x = ev d x * (x ^ (dn p d - t) * ev (dvs p d t).2.reverse x) + ev (dvs p d t).1 x
  | 0, _ => by
    show ev p x = ev d x * (x ^ (dn p d - 0) * 0) + ev p x
    grind
  | t + 1, h => by
    have d0 : 0 < d.length := List.length_pos_iff.mpr hd
    have ih := dvs_ev p d hd x t (by omega)
    obtain ⟨l1, l2⟩ := dvs_length p d t
    unfold dn at h ih ⊢
    -- one step: the rest loses f x^k d
    have one : ev (dvs p d t).1 x = dfc p d t * (x ^ (p.length - d.length - t) * ev d x) + ev (dvs p d (t + 1)).1 x := by
      have e1 : ∀ i, co (Kqg1.add (Kqg1.scale (dfc p d t) (RK.pmul (List.replicate (p.length - d.length - t) 0 ++ [1]) d)) (dvs p d (t + 1)).1) i = co (dvs p d t).1 i := by
        intro i
        rw [RK.co_add, RK.co_scale, RK.co_term, dvs]
        show _ + co (dstep _ d _ (dfc p d t) d.length) i = _
        rw [co_dstep _ _ _ _ _ (by omega)]
        by_cases c : p.length - d.length - t ≤ i ∧ i < p.length - d.length - t + d.length
        · rw [if_pos c, if_neg (by omega)]
          grind
        · rw [if_neg c]
          by_cases c2 : i < p.length - d.length - t
          · rw [if_pos c2]; grind
          · rw [if_neg c2, RK.co_of_le (p := d) (by omega)]; grind
      have e2 := RK.ev_congr x e1
      rw [RK.ev_add, RK.ev_scale, RK.ev_pmul] at e2
      have e3 : ∀ k : Nat, ev (List.replicate k 0 ++ [1]) x = x ^ k := by
        intro k
        induction k with
        | zero => show 1 + x * 0 = x ^ 0; rw [Rat.pow_zero]; grind
        | succ k ih => show 0 + x * ev (List.replicate k 0 ++ [1]) x = x ^ (k + 1); rw [ih, Rat.pow_succ]; grind
      rw [e3] at e2
      rw [← e2]
    have e4 : (dvs p d (t + 1)).2.reverse = dfc p d t :: (dvs p d t).2.reverse := by
      rw [dvs, List.reverse_append]
      rfl
    have e5 : p.length + 1 - d.length - t = p.length + 1 - d.length - (t + 1) + 1 := by omega
    have e6 : p.length - d.length - t = p.length + 1 - d.length - (t + 1) := by omega
    rw [e4, RK.ev_cons, ih, one, e6, e5, Rat.pow_succ]
    grind
/-- behind all steps the rest is short -/
theorem dvs_short (p d : List Rat) (td : Tr d) (hd : d ≠ []) : ∀ t, t ≤ dn p d → ∀ i, p.length - t ≤ i → co (dvs p d t).1 i = 0
  | 0, _, i, hi => RK.co_of_le (by show p.length ≤ i; omega)
  | t + 1, h, i, hi => by
    have d0 : 0 < d.length := List.length_pos_iff.mpr hd
    have ih := dvs_short p d td hd t (by omega)
    obtain ⟨l1, l2⟩ := dvs_length p d t
    unfold dn at h
    rw [dvs]
    show co (dstep _ d _ (dfac (dvs p d t).1 d (p.length - d.length - t)) d.length) i = 0
    rw [co_dstep _ _ _ _ _ (by omega)]
    by_cases c : i = p.length - t - 1
    · rw [if_pos (by omega), dfac]
      have e1 : p.length - d.length - t + d.length - 1 = i := by omega
      have e2 : i - (p.length - d.length - t) = d.length - 1 := by omega
      rw [e1, e2]
      have hl := RK.Tr.lead_ne td hd
      have : co d (d.length - 1) = ld d := (RK.Tr.lead hd).symm
      rw [this, Rat.div_mul_cancel hl]
      grind
    · rw [ih i (by omega)]
      split
      · rw [RK.co_of_le (p := d) (by omega)]
        grind
      · rfl
theorem dvs_div {p d : List Rat} (tp : Tr p) (td : Tr d) (hd : d ≠ []) : Kqg1.trim (dvs p d (dn p d)).2.reverse = Kqg1.quotient p d ∧ Kqg1.trim (dvs p d (dn p d)).1 = Kqg1.remainder p d := by
  have d0 : 0 < d.length := List.length_pos_iff.mpr hd
  refine RK.div_unique tp td hd (Tr.trim _) (Tr.trim _) ?_ fun x => ?_
  · have h := dvs_short p d td hd (dn p d) (Nat.le_refl _)
    have := (Tr.trim (dvs p d (dn p d)).1).length_le (n := d.length - 1) fun i hi => by
      rw [RK.co_trim]
      by_cases c : d.length ≤ p.length
      · exact h i (by unfold dn; omega)
      · refine RK.co_of_le ?_
        rw [(dvs_length p d _).1]
        omega
    omega
  · rw [RK.ev_trim, RK.ev_trim]
    have := dvs_ev p d hd x (dn p d) (Nat.le_refl _)
    rw [Nat.sub_self, Rat.pow_zero] at this
    rw [this]
    grind
/-- all that is reckoned on the way is small -/
structure SzDiv (p d : List Rat) : Prop where
  a : SzP d
  b : ∀ t, t < dn p d → SzP (dvs p d t).1
  f : ∀ t, t < dn p d → Sz (dfc p d t)
  m : ∀ t, t < dn p d → ∀ j, Sz (dfc p d t * co d j)
/-- .. of the algorithm of Euclid -/
def SzEuc : Nat → List Rat → List Rat → Prop
  | 0, _, _ => False
  | n + 1, p, q => q = [] ∨ (SzDiv p q ∧ SzEuc n q (Kqg1.remainder p q))
section
variable {P : Program} {w : World} {K : PySem.W.Frag} {mg : Str → Option Value} {base : Heap} {C : Addr}
/-- a new tuple of two -/
def Pr2 {α β : Type} (K : PySem.W.Frag) (F : Hp → V → α → Prop) (G : Hp → V → β → Prop) (x : α) (y : β) (H : Hp) (v : V) : Prop := ∃ a u w, v = .ref a ∧ SqT K H a [u, w] ∧ F H u x ∧ G H w y
def S_division_step (K : PySem.W.Frag) (a b c : V) (H : Hp) (Q : VK) : Prop := ∃ (r d : List Rat) (k : Nat), Po K H a r ∧ Po K H b d ∧ c = .int k ∧ d ≠ [] ∧ Tr d ∧ r.length ≤ 1000 ∧ k + d.length ≤ r.length ∧ SzP r ∧ SzP d ∧ Sz (dfac r d k) ∧ (∀ j, Sz (dfac r d k * co d j)) ∧
  Ret (fun H' v => Pr2 K (PoN K H) (Fr K) (dstep r d k (dfac r d k) d.length) (dfac r d k) H' v) H Q
theorem atI_neg1 {xs : List V} {v : V} (h0 : 0 < xs.length) (h : xs[xs.length - 1]? = some v) : atI xs (-1) = some v := by
  unfold atI ixN
  rw [if_neg (by omega), if_pos (by omega)]
  have : (-1 + (xs.length : Int)).toNat = xs.length - 1 := by omega
  rw [this]
  exact h
theorem c_division_step (T : Txt P K mg base) (d : DefB K mg "division_step" (top 23) ["rest", "divisor", "place"]) (c_divide : Cal P w K mg base 34 "divide" (sp2 (S_divide K)) []) (c_multiply : Cal P w K mg base 34 "multiply" (sp2 (S_multiply K)) []) (c_subtract : Cal P w K mg base 34 "subtract" (sp2 (S_subtract K)) []) : Cal P w K mg base 35 "division_step" (sp3 (S_division_step K)) [] := by
  have S : FnScope ["rest", "divisor", "place", "factor", "found", "index"] ["rest", "divisor", "place"] (fnScope (top 23)) := fnScope_by (by decide +kernel)
  refine mk3 (k := 34) d S fun f cdv A outer s H a1 a2 a3 Q E hr h => ?_
  refine ⟨_, (pss_cons (ps_set (i := 3) S.nd rfl (Or.inl rfl) (pe_c c_divide hr (by decide) rfl (pa_cons (pe_ix ix_list (pv 0) (pe_op op_sub (pe_op op_add (pv 2) (pe_callB call_len_seq (by rfl) T.len PySem.boot_len (pa_cons (pv 1) pa_nil))) pe_int) (fun _ _ => rfl)) (pa_cons (pe_ix ix_list (pv 1) (pe_un un_neg pe_int) (fun _ _ => rfl)) pa_nil)))) (pss_cons (ps_set (i := 4) S.nd rfl (Or.inl rfl) (pe_callTy call_list_of (by rfl) T.list (by decide +kernel) (pa_cons (pv 0) pa_nil))) (pss_cons (ps_for PassesOwn.never rfl (pi_range1 (by rfl) T.range (pa_cons (pe_callB call_len_seq (by rfl) T.len PySem.boot_len (pa_cons (pv 1) pa_nil)) pa_nil)) (pg_name (i := 5) S.nd rfl (Or.inl rfl)) (pss_one (ps_asg (pe_c c_subtract hr (by decide) rfl (pa_cons (pe_ix ix_list (pv 4) (pe_op op_add (pv 2) (pv 5)) (fun _ _ => rfl)) (pa_cons (pe_c c_multiply hr (by decide) rfl (pa_cons (pv 3) (pa_cons (pe_ix ix_list (pv 1) (pv 5) (fun _ _ => rfl)) pa_nil))) pa_nil))) (pg_sub (pv 4) (pe_op op_add (pv 2) (pv 5)) set_list)))) (pss_one (ps_ret (pe_tup (pa_cons (pv 4) (pa_cons (pv 3) pa_nil)))))))), ?_⟩
  obtain ⟨r, d, k, hp, hq, rfl, hd, td, hn, hk, sr, sd, sf, sm, q⟩ := h
  have d0 : 0 < d.length := List.length_pos_iff.mpr hd
  obtain ⟨l1, vs1, rfl, hs1, hpr1⟩ := id hp
  obtain ⟨l2, vs2, rfl, hs2, hpr2⟩ := id hq
  have n1 := Paired.len hpr1
  have n2 := Paired.len hpr2
  obtain ⟨v1, hv1, fv1⟩ := Paired.at' hpr1 (getI (p := r) (i := k + d.length - 1) (by omega))
  obtain ⟨v2, hv2, fv2⟩ := Paired.at' hpr2 (getI (p := d) (i := d.length - 1) (by omega))
  rw [← RK.Tr.lead hd] at fv2
  have e1 : (k : Int) + (vs2.length : Int) - 1 = ((k + d.length - 1 : Nat) : Int) := by omega
  refine ⟨_, rfl, _, rfl, _, rfl, l2, vs2, rfl, .inl hs2, _, _, rfl, rfl, _, _, rfl, rfl, l1, vs1, _, v1, rfl, rfl, hs1, ?_, ?_⟩
  · show atI vs1 ((k : Int) + (vs2.length : Int) - 1) = some v1
    rw [e1]
    exact atI_nat hv1
  refine ⟨_, rfl, _, rfl, l2, vs2, _, v2, rfl, rfl, hs2, atI_neg1 (by omega) (by rw [n2]; exact hv2), ?_⟩
  refine ⟨_, _, rfl, co r (k + d.length - 1), ld d, fv1, fv2, sr.co _, ?_, RK.Tr.lead_ne td hd, fun H1 f1 s1 ff => ?_⟩
  · have e3 : ld d = co d (d.length - 1) := RK.Tr.lead hd
    rw [e3]
    exact sd.co _
  have ff' : Fr K H1 f1 (dfac r d k) := ff
  refine ⟨_, rfl, l1, vs1, rfl, .inl (sqL_same s1 hs1), fun l hl => ?_⟩
  have g0 : Gr (Fr K) H1 (upd H1 l (.lst vs1)) l vs1 (dstep r d k (dfac r d k) 0) := ⟨hl, same_lay hl, upd_same, Paired.mapP hpr1 fun v x h => (h.same s1).same (same_lay hl)⟩
  refine ⟨_, rfl, l2, vs2, rfl, .inl (sqL_same g0.s (sqL_same s1 hs2)), (d.length : Int), ?_, by omega, by omega, ?_⟩
  · rw [n2]
  rw [Int.toNat_natCast]
  refine for_range (lo := 0) (n := d.length) (fun j σ H' => ∃ us x, σ = [some (.ref l1), some (.ref l2), some (.int k), some f1, some (.ref l), x] ∧ Gr (Fr K) H1 H' l us (dstep r d k (dfac r d k) j)) ⟨_, _, rfl, g0⟩ ?_ ?_
  · rintro j σ H' hj ⟨us, x, rfl, g⟩
    have hul := g.len
    rw [dstep_length] at hul
    obtain ⟨v, hv, fv⟩ := Paired.at' g.p (getI (p := dstep r d k (dfac r d k) j) (i := k + j) (by rw [dstep_length]; omega))
    obtain ⟨v3, hv3, fv3⟩ := Paired.at' hpr2 (getI hj)
    have hco : co (dstep r d k (dfac r d k) j) (k + j) = co r (k + j) := by rw [co_dstep _ _ _ _ _ (by omega), if_neg (by omega)]
    have ekj : (k : Int) + (0 + (j : Int)) = ((k + j : Nat) : Int) := by omega
    refine ⟨_, rfl, _, rfl, _, rfl, _, _, rfl, rfl, l, us, _, v, rfl, rfl, SqL.of g.h, ?_, ?_⟩
    · show atI us ((k : Int) + (0 + (j : Int))) = some v
      rw [ekj]
      exact atI_nat hv
    refine ⟨_, rfl, _, rfl, _, rfl, l2, vs2, _, v3, rfl, rfl, sqL_same g.s (sqL_same s1 hs2), ?_, ?_⟩
    · rw [Int.zero_add]
      exact atI_nat hv3
    refine ⟨_, _, rfl, dfac r d k, co d j, ff'.same g.s, (fv3.same s1).same g.s, sf, sd.co j, trivial, fun H2 r2 s2 f2 => ?_⟩
    refine ⟨_, _, rfl, _, _, fv.same s2, f2, ?_, sm j, trivial, fun H3 r3 s3 f3 => ?_⟩
    · rw [hco]
      exact sr.co _
    have g3 := (g.same Fr.stab s2).same Fr.stab s3
    refine ⟨_, rfl, _, rfl, _, rfl, _, _, rfl, rfl, l, us, _, k + j, rfl, rfl, g3.h, ?_, ?_⟩
    · show ixN us.length ((k : Int) + (0 + (j : Int))) = some (k + j)
      rw [ekj]
      unfold ixN
      rw [if_pos (by omega), if_pos (by omega), Int.toNat_natCast]
    exact ⟨_, _, rfl, g3.put Fr.stab f3⟩
  · rintro σ H' ⟨us, x, rfl, g⟩
    refine ⟨_, rfl, _, rfl, (by show 2 ≤ sizeLine; decide), fun t ht => ?_⟩
    have s2 : Same H (upd H' t (.tup [.ref l, f1])) := (s1.trans g.s).trans (same_lay ht)
    exact q _ _ s2 ⟨t, _, _, rfl, SqT.of upd_same, ⟨l, rfl, (g.nn.after s1).keep (same_lay ht), Po.same (same_lay ht) g.ls⟩, (ff'.same g.s).same (same_lay ht)⟩
def S_divided (K : PySem.W.Frag) (a b : V) (H : Hp) (Q : VK) : Prop := ∃ p d : List Rat, Po K H a p ∧ Po K H b d ∧ d ≠ [] ∧ Tr p ∧ Tr d ∧ p.length ≤ 1000 ∧ d.length ≤ 1000 ∧ SzDiv p d ∧ Ret (fun H' v => Pr2 K (PoN K H) (PoN K H) (Kqg1.quotient p d) (Kqg1.remainder p d) H' v) H Q
theorem dvs_rev {F : V → Rat → Prop} {vs : List V} {xs : List Rat} (h : Paired F vs xs) : Paired F vs.reverse xs.reverse := by
  induction h with
  | nil => exact .nil
  | cons r t ih =>
    rw [List.reverse_cons, List.reverse_cons]
    exact Paired.app ih r
theorem c_divided (T : Txt P K mg base) (d : DefB K mg "divided" (top 24) ["polynomial", "divisor"]) (c_division_step : Cal P w K mg base 35 "division_step" (sp3 (S_division_step K)) []) (c_trimmed : Cal P w K mg base 1 "trimmed" (sp1 (S_trimmed K)) []) : Cal P w K mg base 36 "divided" (sp2 (S_divided K)) [] := by
  have S : FnScope ["polynomial", "divisor", "rest", "factors", "place", "factor"] ["polynomial", "divisor"] (fnScope (top 24)) := fnScope_by (by decide +kernel)
  refine mk2 (k := 35) d S fun f cdv A outer s H a1 a2 Q E hr h => ?_
  refine ⟨_, (pss_cons (ps_set (i := 2) S.nd rfl (Or.inl rfl) (pe_callTy call_list_of (by rfl) T.list (by decide +kernel) (pa_cons (pv 0) pa_nil))) (pss_cons (ps_set (i := 3) S.nd rfl (Or.inl rfl) (pe_lst pa_nil)) (pss_cons (ps_for PassesOwn.never rfl (pi_revR (by rfl) T.reversed (prg_1 (by rfl) T.range (pe_op op_add (pe_op op_sub (pe_callB call_len_seq (by rfl) T.len PySem.boot_len (pa_cons (pv 0) pa_nil)) (pe_callB call_len_seq (by rfl) T.len PySem.boot_len (pa_cons (pv 1) pa_nil))) pe_int))) (pg_name (i := 4) S.nd rfl (Or.inl rfl)) (pss_cons (ps_asg (pe_c c_division_step hr (by decide) rfl (pa_cons (pv 2) (pa_cons (pv 1) (pa_cons (pv 4) pa_nil)))) (pg_tup rfl (pgs_cons (pg_name (i := 2) S.nd rfl (Or.inl rfl)) (pgs_cons (pg_name (i := 5) S.nd rfl (Or.inl rfl)) pgs_nil)))) (pss_one (ps_expr (pe_bm PySem.F.plainAttrs_list PySem.F.slot_list_append PySem.F.type_list_append mt_append (pv 3) (pa_cons (pv 5) pa_nil)))))) (pss_one (ps_ret (pe_tup (pa_cons (pe_c c_trimmed hr (by decide) rfl (pa_cons (pe_revL (pv 3)) pa_nil)) (pa_cons (pe_c c_trimmed hr (by decide) rfl (pa_cons (pv 2) pa_nil)) pa_nil)))))))), ?_⟩
  obtain ⟨p, d, hp, hq, hd, tp, td, hn, hm, sz, q⟩ := h
  have d0 : 0 < d.length := List.length_pos_iff.mpr hd
  obtain ⟨l1, vs1, rfl, hs1, hpr1⟩ := id hp
  obtain ⟨l2, vs2, rfl, hs2, hpr2⟩ := id hq
  have n1 := Paired.len hpr1
  have n2 := Paired.len hpr2
  refine ⟨_, rfl, l1, vs1, rfl, .inl hs1, fun l hl => ?_⟩
  have s0 : Same H (upd H l (.lst vs1)) := same_lay hl
  refine ⟨Nat.zero_le _, fun l3 hl3 => ?_⟩
  have s3 : Same (upd H l (.lst vs1)) (upd (upd H l (.lst vs1)) l3 (.lst [])) := same_lay hl3
  have sH := s0.trans s3
  have p0 : Po K (upd (upd H l (.lst vs1)) l3 (.lst [])) (.ref l) p := ⟨l, vs1, rfl, sqL_same s3 (SqL.of upd_same), Paired.mapP hpr1 fun v x h => h.same sH⟩
  have g0 : Gr (Fr K) (upd H l (.lst vs1)) (upd (upd H l (.lst vs1)) l3 (.lst [])) l3 [] (dvs p d 0).2 := Gr.new hl3
  generalize upd (upd H l (.lst vs1)) l3 (.lst []) = H1 at *
  refine ⟨_, rfl, l1, vs1, rfl, .inl (sqL_same sH hs1), _, rfl, l2, vs2, rfl, .inl (sqL_same sH hs2), _, _, rfl, rfl, _, _, rfl, rfl, (p.length : Int) - (d.length : Int) + 1, ?_, by omega, by omega, by omega, by omega, ?_⟩
  · show V.int ((vs1.length : Int) - (vs2.length : Int) + 1) = _
    rw [n1, n2]
  have en : ((p.length : Int) - (d.length : Int) + 1 - 0).toNat = dn p d := by
    unfold dn
    omega
  rw [en]
  refine for_rangeC (lo := 0 + ((dn p d : Nat) : Int) - 1) (c := -1) (n := dn p d) (fun t σ H' => ∃ us v x y, σ = [some (.ref l1), some (.ref l2), some v, some (.ref l3), x, y] ∧ Po K H' v (dvs p d t).1 ∧ Gr (Fr K) (upd H l (.lst vs1)) H' l3 us (dvs p d t).2) ⟨_, _, _, _, rfl, p0, g0⟩ ?_ ?_
  · rintro t σ H' ht ⟨us, v, x, y, rfl, pv', g⟩
    obtain ⟨m1, m2⟩ := dvs_length p d t
    have hle : d.length ≤ p.length := by unfold dn at ht; omega
    have ek : 0 + ((dn p d : Nat) : Int) - 1 + (t : Int) * -1 = ((p.length - d.length - t : Nat) : Int) := by
      unfold dn at ht ⊢
      omega
    refine ⟨_, rfl, _, rfl, _, rfl, _, _, _, rfl, (dvs p d t).1, d, p.length - d.length - t, pv', hq.same (s0.trans g.s), congrArg V.int ek, hd, td, by omega, by unfold dn at ht; omega, sz.b t ht, sz.a, sz.f t ht, sz.m t ht, fun H2 r2 s2 f2 => ?_⟩
    obtain ⟨tt, u, z, rfl, ht2, ⟨ua, rfl, nu, fu⟩, fz⟩ := f2
    have g2 := g.same Fr.stab s2
    refine ⟨tt, _, rfl, ht2, rfl, _, _, rfl, _, _, rfl, rfl, ?_⟩
    refine ⟨_, rfl, .inl ⟨rfl, _, SqL.of g2.h⟩, _, rfl, l3, us, _, rfl, rfl, g2.h, g2.room (by rw [m2]; unfold dn at ht; omega), us ++ [z], .ref ua, _, _, rfl, ?_, g2.push Fr.stab fz⟩
    exact Po.upd g2.h (nu.ne2 g.h) fu
  · rintro σ H' ⟨us, v, x, y, rfl, pv', g⟩
    obtain ⟨e1, e2⟩ := dvs_div tp td hd
    refine ⟨_, rfl, l3, us, rfl, SqL.of g.h, fun l4 hl4 => ?_⟩
    have s4 : Same H' (upd H' l4 (.lst us.reverse)) := same_lay hl4
    refine ⟨_, rfl, _, ⟨l4, _, rfl, SqL.of upd_same, dvs_rev (Paired.mapP g.p fun v x h => h.same s4)⟩, fun H2 r2 s2 n2 f2 => ?_⟩
    refine ⟨_, rfl, _, rfl, _, (pv'.same s4).same s2, fun H3 r3 s3 n3 f3 => ?_⟩
    refine ⟨(by show 2 ≤ sizeLine; decide), fun t ht => ?_⟩
    have sA := (s0.trans g.s).trans (s4.trans s2)
    rw [e1] at f2
    rw [e2] at f3
    have f2' : Po K H2 (.ref r2) (Kqg1.quotient p d) := f2
    have f3' : Po K H3 (.ref r3) (Kqg1.remainder p d) := f3
    refine q _ _ ((sA.trans s3).trans (same_lay ht)) ⟨t, _, _, rfl, SqT.of upd_same, ⟨r2, rfl, ((n2.after ((s0.trans g.s).trans s4)).keep s3).keep (same_lay ht), (f2'.same s3).same (same_lay ht)⟩, ⟨r3, rfl, (n3.after sA).keep (same_lay ht), f3'.same (same_lay ht)⟩⟩
def S_common_part (K : PySem.W.Frag) (a b : V) (H : Hp) (Q : VK) : Prop := ∃ (p d : List Rat) (n : Nat), Po K H a p ∧ Po K H b d ∧ Tr p ∧ Tr d ∧ p.length ≤ 1000 ∧ d.length ≤ 1000 ∧ SzEuc n p d ∧ Ret (fun H' v => Po K H' v (Kqg1.euclid n p d)) H Q
theorem c_common_part (T : Txt P K mg base) (d : DefB K mg "common_part" (top 25) ["first", "second"]) (c_divided : Cal P w K mg base 36 "divided" (sp2 (S_divided K)) []) : Cal P w K mg base 37 "common_part" (sp2 (S_common_part K)) [] := by
  have S : FnScope ["first", "second", "quotient", "rest"] ["first", "second"] (fnScope (top 25)) := fnScope_by (by decide +kernel)
  refine mk2 (k := 36) d S fun f cdv A outer s H a1 a2 Q E hr h => ?_
  refine ⟨_, (pss_cons (ps_while PassesOwn.never (pt_cmpR (op_neD hr.units) (pv 1) (pe_lst pa_nil) (nomark _)) (pss_cons (ps_asg (pe_c c_divided hr (by decide) rfl (pa_cons (pv 0) (pa_cons (pv 1) pa_nil))) (pg_tup rfl (pgs_cons (pg_name (i := 2) S.nd rfl (Or.inl rfl)) (pgs_cons (pg_name (i := 3) S.nd rfl (Or.inl rfl)) pgs_nil)))) (pss_one (ps_par (i := 0) (j := 1) rfl S.nd rfl rfl (by decide) rfl rfl (pa_cons (pv 1) (pa_cons (pv 3) pa_nil)) (by rfl))))) (pss_one (ps_ret (pv 0)))), ?_⟩
  obtain ⟨p, d, n, hp, hq, tp, td, hn, hm, sz, q⟩ := h
  refine ⟨fun n' σ H' => ∃ (v u : V) (x y : Option V) (p' d' : List Rat), σ = [some v, some u, x, y] ∧ Same H H' ∧ Po K H' v p' ∧ Po K H' u d' ∧ Tr p' ∧ Tr d' ∧ p'.length ≤ 1000 ∧ d'.length ≤ 1000 ∧ SzEuc n' p' d' ∧ Kqg1.euclid n' p' d' = Kqg1.euclid n p d,
    ⟨n, _, _, _, _, p, d, rfl, Same.refl H, hp, hq, tp, td, hn, hm, sz, rfl⟩, ?_⟩
  rintro m σ H' ⟨v, u, x, y, p', d', rfl, sH, hp', hd', tp', td', hn', hm', sz', e⟩
  refine ⟨_, rfl, Nat.zero_le _, fun l hl => ?_⟩
  have s0 : Same H' (upd H' l (.lst [])) := same_lay hl
  refine ⟨_, .list [], (hd'.same s0).dp, .lst (SqL.of upd_same) .nil, Po_shaped _, rfl, _, rfl, ?_⟩
  rw [Po_nil]
  cases m with
  | zero => exact sz'.elim
  | succ m =>
    by_cases hnil : d' = []
    · subst hnil
      refine ifF rfl ?_
      rw [Kqg1.euclid, if_pos rfl] at e
      refine ⟨_, rfl, q _ _ (sH.trans s0) ?_⟩
      rw [← e]
      exact hp'.same s0
    · have hb : (!d'.isEmpty) = true := by
        cases d' with
        | nil => exact absurd rfl hnil
        | cons _ _ => rfl
      refine ifT hb ?_
      rcases sz' with z | ⟨z1, z2⟩
      · exact absurd z hnil
      rw [Kqg1.euclid, if_neg hnil] at e
      refine ⟨_, fun _ _ h => h, ?_⟩
      refine ⟨_, rfl, _, rfl, _, _, rfl, p', d', hp'.same s0, hd'.same s0, hnil, tp', td', hn', hm', z1, fun H2 r2 s2 f2 => ?_⟩
      obtain ⟨t, a, b, rfl, ht, ⟨a1, rfl, _, fa⟩, ⟨b1, rfl, _, fb⟩⟩ := f2
      have hl2 := RK.rem_length tp' td' hnil
      refine ⟨t, _, rfl, ht, rfl, _, _, rfl, _, _, rfl, rfl, ?_⟩
      refine ⟨_, rfl, _, rfl, _, _, rfl, ?_⟩
      exact ⟨m, Nat.lt_succ_self m, _, _, _, _, d', Kqg1.remainder p' d', rfl, (sH.trans s0).trans s2, (hd'.same s0).same s2, fb, td', RK.Tr.remainder tp' td' hnil, hm', by omega, z2, e⟩
end
end RW
namespace RW
open PySem PySem.Spec PyProof.Rows L2 C8
open RK (co Tr ld ev)
/-! ### mirrors: whole numbers -/
/-- the common denominator, one fraction behind another -/
def cdn : Nat → List Rat → Nat
  | f, [] => f
  | f, q :: p => cdn (f * (q.den / Nat.gcd f q.den)) p
def wnum (p : List Rat) : List Int := p.map fun q => q.num * ((cdn 1 p / q.den : Nat) : Int)
/-- numbers below 2^k -/
structure SzCd (k f : Nat) (p : List Rat) : Prop where
  le : k ≤ 67000000
  c : ∀ i, cdn f (p.take i) < 2 ^ k
  d : ∀ q ∈ p, q.den < 2 ^ k
  n : ∀ q ∈ p, q.num.natAbs < 2 ^ k
theorem cdn_snoc : ∀ (f : Nat) (p : List Rat) (q : Rat), cdn f (p ++ [q]) = cdn f p * (q.den / Nat.gcd (cdn f p) q.den)
  | f, [], q => rfl
  | f, r :: p, q => cdn_snoc _ p q
theorem cdn_pos : ∀ (f : Nat) (p : List Rat), 0 < f → 0 < cdn f p
  | f, [], h => h
  | f, q :: p, h => by
    refine cdn_pos _ p (Nat.mul_pos h ?_)
    have hd : 0 < q.den := Nat.pos_of_ne_zero q.den_nz
    exact Nat.div_pos (Nat.le_of_dvd hd (Nat.gcd_dvd_right _ _)) (Nat.gcd_pos_of_pos_right _ hd)
section
variable {P : Program} {w : World} {K : PySem.W.Frag} {mg : Str → Option Value} {base : Heap} {C : Addr}
def S_common_denominator (K : PySem.W.Frag) (a : V) (H : Hp) (Q : VK) : Prop := ∃ (p : List Rat) (k : Nat), Po K H a p ∧ SzCd k 1 p ∧ Q (.int (cdn 1 p : Nat)) H
theorem c_common_denominator (T : Txt P K mg base) (d : DefB K mg "common_denominator" (top 58) ["polynomial"]) (c_common_divisor : Cal P w K mg base 1 "common_divisor" (sp2 (S_common_divisor K)) []) : Cal P w K mg base 33 "common_denominator" (sp1 (S_common_denominator K)) [] := by
  have S : FnScope ["polynomial", "found", "numerator", "denominator"] ["polynomial"] (fnScope (top 58)) := fnScope_by (by decide +kernel)
  refine mk1 (k := 32) d S fun f cdv A outer s H a1 Q E hr h => ?_
  have hP := py_of (w := w) (K := K) (mg := mg) (N := ["polynomial", "found", "numerator", "denominator"]) (f := f) (cd := cdv) (outer := outer) (H := H) (E := E) (CX := C8.CX0) T.seer T.tree hr rfl
  refine ⟨_, (pss_cons (ps_set (i := 1) S.nd rfl (Or.inl rfl) pe_int) (pss_cons (ps_for PassesOwn.never rfl (pi_list (pv 0)) (pg_tup rfl (pgs_cons (pg_name (i := 2) S.nd rfl (Or.inl rfl)) (pgs_cons (pg_name (i := 3) S.nd rfl (Or.inl rfl)) pgs_nil))) (pss_one (ps_aug (i := 1) S.nd rfl (Or.inl rfl) (pe_op (op_fdivB hP) (pv 3) (pe_c c_common_divisor hr (by decide) rfl (pa_cons (pv 1) (pa_cons (pv 3) pa_nil)))) iop_mulB))) (pss_one (ps_ret (pv 1))))), ?_⟩
  obtain ⟨p, k, ⟨l1, vs1, rfl, hs1, hpr1⟩, sz, q⟩ := h
  have n1 := Paired.len hpr1
  refine ⟨_, rfl, l1, rfl, ⟨_, hs1⟩, ?_⟩
  refine for_list (K := K) (a := l1) (xs := vs1) (fun i σ H' => ∃ x y, σ = [some (.ref l1), some (.int (cdn 1 (p.take i) : Nat)), x, y] ∧ H' = H) ⟨_, _, rfl, rfl⟩ ?_ ?_ ?_
  · rintro i σ H' _ ⟨x, y, rfl, rfl⟩
    exact hs1
  · rintro i v σ H' hv ⟨x, y, rfl, rfl⟩
    obtain ⟨c, hc, ⟨t, rfl, ht⟩⟩ := Paired.at hpr1 hv
    have hm := List.mem_of_getElem? hc
    have hd : 0 < c.den := Nat.pos_of_ne_zero c.den_nz
    have hg : 0 < Nat.gcd (cdn 1 (p.take i)) c.den := Nat.gcd_pos_of_pos_right _ hd
    refine ⟨t, _, rfl, ht, rfl, _, _, rfl, _, _, rfl, rfl, ?_⟩
    refine ⟨_, rfl, _, rfl, _, rfl, _, rfl, _, _, rfl, cdn 1 (p.take i), c.den, rfl, rfl, ?_⟩
    refine ⟨_, _, rfl, rfl, (by show (0 : Int) < _; omega), ?_⟩
    refine ⟨_, _, rfl, rfl, ?_, some (.int c.num), some (.int (c.den : Int)), ?_, rfl⟩
    · refine ⟨k, k, ?_, ?_, by have := sz.le; omega⟩
      · rw [Int.natAbs_natCast]; exact sz.c i
      · show ((c.den : Int) / ((Nat.gcd (cdn 1 (p.take i)) c.den : Nat) : Int)).natAbs < 2 ^ k
        rw [← Int.natCast_ediv, Int.natAbs_natCast]
        exact Nat.lt_of_le_of_lt (Nat.div_le_self _ _) (sz.d c hm)
    · rw [take_succ hc, cdn_snoc]
      show [some (V.ref l1), some (V.int (((cdn 1 (p.take i) : Nat) : Int) * ((c.den : Int) / ((Nat.gcd (cdn 1 (p.take i)) c.den : Nat) : Int)))), _, _] = _
      rw [← Int.natCast_ediv, ← Int.natCast_mul]
  · rintro σ H' ⟨x, y, rfl, rfl⟩
    rw [n1, List.take_length]
    exact ⟨_, rfl, q⟩
def S_whole_numbers (K : PySem.W.Frag) (a : V) (H : Hp) (Q : VK) : Prop := ∃ (p : List Rat) (k : Nat), Po K H a p ∧ p.length ≤ 1000 ∧ SzCd k 1 p ∧ RetN (fun H' r => Ls K In H' r (wnum p)) H Q
theorem c_whole_numbers (T : Txt P K mg base) (d : DefB K mg "whole_numbers" (top 59) ["polynomial"]) (c_common_denominator : Cal P w K mg base 33 "common_denominator" (sp1 (S_common_denominator K)) []) : Cal P w K mg base 34 "whole_numbers" (sp1 (S_whole_numbers K)) [] := by
  have S : FnScope ["polynomial", "common", "numerator", "denominator"] ["polynomial"] (fnScope (top 59)) := fnScope_by (by decide +kernel)
  refine mk1 (k := 33) d S fun f cdv A outer s H a1 Q E hr h => ?_
  have hP := py_of (w := w) (K := K) (mg := mg) (N := ["polynomial", "common", "numerator", "denominator"]) (f := f) (cd := cdv) (outer := outer) (H := H) (E := E) (CX := C8.CX0) T.seer T.tree hr rfl
  refine ⟨_, (pss_cons (ps_set (i := 1) S.nd rfl (Or.inr rfl) (pe_c c_common_denominator hr (by decide) rfl (pa_cons (pv 0) pa_nil))) (pss_one (ps_ret (pe_lc (g := gTup K 2 (gCons (gName 2) (gCons (gName 3) gNil))) (own := [("numerator", 2), ("denominator", 3)]) rfl S.nd (pi_list (pv 0)) (blkOk_by (own := [("numerator", 2), ("denominator", 3)]) (N := ["polynomial", "common", "numerator", "denominator"]) (sc := fnScope (top 59)) (by decide +kernel)) (fun _ _ _ _ _ => (pg_tup rfl (pgs_cons (pg_name (i := 2) S.nd rfl (Or.inl rfl)) (pgs_cons (pg_name (i := 3) S.nd rfl (Or.inl rfl)) pgs_nil)))) (fun _ _ _ _ _ => pts_nil) (fun _ _ _ _ _ => (pe_op op_mulB (pv 2) (pe_op (op_fdivB ⟨hP.seer, hP.tree, hP.dp, hP.top⟩) (pv 1) (pv 3)))))))), ?_⟩
  obtain ⟨p, k, hp, hn, sz, q⟩ := h
  obtain ⟨l1, vs1, rfl, hs1, hpr1⟩ := id hp
  have n1 := Paired.len hpr1
  refine ⟨_, rfl, _, rfl, p, k, hp, sz, ?_⟩
  refine ⟨_, rfl, l1, rfl, ⟨_, hs1⟩, fun D hD => lc_list (K := K) (a := l1) (xs := vs1) (fun i H' => ∃ us, Gr In H H' D us ((p.take i).map fun q => q.num * ((cdn 1 p / q.den : Nat) : Int))) ⟨_, Gr.new hD⟩ ?_ ?_ ?_⟩
  · rintro i H' _ ⟨us, g⟩
    exact sqL_same g.s hs1
  · rintro i v H' hv ⟨us, g⟩
    obtain ⟨c, hc, ⟨t, rfl, ht⟩⟩ := Paired.at hpr1 hv
    have hm := List.mem_of_getElem? hc
    have hd : 0 < c.den := Nat.pos_of_ne_zero c.den_nz
    refine ⟨t, _, rfl, sqT_same g.s ht, rfl, _, _, rfl, _, _, rfl, rfl, rfl, yes ?_⟩
    refine ⟨_, rfl, _, rfl, _, rfl, _, _, rfl, rfl, (by show (0 : Int) < _; omega), ?_⟩
    refine ⟨_, _, rfl, rfl, ?_, us, g.h, g.room (by simp; omega), us ++ [V.int (c.num * ((cdn 1 p / c.den : Nat) : Int))], ?_⟩
    · refine ⟨k, k, sz.n c hm, ?_, by have := sz.le; omega⟩
      rw [← Int.natCast_ediv, Int.natAbs_natCast]
      have := sz.c p.length
      rw [List.take_length] at this
      exact Nat.lt_of_le_of_lt (Nat.div_le_self _ _) this
    · rw [map_take_succ hc]
      have := g.push (v := V.int (c.num * ((cdn 1 p / c.den : Nat) : Int))) (x := c.num * ((cdn 1 p / c.den : Nat) : Int)) In.stab rfl
      rw [Int.natCast_ediv] at this ⊢
      exact this
  · rintro H' ⟨us, g⟩
    rw [n1, List.take_length] at g
    exact q _ _ g.s g.nn g.ls
/-- the part without squares, as the program finds it -/
def gE (p : List Rat) : List Rat := Kqg1.euclid ((Kqg1.derivative p).length + 1) p (Kqg1.derivative p)
def sE (p : List Rat) : List Rat := Kqg1.quotient p (gE p)
structure SzSp (p : List Rat) : Prop where
  a : SzP p
  e : SzEuc ((Kqg1.derivative p).length + 1) p (Kqg1.derivative p)
  d : SzDiv p (gE p)
theorem gE_ok {p : List Rat} (tp : Tr p) (np : p ≠ []) : Tr (gE p) ∧ gE p ≠ [] ∧ (gE p).length ≤ p.length := by
  obtain ⟨i1, i2, i3, _⟩ := RK.euclid_ok ((Kqg1.derivative p).length + 1) p (Kqg1.derivative p) tp (RK.Tr.deriv p) (.inl np) (by omega)
  exact ⟨i1, i2, (i3.length i1 tp np).2⟩
def S_simple_part (K : PySem.W.Frag) (a : V) (H : Hp) (Q : VK) : Prop := ∃ p : List Rat, Po K H a p ∧ Tr p ∧ p ≠ [] ∧ p.length ≤ 1000 ∧ SzSp p ∧ RetN (fun H' r => Po K H' r (sE p)) H Q
theorem c_simple_part (T : Txt P K mg base) (d : DefB K mg "simple_part" (top 60) ["polynomial"]) (c_common_part : Cal P w K mg base 37 "common_part" (sp2 (S_common_part K)) []) (c_derivative_of : Cal P w K mg base 35 "derivative_of" (sp1 (S_derivative_of K)) []) (c_divided : Cal P w K mg base 36 "divided" (sp2 (S_divided K)) []) : Cal P w K mg base 38 "simple_part" (sp1 (S_simple_part K)) [] := by
  have S : FnScope ["polynomial", "quotient", "rest"] ["polynomial"] (fnScope (top 60)) := fnScope_by (by decide +kernel)
  refine mk1 (k := 37) d S fun f cdv A outer s H a1 Q E hr h => ?_
  refine ⟨_, (pss_cons (ps_asg (pe_c c_divided hr (by decide) rfl (pa_cons (pv 0) (pa_cons (pe_c c_common_part hr (by decide) rfl (pa_cons (pv 0) (pa_cons (pe_c c_derivative_of hr (by decide) rfl (pa_cons (pv 0) pa_nil)) pa_nil))) pa_nil))) (pg_tup rfl (pgs_cons (pg_name (i := 1) S.nd rfl (Or.inl rfl)) (pgs_cons (pg_name (i := 2) S.nd rfl (Or.inl rfl)) pgs_nil)))) (pss_one (ps_ret (pv 1)))), ?_⟩
  obtain ⟨p, hp, tp, np, hn, sz, q⟩ := h
  obtain ⟨g1, g2, g3⟩ := gE_ok tp np
  have dl := RK.deriv_length p
  refine ⟨_, rfl, _, rfl, _, rfl, _, rfl, p, hp, tp, hn, sz.a, fun H1 r1 s1 n1 f1 => ?_⟩
  refine ⟨_, _, rfl, p, Kqg1.derivative p, _, hp.same s1, f1, tp, RK.Tr.deriv p, hn, by omega, sz.e, fun H2 r2 s2 f2 => ?_⟩
  refine ⟨_, _, rfl, p, gE p, (hp.same s1).same s2, f2, g2, tp, g1, hn, by omega, sz.d, fun H3 r3 s3 f3 => ?_⟩
  obtain ⟨t, u, w, rfl, ht, ⟨a, rfl, na, fa⟩, _⟩ := f3
  refine ⟨t, _, rfl, ht, rfl, _, _, rfl, _, _, rfl, rfl, ?_⟩
  exact ⟨_, rfl, q _ _ ((s1.trans s2).trans s3) (na.after (s1.trans s2)) fa⟩
end
end RW
namespace RW
open PySem PySem.Spec PyProof.Rows L2 C8
open RK (co Tr ld ev chn chS nx)
/-! ### the chain -/
def tailc (m : Nat) (b q : List Rat) : List (List Rat) := if q = [] then [] else chn m q (nx b q)
theorem tailc_succ (m : Nat) (b q : List Rat) (h : q ≠ []) : tailc (m + 1) b q = q :: tailc m q (nx b q) := by
  unfold tailc
  rw [if_neg h]
  by_cases hr : nx b q = []
  · rw [hr, RK.chn_nil, if_pos rfl]
  · rw [RK.chn_cons _ _ hr, if_neg hr]
theorem chS_tail (s : List Rat) : chS s = s :: tailc s.length s (Kqg1.derivative s) := by
  unfold tailc
  by_cases h : Kqg1.derivative s = []
  · show chn (s.length + 1) s (Kqg1.derivative s) = _
    rw [h, RK.chn_nil, if_pos rfl]
  · show chn (s.length + 1) s (Kqg1.derivative s) = _
    rw [RK.chn_cons _ _ h, if_neg h]
/-- all that is reckoned on the way is small -/
def SzCh : Nat → List Rat → List Rat → Prop
  | 0, _, q => q = []
  | m + 1, b, q => q = [] ∨ ((∃ k, SzCd k 1 q) ∧ SzDiv b q ∧ SzCh m q (nx b q))
structure SzChain (p : List Rat) : Prop where
  a : SzSp p
  b : SzP (sE p)
  c : ∃ k, SzCd k 1 (sE p)
  d : SzCh (sE p).length (sE p) (Kqg1.derivative (sE p))
def chainI (p : List Rat) : List (List Int) := (chS (sE p)).map wnum
/-- a list of whole numbers, not at l -/
def Li (K : PySem.W.Frag) (l : Addr) (H : Hp) (v : V) (ns : List Int) : Prop := ∃ a, v = .ref a ∧ a ≠ l ∧ Ls K In H (.ref a) ns
theorem Li.stab {K : PySem.W.Frag} {l : Addr} : Stab (Li K l) l where
  same := fun H H' v x s ⟨a, e, ne, h⟩ => ⟨a, e, ne, LsI.same s h⟩
  upd := fun H xs ys v x hl ⟨a, e, ne, b, vs, eb, t, p⟩ => by
    cases eb
    exact ⟨a, e, ne, a, vs, rfl, sqL_upd ne t, p⟩
abbrev LLs (K : PySem.W.Frag) (H : Hp) (v : V) (c : List (List Int)) : Prop := Ls K (fun H v ns => Ls K In H v ns) H v c
theorem LLs.same {K : PySem.W.Frag} {H H' : Hp} {v : V} {c : List (List Int)} (s : Same H H') (h : LLs K H v c) : LLs K H' v c :=
  Ls.same (fun _ _ h => LsI.same s h) s h
section
variable {P : Program} {w : World} {K : PySem.W.Frag} {mg : Str → Option Value} {base : Heap} {C : Addr}
theorem nx_neg {b q : List Rat} (tb : Tr b) (tq : Tr q) (hq : q ≠ []) : (Kqg1.remainder b q).map (fun c => -c) = nx b q := by
  have h : Tr ((Kqg1.remainder b q).map (fun c => -c)) := by
    refine RK.Tr.of_last fun hne => ?_
    have hne2 : Kqg1.remainder b q ≠ [] := fun z => hne (by rw [z]; rfl)
    rw [List.length_map, RK.co_map _ (by grind)]
    have := (RK.Tr.remainder tb tq hq).last hne2
    grind
  rw [← h]
  refine RK.trim_congr fun i => ?_
  rw [RK.co_map _ (by grind), RK.co_map _ (by grind)]
  grind
def S_chain_of (K : PySem.W.Frag) (a : V) (H : Hp) (Q : VK) : Prop := ∃ p : List Rat, Po K H a p ∧ Tr p ∧ p ≠ [] ∧ p.length ≤ 1000 ∧ SzChain p ∧ RetN (fun H' r => LLs K H' r (chainI p)) H Q
theorem sE_ok {p : List Rat} (tp : Tr p) (np : p ≠ []) : Tr (sE p) ∧ (sE p).length ≤ p.length := by
  obtain ⟨g1, g2, g3⟩ := gE_ok tp np
  have h := RK.divide_ok g1 g2 (p.length + 1) p [] tp RK.Tr.nil (by omega)
  refine ⟨RK.Tr.quotient tp g1 g2, ?_⟩
  by_cases hz : sE p = []
  · rw [hz]; simp
  · have e := RK.quot_rem tp g1 g2
    have l := RK.rem_length tp g1 g2
    apply Decidable.byContradiction
    intro hlt
    have g0 : 0 < (gE p).length := List.length_pos_iff.mpr g2
    -- p - r = g s has the length of g and s together
    have m := RK.mul_length g1 (RK.Tr.quotient tp g1 g2) (RK.Tr.add p (Kqg1.scale (-1) (Kqg1.remainder p (gE p)))) g2 hz fun t => by
      rw [RK.ev_add, RK.ev_scale, e t]
      grind
    have ml := (RK.Tr.add p (Kqg1.scale (-1) (Kqg1.remainder p (gE p)))).length_le (n := p.length) fun i hi => by
      rw [RK.co_add, RK.co_scale, RK.co_of_le (p := p) hi, RK.co_of_le (p := Kqg1.remainder p (gE p)) (by omega)]
      grind
    have : (sE p).length = (Kqg1.quotient p (gE p)).length := rfl
    omega
theorem c_chain_of (T : Txt P K mg base) (d : DefB K mg "chain_of" (top 61) ["polynomial"]) (c_derivative_of : Cal P w K mg base 35 "derivative_of" (sp1 (S_derivative_of K)) []) (c_divided : Cal P w K mg base 36 "divided" (sp2 (S_divided K)) []) (c_negated : Cal P w K mg base 2 "negated" (sp1 (S_negated K)) []) (c_simple_part : Cal P w K mg base 38 "simple_part" (sp1 (S_simple_part K)) []) (c_whole_numbers : Cal P w K mg base 34 "whole_numbers" (sp1 (S_whole_numbers K)) []) : Cal P w K mg base 39 "chain_of" (sp1 (S_chain_of K)) [] := by
  have S : FnScope ["polynomial", "before", "following", "found", "quotient", "rest"] ["polynomial"] (fnScope (top 61)) := fnScope_by (by decide +kernel)
  refine mk1 (k := 38) d S fun f cdv A outer s H a1 Q E hr h => ?_
  refine ⟨_, (pss_cons (ps_set (i := 1) S.nd rfl (Or.inl rfl) (pe_c c_simple_part hr (by decide) rfl (pa_cons (pv 0) pa_nil))) (pss_cons (ps_set (i := 2) S.nd rfl (Or.inl rfl) (pe_c c_derivative_of hr (by decide) rfl (pa_cons (pv 1) pa_nil))) (pss_cons (ps_set (i := 3) S.nd rfl (Or.inl rfl) (pe_lst (pa_cons (pe_c c_whole_numbers hr (by decide) rfl (pa_cons (pv 1) pa_nil)) pa_nil))) (pss_cons (ps_while PassesOwn.never (pt_cmpR (op_neD hr.units) (pv 2) (pe_lst pa_nil) (nomark _)) (pss_cons (ps_expr (pe_bm PySem.F.plainAttrs_list PySem.F.slot_list_append PySem.F.type_list_append mt_append (pv 3) (pa_cons (pe_c c_whole_numbers hr (by decide) rfl (pa_cons (pv 2) pa_nil)) pa_nil))) (pss_cons (ps_asg (pe_c c_divided hr (by decide) rfl (pa_cons (pv 1) (pa_cons (pv 2) pa_nil))) (pg_tup rfl (pgs_cons (pg_name (i := 4) S.nd rfl (Or.inl rfl)) (pgs_cons (pg_name (i := 5) S.nd rfl (Or.inl rfl)) pgs_nil)))) (pss_cons (ps_set (i := 1) S.nd rfl (Or.inl rfl) (pv 2)) (pss_one (ps_set (i := 2) S.nd rfl (Or.inl rfl) (pe_c c_negated hr (by decide) rfl (pa_cons (pv 5) pa_nil)))))))) (pss_one (ps_ret (pv 3))))))), ?_⟩
  obtain ⟨p, hp, tp, np, hn, sz, q⟩ := h
  obtain ⟨t1, l1⟩ := sE_ok tp np
  have dl := RK.deriv_length (sE p)
  refine ⟨_, rfl, _, rfl, p, hp, tp, np, hn, sz.a, fun H1 r1 s1 n1 f1 => ?_⟩
  have f1' : Po K H1 (.ref r1) (sE p) := f1
  refine ⟨_, rfl, _, rfl, _, f1', t1, by omega, sz.b, fun H2 r2 s2 n2 f2 => ?_⟩
  have f2' : Po K H2 (.ref r2) (Kqg1.derivative (sE p)) := f2
  obtain ⟨k, hk⟩ := sz.c
  refine ⟨_, rfl, _, rfl, _, k, f1'.same s2, by omega, hk, fun H3 r3 s3 n3 f3 => ?_⟩
  refine ⟨(by show 1 ≤ sizeLine; decide), fun l hl => ?_⟩
  have s4 : Same H3 (upd H3 l (.lst [.ref r3])) := same_lay hl
  have sA : Same H H3 := (s1.trans s2).trans s3
  have g0 : Gr (Li K l) H (upd H3 l (.lst [.ref r3])) l [.ref r3] ([sE p].map wnum) :=
    ⟨sA.free hl, sA.trans s4, upd_same, .cons ⟨r3, rfl, n3.ne hl, LsI.same s4 f3⟩ .nil⟩
  refine ⟨fun m σ H' => ∃ (a b : Addr) (x y : Option V) (us : List V) (b' q' : List Rat) (xs : List (List Rat)), σ = [some a1, some (.ref a), some (.ref b), some (.ref l), x, y] ∧ Gr (Li K l) H H' l us (xs.map wnum) ∧ a ≠ l ∧ b ≠ l ∧ Po K H' (.ref a) b' ∧ Po K H' (.ref b) q' ∧ Tr b' ∧ Tr q' ∧ b'.length ≤ 1000 ∧ q'.length ≤ 1000 ∧ q'.length ≤ m ∧ SzCh m b' q' ∧ chS (sE p) = xs ++ tailc m b' q' ∧ xs.length + q'.length ≤ 1000 + 1,
    ⟨(sE p).length, r1, r2, _, _, _, sE p, Kqg1.derivative (sE p), [sE p], rfl, g0, ((n1.keep s2).keep s3).ne hl, (n2.keep s3).ne hl, ((f1'.same s2).same s3).same s4, (f2'.same s3).same s4, t1, RK.Tr.deriv _, by omega, by omega, by omega, sz.d, chS_tail _, by simp; omega⟩, ?_⟩
  rintro m σ H' ⟨a, b, x, y, us, b', q', xs, rfl, g, na, nb, pa, pb, tb, tq, lb, lq, lm, szc, e, lx⟩
  refine ⟨_, rfl, Nat.zero_le _, fun l' hl' => ?_⟩
  have s0 : Same H' (upd H' l' (.lst [])) := same_lay hl'
  refine ⟨_, .list [], (pb.same s0).dp, .lst (SqL.of upd_same) .nil, Po_shaped _, rfl, _, rfl, ?_⟩
  rw [Po_nil]
  by_cases hnil : q' = []
  · subst hnil
    refine ifF rfl ?_
    have e2 : chS (sE p) = xs := by
      rw [e]
      unfold tailc
      rw [if_pos rfl, List.append_nil]
    have g1 := g.same Li.stab s0
    refine ⟨_, rfl, q _ _ g1.s g1.nn ?_⟩
    show LLs K _ (.ref l) ((chS (sE p)).map wnum)
    rw [e2]
    exact ⟨l, us, rfl, SqL.of g1.h, Paired.mapP g1.p fun v ns ⟨a, e, _, h⟩ => by rw [e]; exact h⟩
  · have hb : (!q'.isEmpty) = true := by
      cases q' with
      | nil => exact absurd rfl hnil
      | cons _ _ => rfl
    have q0 : 0 < q'.length := List.length_pos_iff.mpr hnil
    refine ifT hb ⟨_, fun _ _ h => h, ?_⟩
    cases m with
    | zero => omega
    | succ m =>
      rcases szc with z | ⟨⟨k', hk'⟩, z2, z3⟩
      · exact absurd z hnil
      have g1 := g.same Li.stab s0
      refine ⟨_, rfl, .inl ⟨rfl, _, SqL.of g1.h⟩, _, rfl, _, rfl, q', k', pb.same s0, lq, hk', fun H4 r4 s4 n4 f4 => ?_⟩
      have g2 := g1.same Li.stab s4
      refine ⟨l, us, _, rfl, rfl, g2.h, g2.room (by rw [List.length_map]; omega), ?_⟩
      have g3 := g2.push (v := .ref r4) (x := wnum q') Li.stab ⟨r4, rfl, n4.ne2 g1.h, f4⟩
      have pa3 := Po.upd (ys := us ++ [.ref r4]) g2.h na ((pa.same s0).same s4)
      have pb3 := Po.upd (ys := us ++ [.ref r4]) g2.h nb ((pb.same s0).same s4)
      refine ⟨_, rfl, _, rfl, _, _, rfl, b', q', pa3, pb3, hnil, tb, tq, lb, lq, z2, fun H5 r5 s5 f5 => ?_⟩
      obtain ⟨t, u, z, rfl, ht, ⟨c1, rfl, _, fa⟩, ⟨c2, rfl, nc, fb⟩⟩ := f5
      refine ⟨t, _, rfl, ht, rfl, _, _, rfl, _, _, rfl, rfl, ?_⟩
      refine ⟨_, rfl, ?_⟩
      have hr := RK.rem_length tb tq hnil
      refine ⟨_, rfl, _, rfl, _, fb, by omega, fun H6 r6 s6 n6 f6 => ?_⟩
      have f6' : Po K H6 (.ref r6) ((Kqg1.remainder b' q').map fun c => -c) := f6
      rw [nx_neg tb tq hnil] at f6'
      have g5 := (g3.same Li.stab s5).same Li.stab s6
      have hx := RK.nx_length tb tq hnil
      refine ⟨m, Nat.lt_succ_self m, b, r6, _, _, us ++ [.ref r4], q', nx b' q', xs ++ [q'], rfl, ?_, nb, n6.ne2 ((g3.same Li.stab s5).h), (pb3.same s5).same s6, f6', tq, RK.Tr.scale _ _, lq, by omega, by omega, z3, ?_, by simp; omega⟩
      · rw [List.map_append]
        exact g5
      · rw [e, tailc_succ _ _ _ hnil, List.append_assoc]
        rfl
end
end RW
namespace RW
open PySem PySem.Spec PyProof.Rows L2 C8
/-! ### sign changes, values -/
def cstep (s : Int × Int) (n : Int) : Int × Int := if n = 0 then s else (if s.2 ≠ 0 ∧ ¬ (decide (0 < n) = decide (0 < s.2)) then s.1 + 1 else s.1, n)
def chI (l : List Int) : Int := (l.foldl cstep (0, 0)).1
def vstep (m : Int) (b : Nat) (s : Int × Int) (n : Int) : Int × Int := (s.1 * m + n * s.2, s.2 * 2 ^ b)
def vst (m : Int) (b : Nat) (l : List Int) : Int × Int := l.reverse.foldl (vstep m b) (0, 1)
def vat (l : List Int) (m : Int) (b : Nat) : Int := (vst m b l).1
/-- all that is reckoned on the way is small -/
structure SzV (l : List Int) (m : Int) (b : Nat) : Prop where
  a : ∀ i, i < l.length → CMulB ((l.reverse.take i).foldl (vstep m b) (0, 1)).1 m
  c : ∀ i n, l.reverse[i]? = some n → CMulB n ((l.reverse.take i).foldl (vstep m b) (0, 1)).2
  d : ∀ i, i < l.length → CShl ((l.reverse.take i).foldl (vstep m b) (0, 1)).2 (b : Int)
def Pt (K : PySem.W.Frag) (H : Hp) (v : V) (m : Int) (b : Nat) : Prop := ∃ a, v = .ref a ∧ SqT K H a [.int m, .int (b : Int)]
theorem Pt.same {K : PySem.W.Frag} {H H' : Hp} {v : V} {m : Int} {b : Nat} (s : Same H H') (h : Pt K H v m b) : Pt K H' v m b := let ⟨a, e, t⟩ := h; ⟨a, e, sqT_same s t⟩
abbrev Is (K : PySem.W.Frag) (H : Hp) (v : V) (l : List Int) : Prop := Ls K In H v l
theorem foldl_take_succ {α β : Type} (f : α → β → α) (s : α) {l : List β} {i : Nat} {x : β} (h : l[i]? = some x) : (l.take (i + 1)).foldl f s = f ((l.take i).foldl f s) x := by
  rw [take_succ h, List.foldl_append]
  rfl
theorem ints_eq {H : Hp} {vs : List V} {ns : List Int} (h : Paired (In H) vs ns) : vs = ns.map V.int := by
  induction h with
  | nil => rfl
  | cons r t ih => rw [ih, show _ = V.int _ from r]; rfl
section
variable {P : Program} {w : World} {K : PySem.W.Frag} {mg : Str → Option Value} {base : Heap} {C : Addr}
def S_changes_in (K : PySem.W.Frag) (a : V) (H : Hp) (Q : VK) : Prop := ∃ ns : List Int, Is K H a ns ∧ Q (.int (chI ns)) H
theorem c_changes_in (T : Txt P K mg base) (d : DefB K mg "changes_in" (top 62) ["numbers"]) : Cal P w K mg base 1 "changes_in" (sp1 (S_changes_in K)) [] := by
  have S : FnScope ["numbers", "count", "last", "number"] ["numbers"] (fnScope (top 62)) := fnScope_by (by decide +kernel)
  refine mk1 (k := 0) d S fun f cdv A outer s H a1 Q E hr h => ?_
  refine ⟨_, (pss_cons (ps_set (i := 1) S.nd rfl (Or.inl rfl) pe_int) (pss_cons (ps_set (i := 2) S.nd rfl (Or.inl rfl) pe_int) (pss_cons (ps_for PassesOwn.never rfl (pi_list (pv 0)) (pg_name (i := 3) S.nd rfl (Or.inl rfl)) (pss_one (ps_if (pt_cmpR op_ne (pv 3) pe_int (nomark _)) (pss_cons (ps_if (PW.pt (pw_and (pt_cmpR op_ne (pv 2) pe_int (nomark _)) (pw_and1 (pt_cmpR op_ne (pe_cmpR op_gt (pv 3) pe_int (nomark _)) (pe_cmpR op_gt (pv 2) pe_int (nomark _)) (nomark _))))) (pss_one (ps_aug (i := 1) S.nd rfl (Or.inl rfl) pe_int ip_add)) pss_nil) (pss_one (ps_set (i := 2) S.nd rfl (Or.inl rfl) (pv 3)))) pss_nil))) (pss_one (ps_ret (pv 1)))))), ?_⟩
  obtain ⟨ns, ⟨l1, vs1, rfl, hs1, hpr1⟩, q⟩ := h
  have n1 := Paired.len hpr1
  refine ⟨_, rfl, l1, rfl, ⟨_, hs1⟩, ?_⟩
  refine for_list (K := K) (a := l1) (xs := vs1) (fun i σ H' => ∃ x, σ = [some (.ref l1), some (.int ((ns.take i).foldl cstep (0, 0)).1), some (.int ((ns.take i).foldl cstep (0, 0)).2), x] ∧ H' = H) ⟨_, rfl, rfl⟩ ?_ ?_ ?_
  · rintro i σ H' _ ⟨x, rfl, rfl⟩
    exact hs1
  · rintro i v σ H' hv ⟨x, rfl, rfl⟩
    obtain ⟨n, hc, rfl⟩ := Paired.at hpr1 hv
    have e1 := foldl_take_succ cstep (0, 0) hc
    generalize (ns.take i).foldl cstep (0, 0) = s at *
    refine ⟨_, rfl, rfl, _, rfl, ?_⟩
    by_cases h0 : n = 0
    · refine ifF (by simp [h0]) ?_
      refine ⟨some (.int n), ?_, rfl⟩
      rw [e1, cstep, if_pos h0]
      rfl
    · refine ifT (by simp [h0]) ?_
      rw [cstep, if_neg h0] at e1
      have fin : ∀ c : Int, c = (if s.2 ≠ 0 ∧ ¬ (decide (0 < n) = decide (0 < s.2)) then s.1 + 1 else s.1) → tAsg (tVar 3) (gName 2) { nx := fun σ H'' => ∃ x, σ = [some (.ref l1), some (.int ((ns.take (i + 1)).foldl cstep (0, 0)).1), some (.int ((ns.take (i + 1)).foldl cstep (0, 0)).2), x] ∧ H'' = H', rt := Q } [some (.ref l1), some (.int c), some (.int s.2), some (.int n)] H' := by
        rintro c rfl
        refine ⟨_, rfl, some (.int n), ?_, rfl⟩
        rw [e1]
        rfl
      refine ⟨_, rfl, rfl, _, rfl, ?_⟩
      by_cases h1 : s.2 = 0
      · refine ifF (by simp [h1]) (ifF rfl ?_)
        exact fin _ (by simp [h1])
      · refine ifT (by simp [h1]) ?_
        refine ⟨_, rfl, _, _, rfl, rfl, _, rfl, _, _, rfl, rfl, rfl, _, rfl, ?_⟩
        by_cases h2 : decide (0 < n) = decide (0 < s.2)
        · refine ifF (by simpa using h2) ?_
          exact fin _ (by simp [h2])
        · refine ifT (by simpa using h2) ?_
          refine ⟨_, rfl, _, _, rfl, rfl, ?_⟩
          exact fin _ (by rw [if_pos ⟨h1, h2⟩])
  · rintro σ H' ⟨x, rfl, rfl⟩
    rw [n1, List.take_length]
    exact ⟨_, rfl, q⟩
def S_value_at (K : PySem.W.Frag) (a b : V) (H : Hp) (Q : VK) : Prop := ∃ (ns : List Int) (m : Int) (k : Nat), Is K H a ns ∧ Pt K H b m k ∧ SzV ns m k ∧ Q (.int (vat ns m k)) H
theorem c_value_at (T : Txt P K mg base) (d : DefB K mg "value_at" (top 63) ["numbers", "point"]) : Cal P w K mg base 1 "value_at" (sp2 (S_value_at K)) [] := by
  have S : FnScope ["numbers", "point", "scaled", "bits", "found", "scale", "number"] ["numbers", "point"] (fnScope (top 63)) := fnScope_by (by decide +kernel)
  refine mk2 (k := 0) d S fun f cdv A outer s H a1 a2 Q E hr h => ?_
  refine ⟨_, (pss_cons (ps_asg (pv 1) (pg_tup rfl (pgs_cons (pg_name (i := 2) S.nd rfl (Or.inl rfl)) (pgs_cons (pg_name (i := 3) S.nd rfl (Or.inl rfl)) pgs_nil)))) (pss_cons (ps_set (i := 4) S.nd rfl (Or.inl rfl) pe_int) (pss_cons (ps_set (i := 5) S.nd rfl (Or.inl rfl) pe_int) (pss_cons (ps_for PassesOwn.never rfl (pi_reversed (by rfl) T.reversed (pa_cons (pv 0) pa_nil)) (pg_name (i := 6) S.nd rfl (Or.inl rfl)) (pss_cons (ps_set (i := 4) S.nd rfl (Or.inl rfl) (pe_op op_add (pe_op op_mulB (pv 4) (pv 2)) (pe_op op_mulB (pv 6) (pv 5)))) (pss_one (ps_aug (i := 5) S.nd rfl (Or.inl rfl) (pv 3) iop_shlW)))) (pss_one (ps_ret (pv 4))))))), ?_⟩
  obtain ⟨ns, m, k, ⟨l1, vs1, rfl, hs1, hpr1⟩, ⟨t, rfl, ht⟩, sz, q⟩ := h
  have n1 := Paired.len hpr1
  refine ⟨_, rfl, t, _, rfl, ht, rfl, _, _, rfl, _, _, rfl, rfl, ?_⟩
  refine ⟨_, rfl, l1, vs1, rfl, hs1, ?_⟩
  refine for_it walk_rev (fun i σ H' => ∃ x, σ = [some (.ref l1), some (.ref t), some (.int m), some (.int (k : Int)), some (.int ((ns.reverse.take i).foldl (vstep m k) (0, 1)).1), some (.int ((ns.reverse.take i).foldl (vstep m k) (0, 1)).2), x] ∧ H' = H) ⟨_, rfl, rfl⟩ ?_ ?_ ?_
  · rintro i σ H' _ ⟨x, rfl, rfl⟩
    exact hs1
  · rintro i v σ H' H'' hi ⟨x, rfl, rfl⟩ ⟨rfl, hv⟩
    obtain ⟨n, hc, rfl⟩ := Paired.at hpr1 hv
    have hc' : ns.reverse[i]? = some n := by
      rw [List.getElem?_reverse (by omega)]
      rw [← n1]
      exact hc
    have e1 := foldl_take_succ (vstep m k) (0, 1) hc'
    have z1 := sz.a i (by omega)
    have z2 := sz.c i n hc'
    have z3 := sz.d i (by omega)
    generalize (ns.reverse.take i).foldl (vstep m k) (0, 1) = s at *
    refine ⟨_, rfl, _, rfl, _, _, rfl, rfl, z1, _, rfl, _, rfl, _, _, rfl, rfl, z2, _, _, rfl, rfl, ?_⟩
    refine ⟨_, rfl, _, rfl, _, _, rfl, rfl, z3, some (.int n), ?_, rfl⟩
    rw [e1]
    show [_, _, _, _, _, some (V.int (s.2 * 2 ^ (k : Int).toNat)), _] = _
    rw [Int.toNat_natCast]
    rfl
  · rintro σ H' ⟨x, rfl, rfl⟩
    have e : ns.reverse.take vs1.length = ns.reverse := by
      rw [n1, ← List.length_reverse, List.take_length]
    rw [e]
    exact ⟨_, rfl, q⟩
/-- an int comes out, and all that was there stands -/
def RetI (n : Int) (H : Hp) (Q : VK) : Prop := ∀ H' : Hp, Same H H' → Q (.int n) H'
def RetB (b : Bool) (H : Hp) (Q : VK) : Prop := ∀ H' : Hp, Same H H' → Q (.bl b) H'
def lastI (ns : List Int) : Int := ns.getLast?.getD 0
def lowI (ns : List Int) : Int := if ns.length % 2 = 1 then lastI ns else -lastI ns
def chgAt (c : List (List Int)) (m : Int) (b : Nat) : Int := chI (c.map fun ns => vat ns m b)
def chgTop (c : List (List Int)) : Int := chI (c.map lastI)
def chgBot (c : List (List Int)) : Int := chI (c.map lowI)
theorem last_at {ns : List Int} (h : ns ≠ []) : ns[ns.length - 1]? = some (lastI ns) := by
  have h0 : 0 < ns.length := List.length_pos_iff.mpr h
  unfold lastI
  rw [List.getLast?_eq_getElem?, List.getElem?_eq_getElem (by omega)]
  rfl
theorem Is.last {H : Hp} {v : V} {ns : List Int} (h : Is K H v ns) (h0 : ns ≠ []) : ∃ a vs, v = .ref a ∧ SqL K H a vs ∧ vs.length = ns.length ∧ atI vs (-1) = some (.int (lastI ns)) := by
  obtain ⟨l1, vs1, rfl, hs1, hpr1⟩ := h
  have n1 := Paired.len hpr1
  obtain ⟨x, hx, rfl⟩ := Paired.at' hpr1 (last_at h0)
  have : 0 < ns.length := List.length_pos_iff.mpr h0
  exact ⟨l1, vs1, rfl, hs1, n1, atI_neg1 (by omega) (by rw [n1]; exact hx)⟩
def S_changes_at (K : PySem.W.Frag) (a b : V) (H : Hp) (Q : VK) : Prop := ∃ (c : List (List Int)) (m : Int) (k : Nat), LLs K H a c ∧ Pt K H b m k ∧ c.length ≤ 1000 ∧ (∀ ns ∈ c, SzV ns m k) ∧ RetI (chgAt c m k) H Q
theorem c_changes_at (T : Txt P K mg base) (d : DefB K mg "changes_at" (top 64) ["chain", "point"]) (c_changes_in : Cal P w K mg base 1 "changes_in" (sp1 (S_changes_in K)) []) (c_value_at : Cal P w K mg base 1 "value_at" (sp2 (S_value_at K)) []) : Cal P w K mg base 2 "changes_at" (sp2 (S_changes_at K)) [] := by
  have S : FnScope ["chain", "point", "numbers"] ["chain", "point"] (fnScope (top 64)) := fnScope_by (by decide +kernel)
  refine mk2 (k := 1) d S fun f cdv A outer s H a1 a2 Q E hr h => ?_
  refine ⟨_, (pss_one (ps_ret (pe_c c_changes_in hr (by decide) rfl (pa_cons (pe_lc (own := [("numbers", 2)]) rfl S.nd (pi_list (pv 0)) (blkOk_by (own := [("numbers", 2)]) (N := ["chain", "point", "numbers"]) (sc := fnScope (top 64)) (by decide +kernel)) (fun _ _ _ _ _ => (pg_name (i := 2) S.nd rfl (Or.inl rfl))) (fun _ _ _ _ _ => pts_nil) (fun _ _ _ _ _ => (pe_c c_value_at hr (by decide) rfl (pa_cons (pv 2) (pa_cons (pv 1) pa_nil))))) pa_nil)))), ?_⟩
  obtain ⟨c, m, k, ⟨l1, vs1, rfl, hs1, hpr1⟩, hp, hn, sz, q⟩ := h
  have n1 := Paired.len hpr1
  refine ⟨_, rfl, l1, rfl, ⟨_, hs1⟩, fun D hD => lc_list (K := K) (a := l1) (xs := vs1) (fun i H' => ∃ us, Gr In H H' D us ((c.take i).map fun ns => vat ns m k)) ⟨_, Gr.new hD⟩ ?_ ?_ ?_⟩
  · rintro i H' _ ⟨us, g⟩
    exact sqL_same g.s hs1
  · rintro i v H' hv ⟨us, g⟩
    obtain ⟨ns, hc, fc⟩ := Paired.at hpr1 hv
    refine ⟨rfl, yes ?_⟩
    refine ⟨_, rfl, _, rfl, _, _, rfl, ns, m, k, LsI.same g.s fc, hp.same g.s, sz ns (List.mem_of_getElem? hc), us, g.h, g.room (by simp; omega), us ++ [.int (vat ns m k)], ?_⟩
    rw [map_take_succ hc]
    exact g.push In.stab rfl
  · rintro H' ⟨us, g⟩
    rw [n1, List.take_length] at g
    exact ⟨_, rfl, _, g.ls, q _ g.s⟩
def S_changes_above (K : PySem.W.Frag) (a : V) (H : Hp) (Q : VK) : Prop := ∃ c : List (List Int), LLs K H a c ∧ c.length ≤ 1000 ∧ (∀ ns ∈ c, ns ≠ []) ∧ RetI (chgTop c) H Q
theorem c_changes_above (T : Txt P K mg base) (d : DefB K mg "changes_above" (top 65) ["chain"]) (c_changes_in : Cal P w K mg base 1 "changes_in" (sp1 (S_changes_in K)) []) : Cal P w K mg base 2 "changes_above" (sp1 (S_changes_above K)) [] := by
  have S : FnScope ["chain", "numbers"] ["chain"] (fnScope (top 65)) := fnScope_by (by decide +kernel)
  refine mk1 (k := 1) d S fun f cdv A outer s H a1 Q E hr h => ?_
  refine ⟨_, (pss_one (ps_ret (pe_c c_changes_in hr (by decide) rfl (pa_cons (pe_lc (te := tOp (rIxL K) (tVar 1) (tUn (rU fun i => .int (-i)) (tC (.int 1)))) (own := [("numbers", 1)]) rfl S.nd (pi_list (pv 0)) (blkOk_by (own := [("numbers", 1)]) (N := ["chain", "numbers"]) (sc := fnScope (top 65)) (by decide +kernel)) (fun _ _ _ _ _ => (pg_name (i := 1) S.nd rfl (Or.inl rfl))) (fun _ _ _ _ _ => pts_nil) (fun _ _ _ _ _ => (pe_ix ix_list (pv 1) (pe_un un_neg pe_int) (fun _ _ => rfl)))) pa_nil)))), ?_⟩
  obtain ⟨c, ⟨l1, vs1, rfl, hs1, hpr1⟩, hn, hne, q⟩ := h
  have n1 := Paired.len hpr1
  refine ⟨_, rfl, l1, rfl, ⟨_, hs1⟩, fun D hD => lc_list (K := K) (a := l1) (xs := vs1) (fun i H' => ∃ us, Gr In H H' D us ((c.take i).map lastI)) ⟨_, Gr.new hD⟩ ?_ ?_ ?_⟩
  · rintro i H' _ ⟨us, g⟩
    exact sqL_same g.s hs1
  · rintro i v H' hv ⟨us, g⟩
    obtain ⟨ns, hc, fc⟩ := Paired.at hpr1 hv
    obtain ⟨l2, vs2, rfl, hs2, n2, a2⟩ := Is.last (LsI.same g.s fc : Is K H' v ns) (hne ns (List.mem_of_getElem? hc))
    refine ⟨rfl, yes ?_⟩
    refine ⟨_, rfl, _, rfl, l2, vs2, _, _, rfl, rfl, hs2, a2, us, g.h, g.room (by simp; omega), us ++ [.int (lastI ns)], ?_⟩
    rw [map_take_succ hc]
    exact g.push In.stab rfl
  · rintro H' ⟨us, g⟩
    rw [n1, List.take_length] at g
    exact ⟨_, rfl, _, g.ls, q _ g.s⟩
def S_number_below (K : PySem.W.Frag) (a : V) (H : Hp) (Q : VK) : Prop := ∃ ns : List Int, Is K H a ns ∧ ns ≠ [] ∧ Q (.int (lowI ns)) H
theorem c_number_below (T : Txt P K mg base) (d : DefB K mg "number_below" (top 66) ["numbers"]) : Cal P w K mg base 1 "number_below" (sp1 (S_number_below K)) [] := by
  have S : FnScope ["numbers"] ["numbers"] (fnScope (top 66)) := fnScope_by (by decide +kernel)
  refine mk1 (k := 0) d S fun f cdv A outer s H a1 Q E hr h => ?_
  refine ⟨_, (pss_one (ps_ret (pe_ifExp (pt_cmpR op_eq (pe_op op_mod (pe_callB call_len_seq (by rfl) T.len PySem.boot_len (pa_cons (pv 0) pa_nil)) pe_int) pe_int (nomark _)) (pe_ix ix_list (pv 0) (pe_un un_neg pe_int) (fun _ _ => rfl)) (pe_un un_neg (pe_ix ix_list (pv 0) (pe_un un_neg pe_int) (fun _ _ => rfl)))))), ?_⟩
  obtain ⟨ns, h1, h0, q⟩ := h
  obtain ⟨l2, vs2, rfl, hs2, n2, a2⟩ := Is.last h1 h0
  refine ⟨_, rfl, l2, vs2, rfl, .inl hs2, _, _, rfl, rfl, (by show (0 : Int) < 2; decide), rfl, _, rfl, ?_⟩
  unfold lowI at q
  have e : ((vs2.length : Int) % 2 = 1) ↔ ns.length % 2 = 1 := by rw [n2]; omega
  by_cases hp : ns.length % 2 = 1
  · rw [if_pos hp] at q
    refine ifT (by simpa using e.mpr hp) ?_
    exact ⟨_, rfl, _, rfl, l2, vs2, _, _, rfl, rfl, hs2, a2, q⟩
  · rw [if_neg hp] at q
    refine ifF (by simpa using fun z => hp (e.mp z)) ?_
    exact ⟨_, rfl, _, rfl, l2, vs2, _, _, rfl, rfl, hs2, a2, _, rfl, q⟩
def S_changes_below (K : PySem.W.Frag) (a : V) (H : Hp) (Q : VK) : Prop := ∃ c : List (List Int), LLs K H a c ∧ c.length ≤ 1000 ∧ (∀ ns ∈ c, ns ≠ []) ∧ RetI (chgBot c) H Q
theorem c_changes_below (T : Txt P K mg base) (d : DefB K mg "changes_below" (top 67) ["chain"]) (c_changes_in : Cal P w K mg base 1 "changes_in" (sp1 (S_changes_in K)) []) (c_number_below : Cal P w K mg base 1 "number_below" (sp1 (S_number_below K)) []) : Cal P w K mg base 2 "changes_below" (sp1 (S_changes_below K)) [] := by
  have S : FnScope ["chain", "numbers"] ["chain"] (fnScope (top 67)) := fnScope_by (by decide +kernel)
  refine mk1 (k := 1) d S fun f cdv A outer s H a1 Q E hr h => ?_
  refine ⟨_, (pss_one (ps_ret (pe_c c_changes_in hr (by decide) rfl (pa_cons (pe_lc (own := [("numbers", 1)]) rfl S.nd (pi_list (pv 0)) (blkOk_by (own := [("numbers", 1)]) (N := ["chain", "numbers"]) (sc := fnScope (top 67)) (by decide +kernel)) (fun _ _ _ _ _ => (pg_name (i := 1) S.nd rfl (Or.inl rfl))) (fun _ _ _ _ _ => pts_nil) (fun _ _ _ _ _ => (pe_c c_number_below hr (by decide) rfl (pa_cons (pv 1) pa_nil)))) pa_nil)))), ?_⟩
  obtain ⟨c, ⟨l1, vs1, rfl, hs1, hpr1⟩, hn, hne, q⟩ := h
  have n1 := Paired.len hpr1
  refine ⟨_, rfl, l1, rfl, ⟨_, hs1⟩, fun D hD => lc_list (K := K) (a := l1) (xs := vs1) (fun i H' => ∃ us, Gr In H H' D us ((c.take i).map lowI)) ⟨_, Gr.new hD⟩ ?_ ?_ ?_⟩
  · rintro i H' _ ⟨us, g⟩
    exact sqL_same g.s hs1
  · rintro i v H' hv ⟨us, g⟩
    obtain ⟨ns, hc, fc⟩ := Paired.at hpr1 hv
    refine ⟨rfl, yes ?_⟩
    refine ⟨_, rfl, _, rfl, ns, LsI.same g.s fc, hne ns (List.mem_of_getElem? hc), us, g.h, g.room (by simp; omega), us ++ [.int (lowI ns)], ?_⟩
    rw [map_take_succ hc]
    exact g.push In.stab rfl
  · rintro H' ⟨us, g⟩
    rw [n1, List.take_length] at g
    exact ⟨_, rfl, _, g.ls, q _ g.s⟩
def S_root_count (K : PySem.W.Frag) (a : V) (H : Hp) (Q : VK) : Prop := ∃ c : List (List Int), LLs K H a c ∧ c.length ≤ 1000 ∧ (∀ ns ∈ c, ns ≠ []) ∧ RetI (chgBot c - chgTop c) H Q
theorem c_root_count (T : Txt P K mg base) (d : DefB K mg "root_count" (top 68) ["chain"]) (c_changes_above : Cal P w K mg base 2 "changes_above" (sp1 (S_changes_above K)) []) (c_changes_below : Cal P w K mg base 2 "changes_below" (sp1 (S_changes_below K)) []) : Cal P w K mg base 3 "root_count" (sp1 (S_root_count K)) [] := by
  have S : FnScope ["chain"] ["chain"] (fnScope (top 68)) := fnScope_by (by decide +kernel)
  refine mk1 (k := 2) d S fun f cdv A outer s H a1 Q E hr h => ?_
  refine ⟨_, (pss_one (ps_ret (pe_op op_sub (pe_c c_changes_below hr (by decide) rfl (pa_cons (pv 0) pa_nil)) (pe_c c_changes_above hr (by decide) rfl (pa_cons (pv 0) pa_nil))))), ?_⟩
  obtain ⟨c, h1, hn, hne, q⟩ := h
  refine ⟨_, rfl, _, rfl, c, h1, hn, hne, fun H1 s1 => ?_⟩
  refine ⟨_, rfl, _, rfl, c, h1.same s1, hn, hne, fun H2 s2 => ?_⟩
  exact ⟨_, _, rfl, rfl, q _ (s1.trans s2)⟩
def headI (c : List (List Int)) : List Int := c.headD []
def isRt (c : List (List Int)) (m : Int) (k : Nat) : Bool := decide (vat (headI c) m k = 0)
theorem LLs.head {H : Hp} {v : V} {c : List (List Int)} (h : LLs K H v c) (h0 : c ≠ []) : ∃ a vs u, v = .ref a ∧ SqL K H a vs ∧ atI vs 0 = some u ∧ Is K H u (headI c) := by
  obtain ⟨l1, vs1, rfl, hs1, hpr1⟩ := h
  cases hpr1 with
  | nil => exact absurd rfl h0
  | cons r t => exact ⟨l1, _, _, rfl, hs1, atI_nat (j := 0) rfl, r⟩
def S_is_root (K : PySem.W.Frag) (a b : V) (H : Hp) (Q : VK) : Prop := ∃ (c : List (List Int)) (m : Int) (k : Nat), LLs K H a c ∧ Pt K H b m k ∧ c ≠ [] ∧ SzV (headI c) m k ∧ Q (.bl (isRt c m k)) H
theorem c_is_root (T : Txt P K mg base) (d : DefB K mg "is_root" (top 69) ["chain", "point"]) (c_value_at : Cal P w K mg base 1 "value_at" (sp2 (S_value_at K)) []) : Cal P w K mg base 2 "is_root" (sp2 (S_is_root K)) [] := by
  have S : FnScope ["chain", "point"] ["chain", "point"] (fnScope (top 69)) := fnScope_by (by decide +kernel)
  refine mk2 (k := 1) d S fun f cdv A outer s H a1 a2 Q E hr h => ?_
  refine ⟨_, (pss_one (ps_ret (pe_cmpR op_eq (pe_c c_value_at hr (by decide) rfl (pa_cons (pe_ix ix_list (pv 0) pe_int (fun _ _ => rfl)) (pa_cons (pv 1) pa_nil))) pe_int (nomark _)))), ?_⟩
  obtain ⟨c, m, k, h1, h2, h0, sz, q⟩ := h
  obtain ⟨l, vs, u, rfl, hs, ha, hu⟩ := LLs.head h1 h0
  refine ⟨_, rfl, l, vs, _, u, rfl, rfl, hs, ha, _, rfl, _, _, rfl, headI c, m, k, hu, h2, sz, rfl, ?_⟩
  have e : decide (V.int (vat (headI c) m k) = V.int 0) = isRt c m k := by
    unfold isRt
    congr 1
    simp
  rw [e]
  exact q
end
end RW
namespace RW
open PySem PySem.Spec PyProof.Rows L2 C8
section
variable {P : Program} {w : World} {K : PySem.W.Frag} {mg : Str → Option Value} {base : Heap} {C : Addr}
/-- what is asked of a chain -/
structure ChOk (c : List (List Int)) : Prop where
  n : c.length ≤ 1000
  h : c ≠ []
  e : ∀ ns ∈ c, ns ≠ []
def SzVs (c : List (List Int)) (m : Int) (k : Nat) : Prop := ∀ ns ∈ c, SzV ns m k
theorem SzVs.head {c : List (List Int)} {m : Int} {k : Nat} (h : SzVs c m k) (h0 : c ≠ []) : SzV (headI c) m k := by
  cases c with
  | nil => exact absurd rfl h0
  | cons a l => exact h a List.mem_cons_self
def fromB (c : List (List Int)) (m : Int) (k : Nat) : Bool := isRt c m k || decide (chgTop c < chgAt c m k)
def belowB (c : List (List Int)) (m : Int) (k : Nat) : Bool := decide (1 < chgBot c - chgAt c m k) || (decide (chgBot c - chgAt c m k = 1) && !isRt c m k)
def reachB (c : List (List Int)) (m : Int) (k : Nat) (g : Bool) : Bool := if g then fromB c m k else !belowB c m k
def S_has_root_from (K : PySem.W.Frag) (a b : V) (H : Hp) (Q : VK) : Prop := ∃ (c : List (List Int)) (m : Int) (k : Nat), LLs K H a c ∧ Pt K H b m k ∧ ChOk c ∧ SzVs c m k ∧ RetB (fromB c m k) H Q
theorem c_has_root_from (T : Txt P K mg base) (d : DefB K mg "has_root_from" (top 70) ["chain", "point"]) (c_changes_above : Cal P w K mg base 2 "changes_above" (sp1 (S_changes_above K)) []) (c_changes_at : Cal P w K mg base 2 "changes_at" (sp2 (S_changes_at K)) []) (c_is_root : Cal P w K mg base 2 "is_root" (sp2 (S_is_root K)) []) : Cal P w K mg base 3 "has_root_from" (sp2 (S_has_root_from K)) [] := by
  have S : FnScope ["chain", "point"] ["chain", "point"] (fnScope (top 70)) := fnScope_by (by decide +kernel)
  refine mk2 (k := 2) d S fun f cdv A outer s H a1 a2 Q E hr h => ?_
  refine ⟨_, (pss_one (ps_ret (pe_or (pe_c c_is_root hr (by decide) rfl (pa_cons (pv 0) (pa_cons (pv 1) pa_nil))) (pe_one (pe_cmpR op_gt (pe_c c_changes_at hr (by decide) rfl (pa_cons (pv 0) (pa_cons (pv 1) pa_nil))) (pe_c c_changes_above hr (by decide) rfl (pa_cons (pv 0) pa_nil)) (nomark _)))))), ?_⟩
  obtain ⟨c, m, k, h1, h2, ok, sz, q⟩ := h
  refine ⟨_, rfl, _, rfl, _, _, rfl, c, m, k, h1, h2, ok.h, sz.head ok.h, _, rfl, ?_⟩
  by_cases hr : isRt c m k = true
  · refine ifT hr ?_
    have e : fromB c m k = true := by unfold fromB; rw [hr]; rfl
    rw [e] at q
    exact q _ (Same.refl H)
  · have hr' : isRt c m k = false := by simpa using hr
    refine ifF hr' ?_
    have e : fromB c m k = decide (chgTop c < chgAt c m k) := by unfold fromB; rw [hr']; rfl
    rw [e] at q
    refine ⟨_, rfl, _, rfl, _, _, rfl, c, m, k, h1, h2, ok.n, sz, fun H1 s1 => ?_⟩
    refine ⟨_, rfl, _, rfl, c, h1.same s1, ok.n, ok.e, fun H2 s2 => ?_⟩
    exact ⟨_, _, rfl, rfl, q _ (s1.trans s2)⟩
def S_has_root_below (K : PySem.W.Frag) (a b : V) (H : Hp) (Q : VK) : Prop := ∃ (c : List (List Int)) (m : Int) (k : Nat), LLs K H a c ∧ Pt K H b m k ∧ ChOk c ∧ SzVs c m k ∧ RetB (belowB c m k) H Q
theorem c_has_root_below (T : Txt P K mg base) (d : DefB K mg "has_root_below" (top 71) ["chain", "point"]) (c_changes_at : Cal P w K mg base 2 "changes_at" (sp2 (S_changes_at K)) []) (c_changes_below : Cal P w K mg base 2 "changes_below" (sp1 (S_changes_below K)) []) (c_is_root : Cal P w K mg base 2 "is_root" (sp2 (S_is_root K)) []) : Cal P w K mg base 3 "has_root_below" (sp2 (S_has_root_below K)) [] := by
  have S : FnScope ["chain", "point", "up_to"] ["chain", "point"] (fnScope (top 71)) := fnScope_by (by decide +kernel)
  refine mk2 (k := 2) d S fun f cdv A outer s H a1 a2 Q E hr h => ?_
  refine ⟨_, (pss_cons (ps_set (i := 2) S.nd rfl (Or.inl rfl) (pe_op op_sub (pe_c c_changes_below hr (by decide) rfl (pa_cons (pv 0) pa_nil)) (pe_c c_changes_at hr (by decide) rfl (pa_cons (pv 0) (pa_cons (pv 1) pa_nil))))) (pss_one (ps_ret (pe_or (pe_cmpR op_gt (pv 2) pe_int (nomark _)) (pe_one (pe_and (pe_cmpR op_eq (pv 2) pe_int (nomark _)) (pe_one (pe_not (pe_c c_is_root hr (by decide) rfl (pa_cons (pv 0) (pa_cons (pv 1) pa_nil))))))))))), ?_⟩
  obtain ⟨c, m, k, h1, h2, ok, sz, q⟩ := h
  refine ⟨_, rfl, _, rfl, c, h1, ok.n, ok.e, fun H1 s1 => ?_⟩
  refine ⟨_, rfl, _, rfl, _, _, rfl, c, m, k, h1.same s1, h2.same s1, ok.n, sz, fun H2 s2 => ?_⟩
  have s := s1.trans s2
  refine ⟨_, _, rfl, rfl, ?_⟩
  refine ⟨_, rfl, _, _, rfl, rfl, _, rfl, ?_⟩
  by_cases c1 : 1 < chgBot c - chgAt c m k
  · refine ifT (decide_eq_true c1) ?_
    have e : belowB c m k = true := by unfold belowB; rw [decide_eq_true c1]; rfl
    rw [e] at q
    exact q _ s
  · refine ifF (decide_eq_false c1) ?_
    refine ⟨_, rfl, rfl, _, rfl, ?_⟩
    have ed : decide (V.int (chgBot c - chgAt c m k) = V.int 1) = decide (chgBot c - chgAt c m k = 1) := by simp
    have e1 : belowB c m k = (decide (chgBot c - chgAt c m k = 1) && !isRt c m k) := by
      unfold belowB
      rw [decide_eq_false c1]
      rfl
    by_cases c2 : chgBot c - chgAt c m k = 1
    · refine ifT (ed.trans (decide_eq_true c2)) ?_
      rw [decide_eq_true c2, Bool.true_and] at e1
      rw [e1] at q
      exact ⟨_, rfl, _, rfl, _, _, rfl, c, m, k, h1.same s, h2.same s, ok.h, sz.head ok.h, _, rfl, q _ s⟩
    · refine ifF (ed.trans (decide_eq_false c2)) ?_
      rw [decide_eq_false c2, Bool.false_and] at e1
      rw [e1] at q
      exact q _ s
theorem chain_ok {p : List Rat} (tp : RK.Tr p) (np : p ≠ []) (hn : p.length ≤ 900) (ns : sE p ≠ []) : ChOk (chainI p) ∧ headI (chainI p) = wnum (sE p) := by
  obtain ⟨t1, l1⟩ := sE_ok tp np
  have hl := RK.chn_length ((sE p).length + 1) (sE p) (Kqg1.derivative (sE p)) t1 (RK.Tr.deriv _)
  have dl := RK.deriv_length (sE p)
  obtain ⟨r, hr⟩ := RK.chn_head (sE p).length (sE p) (Kqg1.derivative (sE p))
  have hc : RK.chS (sE p) = sE p :: r := hr
  refine ⟨⟨?_, ?_, ?_⟩, ?_⟩
  · unfold chainI
    rw [List.length_map]
    have : (RK.chS (sE p)).length ≤ (Kqg1.derivative (sE p)).length + 1 := hl
    omega
  · unfold chainI
    rw [hc]
    simp
  · intro n hn2
    obtain ⟨f, hf, rfl⟩ := List.mem_map.mp hn2
    have := (RK.chn_ok _ _ _ t1 ns (RK.Tr.deriv _) f hf).2
    intro z
    exact this (by simpa [wnum] using z)
  · unfold chainI
    rw [hc]
    rfl
def realB (c : List (List Int)) : Bool := decide (chgBot c - chgTop c = ((headI c).length : Int) - 1)
def S_has_only_real_roots (K : PySem.W.Frag) (a : V) (H : Hp) (Q : VK) : Prop := ∃ p : List Rat, Po K H a p ∧ RK.Tr p ∧ p ≠ [] ∧ p.length ≤ 900 ∧ sE p ≠ [] ∧ SzChain p ∧ RetB (realB (chainI p)) H Q
theorem c_has_only_real_roots (T : Txt P K mg base) (d : DefB K mg "has_only_real_roots" (top 72) ["polynomial"]) (c_chain_of : Cal P w K mg base 39 "chain_of" (sp1 (S_chain_of K)) []) (c_root_count : Cal P w K mg base 3 "root_count" (sp1 (S_root_count K)) []) : Cal P w K mg base 40 "has_only_real_roots" (sp1 (S_has_only_real_roots K)) [] := by
  have S : FnScope ["polynomial", "chain"] ["polynomial"] (fnScope (top 72)) := fnScope_by (by decide +kernel)
  refine mk1 (k := 39) d S fun f cdv A outer s H a1 Q E hr h => ?_
  refine ⟨_, (pss_cons (ps_set (i := 1) S.nd rfl (Or.inl rfl) (pe_c c_chain_of hr (by decide) rfl (pa_cons (pv 0) pa_nil))) (pss_one (ps_ret (pe_cmpR op_eq (pe_c c_root_count hr (by decide) rfl (pa_cons (pv 1) pa_nil)) (pe_op op_sub (pe_callB call_len_seq (by rfl) T.len PySem.boot_len (pa_cons (pe_ix ix_list (pv 1) pe_int (fun _ _ => rfl)) pa_nil)) pe_int) (nomark _))))), ?_⟩
  obtain ⟨p, hp, tp, np, hn, ns, sz, q⟩ := h
  obtain ⟨ok, hh⟩ := chain_ok tp np hn ns
  refine ⟨_, rfl, _, rfl, p, hp, tp, np, by omega, sz, fun H1 r1 s1 n1 f1 => ?_⟩
  have f1' : LLs K H1 (.ref r1) (chainI p) := f1
  refine ⟨_, rfl, _, rfl, _, f1', ok.n, ok.e, fun H2 s2 => ?_⟩
  obtain ⟨l, vs, u, e, hs, ha, hu⟩ := LLs.head (f1'.same s2) ok.h
  cases e
  obtain ⟨l3, vs3, rfl, hs3, hpr3⟩ := id hu
  have n3 := Paired.len hpr3
  refine ⟨_, rfl, _, vs, _, _, rfl, rfl, hs, ha, l3, vs3, rfl, .inl hs3, _, _, rfl, rfl, rfl, ?_⟩
  have e : decide (V.int (chgBot (chainI p) - chgTop (chainI p)) = V.int ((vs3.length : Int) - 1)) = realB (chainI p) := by
    unfold realB
    rw [n3]
    simp
  rw [e]
  exact q _ (s1.trans s2)
def S_has_no_negative_root (K : PySem.W.Frag) (a : V) (H : Hp) (Q : VK) : Prop := ∃ p : List Rat, Po K H a p ∧ RK.Tr p ∧ p ≠ [] ∧ p.length ≤ 900 ∧ sE p ≠ [] ∧ SzChain p ∧ SzVs (chainI p) 0 0 ∧ RetB (!belowB (chainI p) 0 0) H Q
theorem c_has_no_negative_root (T : Txt P K mg base) (d : DefB K mg "has_no_negative_root" (top 73) ["polynomial"]) (c_chain_of : Cal P w K mg base 39 "chain_of" (sp1 (S_chain_of K)) []) (c_has_root_below : Cal P w K mg base 3 "has_root_below" (sp2 (S_has_root_below K)) []) : Cal P w K mg base 40 "has_no_negative_root" (sp1 (S_has_no_negative_root K)) [] := by
  have S : FnScope ["polynomial"] ["polynomial"] (fnScope (top 73)) := fnScope_by (by decide +kernel)
  refine mk1 (k := 39) d S fun f cdv A outer s H a1 Q E hr h => ?_
  obtain ⟨aORIGIN, gORIGIN, tORIGIN⟩ := T.gORIGIN
  refine ⟨_, (pss_one (ps_ret (pe_not (pe_c c_has_root_below hr (by decide) rfl (pa_cons (pe_c c_chain_of hr (by decide) rfl (pa_cons (pv 0) pa_nil)) (pa_cons (pe_gc rfl gORIGIN) pa_nil)))))), ?_⟩
  obtain ⟨p, hp, tp, np, hn, ns, sz, szv, q⟩ := h
  obtain ⟨ok, hh⟩ := chain_ok tp np hn ns
  refine ⟨_, rfl, _, rfl, p, hp, tp, np, by omega, sz, fun H1 r1 s1 n1 f1 => ?_⟩
  refine ⟨_, _, rfl, _, 0, 0, f1, ⟨aORIGIN, rfl, tORIGIN H1⟩, ok, szv, fun H2 s2 => ?_⟩
  exact ⟨_, rfl, q _ (s1.trans s2)⟩
def absI (n : Int) : Int := if n < 0 then -n else n
def maxI (a b : Int) : Int := if b > a then b else a
def bndI (ns : List Int) : Int := ns.foldl (fun m n => maxI m (absI n)) 0 / absI (lastI ns) + 2
def S_bound_of (K : PySem.W.Frag) (a : V) (H : Hp) (Q : VK) : Prop := ∃ ns : List Int, Is K H a ns ∧ ns ≠ [] ∧ lastI ns ≠ 0 ∧ Q (.int (bndI ns)) H
theorem c_bound_of (T : Txt P K mg base) (d : DefB K mg "bound_of" (top 74) ["numbers"]) : Cal P w K mg base 33 "bound_of" (sp1 (S_bound_of K)) [] := by
  have S : FnScope ["numbers", "most", "number"] ["numbers"] (fnScope (top 74)) := fnScope_by (by decide +kernel)
  refine mk1 (k := 32) d S fun f cdv A outer s H a1 Q E hr h => ?_
  have hP := py_of (w := w) (K := K) (mg := mg) (N := ["numbers", "most", "number"]) (f := f) (cd := cdv) (outer := outer) (H := H) (E := E) (CX := C8.CX0) T.seer T.tree hr rfl
  refine ⟨_, (pss_cons (ps_set (i := 1) S.nd rfl (Or.inl rfl) pe_int) (pss_cons (ps_for PassesOwn.never rfl (pi_list (pv 0)) (pg_name (i := 2) S.nd rfl (Or.inl rfl)) (pss_one (ps_set (i := 1) S.nd rfl (Or.inl rfl) (pe_callB (call_max2 rfl) (by rfl) T.max (by decide +kernel) (pa_cons (pv 1) (pa_cons (pe_callB call_abs (by rfl) T.abs (by decide +kernel) (pa_cons (pv 2) pa_nil)) pa_nil)))))) (pss_one (ps_ret (pe_op op_add (pe_op (op_fdivB hP) (pv 1) (pe_callB call_abs (by rfl) T.abs (by decide +kernel) (pa_cons (pe_ix ix_list (pv 0) (pe_un un_neg pe_int) (fun _ _ => rfl)) pa_nil))) pe_int))))), ?_⟩
  obtain ⟨ns, h1, h0, hl, q⟩ := h
  obtain ⟨l1, vs1, rfl, hs1, hpr1⟩ := id h1
  have n1 := Paired.len hpr1
  refine ⟨_, rfl, l1, rfl, ⟨_, hs1⟩, ?_⟩
  refine for_list (K := K) (a := l1) (xs := vs1) (fun i σ H' => ∃ x, σ = [some (.ref l1), some (.int ((ns.take i).foldl (fun m n => maxI m (absI n)) 0)), x] ∧ H' = H) ⟨_, rfl, rfl⟩ ?_ ?_ ?_
  · rintro i σ H' _ ⟨x, rfl, rfl⟩
    exact hs1
  · rintro i v σ H' hv ⟨x, rfl, rfl⟩
    obtain ⟨n, hc, rfl⟩ := Paired.at hpr1 hv
    have e1 := foldl_take_succ (fun m n => maxI m (absI n)) 0 hc
    refine ⟨_, rfl, _, rfl, _, rfl, _, _, rfl, some (.int n), ?_, rfl⟩
    rw [e1]
    rfl
  · rintro σ H' ⟨x, rfl, rfl⟩
    rw [n1, List.take_length]
    obtain ⟨l2, vs2, e, hs2, n2, a2⟩ := Is.last h1 h0
    cases e
    refine ⟨_, rfl, _, rfl, _, rfl, _, vs2, _, _, rfl, rfl, hs2, a2, _, rfl, _, _, rfl, rfl, ?_, _, _, rfl, rfl, q⟩
    show (0 : Int) < if lastI ns < 0 then -lastI ns else lastI ns
    split <;> omega
def S_is_reached (K : PySem.W.Frag) (a b d : V) (H : Hp) (Q : VK) : Prop := ∃ (c : List (List Int)) (m : Int) (k : Nat) (g : Bool), LLs K H a c ∧ Pt K H b m k ∧ d = .bl g ∧ ChOk c ∧ SzVs c m k ∧ RetB (reachB c m k g) H Q
theorem c_is_reached (T : Txt P K mg base) (d : DefB K mg "is_reached" (top 75) ["chain", "point", "is_greatest"]) (c_has_root_below : Cal P w K mg base 3 "has_root_below" (sp2 (S_has_root_below K)) []) (c_has_root_from : Cal P w K mg base 3 "has_root_from" (sp2 (S_has_root_from K)) []) : Cal P w K mg base 4 "is_reached" (sp3 (S_is_reached K)) [] := by
  have S : FnScope ["chain", "point", "is_greatest"] ["chain", "point", "is_greatest"] (fnScope (top 75)) := fnScope_by (by decide +kernel)
  refine mk3 (k := 3) d S fun f cdv A outer s H a1 a2 a3 Q E hr h => ?_
  refine ⟨_, (pss_cons (ps_if (pt_val (pv 2)) (pss_one (ps_ret (pe_c c_has_root_from hr (by decide) rfl (pa_cons (pv 0) (pa_cons (pv 1) pa_nil))))) pss_nil) (pss_one (ps_ret (pe_not (pe_c c_has_root_below hr (by decide) rfl (pa_cons (pv 0) (pa_cons (pv 1) pa_nil))))))), ?_⟩
  obtain ⟨c, m, k, g, h1, h2, rfl, ok, sz, q⟩ := h
  refine ⟨_, rfl, _, rfl, ?_⟩
  cases g with
  | true =>
    refine ifT rfl ?_
    exact ⟨_, rfl, _, rfl, _, _, rfl, c, m, k, h1, h2, ok, sz, fun H1 s1 => q _ s1⟩
  | false =>
    refine ifF rfl ?_
    exact ⟨_, rfl, _, rfl, _, _, rfl, c, m, k, h1, h2, ok, sz, fun H1 s1 => ⟨_, rfl, q _ s1⟩⟩
def S_floor_of_root (K : PySem.W.Frag) (a b d : V) (H : Hp) (Q : VK) : Prop := ∃ (c : List (List Int)) (k : Nat) (g : Bool) (n : Nat), LLs K H a c ∧ b = .int (k : Int) ∧ d = .bl g ∧ ChOk c ∧ lastI (headI c) ≠ 0 ∧ CShl (bndI (headI c)) (k : Int) ∧
  2 * (bndI (headI c) * 2 ^ k) ≤ 2 ^ n ∧ (∀ m : Int, -(bndI (headI c) * 2 ^ k) ≤ m → m ≤ bndI (headI c) * 2 ^ k → SzVs c m k) ∧
  RetI (Kqg1.bisect (fun m => reachB c m k g) n (-(bndI (headI c) * 2 ^ k)) (bndI (headI c) * 2 ^ k)) H Q
theorem c_floor_of_root (T : Txt P K mg base) (d : DefB K mg "floor_of_root" (top 76) ["chain", "bits", "is_greatest"]) (c_bound_of : Cal P w K mg base 33 "bound_of" (sp1 (S_bound_of K)) []) (c_is_reached : Cal P w K mg base 4 "is_reached" (sp3 (S_is_reached K)) []) : Cal P w K mg base 34 "floor_of_root" (sp3 (S_floor_of_root K)) [] := by
  have S : FnScope ["chain", "bits", "is_greatest", "high", "low", "middle"] ["chain", "bits", "is_greatest"] (fnScope (top 76)) := fnScope_by (by decide +kernel)
  refine mk3 (k := 33) d S fun f cdv A outer s H a1 a2 a3 Q E hr h => ?_
  refine ⟨_, (pss_cons (ps_set (i := 3) S.nd rfl (Or.inl rfl) (pe_op op_shlW (pe_c c_bound_of hr (by decide) rfl (pa_cons (pe_ix ix_list (pv 0) pe_int (fun _ _ => rfl)) pa_nil)) (pv 1))) (pss_cons (ps_set (i := 4) S.nd rfl (Or.inl rfl) (pe_un un_neg (pv 3))) (pss_cons (ps_while PassesOwn.never (pt_cmpR op_gt (pe_op op_sub (pv 3) (pv 4)) pe_int (nomark _)) (pss_cons (ps_set (i := 5) S.nd rfl (Or.inl rfl) (pe_op op_fdiv (pe_op op_add (pv 4) (pv 3)) pe_int)) (pss_one (ps_if (pt_val (pe_c c_is_reached hr (by decide) rfl (pa_cons (pv 0) (pa_cons (pe_tup (pa_cons (pv 5) (pa_cons (pv 1) pa_nil))) (pa_cons (pv 2) pa_nil))))) (pss_one (ps_set (i := 4) S.nd rfl (Or.inl rfl) (pv 5))) (pss_one (ps_set (i := 3) S.nd rfl (Or.inl rfl) (pv 5))))))) (pss_one (ps_ret (pv 4)))))), ?_⟩
  obtain ⟨c, k, g, n, h1, rfl, rfl, ok, hl, hs, hw, sz, q⟩ := h
  obtain ⟨l, vs, u, rfl, hs1, ha, hu⟩ := LLs.head h1 ok.h
  have hm : headI c ∈ c := by
    cases c with
    | nil => exact absurd rfl ok.h
    | cons a l => exact List.mem_cons_self
  refine ⟨_, rfl, l, vs, _, u, rfl, rfl, hs1, ha, _, rfl, headI c, hu, ok.e _ hm, hl, ?_⟩
  refine ⟨_, rfl, _, _, rfl, rfl, hs, ?_⟩
  have ek : (fun i j : Int => V.int (i * 2 ^ j.toNat)) (bndI (headI c)) (k : Int) = V.int (bndI (headI c) * 2 ^ k) := by
    show V.int (bndI (headI c) * 2 ^ (k : Int).toNat) = _
    rw [Int.toNat_natCast]
  rw [ek]
  generalize hB : bndI (headI c) * 2 ^ k = B at *
  refine ⟨_, rfl, _, rfl, ?_⟩
  refine ⟨fun f σ H' => ∃ (lo hi : Int) (x : Option V), σ = [some (.ref l), some (.int (k : Int)), some (.bl g), some (.int hi), some (.int lo), x] ∧ Same H H' ∧ -B ≤ lo ∧ hi ≤ B ∧ hi - lo ≤ 2 ^ f ∧ Kqg1.bisect (fun m => reachB c m k g) f lo hi = Kqg1.bisect (fun m => reachB c m k g) n (-B) B,
    ⟨n, -B, B, _, rfl, Same.refl H, Int.le_refl _, Int.le_refl _, by omega, rfl⟩, ?_⟩
  rintro f σ H' ⟨lo, hi, x, rfl, sH, hlo, hhi, hwd, e⟩
  refine ⟨_, rfl, _, rfl, _, _, rfl, rfl, _, _, rfl, rfl, _, rfl, ?_⟩
  by_cases c1 : hi - lo > 1
  · refine ifT (decide_eq_true c1) ⟨_, fun _ _ h => h, ?_⟩
    cases f with
    | zero =>
      have : (2 : Int) ^ 0 = 1 := rfl
      omega
    | succ f =>
      have e2 : (2 : Int) ^ (f + 1) = 2 ^ f * 2 := Int.pow_succ 2 f
      rw [Kqg1.bisect, if_neg (by omega)] at e
      refine ⟨_, rfl, _, rfl, _, _, rfl, rfl, _, _, rfl, rfl, ⟨by decide, by decide⟩, ?_⟩
      refine ⟨_, rfl, _, rfl, _, rfl, (by show 2 ≤ sizeLine; decide), fun t ht => ?_⟩
      have s1 : Same H' (upd H' t (.tup [.int ((lo + hi) / 2), .int (k : Int)])) := same_lay ht
      refine ⟨_, rfl, _, _, _, rfl, c, (lo + hi) / 2, k, g, (h1.same sH).same s1, ⟨t, rfl, SqT.of upd_same⟩, rfl, ok, sz _ (by omega) (by omega), fun H2 s2 => ?_⟩
      refine ⟨_, rfl, ?_⟩
      have sA := (sH.trans s1).trans s2
      have e3 : (if reachB c ((lo + hi) / 2) k g = true then Kqg1.bisect (fun m => reachB c m k g) f ((lo + hi) / 2) hi else Kqg1.bisect (fun m => reachB c m k g) f lo ((lo + hi) / 2)) = Kqg1.bisect (fun m => reachB c m k g) n (-B) B := e
      by_cases hr : reachB c ((lo + hi) / 2) k g = true
      · rw [if_pos hr] at e3
        refine ifT hr ?_
        exact ⟨_, rfl, f, Nat.lt_succ_self f, _, hi, _, rfl, sA, by omega, hhi, by omega, e3⟩
      · rw [if_neg hr] at e3
        refine ifF (by simpa using hr) ?_
        exact ⟨_, rfl, f, Nat.lt_succ_self f, lo, _, _, rfl, sA, hlo, by omega, by omega, e3⟩
  · refine ifF (decide_eq_false c1) ?_
    have e3 : Kqg1.bisect (fun m => reachB c m k g) f lo hi = lo := by
      cases f with
      | zero => rfl
      | succ f => rw [Kqg1.bisect, if_pos (by omega)]
    refine ⟨_, rfl, ?_⟩
    rw [← e, e3] at q
    exact q _ sH
end
end RW
namespace RW
open PySem PySem.Spec PyProof.Rows L2 C8
open RK (co Tr ld ev)
section
variable {P : Program} {w : World} {K : PySem.W.Frag} {mg : Str → Option Value} {base : Heap} {C : Addr}
theorem fact_le : ∀ n, n ≤ 12 → Kqg3.factorial n ≤ 479001600 := by decide
theorem fact_pos : ∀ n, 0 < Kqg3.factorial n
  | 0 => by decide
  | n + 1 => by rw [Kqg3.factorial]; exact Nat.mul_pos (by omega) (fact_pos n)
def S_factorial (K : PySem.W.Frag) (a : V) (H : Hp) (Q : VK) : Prop := ∃ n : Nat, a = .int n ∧ n ≤ 12 ∧ Q (.int (Kqg3.factorial n : Nat)) H
theorem c_factorial (T : Txt P K mg base) (d : DefB K mg "factorial" (top 27) ["number"]) : Cal P w K mg base 1 "factorial" (sp1 (S_factorial K)) [] := by
  have S : FnScope ["number", "found", "factor"] ["number"] (fnScope (top 27)) := fnScope_by (by decide +kernel)
  refine mk1 (k := 0) d S fun f cdv A outer s H a1 Q E hr h => ?_
  refine ⟨_, (pss_cons (ps_set (i := 1) S.nd rfl (Or.inl rfl) pe_int) (pss_cons (ps_for PassesOwn.never rfl (pi_range2 (by rfl) T.range (pa_cons pe_int (pa_cons (pe_op op_add (pv 0) pe_int) pa_nil))) (pg_name (i := 2) S.nd rfl (Or.inl rfl)) (pss_one (ps_aug (i := 1) S.nd rfl (Or.inl rfl) (pv 2) iop_mulB))) (pss_one (ps_ret (pv 1))))), ?_⟩
  obtain ⟨n, rfl, hn, q⟩ := h
  refine ⟨_, rfl, _, _, rfl, rfl, 1, ((n + 1 : Nat) : Int), rfl, ⟨by omega, by omega, by omega, by omega⟩, ?_⟩
  have e1 : (((n + 1 : Nat) : Int) - 1).toNat = n := by omega
  rw [e1]
  refine for_range (lo := 1) (n := n) (fun i σ H' => ∃ x, σ = [some (.int n), some (.int (Kqg3.factorial i : Nat)), x] ∧ H' = H) ⟨_, rfl, rfl⟩ ?_ ?_
  · rintro i σ H' hi ⟨x, rfl, rfl⟩
    have e2 : (1 : Int) + (i : Int) = ((i + 1 : Nat) : Int) := by omega
    refine ⟨_, rfl, _, rfl, _, _, rfl, rfl, ⟨40, 40, ?_, ?_, by decide⟩, some (.int (1 + (i : Int))), ?_, rfl⟩
    · rw [Int.natAbs_natCast]
      exact Nat.lt_of_le_of_lt (fact_le i (by omega)) (by decide)
    · rw [e2, Int.natAbs_natCast]
      omega
    · show [some (V.int n), some (V.int (((Kqg3.factorial i : Nat) : Int) * (1 + (i : Int)))), _] = _
      rw [e2, ← Int.natCast_mul, Nat.mul_comm]
      rfl
  · rintro σ H' ⟨x, rfl, rfl⟩
    exact ⟨_, rfl, q⟩
/-! ### shift -/
def shf (c : Rat) (l : List Rat) : List Rat := l.foldr (fun a s => Kqg1.add [a] (Kqg1.multiply [-c, 1] s)) []
theorem add_comm' (p q : List Rat) : Kqg1.add p q = Kqg1.add q p := RK.Tr.ext (RK.Tr.add _ _) (RK.Tr.add _ _) fun i => by rw [RK.co_add, RK.co_add]; grind
theorem mul_comm' (p q : List Rat) : Kqg1.multiply p q = Kqg1.multiply q p := RK.ext_ev (RK.Tr.multiply _ _) (RK.Tr.multiply _ _) fun t => by rw [RK.ev_multiply, RK.ev_multiply]; grind
structure SzShf (c : Rat) (p : List Rat) : Prop where
  a : SzP p
  m : ∀ i, SzMul (shf c (p.drop i)) [-c, 1]
  p : ∀ i, SzP (Kqg1.multiply (shf c (p.drop i)) [-c, 1])
theorem mul_len (p q : List Rat) : (Kqg1.multiply p q).length ≤ p.length + q.length := by
  have := RK.length_trim_le ((List.range (p.length + q.length - 1)).map fun i => ((List.range (i + 1)).map fun j => Kqg1.coefficient p j * Kqg1.coefficient q (i - j)).foldl (fun x y => x + y) 0)
  have h : (Kqg1.multiply p q).length ≤ p.length + q.length - 1 := by simpa [Kqg1.multiply] using this
  omega
theorem add_len (p q : List Rat) : (Kqg1.add p q).length ≤ max p.length q.length := by
  have := RK.length_trim_le ((List.range (max p.length q.length)).map fun i => Kqg1.coefficient p i + Kqg1.coefficient q i)
  simpa [Kqg1.add] using this
theorem scale_len (c : Rat) (p : List Rat) : (Kqg1.scale c p).length ≤ p.length := by
  have := RK.length_trim_le (p.map fun x => c * x)
  simpa [Kqg1.scale] using this
theorem shf_len (c : Rat) : ∀ l : List Rat, (shf c l).length ≤ 3 * l.length
  | [] => Nat.le_refl _
  | a :: l => by
    have h1 := add_len [a] (Kqg1.multiply [-c, 1] (shf c l))
    have h2 := mul_len [-c, 1] (shf c l)
    have h3 := shf_len c l
    show (Kqg1.add [a] (Kqg1.multiply [-c, 1] (shf c l))).length ≤ 3 * (l.length + 1)
    simp only [List.length_cons, List.length_nil] at h1 h2
    omega
def S_shifted (K : PySem.W.Frag) (a b : V) (H : Hp) (Q : VK) : Prop := ∃ (p : List Rat) (c : Rat), Po K H a p ∧ Fr K H b c ∧ p.length ≤ 100 ∧ SzShf c p ∧ RetN (fun H' r => Po K H' r (Kqg3.shiftRoots p c)) H Q
theorem c_shifted (T : Txt P K mg base) (d : DefB K mg "shifted" (top 28) ["polynomial", "shift"]) (c_line_with_root : Cal P w K mg base 2 "line_with_root" (sp1 (S_line_with_root K)) []) (c_product_of : Cal P w K mg base 35 "product_of" (sp2 (S_product_of K)) []) (c_sum_of : Cal P w K mg base 35 "sum_of" (sp2 (S_sum_of K)) []) : Cal P w K mg base 36 "shifted" (sp2 (S_shifted K)) [] := by
  have S : FnScope ["polynomial", "shift", "found", "one"] ["polynomial", "shift"] (fnScope (top 28)) := fnScope_by (by decide +kernel)
  refine mk2 (k := 35) d S fun f cdv A outer s H a1 a2 Q E hr h => ?_
  refine ⟨_, (pss_cons (ps_set (i := 2) S.nd rfl (Or.inl rfl) (pe_lst pa_nil)) (pss_cons (ps_for PassesOwn.never rfl (pi_reversed (by rfl) T.reversed (pa_cons (pv 0) pa_nil)) (pg_name (i := 3) S.nd rfl (Or.inl rfl)) (pss_one (ps_set (i := 2) S.nd rfl (Or.inl rfl) (pe_c c_sum_of hr (by decide) rfl (pa_cons (pe_c c_product_of hr (by decide) rfl (pa_cons (pv 2) (pa_cons (pe_c c_line_with_root hr (by decide) rfl (pa_cons (pv 1) pa_nil)) pa_nil))) (pa_cons (pe_lst (pa_cons (pv 3) pa_nil)) pa_nil)))))) (pss_one (ps_ret (pv 2))))), ?_⟩
  obtain ⟨p, c, hp, hc, hn, sz, q⟩ := h
  obtain ⟨l1, vs1, rfl, hs1, hpr1⟩ := id hp
  have n1 := Paired.len hpr1
  refine ⟨Nat.zero_le _, fun l hl => ?_⟩
  have s0 : Same H (upd H l (.lst [])) := same_lay hl
  refine ⟨_, rfl, l1, vs1, rfl, sqL_same s0 hs1, ?_⟩
  refine for_it walk_rev (fun i σ H' => ∃ (r : Addr) (x : Option V), σ = [some (.ref l1), some a2, some (.ref r), x] ∧ Same H H' ∧ Nw H H' r ∧ Po K H' (.ref r) (shf c (p.drop (p.length - i)))) ⟨l, _, rfl, s0, Nw.lay hl, ?_⟩ ?_ ?_ ?_
  · rw [Nat.sub_zero, List.drop_length]
    exact ⟨l, [], rfl, SqL.of upd_same, .nil⟩
  · rintro i σ H' _ ⟨r, x, rfl, s1, _, _⟩
    exact sqL_same s1 hs1
  · rintro i v σ H' H'' hi ⟨r, x, rfl, s1, nr, pr⟩ ⟨rfl, hv⟩
    obtain ⟨a, ha, fa⟩ := Paired.at hpr1 hv
    rw [n1] at ha hi
    have ed : p.drop (p.length - (i + 1)) = a :: p.drop (p.length - i) := by
      have e2 : p.length - (i + 1) = p.length - 1 - i := by omega
      have e3 : p.length - i = p.length - 1 - i + 1 := by omega
      rw [e2, e3]
      obtain ⟨h1, h2⟩ := List.getElem?_eq_some_iff.mp ha
      rw [List.drop_eq_getElem_cons h1, h2]
    have hl3 := shf_len c (p.drop (p.length - i))
    have hl4 : (p.drop (p.length - i)).length = i := by rw [List.length_drop]; omega
    refine ⟨_, rfl, _, rfl, _, rfl, c, hc.same s1, fun H2 r2 s2 n2 f2 => ?_⟩
    refine ⟨_, _, rfl, _, [-c, 1], pr.same s2, f2, by omega, by simp, sz.m _, fun H3 r3 s3 n3 f3 => ?_⟩
    refine ⟨_, rfl, (by show 1 ≤ sizeLine; decide), fun l4 hl4' => ?_⟩
    have s4 : Same H3 (upd H3 l4 (.lst [v])) := same_lay hl4'
    have sA := ((s1.trans s2).trans s3).trans s4
    have hml := mul_len (shf c (p.drop (p.length - i))) [-c, 1]
    simp only [List.length_cons, List.length_nil] at hml
    refine ⟨_, _, rfl, Kqg1.multiply (shf c (p.drop (p.length - i))) [-c, 1], [a], Po.same s4 f3, ⟨l4, _, rfl, SqL.of upd_same, .cons (fa.same sA) .nil⟩, by omega, by simp, sz.p _, ?_, fun H5 r5 s5 n5 f5 => ?_⟩
    · intro z hz
      rw [List.mem_singleton.mp hz]
      exact sz.a a (List.mem_of_getElem? ha)
    refine ⟨r5, _, rfl, sA.trans s5, n5.after sA, ?_⟩
    rw [ed]
    have e6 : shf c (a :: p.drop (p.length - i)) = Kqg1.add (Kqg1.multiply (shf c (p.drop (p.length - i))) [-c, 1]) [a] := by
      show Kqg1.add [a] (Kqg1.multiply [-c, 1] (shf c (p.drop (p.length - i)))) = _
      rw [add_comm', mul_comm' [-c, 1]]
    rw [e6]
    exact f5
  · rintro σ H' ⟨r, x, rfl, s1, nr, pr⟩
    rw [n1, Nat.sub_self] at pr
    exact ⟨_, rfl, q _ _ s1 nr pr⟩
def S_scaled (K : PySem.W.Frag) (a b : V) (H : Hp) (Q : VK) : Prop := ∃ (p : List Rat) (c : Rat), Po K H a p ∧ Fr K H b c ∧ Tr p ∧ p ≠ [] ∧ c ≠ 0 ∧ p.length ≤ 100 ∧ SzP p ∧ (∀ i, i ≤ 100 → Sz (c ^ i)) ∧ RetN (fun H' r => Po K H' r (Kqg3.scaleRoots p c)) H Q
theorem scaled_tr {p : List Rat} {c : Rat} (tp : Tr p) (np : p ≠ []) (hc : c ≠ 0) : (List.range p.length).map (fun i => co p i * c ^ (p.length - 1 - i)) = Kqg3.scaleRoots p c := by
  have h0 : 0 < p.length := List.length_pos_iff.mpr np
  have h : Tr ((List.range p.length).map (fun i => co p i * c ^ (p.length - 1 - i))) := by
    refine RK.Tr.of_last fun _ => ?_
    rw [List.length_map, List.length_range, RK.co_tab, if_pos (by omega), Nat.sub_self, Rat.pow_zero]
    have := tp.last np
    grind
  rw [← h]
  rfl
theorem c_scaled (T : Txt P K mg base) (d : DefB K mg "scaled" (top 29) ["polynomial", "scale"]) (c_degree_of : Cal P w K mg base 1 "degree_of" (sp1 (S_degree_of K)) []) (c_multiply : Cal P w K mg base 34 "multiply" (sp2 (S_multiply K)) []) (c_power : Cal P w K mg base 35 "power" (sp2 (S_power K)) []) : Cal P w K mg base 36 "scaled" (sp2 (S_scaled K)) [] := by
  have S : FnScope ["polynomial", "scale", "degree", "place"] ["polynomial", "scale"] (fnScope (top 29)) := fnScope_by (by decide +kernel)
  refine mk2 (k := 35) d S fun f cdv A outer s H a1 a2 Q E hr h => ?_
  refine ⟨_, (pss_cons (ps_set (i := 2) S.nd rfl (Or.inr rfl) (pe_c c_degree_of hr (by decide) rfl (pa_cons (pv 0) pa_nil))) (pss_one (ps_ret (pe_lc (te := tCall (sp2 (S_multiply K)) [] C8.E0 (tCons (tOp (rIxL K) (tVar 0) (tVar 3)) (tCons (tCall (sp2 (S_power K)) [] C8.E0 (tCons (tVar 1) (tCons (tOp (rI0 fun i j => .int (i - j)) (tVar 2) (tVar 3)) tNil))) tNil))) (own := [("place", 3)]) rfl S.nd (pi_range1 (by rfl) T.range (pa_cons (pe_callB call_len_seq (by rfl) T.len PySem.boot_len (pa_cons (pv 0) pa_nil)) pa_nil)) (blkOk_by (own := [("place", 3)]) (N := ["polynomial", "scale", "degree", "place"]) (sc := fnScope (top 29)) (by decide +kernel)) (fun _ _ _ _ _ => (pg_name (i := 3) S.nd rfl (Or.inl rfl))) (fun _ _ _ _ _ => pts_nil) (fun _ _ _ _ _ => (pe_c c_multiply hr (by decide) rfl (pa_cons (pe_ix ix_list (pv 0) (pv 3) (fun _ _ => rfl)) (pa_cons (pe_c c_power hr (by decide) rfl (pa_cons (pv 1) (pa_cons (pe_op op_sub (pv 2) (pv 3)) pa_nil))) pa_nil)))))))), ?_⟩
  obtain ⟨p, c, hp, hc, tp, np, c0, hn, sp, sc, q⟩ := h
  obtain ⟨l1, vs1, rfl, hs1, hpr1⟩ := id hp
  have n1 := Paired.len hpr1
  refine ⟨_, rfl, _, rfl, p, hp, ?_⟩
  have h0 : 0 < p.length := List.length_pos_iff.mpr np
  refine ⟨_, rfl, l1, vs1, rfl, .inl hs1, (p.length : Int), ?_, by omega, by omega, fun D hD => ?_⟩
  · rw [n1]
  rw [Int.toNat_natCast]
  refine lc_range (lo := 0) (n := p.length) (fun i H' => ∃ us, Gr (Fr K) H H' D us ((List.range i).map fun i => co p i * c ^ (p.length - 1 - i))) ⟨_, Gr.new hD⟩ ?_ ?_
  · rintro i H' hi ⟨us, g⟩
    obtain ⟨v1, hv1, fv1⟩ := Paired.at' hpr1 (getI hi)
    refine ⟨rfl, yes ?_⟩
    have ei : (p.length : Int) - 1 - (0 + (i : Int)) = ((p.length - 1 - i : Nat) : Int) := by omega
    refine ⟨_, rfl, _, rfl, l1, vs1, _, v1, rfl, rfl, sqL_same g.s hs1, ?_, ?_⟩
    · rw [Int.zero_add]
      exact atI_nat hv1
    refine ⟨_, rfl, _, rfl, _, rfl, _, _, rfl, rfl, _, _, rfl, c, p.length - 1 - i, hc.same g.s, congrArg V.int ei, by omega, ?_, fun j hj => sc j (by omega), fun H1 r1 s1 f1 => ?_⟩
    · have := sc 1 (by omega)
      rwa [Rat.pow_one] at this
    refine ⟨_, _, rfl, co p i, c ^ (p.length - 1 - i), (fv1.same g.s).same s1, f1, sp.co i, sc _ (by omega), trivial, fun H2 r2 s2 f2 => ?_⟩
    have g2 := (g.same Fr.stab s1).same Fr.stab s2
    refine ⟨us, g2.h, g2.room (by simp; omega), us ++ [r2], ?_⟩
    rw [range_map_succ]
    exact g2.push Fr.stab f2
  · rintro H' ⟨us, g⟩
    rw [scaled_tr tp np c0] at g
    exact q _ _ g.s g.nn g.ls
def S_turned_round (K : PySem.W.Frag) (a : V) (H : Hp) (Q : VK) : Prop := ∃ p : List Rat, Po K H a p ∧ RetN (fun H' r => Po K H' r (Kqg3.reciprocal p)) H Q
theorem c_turned_round (T : Txt P K mg base) (d : DefB K mg "turned_round" (top 30) ["polynomial"]) (c_trimmed : Cal P w K mg base 1 "trimmed" (sp1 (S_trimmed K)) []) : Cal P w K mg base 2 "turned_round" (sp1 (S_turned_round K)) [] := by
  have S : FnScope ["polynomial"] ["polynomial"] (fnScope (top 30)) := fnScope_by (by decide +kernel)
  refine mk1 (k := 1) d S fun f cdv A outer s H a1 Q E hr h => ?_
  refine ⟨_, (pss_one (ps_ret (pe_c c_trimmed hr (by decide) rfl (pa_cons (pe_revL (pv 0)) pa_nil)))), ?_⟩
  obtain ⟨p, ⟨l1, vs1, rfl, hs1, hpr1⟩, q⟩ := h
  refine ⟨_, rfl, l1, vs1, rfl, hs1, fun l hl => ?_⟩
  have s0 : Same H (upd H l (.lst vs1.reverse)) := same_lay hl
  refine ⟨_, rfl, _, ⟨l, _, rfl, SqL.of upd_same, dvs_rev (Paired.mapP hpr1 fun v x h => h.same s0)⟩, fun H2 r2 s2 n2 f2 => q _ _ (s0.trans s2) (n2.after s0) f2⟩
theorem neg_scale (c : Rat) (p q : List Rat) : Kqg1.add p ((Kqg1.scale c q).map fun x => -x) = Kqg1.add p (Kqg1.scale (-c) q) := by
  refine RK.Tr.ext (RK.Tr.add _ _) (RK.Tr.add _ _) fun i => ?_
  rw [RK.co_add, RK.co_add, RK.co_map _ (by grind), RK.co_scale, RK.co_scale]
  grind
theorem neg_one (p q : List Rat) : Kqg1.add p (q.map fun x => -x) = Kqg1.add p (Kqg1.scale (-1) q) := by
  refine RK.Tr.ext (RK.Tr.add _ _) (RK.Tr.add _ _) fun i => ?_
  rw [RK.co_add, RK.co_add, RK.co_map _ (by grind), RK.co_scale]
  grind
def S_less_derivative (K : PySem.W.Frag) (a b : V) (H : Hp) (Q : VK) : Prop := ∃ (p : List Rat) (c : Rat), Po K H a p ∧ Fr K H b c ∧ Tr p ∧ p.length ≤ 100 ∧ SzP p ∧ Sz c ∧ SzP (Kqg1.derivative p) ∧ SzP (Kqg1.scale c (Kqg1.derivative p)) ∧ RetN (fun H' r => Po K H' r (Kqg3.subtractDerivative p c)) H Q
theorem c_less_derivative (T : Txt P K mg base) (d : DefB K mg "less_derivative" (top 31) ["polynomial", "factor"]) (c_derivative_of : Cal P w K mg base 35 "derivative_of" (sp1 (S_derivative_of K)) []) (c_difference_of : Cal P w K mg base 36 "difference_of" (sp2 (S_difference_of K)) []) (c_times_fraction : Cal P w K mg base 35 "times_fraction" (sp2 (S_times_fraction K)) []) : Cal P w K mg base 37 "less_derivative" (sp2 (S_less_derivative K)) [] := by
  have S : FnScope ["polynomial", "factor"] ["polynomial", "factor"] (fnScope (top 31)) := fnScope_by (by decide +kernel)
  refine mk2 (k := 36) d S fun f cdv A outer s H a1 a2 Q E hr h => ?_
  refine ⟨_, (pss_one (ps_ret (pe_c c_difference_of hr (by decide) rfl (pa_cons (pv 0) (pa_cons (pe_c c_times_fraction hr (by decide) rfl (pa_cons (pe_c c_derivative_of hr (by decide) rfl (pa_cons (pv 0) pa_nil)) (pa_cons (pv 1) pa_nil))) pa_nil))))), ?_⟩
  obtain ⟨p, c, hp, hc, tp, hn, sp, sc, sd, ss, q⟩ := h
  have dl := RK.deriv_length p
  have sl := scale_len c (Kqg1.derivative p)
  refine ⟨_, rfl, _, rfl, _, rfl, p, hp, tp, by omega, sp, fun H1 r1 s1 n1 f1 => ?_⟩
  refine ⟨_, rfl, _, _, rfl, _, c, f1, hc.same s1, by omega, sd, sc, fun H2 r2 s2 n2 f2 => ?_⟩
  refine ⟨_, _, rfl, p, _, (hp.same s1).same s2, f2, by omega, by omega, sp, ss, fun H3 r3 s3 n3 f3 => ?_⟩
  refine q _ _ ((s1.trans s2).trans s3) (n3.after (s1.trans s2)) ?_
  have f3' : Po K H3 (.ref r3) (Kqg1.add p ((Kqg1.scale c (Kqg1.derivative p)).map fun c => -c)) := f3
  rw [neg_scale] at f3'
  exact f3'
def S_polar (K : PySem.W.Frag) (a b : V) (H : Hp) (Q : VK) : Prop := ∃ (p : List Rat) (c : Rat), Po K H a p ∧ Fr K H b c ∧ Tr p ∧ p ≠ [] ∧ p.length ≤ 100 ∧ SzP p ∧ SzMul [-c, 1] (Kqg1.derivative p) ∧ SzP (Kqg1.scale ((Kqg1.degree p : Nat) : Rat) p) ∧ SzP (Kqg1.multiply [-c, 1] (Kqg1.derivative p)) ∧ RetN (fun H' r => Po K H' r (Kqg3.polarDerivative p c)) H Q
theorem c_polar (T : Txt P K mg base) (d : DefB K mg "polar" (top 32) ["polynomial", "pole"]) (c_degree_of : Cal P w K mg base 1 "degree_of" (sp1 (S_degree_of K)) []) (c_derivative_of : Cal P w K mg base 35 "derivative_of" (sp1 (S_derivative_of K)) []) (c_difference_of : Cal P w K mg base 36 "difference_of" (sp2 (S_difference_of K)) []) (c_line_with_root : Cal P w K mg base 2 "line_with_root" (sp1 (S_line_with_root K)) []) (c_product_of : Cal P w K mg base 35 "product_of" (sp2 (S_product_of K)) []) (c_times_fraction : Cal P w K mg base 35 "times_fraction" (sp2 (S_times_fraction K)) []) (c_whole : Cal P w K mg base 1 "whole" (sp1 (S_whole K)) []) : Cal P w K mg base 37 "polar" (sp2 (S_polar K)) [] := by
  have S : FnScope ["polynomial", "pole", "most"] ["polynomial", "pole"] (fnScope (top 32)) := fnScope_by (by decide +kernel)
  refine mk2 (k := 36) d S fun f cdv A outer s H a1 a2 Q E hr h => ?_
  refine ⟨_, (pss_cons (ps_set (i := 2) S.nd rfl (Or.inl rfl) (pe_c c_times_fraction hr (by decide) rfl (pa_cons (pv 0) (pa_cons (pe_c c_whole hr (by decide) rfl (pa_cons (pe_c c_degree_of hr (by decide) rfl (pa_cons (pv 0) pa_nil)) pa_nil)) pa_nil)))) (pss_one (ps_ret (pe_c c_difference_of hr (by decide) rfl (pa_cons (pv 2) (pa_cons (pe_c c_product_of hr (by decide) rfl (pa_cons (pe_c c_line_with_root hr (by decide) rfl (pa_cons (pv 1) pa_nil)) (pa_cons (pe_c c_derivative_of hr (by decide) rfl (pa_cons (pv 0) pa_nil)) pa_nil))) pa_nil)))))), ?_⟩
  obtain ⟨p, c, hp, hc, tp, np, hn, sp, sm, s1', s2', q⟩ := h
  have dl := RK.deriv_length p
  have h0 : 0 < p.length := List.length_pos_iff.mpr np
  have e1 : (p.length : Int) - 1 = ((Kqg1.degree p : Nat) : Int) := by
    show _ = ((p.length - 1 : Nat) : Int)
    omega
  have hdeg : Kqg1.degree p ≤ 1000 := by show p.length - 1 ≤ 1000; omega
  have sl := scale_len ((Kqg1.degree p : Nat) : Rat) p
  have ml := mul_len [-c, 1] (Kqg1.derivative p)
  simp only [List.length_cons, List.length_nil] at ml
  refine ⟨_, rfl, _, rfl, _, rfl, p, hp, _, rfl, (p.length : Int) - 1, rfl, fun H1 r1 s1 f1 => ?_⟩
  rw [e1] at f1
  have f1' : Fr K H1 r1 ((Kqg1.degree p : Nat) : Rat) := f1
  refine ⟨_, _, rfl, p, _, hp.same s1, f1', by omega, sp, Sz.nat (by omega), fun H2 r2 s2 n2 f2 => ?_⟩
  refine ⟨_, rfl, _, rfl, _, rfl, c, (hc.same s1).same s2, fun H3 r3 s3 n3 f3 => ?_⟩
  refine ⟨_, rfl, _, rfl, p, ((hp.same s1).same s2).same s3, tp, by omega, sp, fun H4 r4 s4 n4 f4 => ?_⟩
  refine ⟨_, _, rfl, [-c, 1], _, Po.same s4 f3, f4, by simp, by omega, sm, fun H5 r5 s5 n5 f5 => ?_⟩
  have sA := ((s1.trans s2).trans s3).trans s4
  refine ⟨_, _, rfl, _, _, ((Po.same s3 f2).same s4).same s5, f5, by omega, by omega, s1', s2', fun H6 r6 s6 n6 f6 => ?_⟩
  refine q _ _ ((sA.trans s5).trans s6) (n6.after (sA.trans s5)) ?_
  have f6' : Po K H6 (.ref r6) (Kqg1.add (Kqg1.scale ((Kqg1.degree p : Nat) : Rat) p) ((Kqg1.multiply [-c, 1] (Kqg1.derivative p)).map fun c => -c)) := f6
  rw [neg_one] at f6'
  exact f6'
end
end RW
namespace RW
open PySem PySem.Spec PyProof.Rows L2 C8
open RK (co Tr ld ev)
section
variable {P : Program} {w : World} {K : PySem.W.Frag} {mg : Str → Option Value} {base : Heap} {C : Addr}
theorem one_over (n : Nat) : Rat.divInt 1 (n : Int) = 1 / ((n : Nat) : Rat) := by
  rw [Rat.divInt_eq_div]
  rfl
def S_multiplier (K : PySem.W.Frag) (a b : V) (H : Hp) (Q : VK) : Prop := ∃ w k : Nat, a = .int w ∧ b = .int k ∧ w ≤ 5 ∧ k ≤ 12 ∧ Ret (fun H' r => Fr K H' r (Kqg3.multiplier w k)) H Q
theorem dec_eq (i j : Int) : decide (V.int i = V.int j) = decide (i = j) := by simp
theorem c_multiplier (T : Txt P K mg base) (d : DefB K mg "multiplier" (top 33) ["sequence", "place"]) (c_factorial : Cal P w K mg base 1 "factorial" (sp1 (S_factorial K)) []) (c_lowest : Cal P w K mg base 33 "lowest" (sp2 (S_lowest K)) []) (c_whole : Cal P w K mg base 1 "whole" (sp1 (S_whole K)) []) : Cal P w K mg base 34 "multiplier" (sp2 (S_multiplier K)) [] := by
  have S : FnScope ["sequence", "place"] ["sequence", "place"] (fnScope (top 33)) := fnScope_by (by decide +kernel)
  refine mk2 (k := 33) d S fun f cdv A outer s H a1 a2 Q E hr h => ?_
  refine ⟨_, (pss_cons (ps_if (pt_cmpR op_eq (pv 0) pe_int (nomark _)) (pss_one (ps_ret (pe_c c_whole hr (by decide) rfl (pa_cons (pv 1) pa_nil)))) pss_nil) (pss_cons (ps_if (pt_cmpR op_eq (pv 0) pe_int (nomark _)) (pss_one (ps_ret (pe_c c_whole hr (by decide) rfl (pa_cons (pe_op op_add (pv 1) pe_int) pa_nil)))) pss_nil) (pss_cons (ps_if (pt_cmpR op_eq (pv 0) pe_int (nomark _)) (pss_one (ps_ret (pe_c c_lowest hr (by decide) rfl (pa_cons pe_int (pa_cons (pe_c c_factorial hr (by decide) rfl (pa_cons (pv 1) pa_nil)) pa_nil))))) pss_nil) (pss_cons (ps_if (pt_cmpR op_eq (pv 0) pe_int (nomark _)) (pss_one (ps_ret (pe_c c_lowest hr (by decide) rfl (pa_cons pe_int (pa_cons (pe_op op_shlW pe_int (pe_op op_mulB (pv 1) (pv 1))) pa_nil))))) pss_nil) (pss_cons (ps_if (pt_cmpR op_eq (pv 0) pe_int (nomark _)) (pss_one (ps_ret (pe_c c_whole hr (by decide) rfl (pa_cons (pe_op op_mulB (pv 1) (pe_op op_sub (pv 1) pe_int)) pa_nil)))) pss_nil) (pss_one (ps_ret (pe_c c_whole hr (by decide) rfl (pa_cons (pe_op op_mulB (pv 1) (pv 1)) pa_nil))))))))), ?_⟩
  obtain ⟨w, k, rfl, rfl, hw, hk, q⟩ := h
  refine ⟨_, rfl, rfl, _, rfl, ?_⟩
  by_cases h0 : w = 0
  · subst h0
    refine ifT (by simp) ?_
    exact ⟨_, rfl, _, rfl, _, rfl, q⟩
  refine ifF (by simp; omega) ⟨_, rfl, rfl, _, rfl, ?_⟩
  by_cases h1 : w = 1
  · subst h1
    refine ifT (by simp) ?_
    refine ⟨_, rfl, _, _, rfl, rfl, _, rfl, _, rfl, ?_⟩
    have e : (k : Int) + 1 = ((k + 1 : Nat) : Int) := by omega
    intro H' r s f
    rw [e] at f
    exact q H' r s f
  refine ifF (by simp; omega) ⟨_, rfl, rfl, _, rfl, ?_⟩
  by_cases h2 : w = 2
  · subst h2
    refine ifT (by simp) ?_
    refine ⟨_, rfl, _, rfl, k, rfl, hk, ?_⟩
    refine ⟨_, _, rfl, 1, _, rfl, rfl, ?_, ?_⟩
    · have := fact_pos k
      omega
    · intro H' r s f
      rw [one_over] at f
      exact q H' r s f
  refine ifF (by simp; omega) ⟨_, rfl, rfl, _, rfl, ?_⟩
  by_cases h3 : w = 3
  · subst h3
    refine ifT (by simp) ?_
    have hkk : k * k ≤ 12 * 12 := Nat.mul_le_mul hk hk
    refine ⟨_, rfl, _, rfl, _, _, rfl, rfl, ⟨40, 40, ?_, ?_, by decide⟩, _, _, rfl, rfl, ?_, ?_⟩
    · rw [Int.natAbs_natCast]; omega
    · rw [Int.natAbs_natCast]; omega
    · show CShl 1 ((k : Int) * (k : Int))
      rw [← Int.natCast_mul]
      exact shl_ok (n := 1) (by decide) (by omega)
    · have e : (1 : Int) * 2 ^ ((k : Int) * (k : Int)).toNat = ((2 ^ (k * k) : Nat) : Int) := by
        rw [← Int.natCast_mul, Int.toNat_natCast, Int.one_mul]
        rfl
      refine ⟨_, _, rfl, 1, ((2 ^ (k * k) : Nat) : Int), rfl, congrArg V.int e, ?_, ?_⟩
      · have : 0 < 2 ^ (k * k) := Nat.pow_pos (by decide)
        omega
      · intro H' r s f
        rw [one_over] at f
        exact q H' r s f
  refine ifF (by simp; omega) ⟨_, rfl, rfl, _, rfl, ?_⟩
  have hkk : CMulB (k : Int) (k : Int) := ⟨40, 40, by rw [Int.natAbs_natCast]; omega, by rw [Int.natAbs_natCast]; omega, by decide⟩
  by_cases h4 : w = 4
  · subst h4
    refine ifT (by simp) ?_
    refine ⟨_, rfl, _, rfl, _, _, rfl, rfl, _, _, rfl, rfl, ⟨40, 40, by rw [Int.natAbs_natCast]; omega, by show ((k : Int) - 1).natAbs < 2 ^ 40; omega, by decide⟩, _, rfl, _, rfl, ?_⟩
    have e : (k : Int) * ((k : Int) - 1) = ((k * (k - 1) : Nat) : Int) := by
      cases k with
      | zero => rfl
      | succ k =>
        have : ((k + 1 : Nat) : Int) - 1 = (k : Int) := by omega
        rw [this, Nat.add_sub_cancel]
        rfl
    intro H' r s f
    rw [e] at f
    exact q H' r s f
  refine ifF (by simp; omega) ?_
  have h5 : w = 5 := by omega
  subst h5
  refine ⟨_, rfl, _, rfl, _, _, rfl, rfl, hkk, _, rfl, _, rfl, ?_⟩
  intro H' r s f
  have e : (k : Int) * (k : Int) = ((k * k : Nat) : Int) := rfl
  rw [e] at f
  exact q H' r s f
def S_multiplied (K : PySem.W.Frag) (a b : V) (H : Hp) (Q : VK) : Prop := ∃ (p : List Rat) (w : Nat), Po K H a p ∧ b = .int w ∧ w ≤ 5 ∧ p.length ≤ 12 ∧ SzP p ∧ (∀ k, k ≤ 12 → Sz (Kqg3.multiplier w k)) ∧ RetN (fun H' r => Po K H' r (Kqg3.multiplyCoefficients p (Kqg3.multiplier w))) H Q
theorem c_multiplied (T : Txt P K mg base) (d : DefB K mg "multiplied" (top 34) ["polynomial", "sequence"]) (c_multiplier : Cal P w K mg base 34 "multiplier" (sp2 (S_multiplier K)) []) (c_multiply : Cal P w K mg base 34 "multiply" (sp2 (S_multiply K)) []) (c_trimmed : Cal P w K mg base 1 "trimmed" (sp1 (S_trimmed K)) []) : Cal P w K mg base 35 "multiplied" (sp2 (S_multiplied K)) [] := by
  have S : FnScope ["polynomial", "sequence", "found", "place"] ["polynomial", "sequence"] (fnScope (top 34)) := fnScope_by (by decide +kernel)
  refine mk2 (k := 34) d S fun f cdv A outer s H a1 a2 Q E hr h => ?_
  refine ⟨_, (pss_cons (ps_set (i := 2) S.nd rfl (Or.inl rfl) (pe_lst pa_nil)) (pss_cons (ps_for PassesOwn.never rfl (pi_range1 (by rfl) T.range (pa_cons (pe_callB call_len_seq (by rfl) T.len PySem.boot_len (pa_cons (pv 0) pa_nil)) pa_nil)) (pg_name (i := 3) S.nd rfl (Or.inl rfl)) (pss_one (ps_expr (pe_bm PySem.F.plainAttrs_list PySem.F.slot_list_append PySem.F.type_list_append mt_append (pv 2) (pa_cons (pe_c c_multiply hr (by decide) rfl (pa_cons (pe_ix ix_list (pv 0) (pv 3) (fun _ _ => rfl)) (pa_cons (pe_c c_multiplier hr (by decide) rfl (pa_cons (pv 1) (pa_cons (pv 3) pa_nil))) pa_nil))) pa_nil))))) (pss_one (ps_ret (pe_c c_trimmed hr (by decide) rfl (pa_cons (pv 2) pa_nil)))))), ?_⟩
  obtain ⟨p, w, hp, rfl, hw, hn, sp, sm, q⟩ := h
  obtain ⟨l1, vs1, rfl, hs1, hpr1⟩ := id hp
  have n1 := Paired.len hpr1
  refine ⟨Nat.zero_le _, fun l hl => ?_⟩
  have g0 := Gr.new (F := Fr K) hl
  refine ⟨_, rfl, l1, vs1, rfl, .inl (sqL_same g0.s hs1), (p.length : Int), ?_, by omega, by omega, ?_⟩
  · rw [n1]
  rw [Int.toNat_natCast]
  refine for_range (lo := 0) (n := p.length) (fun i σ H' => ∃ us x, σ = [some (.ref l1), some (.int (w : Int)), some (.ref l), x] ∧ Gr (Fr K) H H' l us ((List.range i).map fun k => co p k * Kqg3.multiplier w k)) ⟨_, _, rfl, g0⟩ ?_ ?_
  · rintro i σ H' hi ⟨us, x, rfl, g⟩
    obtain ⟨v1, hv1, fv1⟩ := Paired.at' hpr1 (getI hi)
    refine ⟨_, rfl, .inl ⟨rfl, _, SqL.of g.h⟩, _, rfl, _, rfl, l1, vs1, _, v1, rfl, rfl, sqL_same g.s hs1, ?_, _, rfl, _, rfl, _, _, rfl, w, i, rfl, zadd i, hw, by omega, fun H1 r1 s1 f1 => ?_⟩
    · rw [Int.zero_add]
      exact atI_nat hv1
    refine ⟨_, _, rfl, co p i, _, (fv1.same g.s).same s1, f1, sp.co i, sm i (by omega), trivial, fun H2 r s2 f2 => ?_⟩
    have g2 := (g.same Fr.stab s1).same Fr.stab s2
    refine ⟨l, us, r, rfl, rfl, g2.h, g2.room (by simp; omega), us ++ [r], _, rfl, ?_⟩
    rw [range_map_succ]
    exact g2.push Fr.stab f2
  · rintro σ H' ⟨us, x, rfl, g⟩
    exact ⟨_, rfl, _, rfl, _, g.ls, fun H2 r s2 n2 f2 => q _ _ (g.s.trans s2) (n2.after g.s) f2⟩
/-! ### mean and variance -/
def symS (p : List Rat) (o : Nat) : Rat := if p.length - 1 < o then 0 else if o = 1 then -(co p (p.length - 2) / ld p) else co p (p.length - 3) / ld p
def S_symmetric_sum (K : PySem.W.Frag) (a b : V) (H : Hp) (Q : VK) : Prop := ∃ (p : List Rat) (o : Nat), Po K H a p ∧ b = .int o ∧ (o = 1 ∨ o = 2) ∧ Tr p ∧ p ≠ [] ∧ SzP p ∧ Ret (fun H' r => Fr K H' r (symS p o)) H Q
theorem c_symmetric_sum (T : Txt P K mg base) (d : DefB K mg "symmetric_sum" (top 81) ["polynomial", "order"]) (c_degree_of : Cal P w K mg base 1 "degree_of" (sp1 (S_degree_of K)) []) (c_divide : Cal P w K mg base 34 "divide" (sp2 (S_divide K)) []) (c_negative : Cal P w K mg base 1 "negative" (sp1 (S_negative K)) []) : Cal P w K mg base 35 "symmetric_sum" (sp2 (S_symmetric_sum K)) [] := by
  have S : FnScope ["polynomial", "order", "degree", "found"] ["polynomial", "order"] (fnScope (top 81)) := fnScope_by (by decide +kernel)
  refine mk2 (k := 34) d S fun f cdv A outer s H a1 a2 Q E hr h => ?_
  obtain ⟨aZERO, gZERO, tZERO⟩ := T.gZERO
  refine ⟨_, (pss_cons (ps_set (i := 2) S.nd rfl (Or.inl rfl) (pe_c c_degree_of hr (by decide) rfl (pa_cons (pv 0) pa_nil))) (pss_cons (ps_if (pt_cmpR op_lt (pv 2) (pv 1) (nomark _)) (pss_one (ps_ret (pe_gc rfl gZERO))) pss_nil) (pss_cons (ps_set (i := 3) S.nd rfl (Or.inl rfl) (pe_c c_divide hr (by decide) rfl (pa_cons (pe_ix ix_list (pv 0) (pe_op op_sub (pv 2) (pv 1)) (fun _ _ => rfl)) (pa_cons (pe_ix ix_list (pv 0) (pv 2) (fun _ _ => rfl)) pa_nil)))) (pss_one (ps_ret (pe_ifExp (pt_cmpR op_eq (pv 1) pe_int (nomark _)) (pe_c c_negative hr (by decide) rfl (pa_cons (pv 3) pa_nil)) (pv 3))))))), ?_⟩
  obtain ⟨p, o, hp, rfl, ho, tp, np, sp, q⟩ := h
  obtain ⟨l1, vs1, rfl, hs1, hpr1⟩ := id hp
  have n1 := Paired.len hpr1
  have h0 : 0 < p.length := List.length_pos_iff.mpr np
  refine ⟨_, rfl, _, rfl, p, hp, ?_⟩
  refine ⟨_, rfl, _, rfl, _, _, rfl, rfl, _, rfl, ?_⟩
  by_cases hd : p.length - 1 < o
  · refine ifT (decide_eq_true (by omega)) ?_
    refine q _ _ (Same.refl H) ?_
    unfold symS
    rw [if_pos hd]
    exact ⟨aZERO, rfl, tZERO H⟩
  · refine ifF (decide_eq_false (by omega)) ?_
    obtain ⟨v1, hv1, fv1⟩ := Paired.at' hpr1 (getI (p := p) (i := p.length - 1 - o) (by omega))
    obtain ⟨v2, hv2, fv2⟩ := Paired.at' hpr1 (getI (p := p) (i := p.length - 1) (by omega))
    have e1 : (p.length : Int) - 1 - (o : Int) = ((p.length - 1 - o : Nat) : Int) := by omega
    have e2 : (p.length : Int) - 1 = ((p.length - 1 : Nat) : Int) := by omega
    have el : co p (p.length - 1) = ld p := (RK.Tr.lead np).symm
    rw [el] at fv2
    refine ⟨_, rfl, _, rfl, _, rfl, _, _, rfl, rfl, l1, vs1, _, v1, rfl, rfl, hs1, ?_, ?_⟩
    · show atI vs1 ((p.length : Int) - 1 - (o : Int)) = _
      rw [e1]
      exact atI_nat hv1
    refine ⟨_, rfl, _, rfl, l1, vs1, _, v2, rfl, rfl, hs1, ?_, ?_⟩
    · rw [e2]
      exact atI_nat hv2
    have sl : Sz (ld p) := by rw [← el]; exact sp.co _
    refine ⟨_, _, rfl, _, _, fv1, fv2, sp.co _, sl, RK.Tr.lead_ne tp np, fun H1 r1 s1 f1 => ?_⟩
    have f1' : Fr K H1 r1 (co p (p.length - 1 - o) / ld p) := f1
    refine ⟨_, rfl, rfl, _, rfl, ?_⟩
    rcases ho with rfl | rfl
    · refine ifT rfl ?_
      refine ⟨_, rfl, _, rfl, _, f1', fun H2 r2 s2 f2 => q _ _ (s1.trans s2) ?_⟩
      unfold symS
      rw [if_neg hd, if_pos rfl]
      exact f2
    · refine ifF rfl ?_
      refine ⟨_, rfl, q _ _ s1 ?_⟩
      unfold symS
      rw [if_neg hd, if_neg (by decide)]
      exact f1'
structure SzMean (p : List Rat) : Prop where
  a : SzP p
  n : Sz (1 / ((p.length - 1 : Nat) : Rat))
  s : Sz (symS p 1)
  t : Sz (symS p 2)
  u : Sz (symS p 1 * symS p 1)
  v : Sz (2 * symS p 2)
  m : Sz (Kqg3.mean p)
  x : Sz (symS p 1 * symS p 1 - 2 * symS p 2)
  y : Sz ((symS p 1 * symS p 1 - 2 * symS p 2) * (1 / ((p.length - 1 : Nat) : Rat)))
  z : Sz (Kqg3.mean p * Kqg3.mean p)
def S_sum_of_squares (K : PySem.W.Frag) (a : V) (H : Hp) (Q : VK) : Prop := ∃ p : List Rat, Po K H a p ∧ Tr p ∧ p ≠ [] ∧ SzMean p ∧ Ret (fun H' r => Fr K H' r (symS p 1 * symS p 1 - 2 * symS p 2)) H Q
theorem c_sum_of_squares (T : Txt P K mg base) (d : DefB K mg "sum_of_squares" (top 82) ["polynomial"]) (c_multiply : Cal P w K mg base 34 "multiply" (sp2 (S_multiply K)) []) (c_subtract : Cal P w K mg base 34 "subtract" (sp2 (S_subtract K)) []) (c_symmetric_sum : Cal P w K mg base 35 "symmetric_sum" (sp2 (S_symmetric_sum K)) []) (c_whole : Cal P w K mg base 1 "whole" (sp1 (S_whole K)) []) : Cal P w K mg base 36 "sum_of_squares" (sp1 (S_sum_of_squares K)) [] := by
  have S : FnScope ["polynomial", "total"] ["polynomial"] (fnScope (top 82)) := fnScope_by (by decide +kernel)
  refine mk1 (k := 35) d S fun f cdv A outer s H a1 Q E hr h => ?_
  refine ⟨_, (pss_cons (ps_set (i := 1) S.nd rfl (Or.inl rfl) (pe_c c_symmetric_sum hr (by decide) rfl (pa_cons (pv 0) (pa_cons pe_int pa_nil)))) (pss_one (ps_ret (pe_c c_subtract hr (by decide) rfl (pa_cons (pe_c c_multiply hr (by decide) rfl (pa_cons (pv 1) (pa_cons (pv 1) pa_nil))) (pa_cons (pe_c c_multiply hr (by decide) rfl (pa_cons (pe_c c_whole hr (by decide) rfl (pa_cons pe_int pa_nil)) (pa_cons (pe_c c_symmetric_sum hr (by decide) rfl (pa_cons (pv 0) (pa_cons pe_int pa_nil))) pa_nil))) pa_nil)))))), ?_⟩
  obtain ⟨p, hp, tp, np, sz, q⟩ := h
  refine ⟨_, rfl, _, _, rfl, p, 1, hp, rfl, .inl rfl, tp, np, sz.a, fun H1 r1 s1 f1 => ?_⟩
  have f1' : Fr K H1 r1 (symS p 1) := f1
  refine ⟨_, rfl, _, rfl, _, _, rfl, _, _, f1', f1', sz.s, sz.s, trivial, fun H2 r2 s2 f2 => ?_⟩
  refine ⟨_, rfl, 2, rfl, fun H3 r3 s3 f3 => ?_⟩
  refine ⟨_, rfl, _, _, rfl, p, 2, ((hp.same s1).same s2).same s3, rfl, .inr rfl, tp, np, sz.a, fun H4 r4 s4 f4 => ?_⟩
  have f3' : Fr K H3 r3 (2 : Rat) := f3
  refine ⟨_, _, rfl, _, _, f3'.same s4, f4, Sz.nat (n := 2) (by decide), sz.t, trivial, fun H5 r5 s5 f5 => ?_⟩
  refine ⟨_, _, rfl, _, _, (((Fr.same s3 f2).same s4).same s5), f5, sz.u, sz.v, trivial, fun H6 r6 s6 f6 => ?_⟩
  exact q _ _ (((((s1.trans s2).trans s3).trans s4).trans s5).trans s6) f6
theorem mean_eq {p : List Rat} (np : p ≠ []) (h : p.length - 1 ≠ 0) : symS p 1 * (1 / ((p.length - 1 : Nat) : Rat)) = Kqg3.mean p := by
  unfold symS Kqg3.mean
  show _ = if p.length - 1 = 0 then (0 : Rat) else -(co p (p.length - 1 - 1) / ld p) / ((p.length - 1 : Nat) : Rat)
  rw [if_neg (by omega), if_pos rfl, if_neg h]
  have e : p.length - 2 = p.length - 1 - 1 := by omega
  rw [e]
  grind
theorem var_eq {p : List Rat} (np : p ≠ []) (h : p.length - 1 ≠ 0) : (symS p 1 * symS p 1 - 2 * symS p 2) * (1 / ((p.length - 1 : Nat) : Rat)) - Kqg3.mean p * Kqg3.mean p = Kqg3.variance p := by
  unfold Kqg3.variance
  show _ = if p.length - 1 = 0 then (0 : Rat) else (-(co p (p.length - 1 - 1) / ld p) * -(co p (p.length - 1 - 1) / ld p) - 2 * (if p.length - 1 = 1 then (0 : Rat) else co p (p.length - 1 - 2) / ld p)) / ((p.length - 1 : Nat) : Rat) - Kqg3.mean p * Kqg3.mean p
  rw [if_neg h]
  unfold symS
  rw [if_neg (by omega), if_pos rfl]
  have e : p.length - 2 = p.length - 1 - 1 := by omega
  have e3 : p.length - 3 = p.length - 1 - 2 := by omega
  rw [e, e3]
  by_cases h1 : p.length - 1 = 1
  · rw [if_pos h1, if_pos (by omega)]
    grind
  · rw [if_neg h1, if_neg (by omega), if_neg (by decide)]
    grind
def S_mean_of (K : PySem.W.Frag) (a : V) (H : Hp) (Q : VK) : Prop := ∃ p : List Rat, Po K H a p ∧ Tr p ∧ p ≠ [] ∧ SzMean p ∧ Ret (fun H' r => Fr K H' r (Kqg3.mean p)) H Q
theorem c_mean_of (T : Txt P K mg base) (d : DefB K mg "mean_of" (top 83) ["polynomial"]) (c_degree_of : Cal P w K mg base 1 "degree_of" (sp1 (S_degree_of K)) []) (c_lowest : Cal P w K mg base 33 "lowest" (sp2 (S_lowest K)) []) (c_multiply : Cal P w K mg base 34 "multiply" (sp2 (S_multiply K)) []) (c_symmetric_sum : Cal P w K mg base 35 "symmetric_sum" (sp2 (S_symmetric_sum K)) []) : Cal P w K mg base 36 "mean_of" (sp1 (S_mean_of K)) [] := by
  have S : FnScope ["polynomial", "degree"] ["polynomial"] (fnScope (top 83)) := fnScope_by (by decide +kernel)
  refine mk1 (k := 35) d S fun f cdv A outer s H a1 Q E hr h => ?_
  obtain ⟨aZERO, gZERO, tZERO⟩ := T.gZERO
  refine ⟨_, (pss_cons (ps_set (i := 1) S.nd rfl (Or.inl rfl) (pe_c c_degree_of hr (by decide) rfl (pa_cons (pv 0) pa_nil))) (pss_cons (ps_if (pt_cmpR op_eq (pv 1) pe_int (nomark _)) (pss_one (ps_ret (pe_gc rfl gZERO))) pss_nil) (pss_one (ps_ret (pe_c c_multiply hr (by decide) rfl (pa_cons (pe_c c_symmetric_sum hr (by decide) rfl (pa_cons (pv 0) (pa_cons pe_int pa_nil))) (pa_cons (pe_c c_lowest hr (by decide) rfl (pa_cons pe_int (pa_cons (pv 1) pa_nil))) pa_nil))))))), ?_⟩
  obtain ⟨p, hp, tp, np, sz, q⟩ := h
  have h0 : 0 < p.length := List.length_pos_iff.mpr np
  refine ⟨_, rfl, _, rfl, p, hp, ?_⟩
  refine ⟨_, rfl, rfl, _, rfl, ?_⟩
  have e2 : (p.length : Int) - 1 = ((p.length - 1 : Nat) : Int) := by omega
  by_cases hd : p.length - 1 = 0
  · refine ifT (by rw [dec_eq]; exact decide_eq_true (by omega)) ?_
    refine q _ _ (Same.refl H) ?_
    have : Kqg3.mean p = 0 := by
      unfold Kqg3.mean
      show (if p.length - 1 = 0 then (0 : Rat) else _) = 0
      rw [if_pos hd]
    rw [this]
    exact ⟨aZERO, rfl, tZERO H⟩
  · refine ifF (by rw [dec_eq]; exact decide_eq_false (by omega)) ?_
    refine ⟨_, rfl, _, _, rfl, p, 1, hp, rfl, .inl rfl, tp, np, sz.a, fun H1 r1 s1 f1 => ?_⟩
    refine ⟨_, rfl, _, _, rfl, 1, _, rfl, congrArg V.int e2, by omega, fun H2 r2 s2 f2 => ?_⟩
    rw [one_over] at f2
    refine ⟨_, _, rfl, _, _, Fr.same s2 f1, f2, sz.s, sz.n, trivial, fun H3 r3 s3 f3 => q _ _ ((s1.trans s2).trans s3) ?_⟩
    have f3' : Fr K H3 r3 (symS p 1 * (1 / ((p.length - 1 : Nat) : Rat))) := f3
    rw [mean_eq np hd] at f3'
    exact f3'
def S_variance_of (K : PySem.W.Frag) (a : V) (H : Hp) (Q : VK) : Prop := ∃ p : List Rat, Po K H a p ∧ Tr p ∧ p ≠ [] ∧ SzMean p ∧ Ret (fun H' r => Fr K H' r (Kqg3.variance p)) H Q
theorem c_variance_of (T : Txt P K mg base) (d : DefB K mg "variance_of" (top 84) ["polynomial"]) (c_degree_of : Cal P w K mg base 1 "degree_of" (sp1 (S_degree_of K)) []) (c_lowest : Cal P w K mg base 33 "lowest" (sp2 (S_lowest K)) []) (c_mean_of : Cal P w K mg base 36 "mean_of" (sp1 (S_mean_of K)) []) (c_multiply : Cal P w K mg base 34 "multiply" (sp2 (S_multiply K)) []) (c_subtract : Cal P w K mg base 34 "subtract" (sp2 (S_subtract K)) []) (c_sum_of_squares : Cal P w K mg base 36 "sum_of_squares" (sp1 (S_sum_of_squares K)) []) : Cal P w K mg base 37 "variance_of" (sp1 (S_variance_of K)) [] := by
  have S : FnScope ["polynomial", "degree", "mean"] ["polynomial"] (fnScope (top 84)) := fnScope_by (by decide +kernel)
  refine mk1 (k := 36) d S fun f cdv A outer s H a1 Q E hr h => ?_
  obtain ⟨aZERO, gZERO, tZERO⟩ := T.gZERO
  refine ⟨_, (pss_cons (ps_set (i := 1) S.nd rfl (Or.inl rfl) (pe_c c_degree_of hr (by decide) rfl (pa_cons (pv 0) pa_nil))) (pss_cons (ps_if (pt_cmpR op_eq (pv 1) pe_int (nomark _)) (pss_one (ps_ret (pe_gc rfl gZERO))) pss_nil) (pss_cons (ps_set (i := 2) S.nd rfl (Or.inl rfl) (pe_c c_mean_of hr (by decide) rfl (pa_cons (pv 0) pa_nil))) (pss_one (ps_ret (pe_c c_subtract hr (by decide) rfl (pa_cons (pe_c c_multiply hr (by decide) rfl (pa_cons (pe_c c_sum_of_squares hr (by decide) rfl (pa_cons (pv 0) pa_nil)) (pa_cons (pe_c c_lowest hr (by decide) rfl (pa_cons pe_int (pa_cons (pv 1) pa_nil))) pa_nil))) (pa_cons (pe_c c_multiply hr (by decide) rfl (pa_cons (pv 2) (pa_cons (pv 2) pa_nil))) pa_nil)))))))), ?_⟩
  obtain ⟨p, hp, tp, np, sz, q⟩ := h
  have h0 : 0 < p.length := List.length_pos_iff.mpr np
  refine ⟨_, rfl, _, rfl, p, hp, ?_⟩
  refine ⟨_, rfl, rfl, _, rfl, ?_⟩
  have e2 : (p.length : Int) - 1 = ((p.length - 1 : Nat) : Int) := by omega
  by_cases hd : p.length - 1 = 0
  · refine ifT (by rw [dec_eq]; exact decide_eq_true (by omega)) ?_
    refine q _ _ (Same.refl H) ?_
    have : Kqg3.variance p = 0 := by
      unfold Kqg3.variance
      show (if p.length - 1 = 0 then (0 : Rat) else _) = 0
      rw [if_pos hd]
    rw [this]
    exact ⟨aZERO, rfl, tZERO H⟩
  · refine ifF (by rw [dec_eq]; exact decide_eq_false (by omega)) ?_
    refine ⟨_, rfl, _, rfl, p, hp, tp, np, sz, fun H1 r1 s1 f1 => ?_⟩
    have f1' : Fr K H1 r1 (Kqg3.mean p) := f1
    refine ⟨_, rfl, _, rfl, p, hp.same s1, tp, np, sz, fun H2 r2 s2 f2 => ?_⟩
    refine ⟨_, rfl, _, _, rfl, 1, _, rfl, congrArg V.int e2, by omega, fun H3 r3 s3 f3 => ?_⟩
    rw [one_over] at f3
    refine ⟨_, _, rfl, _, _, Fr.same s3 f2, f3, sz.x, sz.n, trivial, fun H4 r4 s4 f4 => ?_⟩
    have f1a := ((f1'.same s2).same s3).same s4
    refine ⟨_, rfl, _, rfl, _, _, rfl, _, _, f1a, f1a, sz.m, sz.m, trivial, fun H5 r5 s5 f5 => ?_⟩
    refine ⟨_, _, rfl, _, _, Fr.same s5 f4, f5, sz.y, sz.z, trivial, fun H6 r6 s6 f6 => q _ _ (((((s1.trans s2).trans s3).trans s4).trans s5).trans s6) ?_⟩
    have f6' : Fr K H6 r6 ((symS p 1 * symS p 1 - 2 * symS p 2) * (1 / ((p.length - 1 : Nat) : Rat)) - Kqg3.mean p * Kqg3.mean p) := f6
    rw [var_eq np hd] at f6'
    exact f6'
end
end RW
namespace RW
open PySem PySem.Spec PyProof.Rows L2 C8
open RK (co Tr ld ev)
section
variable {P : Program} {w : World} {K : PySem.W.Frag} {mg : Str → Option Value} {base : Heap} {C : Addr}
theorem fact_mul {a b : Nat} (ha : a ≤ 12) (hb : b ≤ 12) : CMulB ((Kqg3.factorial a : Nat) : Int) ((Kqg3.factorial b : Nat) : Int) :=
  ⟨40, 40, by rw [Int.natAbs_natCast]; exact Nat.lt_of_le_of_lt (fact_le a ha) (by decide), by rw [Int.natAbs_natCast]; exact Nat.lt_of_le_of_lt (fact_le b hb) (by decide), by decide⟩
def S_binomial (K : PySem.W.Frag) (a b : V) (H : Hp) (Q : VK) : Prop := ∃ n k : Nat, a = .int n ∧ b = .int k ∧ k ≤ n ∧ n ≤ 12 ∧ Q (.int (Kqg3.binomial n k : Nat)) H
theorem c_binomial (T : Txt P K mg base) (d : DefB K mg "binomial" (top 86) ["number", "part"]) (c_factorial : Cal P w K mg base 1 "factorial" (sp1 (S_factorial K)) []) : Cal P w K mg base 33 "binomial" (sp2 (S_binomial K)) [] := by
  have S : FnScope ["number", "part"] ["number", "part"] (fnScope (top 86)) := fnScope_by (by decide +kernel)
  refine mk2 (k := 32) d S fun f cdv A outer s H a1 a2 Q E hr h => ?_
  have hP := py_of (w := w) (K := K) (mg := mg) (N := ["number", "part"]) (f := f) (cd := cdv) (outer := outer) (H := H) (E := E) (CX := C8.CX0) T.seer T.tree hr rfl
  refine ⟨_, (pss_one (ps_ret (pe_op (op_fdivB hP) (pe_c c_factorial hr (by decide) rfl (pa_cons (pv 0) pa_nil)) (pe_op op_mulB (pe_c c_factorial hr (by decide) rfl (pa_cons (pv 1) pa_nil)) (pe_c c_factorial hr (by decide) rfl (pa_cons (pe_op op_sub (pv 0) (pv 1)) pa_nil)))))), ?_⟩
  obtain ⟨n, k, rfl, rfl, hk, hn, q⟩ := h
  have h1 := fact_pos k
  have h2 := fact_pos (n - k)
  have h3 : 0 < Kqg3.factorial k * Kqg3.factorial (n - k) := Nat.mul_pos h1 h2
  have e : (n : Int) - (k : Int) = ((n - k : Nat) : Int) := by omega
  refine ⟨_, rfl, _, rfl, n, rfl, hn, _, rfl, _, rfl, k, rfl, by omega, _, rfl, _, rfl, _, _, rfl, rfl, _, rfl, n - k, congrArg V.int e, by omega, _, _, rfl, rfl, fact_mul (by omega) (by omega), _, _, rfl, rfl, ?_, ?_⟩
  · show (0 : Int) < _
    rw [← Int.natCast_mul]
    omega
  · have : Kqg3.binomial n k = Kqg3.factorial n / (Kqg3.factorial k * Kqg3.factorial (n - k)) := by
      unfold Kqg3.binomial
      rw [if_neg (by omega)]
    rw [this, Int.natCast_ediv, Int.natCast_mul] at q
    exact q
theorem binom_pos {n k : Nat} (hk : k ≤ n) (hn : n ≤ 12) : 0 < Kqg3.binomial n k := by
  have : ∀ n, n ≤ 12 → ∀ k, k ≤ n → 0 < Kqg3.binomial n k := by decide
  exact this n hn k hk
structure SzWt (p q w : List Rat) : Prop where
  a : SzP p
  b : SzP q
  c : SzP w
  m : ∀ i, Sz (co p i * co q i)
def S_weighted (K : PySem.W.Frag) (a b c : V) (H : Hp) (Q : VK) : Prop := ∃ p q w : List Rat, Po K H a p ∧ Po K H b q ∧ Po K H c w ∧ q.length = p.length ∧ w.length = p.length ∧ p.length ≤ 12 ∧ SzWt p q w ∧ RetN (fun H' r => Po K H' r (Kqg1.trim ((List.range p.length).map fun i => co p i * co q i * co w i))) H Q
theorem c_weighted (T : Txt P K mg base) (d : DefB K mg "weighted" (top 87) ["first", "second", "weights"]) (c_multiply : Cal P w K mg base 34 "multiply" (sp2 (S_multiply K)) []) (c_trimmed : Cal P w K mg base 1 "trimmed" (sp1 (S_trimmed K)) []) : Cal P w K mg base 35 "weighted" (sp3 (S_weighted K)) [] := by
  have S : FnScope ["first", "second", "weights", "found", "place"] ["first", "second", "weights"] (fnScope (top 87)) := fnScope_by (by decide +kernel)
  refine mk3 (k := 34) d S fun f cdv A outer s H a1 a2 a3 Q E hr h => ?_
  refine ⟨_, (pss_cons (ps_set (i := 3) S.nd rfl (Or.inl rfl) (pe_lst pa_nil)) (pss_cons (ps_for PassesOwn.never rfl (pi_range1 (by rfl) T.range (pa_cons (pe_callB call_len_seq (by rfl) T.len PySem.boot_len (pa_cons (pv 0) pa_nil)) pa_nil)) (pg_name (i := 4) S.nd rfl (Or.inl rfl)) (pss_one (ps_expr (pe_bm PySem.F.plainAttrs_list PySem.F.slot_list_append PySem.F.type_list_append mt_append (pv 3) (pa_cons (pe_c c_multiply hr (by decide) rfl (pa_cons (pe_c c_multiply hr (by decide) rfl (pa_cons (pe_ix ix_list (pv 0) (pv 4) (fun _ _ => rfl)) (pa_cons (pe_ix ix_list (pv 1) (pv 4) (fun _ _ => rfl)) pa_nil))) (pa_cons (pe_ix ix_list (pv 2) (pv 4) (fun _ _ => rfl)) pa_nil))) pa_nil))))) (pss_one (ps_ret (pe_c c_trimmed hr (by decide) rfl (pa_cons (pv 3) pa_nil)))))), ?_⟩
  obtain ⟨p, q, wt, hp, hq, hw, e1, e2, hn, sz, k⟩ := h
  obtain ⟨l1, vs1, rfl, hs1, hpr1⟩ := id hp
  obtain ⟨l2, vs2, rfl, hs2, hpr2⟩ := id hq
  obtain ⟨l3, vs3, rfl, hs3, hpr3⟩ := id hw
  have n1 := Paired.len hpr1
  refine ⟨Nat.zero_le _, fun l hl => ?_⟩
  have g0 := Gr.new (F := Fr K) hl
  refine ⟨_, rfl, l1, vs1, rfl, .inl (sqL_same g0.s hs1), (p.length : Int), ?_, by omega, by omega, ?_⟩
  · rw [n1]
  rw [Int.toNat_natCast]
  refine for_range (lo := 0) (n := p.length) (fun i σ H' => ∃ us x, σ = [some (.ref l1), some (.ref l2), some (.ref l3), some (.ref l), x] ∧ Gr (Fr K) H H' l us ((List.range i).map fun i => co p i * co q i * co wt i)) ⟨_, _, rfl, g0⟩ ?_ ?_
  · rintro i σ H' hi ⟨us, x, rfl, g⟩
    obtain ⟨v1, hv1, fv1⟩ := Paired.at' hpr1 (getI hi)
    obtain ⟨v2, hv2, fv2⟩ := Paired.at' hpr2 (getI (p := q) (i := i) (by omega))
    obtain ⟨v3, hv3, fv3⟩ := Paired.at' hpr3 (getI (p := wt) (i := i) (by omega))
    refine ⟨_, rfl, .inl ⟨rfl, _, SqL.of g.h⟩, _, rfl, _, rfl, l1, vs1, _, v1, rfl, rfl, sqL_same g.s hs1, ?_, _, rfl, _, rfl, l2, vs2, _, v2, rfl, rfl, sqL_same g.s hs2, ?_, ?_⟩
    · rw [Int.zero_add]
      exact atI_nat hv1
    · rw [Int.zero_add]
      exact atI_nat hv2
    refine ⟨_, _, rfl, co p i, co q i, fv1.same g.s, fv2.same g.s, sz.a.co i, sz.b.co i, trivial, fun H1 r1 s1 f1 => ?_⟩
    refine ⟨_, rfl, _, rfl, l3, vs3, _, v3, rfl, rfl, sqL_same s1 (sqL_same g.s hs3), ?_, ?_⟩
    · rw [Int.zero_add]
      exact atI_nat hv3
    refine ⟨_, _, rfl, _, co wt i, f1, (fv3.same g.s).same s1, sz.m i, sz.c.co i, trivial, fun H2 r s2 f2 => ?_⟩
    have g2 := (g.same Fr.stab s1).same Fr.stab s2
    refine ⟨l, us, r, rfl, rfl, g2.h, g2.room (by simp; omega), us ++ [r], _, rfl, ?_⟩
    rw [range_map_succ]
    exact g2.push Fr.stab f2
  · rintro σ H' ⟨us, x, rfl, g⟩
    exact ⟨_, rfl, _, rfl, _, g.ls, fun H2 r s2 n2 f2 => k _ _ (g.s.trans s2) (n2.after g.s) f2⟩
/-! ### products -/
def wSzego (n : Nat) : List Rat := (List.range (n + 1)).map fun k => 1 / ((Kqg3.binomial n k : Nat) : Rat)
def wSchur (n : Nat) : List Rat := (List.range n).map fun k => ((Kqg3.factorial k : Nat) : Rat)
def wOne (n : Nat) : List Rat := List.replicate n 1
def S_schur_szego_of (K : PySem.W.Frag) (a b : V) (H : Hp) (Q : VK) : Prop := ∃ p q : List Rat, Po K H a p ∧ Po K H b q ∧ q.length = p.length ∧ p ≠ [] ∧ p.length ≤ 12 ∧ SzWt p q (wSzego (p.length - 1)) ∧ RetN (fun H' r => Po K H' r (Kqg3.schurSzego (Kqg1.degree p) p q)) H Q
theorem c_schur_szego_of (T : Txt P K mg base) (d : DefB K mg "schur_szego_of" (top 88) ["first", "second"]) (c_binomial : Cal P w K mg base 33 "binomial" (sp2 (S_binomial K)) []) (c_degree_of : Cal P w K mg base 1 "degree_of" (sp1 (S_degree_of K)) []) (c_lowest : Cal P w K mg base 33 "lowest" (sp2 (S_lowest K)) []) (c_weighted : Cal P w K mg base 35 "weighted" (sp3 (S_weighted K)) []) : Cal P w K mg base 36 "schur_szego_of" (sp2 (S_schur_szego_of K)) [] := by
  have S : FnScope ["first", "second", "degree", "place"] ["first", "second"] (fnScope (top 88)) := fnScope_by (by decide +kernel)
  refine mk2 (k := 35) d S fun f cdv A outer s H a1 a2 Q E hr h => ?_
  refine ⟨_, (pss_cons (ps_set (i := 2) S.nd rfl (Or.inr rfl) (pe_c c_degree_of hr (by decide) rfl (pa_cons (pv 0) pa_nil))) (pss_one (ps_ret (pe_c c_weighted hr (by decide) rfl (pa_cons (pv 0) (pa_cons (pv 1) (pa_cons (pe_lc (own := [("place", 3)]) rfl S.nd (pi_range1 (by rfl) T.range (pa_cons (pe_op op_add (pv 2) pe_int) pa_nil)) (blkOk_by (own := [("place", 3)]) (N := ["first", "second", "degree", "place"]) (sc := fnScope (top 88)) (by decide +kernel)) (fun _ _ _ _ _ => (pg_name (i := 3) S.nd rfl (Or.inl rfl))) (fun _ _ _ _ _ => pts_nil) (fun _ _ _ _ _ => (pe_c c_lowest hr (by decide) rfl (pa_cons pe_int (pa_cons (pe_c c_binomial hr (by decide) rfl (pa_cons (pv 2) (pa_cons (pv 3) pa_nil))) pa_nil))))) pa_nil))))))), ?_⟩
  obtain ⟨p, q, hp, hq, el, np, hn, sz, k⟩ := h
  have h0 : 0 < p.length := List.length_pos_iff.mpr np
  have e2 : (p.length : Int) - 1 = ((p.length - 1 : Nat) : Int) := by omega
  have e3 : (p.length : Int) - 1 + 1 = ((p.length - 1 + 1 : Nat) : Int) := by omega
  refine ⟨_, rfl, _, rfl, p, hp, ?_⟩
  refine ⟨_, rfl, _, rfl, ?_⟩
  refine ⟨_, rfl, _, _, rfl, rfl, ((p.length - 1 + 1 : Nat) : Int), congrArg (fun z => [V.int z]) e3, by omega, by omega, fun D hD => ?_⟩
  rw [Int.toNat_natCast]
  refine lc_range (lo := 0) (n := p.length - 1 + 1) (fun i H' => ∃ us, Gr (Fr K) H H' D us ((List.range i).map fun k => 1 / ((Kqg3.binomial (p.length - 1) k : Nat) : Rat))) ⟨_, Gr.new hD⟩ ?_ ?_
  · rintro i H' hi ⟨us, g⟩
    refine ⟨rfl, yes ?_⟩
    refine ⟨_, rfl, _, rfl, _, _, rfl, p.length - 1, i, congrArg V.int e2, zadd i, by omega, by omega, ?_⟩
    refine ⟨_, _, rfl, 1, _, rfl, rfl, ?_, fun H1 r1 s1 f1 => ?_⟩
    · have := binom_pos (n := p.length - 1) (k := i) (by omega) (by omega)
      omega
    have g2 := g.same Fr.stab s1
    refine ⟨us, g2.h, g2.room (by simp; omega), us ++ [r1], ?_⟩
    rw [range_map_succ]
    rw [one_over] at f1
    exact g2.push Fr.stab f1
  · rintro H' ⟨us, g⟩
    have hw : Po K H' (.ref D) (wSzego (p.length - 1)) := g.ls
    refine ⟨_, _, _, rfl, p, q, _, hp.same g.s, hq.same g.s, hw, el, by simp [wSzego]; omega, hn, sz, fun H2 r2 s2 n2 f2 => k _ _ (g.s.trans s2) (n2.after g.s) ?_⟩
    have f2' : Po K H2 (.ref r2) (Kqg1.trim ((List.range p.length).map fun i => co p i * co q i * co (wSzego (p.length - 1)) i)) := f2
    have e : Kqg1.trim ((List.range p.length).map fun i => co p i * co q i * co (wSzego (p.length - 1)) i) = Kqg3.schurSzego (Kqg1.degree p) p q := by
      unfold Kqg3.schurSzego
      show _ = Kqg1.trim ((List.range (p.length - 1 + 1)).map fun k => co p k * co q k / ((Kqg3.binomial (p.length - 1) k : Nat) : Rat))
      have e5 : p.length - 1 + 1 = p.length := by omega
      rw [e5]
      refine RK.trim_congr fun i => ?_
      rw [RK.co_tab, RK.co_tab]
      by_cases hi : i < p.length
      · rw [if_pos hi, if_pos hi, wSzego, RK.co_tab, if_pos (by omega)]
        grind
      · rw [if_neg hi, if_neg hi]
    rw [e] at f2'
    exact f2'
def S_schur_of (K : PySem.W.Frag) (a b : V) (H : Hp) (Q : VK) : Prop := ∃ p q : List Rat, Po K H a p ∧ Po K H b q ∧ q.length = p.length ∧ p.length ≤ 12 ∧ SzWt p q (wSchur p.length) ∧ RetN (fun H' r => Po K H' r (Kqg3.schurProduct p q)) H Q
theorem c_schur_of (T : Txt P K mg base) (d : DefB K mg "schur_of" (top 89) ["first", "second"]) (c_factorial : Cal P w K mg base 1 "factorial" (sp1 (S_factorial K)) []) (c_weighted : Cal P w K mg base 35 "weighted" (sp3 (S_weighted K)) []) (c_whole : Cal P w K mg base 1 "whole" (sp1 (S_whole K)) []) : Cal P w K mg base 36 "schur_of" (sp2 (S_schur_of K)) [] := by
  have S : FnScope ["first", "second", "place"] ["first", "second"] (fnScope (top 89)) := fnScope_by (by decide +kernel)
  refine mk2 (k := 35) d S fun f cdv A outer s H a1 a2 Q E hr h => ?_
  refine ⟨_, (pss_one (ps_ret (pe_c c_weighted hr (by decide) rfl (pa_cons (pv 0) (pa_cons (pv 1) (pa_cons (pe_lc (own := [("place", 2)]) rfl S.nd (pi_range1 (by rfl) T.range (pa_cons (pe_callB call_len_seq (by rfl) T.len PySem.boot_len (pa_cons (pv 0) pa_nil)) pa_nil)) (blkOk_by (own := [("place", 2)]) (N := ["first", "second", "place"]) (sc := fnScope (top 89)) (by decide +kernel)) (fun _ _ _ _ _ => (pg_name (i := 2) S.nd rfl (Or.inl rfl))) (fun _ _ _ _ _ => pts_nil) (fun _ _ _ _ _ => (pe_c c_whole hr (by decide) rfl (pa_cons (pe_c c_factorial hr (by decide) rfl (pa_cons (pv 2) pa_nil)) pa_nil)))) pa_nil)))))), ?_⟩
  obtain ⟨p, q, hp, hq, el, hn, sz, k⟩ := h
  obtain ⟨l1, vs1, rfl, hs1, hpr1⟩ := id hp
  have n1 := Paired.len hpr1
  refine ⟨_, rfl, _, rfl, ?_⟩
  refine ⟨_, rfl, l1, vs1, rfl, .inl hs1, (p.length : Int), ?_, by omega, by omega, fun D hD => ?_⟩
  · rw [n1]
  rw [Int.toNat_natCast]
  refine lc_range (lo := 0) (n := p.length) (fun i H' => ∃ us, Gr (Fr K) H H' D us (wSchur i)) ⟨_, Gr.new hD⟩ ?_ ?_
  · rintro i H' hi ⟨us, g⟩
    refine ⟨rfl, yes ?_⟩
    refine ⟨_, rfl, _, rfl, i, zadd i, by omega, ?_⟩
    refine ⟨_, rfl, _, rfl, fun H1 r1 s1 f1 => ?_⟩
    have g2 := g.same Fr.stab s1
    refine ⟨us, g2.h, g2.room (by simp [wSchur]; omega), us ++ [r1], ?_⟩
    rw [wSchur, range_map_succ]
    exact g2.push Fr.stab f1
  · rintro H' ⟨us, g⟩
    refine ⟨_, _, _, rfl, p, q, _, hp.same g.s, hq.same g.s, g.ls, el, by simp [wSchur], hn, sz, fun H2 r2 s2 n2 f2 => k _ _ (g.s.trans s2) (n2.after g.s) ?_⟩
    have f2' : Po K H2 (.ref r2) (Kqg1.trim ((List.range p.length).map fun i => co p i * co q i * co (wSchur p.length) i)) := f2
    have e : Kqg1.trim ((List.range p.length).map fun i => co p i * co q i * co (wSchur p.length) i) = Kqg3.schurProduct p q := by
      unfold Kqg3.schurProduct
      rw [el, Nat.min_self]
      refine RK.trim_congr fun i => ?_
      rw [RK.co_tab, RK.co_tab]
      by_cases hi : i < p.length
      · rw [if_pos hi, if_pos hi, wSchur, RK.co_tab, if_pos hi]
      · rw [if_neg hi, if_neg hi]
    rw [e] at f2'
    exact f2'
def S_hadamard_of (K : PySem.W.Frag) (a b : V) (H : Hp) (Q : VK) : Prop := ∃ p q : List Rat, Po K H a p ∧ Po K H b q ∧ q.length = p.length ∧ p.length ≤ 12 ∧ SzWt p q (wOne p.length) ∧ RetN (fun H' r => Po K H' r (Kqg3.hadamardProduct p q)) H Q
theorem c_hadamard_of (T : Txt P K mg base) (d : DefB K mg "hadamard_of" (top 90) ["first", "second"]) (c_weighted : Cal P w K mg base 35 "weighted" (sp3 (S_weighted K)) []) (c_whole : Cal P w K mg base 1 "whole" (sp1 (S_whole K)) []) : Cal P w K mg base 36 "hadamard_of" (sp2 (S_hadamard_of K)) [] := by
  have S : FnScope ["first", "second"] ["first", "second"] (fnScope (top 90)) := fnScope_by (by decide +kernel)
  refine mk2 (k := 35) d S fun f cdv A outer s H a1 a2 Q E hr h => ?_
  refine ⟨_, (pss_one (ps_ret (pe_c c_weighted hr (by decide) rfl (pa_cons (pv 0) (pa_cons (pv 1) (pa_cons (pe_op op_rep (pe_lst (pa_cons (pe_c c_whole hr (by decide) rfl (pa_cons pe_int pa_nil)) pa_nil)) (pe_callB call_len_seq (by rfl) T.len PySem.boot_len (pa_cons (pv 0) pa_nil))) pa_nil)))))), ?_⟩
  obtain ⟨p, q, hp, hq, el, hn, sz, k⟩ := h
  obtain ⟨l1, vs1, rfl, hs1, hpr1⟩ := id hp
  have n1 := Paired.len hpr1
  refine ⟨_, rfl, _, rfl, ?_⟩
  refine ⟨_, rfl, 1, rfl, fun H1 r1 s1 f1 => ?_⟩
  refine ⟨(by show 1 ≤ sizeLine; decide), fun l hl => ?_⟩
  have s0 : Same H1 (upd H1 l (.lst [r1])) := same_lay hl
  refine ⟨_, rfl, l1, vs1, rfl, .inl (sqL_same s0 (sqL_same s1 hs1)), ?_⟩
  refine ⟨l, _, _, rfl, rfl, upd_same, by omega, by omega, ?_, fun l2 hl2 => ?_⟩
  · show 1 * ((vs1.length : Int)).toNat ≤ sizeLine
    rw [Nat.one_mul, Int.toNat_natCast]
    exact Nat.le_of_lt (lt_line (by omega))
  rw [Int.toNat_natCast, rep_flat]
  have s2 : Same (upd H1 l (.lst [r1])) (upd (upd H1 l (.lst [r1])) l2 (.lst (List.replicate vs1.length r1))) := same_lay hl2
  have sA := (s1.trans s0).trans s2
  have f1' : Fr K H1 r1 (1 : Rat) := f1
  refine ⟨_, _, _, rfl, p, q, wOne p.length, hp.same sA, hq.same sA, ⟨l2, _, rfl, SqL.of upd_same, ?_⟩, el, by simp [wOne], hn, sz, fun H2 r2 s2 n2 f2 => k _ _ (sA.trans s2) (n2.after sA) ?_⟩
  · have hr := rep_pair (F := Fr K _) ((f1'.same s0).same s2) vs1.length
    rw [n1] at hr ⊢
    exact hr
  have f2' : Po K H2 (.ref r2) (Kqg1.trim ((List.range p.length).map fun i => co p i * co q i * co (wOne p.length) i)) := f2
  have e : Kqg1.trim ((List.range p.length).map fun i => co p i * co q i * co (wOne p.length) i) = Kqg3.hadamardProduct p q := by
    unfold Kqg3.hadamardProduct
    rw [el, Nat.min_self]
    refine RK.trim_congr fun i => ?_
    rw [RK.co_tab, RK.co_tab]
    by_cases hi : i < p.length
    · rw [if_pos hi, if_pos hi, wOne, RK.co_getElem (p := List.replicate p.length 1) (by simpa using hi), List.getElem_replicate]
      grind
    · rw [if_neg hi, if_neg hi]
  rw [e] at f2'
  exact f2'
/-! ### the free sum -/
def d0 (q : List Rat) (m : Nat) : Rat := co q m * ((Kqg3.factorial m : Nat) : Rat)
theorem iter_succ : ∀ (m : Nat) (p : List Rat), Kqg1.derivative (Kqg3.iteratedDerivative m p) = Kqg3.iteratedDerivative (m + 1) p
  | 0, _ => rfl
  | m + 1, p => iter_succ m (Kqg1.derivative p)
theorem co_iter : ∀ (m : Nat) (p : List Rat) (i : Nat), co (Kqg3.iteratedDerivative m p) i * ((Kqg3.factorial i : Nat) : Rat) = co p (i + m) * ((Kqg3.factorial (i + m) : Nat) : Rat)
  | 0, p, i => rfl
  | m + 1, p, i => by
    show co (Kqg3.iteratedDerivative m (Kqg1.derivative p)) i * _ = _
    rw [co_iter m (Kqg1.derivative p) i, RK.co_deriv]
    have e : i + (m + 1) = i + m + 1 := by omega
    rw [e, Kqg3.factorial, Rat.natCast_mul]
    grind
theorem ev_zero (p : List Rat) : ev p 0 = co p 0 := by
  cases p with
  | nil => rw [RK.ev_nil, RK.co_nil]
  | cons c p => rw [RK.ev_cons, RK.co_zero]; grind
theorem iter_at_zero (m : Nat) (q : List Rat) : Kqg1.evaluate (Kqg3.iteratedDerivative m q) 0 = d0 q m := by
  have h := co_iter m q 0
  show ev _ 0 = _
  rw [ev_zero, d0]
  rw [Nat.zero_add] at h
  have e : ((Kqg3.factorial 0 : Nat) : Rat) = 1 := rfl
  rw [e] at h
  grind
def fsum (n : Nat) (p q : List Rat) (i : Nat) : List Rat := (List.range i).foldl (fun s k => Kqg1.add s (Kqg1.scale (d0 q (n - k)) (Kqg3.iteratedDerivative k p))) []
theorem fsum_succ (n : Nat) (p q : List Rat) (i : Nat) : fsum n p q (i + 1) = Kqg1.add (fsum n p q i) (Kqg1.scale (d0 q (n - i)) (Kqg3.iteratedDerivative i p)) := by
  unfold fsum
  rw [List.range_succ, List.foldl_append]
  rfl
theorem freeSum_eq (n : Nat) (p q : List Rat) : Kqg3.freeSum n p q = Kqg1.scale (1 / ((Kqg3.factorial n : Nat) : Rat)) (fsum n p q (n + 1)) := by
  unfold Kqg3.freeSum fsum
  congr 1
  congr 1
  funext s k
  rw [iter_at_zero]
theorem iter_tr : ∀ (m : Nat) (p : List Rat), Tr p → Tr (Kqg3.iteratedDerivative m p)
  | 0, _, h => h
  | m + 1, p, _ => iter_tr m _ (RK.Tr.deriv p)
theorem iter_len : ∀ (m : Nat) (p : List Rat), (Kqg3.iteratedDerivative m p).length ≤ p.length
  | 0, _ => Nat.le_refl _
  | m + 1, p => by
    have h1 := iter_len m (Kqg1.derivative p)
    have h2 := RK.deriv_length p
    show (Kqg3.iteratedDerivative m (Kqg1.derivative p)).length ≤ _
    omega
theorem fsum_len (n : Nat) (p q : List Rat) : ∀ i, (fsum n p q i).length ≤ p.length
  | 0 => by show 0 ≤ _; omega
  | i + 1 => by
    rw [fsum_succ]
    have h1 := fsum_len n p q i
    have h2 := add_len (fsum n p q i) (Kqg1.scale (d0 q (n - i)) (Kqg3.iteratedDerivative i p))
    have h3 := scale_len (d0 q (n - i)) (Kqg3.iteratedDerivative i p)
    have h4 := iter_len i p
    omega
def S_derivative_at_zero (K : PySem.W.Frag) (a b : V) (H : Hp) (Q : VK) : Prop := ∃ (q : List Rat) (m : Nat), Po K H a q ∧ b = .int m ∧ m < q.length ∧ q.length ≤ 12 ∧ SzP q ∧ Ret (fun H' r => Fr K H' r (d0 q m)) H Q
theorem Sz.fact {n : Nat} (h : n ≤ 12) : Sz ((Kqg3.factorial n : Nat) : Rat) := by
  refine ⟨40, by decide, ?_, by show 1 < 2 ^ 40; decide⟩
  show ((Kqg3.factorial n : Nat) : Int).natAbs < 2 ^ 40
  rw [Int.natAbs_natCast]
  exact Nat.lt_of_le_of_lt (fact_le n h) (by decide)
theorem c_derivative_at_zero (T : Txt P K mg base) (d : DefB K mg "derivative_at_zero" (top 91) ["polynomial", "order"]) (c_factorial : Cal P w K mg base 1 "factorial" (sp1 (S_factorial K)) []) (c_multiply : Cal P w K mg base 34 "multiply" (sp2 (S_multiply K)) []) (c_whole : Cal P w K mg base 1 "whole" (sp1 (S_whole K)) []) : Cal P w K mg base 35 "derivative_at_zero" (sp2 (S_derivative_at_zero K)) [] := by
  have S : FnScope ["polynomial", "order"] ["polynomial", "order"] (fnScope (top 91)) := fnScope_by (by decide +kernel)
  refine mk2 (k := 34) d S fun f cdv A outer s H a1 a2 Q E hr h => ?_
  refine ⟨_, (pss_one (ps_ret (pe_c c_multiply hr (by decide) rfl (pa_cons (pe_ix ix_list (pv 0) (pv 1) (fun _ _ => rfl)) (pa_cons (pe_c c_whole hr (by decide) rfl (pa_cons (pe_c c_factorial hr (by decide) rfl (pa_cons (pv 1) pa_nil)) pa_nil)) pa_nil))))), ?_⟩
  obtain ⟨q, m, ⟨l1, vs1, rfl, hs1, hpr1⟩, rfl, hm, hn, sq, k⟩ := h
  obtain ⟨v1, hv1, fv1⟩ := Paired.at' hpr1 (getI hm)
  refine ⟨_, rfl, _, rfl, l1, vs1, _, v1, rfl, rfl, hs1, atI_nat hv1, _, rfl, _, rfl, m, rfl, by omega, _, rfl, _, rfl, fun H1 r1 s1 f1 => ?_⟩
  exact ⟨_, _, rfl, _, _, fv1.same s1, f1, sq.co m, Sz.fact (by omega), trivial, fun H2 r2 s2 f2 => k _ _ (s1.trans s2) f2⟩
structure SzFree (n : Nat) (p q : List Rat) : Prop where
  b : SzP q
  d : ∀ m, m ≤ n → Sz (d0 q m)
  i : ∀ m, m ≤ n + 1 → SzP (Kqg3.iteratedDerivative m p)
  s : ∀ m, m ≤ n + 1 → SzP (fsum n p q m)
  t : ∀ m, m ≤ n → SzP (Kqg1.scale (d0 q (n - m)) (Kqg3.iteratedDerivative m p))
  f : Sz (1 / ((Kqg3.factorial n : Nat) : Rat))
def S_free_sum_of (K : PySem.W.Frag) (a b : V) (H : Hp) (Q : VK) : Prop := ∃ p q : List Rat, Po K H a p ∧ Po K H b q ∧ Tr p ∧ q.length = p.length ∧ p ≠ [] ∧ p.length ≤ 12 ∧ SzFree (p.length - 1) p q ∧ RetN (fun H' r => Po K H' r (Kqg3.freeSum (Kqg1.degree p) p q)) H Q
theorem c_free_sum_of (T : Txt P K mg base) (d : DefB K mg "free_sum_of" (top 92) ["first", "second"]) (c_degree_of : Cal P w K mg base 1 "degree_of" (sp1 (S_degree_of K)) []) (c_derivative_at_zero : Cal P w K mg base 35 "derivative_at_zero" (sp2 (S_derivative_at_zero K)) []) (c_derivative_of : Cal P w K mg base 35 "derivative_of" (sp1 (S_derivative_of K)) []) (c_factorial : Cal P w K mg base 1 "factorial" (sp1 (S_factorial K)) []) (c_lowest : Cal P w K mg base 33 "lowest" (sp2 (S_lowest K)) []) (c_sum_of : Cal P w K mg base 35 "sum_of" (sp2 (S_sum_of K)) []) (c_times_fraction : Cal P w K mg base 35 "times_fraction" (sp2 (S_times_fraction K)) []) : Cal P w K mg base 36 "free_sum_of" (sp2 (S_free_sum_of K)) [] := by
  have S : FnScope ["first", "second", "degree", "found", "derived", "order"] ["first", "second"] (fnScope (top 92)) := fnScope_by (by decide +kernel)
  refine mk2 (k := 35) d S fun f cdv A outer s H a1 a2 Q E hr h => ?_
  refine ⟨_, (pss_cons (ps_set (i := 2) S.nd rfl (Or.inl rfl) (pe_c c_degree_of hr (by decide) rfl (pa_cons (pv 0) pa_nil))) (pss_cons (ps_set (i := 3) S.nd rfl (Or.inl rfl) (pe_lst pa_nil)) (pss_cons (ps_set (i := 4) S.nd rfl (Or.inl rfl) (pv 0)) (pss_cons (ps_for PassesOwn.never rfl (pi_range1 (by rfl) T.range (pa_cons (pe_op op_add (pv 2) pe_int) pa_nil)) (pg_name (i := 5) S.nd rfl (Or.inl rfl)) (pss_cons (ps_set (i := 3) S.nd rfl (Or.inl rfl) (pe_c c_sum_of hr (by decide) rfl (pa_cons (pv 3) (pa_cons (pe_c c_times_fraction hr (by decide) rfl (pa_cons (pv 4) (pa_cons (pe_c c_derivative_at_zero hr (by decide) rfl (pa_cons (pv 1) (pa_cons (pe_op op_sub (pv 2) (pv 5)) pa_nil))) pa_nil))) pa_nil)))) (pss_one (ps_set (i := 4) S.nd rfl (Or.inl rfl) (pe_c c_derivative_of hr (by decide) rfl (pa_cons (pv 4) pa_nil)))))) (pss_one (ps_ret (pe_c c_times_fraction hr (by decide) rfl (pa_cons (pv 3) (pa_cons (pe_c c_lowest hr (by decide) rfl (pa_cons pe_int (pa_cons (pe_c c_factorial hr (by decide) rfl (pa_cons (pv 2) pa_nil)) pa_nil))) pa_nil))))))))), ?_⟩
  obtain ⟨p, q, hp, hq, tp, el, np, hn, sz, k⟩ := h
  have h0 : 0 < p.length := List.length_pos_iff.mpr np
  have e2 : (p.length : Int) - 1 = ((p.length - 1 : Nat) : Int) := by omega
  have e3 : (p.length : Int) - 1 + 1 = ((p.length - 1 + 1 : Nat) : Int) := by omega
  refine ⟨_, rfl, _, rfl, p, hp, ?_⟩
  refine ⟨Nat.zero_le _, fun l hl => ?_⟩
  have s0 : Same H (upd H l (.lst [])) := same_lay hl
  refine ⟨_, rfl, ?_⟩
  refine ⟨_, rfl, _, _, rfl, rfl, ((p.length - 1 + 1 : Nat) : Int), congrArg (fun z => [V.int z]) e3, by omega, by omega, ?_⟩
  rw [Int.toNat_natCast]
  refine for_range (lo := 0) (n := p.length - 1 + 1) (fun i σ H' => ∃ (r u : V) (x : Option V), σ = [some a1, some a2, some (.int ((p.length : Int) - 1)), some r, some u, x] ∧ Same H H' ∧ Po K H' r (fsum (p.length - 1) p q i) ∧ Po K H' u (Kqg3.iteratedDerivative i p)) ⟨_, _, _, rfl, s0, ⟨l, [], rfl, SqL.of upd_same, .nil⟩, hp.same s0⟩ ?_ ?_
  · rintro i σ H' hi ⟨r, u, x, rfl, s1, pr, pu⟩
    have e4 : (p.length : Int) - 1 - (0 + (i : Int)) = ((p.length - 1 - i : Nat) : Int) := by omega
    have il := iter_len i p
    have fl := fsum_len (p.length - 1) p q i
    have sl := scale_len (d0 q (p.length - 1 - i)) (Kqg3.iteratedDerivative i p)
    refine ⟨_, rfl, _, rfl, _, rfl, _, rfl, _, rfl, _, _, rfl, rfl, _, _, rfl, q, p.length - 1 - i, hq.same s1, congrArg V.int e4, by omega, by omega, sz.b, fun H1 r1 s1' f1 => ?_⟩
    refine ⟨_, _, rfl, _, _, pu.same s1', f1, by omega, sz.i i (by omega), sz.d _ (by omega), fun H2 r2 s2 n2 f2 => ?_⟩
    refine ⟨_, _, rfl, _, _, (pr.same s1').same s2, f2, by omega, by omega, sz.s i (by omega), sz.t i (by omega), fun H3 r3 s3 n3 f3 => ?_⟩
    have sA := ((s1.trans s1').trans s2).trans s3
    refine ⟨_, rfl, _, rfl, _, ((pu.same s1').same s2).same s3, iter_tr i p tp, by omega, sz.i i (by omega), fun H4 r4 s4 n4 f4 => ?_⟩
    have f3' : Po K H3 (.ref r3) (Kqg1.add (fsum (p.length - 1) p q i) (Kqg1.scale (d0 q (p.length - 1 - i)) (Kqg3.iteratedDerivative i p))) := f3
    have f4' : Po K H4 (.ref r4) (Kqg1.derivative (Kqg3.iteratedDerivative i p)) := f4
    rw [iter_succ] at f4'
    rw [← fsum_succ] at f3'
    exact ⟨_, _, _, rfl, sA.trans s4, f3'.same s4, f4'⟩
  · rintro σ H' ⟨r, u, x, rfl, s1, pr, pu⟩
    have fl := fsum_len (p.length - 1) p q (p.length - 1 + 1)
    refine ⟨_, rfl, _, rfl, _, rfl, p.length - 1, congrArg V.int e2, by omega, ?_⟩
    refine ⟨_, _, rfl, 1, _, rfl, rfl, ?_, fun H1 r1 s1' f1 => ?_⟩
    · have := fact_pos (p.length - 1)
      omega
    rw [one_over] at f1
    refine ⟨_, _, rfl, _, _, pr.same s1', f1, by omega, sz.s _ (by omega), sz.f, fun H2 r2 s2 n2 f2 => k _ _ ((s1.trans s1').trans s2) (n2.after (s1.trans s1')) ?_⟩
    show Po K H2 (.ref r2) (Kqg3.freeSum (p.length - 1) p q)
    rw [freeSum_eq]
    exact f2
end
end RW
namespace RW
open PySem PySem.Spec PyProof.Rows L2 C8
open RK (co Tr ld ev)
section
variable {P : Program} {w : World} {K : PySem.W.Frag} {mg : Str → Option Value} {base : Heap} {C : Addr}
def slotB (n : Int) : Bool := decide (0 ≤ n) && decide (n < 4)
def S_is_slot (K : PySem.W.Frag) (a : V) (H : Hp) (Q : VK) : Prop := ∃ n : Int, a = .int n ∧ Q (.bl (slotB n)) H
theorem c_is_slot (T : Txt P K mg base) (d : DefB K mg "is_slot" (top 50) ["number"]) : Cal P w K mg base 1 "is_slot" (sp1 (S_is_slot K)) [] := by
  have S : FnScope ["number"] ["number"] (fnScope (top 50)) := fnScope_by (by decide +kernel)
  refine mk1 (k := 0) d S fun f cdv A outer s H a1 Q E hr h => ?_
  refine ⟨_, (pss_one (ps_ret (pe_chain op_le op_lt pe_int (pv 0) (pe_gc rfl T.gSLOTS)))), ?_⟩
  obtain ⟨n, rfl, q⟩ := h
  refine ⟨_, rfl, _, _, rfl, rfl, _, rfl, ?_⟩
  unfold slotB at q
  by_cases h0 : 0 ≤ n
  · rw [decide_eq_true h0, Bool.true_and] at q
    exact ifT (decide_eq_true h0) ⟨_, _, rfl, rfl, q⟩
  · rw [decide_eq_false h0, Bool.false_and] at q
    exact ifF (decide_eq_false h0) q
def numB (n : Int) : Bool := decide (-1000 ≤ n) && decide (n ≤ 1000)
def S_is_numerator (K : PySem.W.Frag) (a : V) (H : Hp) (Q : VK) : Prop := ∃ n : Int, a = .int n ∧ Q (.bl (numB n)) H
theorem c_is_numerator (T : Txt P K mg base) (d : DefB K mg "is_numerator" (top 51) ["number"]) : Cal P w K mg base 1 "is_numerator" (sp1 (S_is_numerator K)) [] := by
  have S : FnScope ["number"] ["number"] (fnScope (top 51)) := fnScope_by (by decide +kernel)
  refine mk1 (k := 0) d S fun f cdv A outer s H a1 Q E hr h => ?_
  refine ⟨_, (pss_one (ps_ret (pe_chain op_le op_le (pe_un un_neg (pe_gc rfl T.gMOST_NUMERATOR)) (pv 0) (pe_gc rfl T.gMOST_NUMERATOR)))), ?_⟩
  obtain ⟨n, rfl, q⟩ := h
  refine ⟨_, rfl, _, rfl, _, _, rfl, rfl, _, rfl, ?_⟩
  unfold numB at q
  by_cases h0 : -1000 ≤ n
  · rw [decide_eq_true h0, Bool.true_and] at q
    exact ifT (decide_eq_true h0) ⟨_, _, rfl, rfl, q⟩
  · rw [decide_eq_false h0, Bool.false_and] at q
    exact ifF (decide_eq_false h0) q
def denB (n : Int) : Bool := decide (1 ≤ n) && decide (n ≤ 1000)
def S_is_denominator (K : PySem.W.Frag) (a : V) (H : Hp) (Q : VK) : Prop := ∃ n : Int, a = .int n ∧ Q (.bl (denB n)) H
theorem c_is_denominator (T : Txt P K mg base) (d : DefB K mg "is_denominator" (top 52) ["number"]) : Cal P w K mg base 1 "is_denominator" (sp1 (S_is_denominator K)) [] := by
  have S : FnScope ["number"] ["number"] (fnScope (top 52)) := fnScope_by (by decide +kernel)
  refine mk1 (k := 0) d S fun f cdv A outer s H a1 Q E hr h => ?_
  refine ⟨_, (pss_one (ps_ret (pe_chain op_le op_le pe_int (pv 0) (pe_gc rfl T.gMOST_DENOMINATOR)))), ?_⟩
  obtain ⟨n, rfl, q⟩ := h
  refine ⟨_, rfl, _, _, rfl, rfl, _, rfl, ?_⟩
  unfold denB at q
  by_cases h0 : 1 ≤ n
  · rw [decide_eq_true h0, Bool.true_and] at q
    exact ifT (decide_eq_true h0) ⟨_, _, rfl, rfl, q⟩
  · rw [decide_eq_false h0, Bool.false_and] at q
    exact ifF (decide_eq_false h0) q
def numsB (l : List Int) (n : Nat) : Bool := decide (l.length ≤ n) && l.all numB
theorem all_take_false {α : Type} {f : α → Bool} {l : List α} {i : Nat} {x : α} (h : l[i]? = some x) (hf : f x = false) : l.all f = false := by
  rw [List.all_eq_false]
  exact ⟨x, List.mem_of_getElem? h, by rw [hf]; exact Bool.false_ne_true⟩
def S_are_numerators (K : PySem.W.Frag) (a b : V) (H : Hp) (Q : VK) : Prop := ∃ (l : List Int) (n : Nat), Is K H a l ∧ b = .int n ∧ Q (.bl (numsB l n)) H
theorem c_are_numerators (T : Txt P K mg base) (d : DefB K mg "are_numerators" (top 53) ["numbers", "most"]) (c_is_numerator : Cal P w K mg base 1 "is_numerator" (sp1 (S_is_numerator K)) []) : Cal P w K mg base 2 "are_numerators" (sp2 (S_are_numerators K)) [] := by
  have S : FnScope ["numbers", "most", "number"] ["numbers", "most"] (fnScope (top 53)) := fnScope_by (by decide +kernel)
  refine mk2 (k := 1) d S fun f cdv A outer s H a1 a2 Q E hr h => ?_
  refine ⟨_, (pss_cons (ps_if (pt_cmpR op_gt (pe_callB call_len_seq (by rfl) T.len PySem.boot_len (pa_cons (pv 0) pa_nil)) (pv 1) (nomark _)) (pss_one (ps_ret pe_bl)) pss_nil) (pss_cons (ps_for PassesOwn.never rfl (pi_list (pv 0)) (pg_name (i := 2) S.nd rfl (Or.inl rfl)) (pss_one (ps_if (pt_not (pt_val (pe_c c_is_numerator hr (by decide) rfl (pa_cons (pv 2) pa_nil)))) (pss_one (ps_ret pe_bl)) pss_nil))) (pss_one (ps_ret pe_bl)))), ?_⟩
  obtain ⟨ns, n, ⟨l1, vs1, rfl, hs1, hpr1⟩, rfl, q⟩ := h
  have n1 := Paired.len hpr1
  refine ⟨_, rfl, l1, vs1, rfl, .inl hs1, _, rfl, _, _, rfl, rfl, _, rfl, ?_⟩
  unfold numsB at q
  by_cases h0 : ns.length ≤ n
  · refine ifF (decide_eq_false (by omega)) ?_
    rw [decide_eq_true h0, Bool.true_and] at q
    refine ⟨_, rfl, l1, rfl, ⟨_, hs1⟩, ?_⟩
    refine for_list (K := K) (a := l1) (xs := vs1) (fun i σ H' => ∃ x, σ = [some (.ref l1), some (.int (n : Int)), x] ∧ H' = H ∧ (ns.take i).all numB = true) ⟨_, rfl, rfl, rfl⟩ ?_ ?_ ?_
    · rintro i σ H' _ ⟨x, rfl, rfl, _⟩
      exact hs1
    · rintro i v σ H' hv ⟨x, rfl, rfl, ha⟩
      obtain ⟨m, hc, rfl⟩ := Paired.at hpr1 hv
      refine ⟨_, rfl, _, rfl, m, rfl, _, rfl, ?_⟩
      by_cases hm : numB m = true
      · refine ifF (by rw [hm]; rfl) ?_
        refine ⟨_, rfl, rfl, ?_⟩
        rw [take_succ hc, List.all_append, ha]
        simp [hm]
      · have hm' : numB m = false := by simpa using hm
        refine ifT (by rw [hm']; rfl) ?_
        rw [all_take_false hc hm'] at q
        exact q
    · rintro σ H' ⟨x, rfl, rfl, ha⟩
      rw [n1, List.take_length] at ha
      rw [ha] at q
      exact q
  · refine ifT (decide_eq_true (by omega)) ?_
    rw [decide_eq_false h0, Bool.false_and] at q
    exact q
def big : Int := 1000000000000000000000000000000
def fitB (q : Rat) : Bool := decide (absI q.num ≤ big) && decide ((q.den : Int) ≤ big)
def S_is_storable (K : PySem.W.Frag) (a : V) (H : Hp) (Q : VK) : Prop := ∃ q : Rat, Fr K H a q ∧ Q (.bl (fitB q)) H
theorem c_is_storable (T : Txt P K mg base) (d : DefB K mg "is_storable" (top 54) ["fraction"]) : Cal P w K mg base 1 "is_storable" (sp1 (S_is_storable K)) [] := by
  have S : FnScope ["fraction"] ["fraction"] (fnScope (top 54)) := fnScope_by (by decide +kernel)
  refine mk1 (k := 0) d S fun f cdv A outer s H a1 Q E hr h => ?_
  refine ⟨_, (pss_one (ps_ret (pe_and (pe_cmpR op_le (pe_callB call_abs (by rfl) T.abs (by decide +kernel) (pa_cons (pe_ix ix_tup (pv 0) pe_int (fun _ _ => rfl)) pa_nil)) (pe_gc rfl T.gMOST_STORED) (nomark _)) (pe_one (pe_cmpR op_le (pe_ix ix_tup (pv 0) pe_int (fun _ _ => rfl)) (pe_gc rfl T.gMOST_STORED) (nomark _)))))), ?_⟩
  obtain ⟨q, ⟨t, rfl, ht⟩, k⟩ := h
  refine ⟨_, rfl, t, _, 0, _, rfl, rfl, ht, at0, _, rfl, _, _, rfl, rfl, _, rfl, ?_⟩
  unfold fitB at k
  by_cases h0 : absI q.num ≤ big
  · rw [decide_eq_true h0, Bool.true_and] at k
    exact ifT (decide_eq_true h0) ⟨_, rfl, t, _, 1, _, rfl, rfl, ht, at1, _, _, rfl, rfl, k⟩
  · rw [decide_eq_false h0, Bool.false_and] at k
    exact ifF (decide_eq_false h0) k
def storeB (p : List Rat) : Bool := decide (p.length ≤ 7) && p.all fitB
def S_may_be_stored (K : PySem.W.Frag) (a : V) (H : Hp) (Q : VK) : Prop := ∃ p : List Rat, Po K H a p ∧ Q (.bl (storeB p)) H
theorem c_may_be_stored (T : Txt P K mg base) (d : DefB K mg "may_be_stored" (top 55) ["polynomial"]) (c_is_storable : Cal P w K mg base 1 "is_storable" (sp1 (S_is_storable K)) []) : Cal P w K mg base 2 "may_be_stored" (sp1 (S_may_be_stored K)) [] := by
  have S : FnScope ["polynomial", "fraction"] ["polynomial"] (fnScope (top 55)) := fnScope_by (by decide +kernel)
  refine mk1 (k := 1) d S fun f cdv A outer s H a1 Q E hr h => ?_
  refine ⟨_, (pss_cons (ps_if (pt_cmpR op_gt (pe_callB call_len_seq (by rfl) T.len PySem.boot_len (pa_cons (pv 0) pa_nil)) (pe_gc rfl T.gMOST_COEFFICIENTS) (nomark _)) (pss_one (ps_ret pe_bl)) pss_nil) (pss_cons (ps_for PassesOwn.never rfl (pi_list (pv 0)) (pg_name (i := 1) S.nd rfl (Or.inl rfl)) (pss_one (ps_if (pt_not (pt_val (pe_c c_is_storable hr (by decide) rfl (pa_cons (pv 1) pa_nil)))) (pss_one (ps_ret pe_bl)) pss_nil))) (pss_one (ps_ret pe_bl)))), ?_⟩
  obtain ⟨p, ⟨l1, vs1, rfl, hs1, hpr1⟩, q⟩ := h
  have n1 := Paired.len hpr1
  refine ⟨_, rfl, l1, vs1, rfl, .inl hs1, _, _, rfl, rfl, _, rfl, ?_⟩
  unfold storeB at q
  by_cases h0 : p.length ≤ 7
  · refine ifF (decide_eq_false (by omega)) ?_
    rw [decide_eq_true h0, Bool.true_and] at q
    refine ⟨_, rfl, l1, rfl, ⟨_, hs1⟩, ?_⟩
    refine for_list (K := K) (a := l1) (xs := vs1) (fun i σ H' => ∃ x, σ = [some (.ref l1), x] ∧ H' = H ∧ (p.take i).all fitB = true) ⟨_, rfl, rfl, rfl⟩ ?_ ?_ ?_
    · rintro i σ H' _ ⟨x, rfl, rfl, _⟩
      exact hs1
    · rintro i v σ H' hv ⟨x, rfl, rfl, ha⟩
      obtain ⟨m, hc, fm⟩ := Paired.at hpr1 hv
      refine ⟨_, rfl, _, rfl, m, fm, _, rfl, ?_⟩
      by_cases hm : fitB m = true
      · refine ifF (by rw [hm]; rfl) ?_
        refine ⟨_, rfl, rfl, ?_⟩
        rw [take_succ hc, List.all_append, ha]
        simp [hm]
      · have hm' : fitB m = false := by simpa using hm
        refine ifT (by rw [hm']; rfl) ?_
        rw [all_take_false hc hm'] at q
        exact q
    · rintro σ H' ⟨x, rfl, rfl, ha⟩
      rw [n1, List.take_length] at ha
      rw [ha] at q
      exact q
  · refine ifT (decide_eq_true (by omega)) ?_
    rw [decide_eq_false h0, Bool.false_and] at q
    exact q
end
end RW
namespace RW
open RK (co Tr ld ev)
/-! ### the size of a fraction, by any way to write it -/
theorem num_den_mul (q : Rat) : q * ((q.den : Nat) : Rat) = (q.num : Rat) := by
  have e2 : q = (q.num : Rat) / ((q.den : Nat) : Rat) := by
    have h := (Rat.num_divInt_den q).symm
    rw [Rat.divInt_eq_div] at h
    exact h
  have hd0 : ((q.den : Nat) : Rat) ≠ 0 := by
    intro z; exact q.den_nz (Rat.natCast_eq_zero_iff.mp z)
  generalize ((q.den : Nat) : Rat) = d at *
  generalize (q.num : Rat) = n at *
  rw [e2]; grind
theorem rat_le {q : Rat} {n d : Int} (hd : d ≠ 0) (e : q * (d : Rat) = (n : Rat)) : q.num.natAbs ≤ n.natAbs ∧ q.den ≤ d.natAbs := by
  have e2 := num_den_mul q
  have hd0 : ((q.den : Nat) : Rat) ≠ 0 := by
    intro z; exact q.den_nz (Rat.natCast_eq_zero_iff.mp z)
  have e3 : (q.num : Rat) * (d : Rat) = (n : Rat) * ((q.den : Nat) : Rat) := by
    generalize ((q.den : Nat) : Rat) = b at *
    grind
  have e4 : q.num * d = n * (q.den : Int) := by
    have : ((q.num * d : Int) : Rat) = ((n * (q.den : Int) : Int) : Rat) := by
      rw [Rat.intCast_mul, Rat.intCast_mul]; exact e3
    exact Rat.intCast_inj.mp this
  have e5 : q.num.natAbs * d.natAbs = n.natAbs * q.den := by
    have := congrArg Int.natAbs e4
    rw [Int.natAbs_mul, Int.natAbs_mul] at this
    simpa using this
  have hdp : 0 < d.natAbs := by omega
  constructor
  · by_cases hn : n = 0
    · have : q.num.natAbs * d.natAbs = 0 := by rw [e5, hn]; simp
      rcases Nat.mul_eq_zero.mp this with z | z <;> omega
    · exact Nat.le_of_dvd (by omega) (Nat.Coprime.dvd_of_dvd_mul_right q.reduced ⟨d.natAbs, e5.symm⟩)
  · exact Nat.le_of_dvd hdp (Nat.Coprime.dvd_of_dvd_mul_left q.reduced.symm ⟨n.natAbs, by rw [e5, Nat.mul_comm]⟩)
/-- numerator and denominator below 2^k -/
def B (k : Nat) (q : Rat) : Prop := q.num.natAbs < 2 ^ k ∧ q.den < 2 ^ k
theorem B.sz {k : Nat} {q : Rat} (h : B k q) (hk : k ≤ 67000000) : Sz q := ⟨k, hk, h.1, h.2⟩
theorem B.mono {j k : Nat} {q : Rat} (h : B j q) (hk : j ≤ k) : B k q :=
  ⟨Nat.lt_of_lt_of_le h.1 (Nat.pow_le_pow_right (by decide) hk), Nat.lt_of_lt_of_le h.2 (Nat.pow_le_pow_right (by decide) hk)⟩
theorem B.of {k : Nat} {q : Rat} {n d : Int} (hd : d ≠ 0) (e : q * (d : Rat) = (n : Rat)) (h1 : n.natAbs < 2 ^ k) (h2 : d.natAbs < 2 ^ k) : B k q := by
  obtain ⟨a, b⟩ := rat_le hd e
  exact ⟨by omega, by omega⟩
theorem lt_pow_mul {a b j k : Nat} (h1 : a < 2 ^ j) (h2 : b < 2 ^ k) : a * b < 2 ^ (j + k) := by
  rw [Nat.pow_add]
  exact Nat.mul_lt_mul'' h1 h2
theorem den_ne0 (q : Rat) : (q.den : Int) ≠ 0 := by have := q.den_nz; omega
theorem B.mul {j k : Nat} {p q : Rat} (h1 : B j p) (h2 : B k q) : B (j + k) (p * q) := by
  refine B.of (n := p.num * q.num) (d := (p.den : Int) * (q.den : Int)) (Int.mul_ne_zero (den_ne0 p) (den_ne0 q)) ?_ ?_ ?_
  · rw [Rat.intCast_mul, Rat.intCast_mul, ← num_den_mul p, ← num_den_mul q]
    have e1 : ((p.den : Int) : Rat) = ((p.den : Nat) : Rat) := rfl
    have e2 : ((q.den : Int) : Rat) = ((q.den : Nat) : Rat) := rfl
    rw [e1, e2]
    grind
  · rw [Int.natAbs_mul]; exact lt_pow_mul h1.1 h2.1
  · rw [Int.natAbs_mul]; exact lt_pow_mul h1.2 h2.2
theorem B.add {j k : Nat} {p q : Rat} (h1 : B j p) (h2 : B k q) : B (j + k + 1) (p + q) := by
  refine B.of (n := p.num * (q.den : Int) + q.num * (p.den : Int)) (d := (p.den : Int) * (q.den : Int)) (Int.mul_ne_zero (den_ne0 p) (den_ne0 q)) ?_ ?_ ?_
  · rw [Rat.intCast_add, Rat.intCast_mul, Rat.intCast_mul, Rat.intCast_mul, ← num_den_mul p, ← num_den_mul q]
    have e1 : ((p.den : Int) : Rat) = ((p.den : Nat) : Rat) := rfl
    have e2 : ((q.den : Int) : Rat) = ((q.den : Nat) : Rat) := rfl
    rw [e1, e2]
    grind
  · have a := lt_pow_mul h1.1 h2.2
    have b := lt_pow_mul h2.1 h1.2
    have c := Int.natAbs_add_le (p.num * (q.den : Int)) (q.num * (p.den : Int))
    rw [Int.natAbs_mul, Int.natAbs_mul, Int.natAbs_natCast, Int.natAbs_natCast] at c
    rw [Nat.add_comm k j] at b
    rw [Nat.pow_succ]
    omega
  · rw [Int.natAbs_mul]
    have := lt_pow_mul h1.2 h2.2
    rw [Nat.pow_succ]
    simp only [Int.natAbs_natCast]
    omega
theorem B.neg {k : Nat} {q : Rat} (h : B k q) : B k (-q) := by
  refine ⟨?_, ?_⟩
  · show (-q.num).natAbs < _; rw [Int.natAbs_neg]; exact h.1
  · show q.den < _; exact h.2
theorem B.zero {k : Nat} (h : 1 ≤ k) : B k 0 := (show B 1 0 from ⟨by decide, by decide⟩).mono h
theorem B.one {k : Nat} (h : 1 ≤ k) : B k 1 := (show B 1 1 from ⟨by decide, by decide⟩).mono h
theorem B.nat {k n : Nat} (h : n < 2 ^ k) (hk : 1 ≤ k) : B k (n : Rat) := by
  refine B.of (n := (n : Int)) (d := 1) (by decide) ?_ (by simpa using h) ?_
  · have e : ((1 : Int) : Rat) = 1 := rfl
    rw [e]
    have e2 : ((n : Int) : Rat) = (n : Rat) := rfl
    rw [e2]
    grind
  · exact Nat.lt_of_lt_of_le (by decide : 1 < 2 ^ 1) (Nat.pow_le_pow_right (by decide) hk)
theorem B.inv {k : Nat} {q : Rat} (h : B k q) : B k (1 / q) := by
  by_cases hq : q = 0
  · subst hq
    have e : (1 : Rat) / 0 = 0 := by grind
    rw [e]
    exact h
  · refine B.of (n := (q.den : Int)) (d := q.num) (fun z => hq (Rat.num_eq_zero.mp z)) ?_ (by simpa using h.2) h.1
    rw [← num_den_mul q]
    have e2 : ((q.den : Int) : Rat) = ((q.den : Nat) : Rat) := rfl
    rw [e2]
    grind
theorem B.div {j k : Nat} {p q : Rat} (h1 : B j p) (h2 : B k q) : B (j + k) (p / q) := by
  have e : p / q = p * (1 / q) := by grind
  rw [e]
  exact h1.mul h2.inv
/-- all coefficients -/
def BP (k : Nat) (p : List Rat) : Prop := ∀ i, B k (co p i)
theorem BP.szp {k : Nat} {p : List Rat} (h : BP k p) (hk : k ≤ 67000000) : SzP p := fun c hc => by
  obtain ⟨i, hi, e⟩ := List.getElem_of_mem hc
  have := h i
  rw [RK.co_getElem hi, e] at this
  exact this.sz hk
theorem BP.mono {j k : Nat} {p : List Rat} (h : BP j p) (hk : j ≤ k) : BP k p := fun i => (h i).mono hk
theorem BP.of {k : Nat} {p : List Rat} (h1 : 1 ≤ k) (h : ∀ c ∈ p, B k c) : BP k p := fun i => by
  by_cases hi : i < p.length
  · rw [RK.co_getElem hi]; exact h _ (List.getElem_mem hi)
  · rw [RK.co_of_le (by omega)]; exact B.zero h1
theorem BP.add {j k : Nat} {p q : List Rat} (h1 : BP j p) (h2 : BP k q) : BP (j + k + 1) (Kqg1.add p q) := fun i => by rw [RK.co_add]; exact (h1 i).add (h2 i)
theorem BP.scale {j k : Nat} {c : Rat} {p : List Rat} (h1 : B j c) (h2 : BP k p) : BP (j + k) (Kqg1.scale c p) := fun i => by rw [RK.co_scale]; exact h1.mul (h2 i)
theorem BP.deriv {k : Nat} {p : List Rat} (h : BP k p) (hl : p.length ≤ 100) : BP (7 + k) (Kqg1.derivative p) := fun i => by
  rw [RK.co_deriv]
  by_cases hi : i < 100
  · exact (B.nat (k := 7) (n := i + 1) (by have : (2 : Nat) ^ 7 = 128 := rfl; omega) (by decide)).mul (h _)
  · rw [RK.co_of_le (by omega)]
    have e : ((i + 1 : Nat) : Rat) * 0 = 0 := by grind
    rw [e]
    exact B.zero (by omega)
theorem psum_B {j k : Nat} {p q : List Rat} (h1 : BP j p) (h2 : BP k q) (t : Nat) : ∀ i, B ((i + 1) * (j + k + 2)) (psum p q t i)
  | 0 => B.zero (by omega)
  | i + 1 => by
    have ih := psum_B h1 h2 t i
    show B _ (psum p q t i + _)
    have hb : B (j + k + 1) (if i ≤ t then co p i * co q (t - i) else 0) := by
      split
      · exact ((h1 _).mul (h2 _)).mono (by omega)
      · exact B.zero (by omega)
    refine (ih.add hb).mono ?_
    rw [Nat.succ_mul (i + 1)]
    omega
theorem BP.szmul {j k n : Nat} {p q : List Rat} (h1 : BP j p) (h2 : BP k q) (hn : p.length ≤ n) (hs : (n + 1) * (j + k + 2) ≤ 67000000) : SzMul p q := by
  have hm : ∀ a, a ≤ n → (a + 1) * (j + k + 2) ≤ 67000000 := fun a ha => Nat.le_trans (Nat.mul_le_mul_right _ (by omega)) hs
  have h0 := hm 0 (by omega)
  exact ⟨h1.szp (by omega), h2.szp (by omega), fun i i' => ((h1 i).mul (h2 i')).sz (by omega), fun t i hi => (psum_B h1 h2 t i).sz (hm i (by omega))⟩
theorem BP.multiply {j k n : Nat} {p q : List Rat} (h1 : BP j p) (h2 : BP k q) (hn : p.length ≤ n) : BP ((n + 1) * (j + k + 2)) (Kqg1.multiply p q) := fun i => by
  rw [RK.co_multiply, ← psum_conv]
  exact (psum_B h1 h2 i p.length).mono (Nat.mul_le_mul_right _ (by omega))
theorem BP.line {c : Rat} (h : B 10 c) : BP 10 [-c, 1] := BP.of (by decide) fun x hx => by
  rcases List.mem_cons.mp hx with rfl | hx
  · exact h.neg
  · rcases List.mem_cons.mp hx with rfl | hx
    · exact B.one (by decide)
    · cases hx
theorem B.pow {k : Nat} {c : Rat} (h : B k c) : ∀ i, B (i * k + 1) (c ^ i)
  | 0 => by rw [Rat.pow_zero]; exact B.one (by omega)
  | i + 1 => by
    rw [Rat.pow_succ]
    refine ((h.pow i).mul h).mono ?_
    rw [Nat.succ_mul]
    omega
theorem mul_lenP (p q : List Rat) (h : p ≠ []) (h2 : q ≠ []) : (Kqg1.multiply p q).length ≤ p.length + q.length - 1 := by
  have := RK.length_trim_le ((List.range (p.length + q.length - 1)).map fun i => ((List.range (i + 1)).map fun j => Kqg1.coefficient p j * Kqg1.coefficient q (i - j)).foldl (fun x y => x + y) 0)
  simpa [Kqg1.multiply] using this
end RW
namespace RW
open RK (co Tr ld ev)
/-- a stored polynomial -/
structure Good (p : List Rat) : Prop where
  t : Tr p
  s : Kqg3.isSmall p = true
theorem good_len {p : List Rat} (g : Good p) : p.length ≤ 7 := by
  have h := g.s
  unfold Kqg3.isSmall at h
  exact of_decide_eq_true (Bool.and_eq_true_iff.mp h).1
theorem good_mem {p : List Rat} (g : Good p) : ∀ c ∈ p, c.num.natAbs ≤ 10 ^ 30 ∧ c.den ≤ 10 ^ 30 := fun c hc => by
  have h := g.s
  unfold Kqg3.isSmall at h
  have h2 := List.all_eq_true.mp (Bool.and_eq_true_iff.mp h).2 c hc
  obtain ⟨a, b⟩ := Bool.and_eq_true_iff.mp h2
  exact ⟨of_decide_eq_true a, of_decide_eq_true b⟩
theorem good_B {p : List Rat} (g : Good p) : BP 100 p := BP.of (by decide) fun c hc => by
  obtain ⟨a, b⟩ := good_mem g c hc
  have e : (10 : Nat) ^ 30 < 2 ^ 100 := by decide
  exact ⟨by omega, by omega⟩
theorem sz_p {p : List Rat} (g : Good p) : SzP p := (good_B g).szp (by omega)
/-- an argument -/
structure Arg (c : Rat) : Prop where
  n : c.num.natAbs ≤ 1000
  d : c.den ≤ 1000
theorem Arg.B {c : Rat} (h : Arg c) : B 10 c := by
  have e : (2 : Nat) ^ 10 = 1024 := rfl
  have h1 := h.n
  have h2 := h.d
  exact ⟨by omega, by omega⟩
def rfold (d : Nat) (l : List Int) : List Rat := l.foldl (fun (p : Kqg1.Poly) (x : Int) => Kqg1.multiply p [-((x : Rat) / (d : Rat)), 1]) [1]
theorem arg_div {d : Nat} {x : Int} (h1 : 1 ≤ d) (h2 : d ≤ 1000) (h3 : x.natAbs ≤ 1000) : B 10 ((x : Rat) / (d : Rat)) := by
  have e : (2 : Nat) ^ 10 = 1024 := rfl
  have hd : ((d : Int) : Rat) ≠ 0 := fun z => by have := Rat.intCast_eq_zero_iff.mp z; omega
  refine B.of (n := x) (d := (d : Int)) (by omega) ?_ (by omega) (by simp; omega)
  have e2 : ((d : Int) : Rat) = (d : Rat) := rfl
  rw [e2] at *
  exact Rat.div_mul_cancel hd
def rk : Nat → Nat
  | 0 => 1
  | i + 1 => (2 * i + 1 + 1) * (rk i + 10 + 2)
theorem rfold_snoc {d : Nat} {l : List Int} {i : Nat} {x : Int} (h : l[i]? = some x) : rfold d (l.take (i + 1)) = Kqg1.multiply (rfold d (l.take i)) [-((x : Rat) / (d : Rat)), 1] := by
  unfold rfold
  have e : l.take (i + 1) = l.take i ++ [x] := by
    rw [List.take_succ, h]
    rfl
  rw [e, List.foldl_append]
  rfl
theorem rfold_B {d : Nat} {l : List Int} (h1 : 1 ≤ d) (h2 : d ≤ 1000) (ha : ∀ x ∈ l, x.natAbs ≤ 1000) : ∀ i, i ≤ l.length → (rfold d (l.take i)).length ≤ 2 * i + 1 ∧ BP (rk i) (rfold d (l.take i))
  | 0, _ => by
    rw [List.take_zero]
    exact ⟨(by show 1 ≤ 1; omega), BP.of (by decide) fun c hc => by
      have : c = 1 := by simpa [rfold] using hc
      rw [this]
      exact B.one (by decide)⟩
  | i + 1, h => by
    have hx : l[i]? = some l[i] := List.getElem?_eq_getElem h
    obtain ⟨l1, b1⟩ := rfold_B h1 h2 ha i (by omega)
    rw [rfold_snoc hx]
    have hb := BP.line (arg_div h1 h2 (ha _ (List.getElem_mem h)))
    refine ⟨?_, b1.multiply hb l1⟩
    have := RK.length_trim_le ((List.range ((rfold d (l.take i)).length + [-((l[i] : Rat) / (d : Rat)), 1].length - 1)).map fun t => ((List.range (t + 1)).map fun j => Kqg1.coefficient (rfold d (l.take i)) j * Kqg1.coefficient [-((l[i] : Rat) / (d : Rat)), 1] (t - j)).foldl (fun x y => x + y) 0)
    have h3 : (Kqg1.multiply (rfold d (l.take i)) [-((l[i] : Rat) / (d : Rat)), 1]).length ≤ (rfold d (l.take i)).length + [-((l[i] : Rat) / (d : Rat)), 1].length - 1 := by simpa [Kqg1.multiply] using this
    simp only [List.length_cons, List.length_nil] at h3
    omega
theorem rk_le : ∀ i, i ≤ 6 → (2 * i + 1 + 1) * (rk i + 10 + 2) ≤ 67000000 := by decide
theorem sz_roots {d : Nat} {l : List Int} (h1 : 1 ≤ d) (h2 : d ≤ 1000) (hl : l.length ≤ 6) (ha : ∀ x ∈ l, x.natAbs ≤ 1000) (i : Nat) (x : Int) (hx : l[i]? = some x) : SzMul (rfold d (l.take i)) [-((x : Rat) / (d : Rat)), 1] := by
  have hi : i < l.length := by
    rcases Nat.lt_or_ge i l.length with h | h
    · exact h
    · rw [List.getElem?_eq_none h] at hx; cases hx
  obtain ⟨l1, b1⟩ := rfold_B h1 h2 ha i (by omega)
  exact b1.szmul (BP.line (arg_div h1 h2 (ha _ (List.mem_of_getElem? hx)))) l1 (rk_le i (by omega))
/-! ### shifting -/
def sk : Nat → Nat
  | 0 => 1
  | i + 1 => 100 + (i + 1) * (sk i + 10 + 2) + 1
theorem shf_cons (c a : Rat) (l : List Rat) : shf c (a :: l) = Kqg1.add [a] (Kqg1.multiply [-c, 1] (shf c l)) := rfl
theorem mulc (p q : List Rat) : Kqg1.multiply p q = Kqg1.multiply q p := mul_comm' p q
theorem shf_B {c : Rat} (a : B 10 c) : ∀ l : List Rat, (∀ x ∈ l, B 100 x) → (shf c l).length ≤ l.length ∧ BP (sk l.length) (shf c l)
  | [], _ => ⟨Nat.le_refl _, fun i => by
      have e : co (shf c []) i = 0 := RK.co_nil i
      rw [e]; exact B.zero (by decide)⟩
  | x :: l, h => by
    obtain ⟨l1, b1⟩ := shf_B a l fun y hy => h y (List.mem_cons_of_mem _ hy)
    rw [shf_cons]
    have e := mulc [-c, 1] (shf c l)
    rw [e]
    constructor
    · have h1 := add_len [x] (Kqg1.multiply (shf c l) [-c, 1])
      have := RK.length_trim_le ((List.range ((shf c l).length + [-c, 1].length - 1)).map fun t => ((List.range (t + 1)).map fun j => Kqg1.coefficient (shf c l) j * Kqg1.coefficient [-c, 1] (t - j)).foldl (fun x y => x + y) 0)
      have h3 : (Kqg1.multiply (shf c l) [-c, 1]).length ≤ (shf c l).length + [-c, 1].length - 1 := by simpa [Kqg1.multiply] using this
      simp only [List.length_cons, List.length_nil] at h1 h3 ⊢
      omega
    · have hx : BP 100 [x] := BP.of (by decide) fun y hy => by
        have : y = x := by simpa using hy
        rw [this]; exact h x (List.mem_cons_self ..)
      exact hx.add (b1.multiply (BP.line a) l1)
theorem sk_mono : ∀ i, i ≤ 7 → (i + 1) * (sk i + 10 + 2) ≤ 67000000 := by decide
theorem sz_shift {p : List Rat} {c : Rat} (g : Good p) (a : Arg c) : SzShf c p := by
  have hl := good_len g
  have hb : ∀ i, (shf c (p.drop i)).length ≤ (p.drop i).length ∧ BP (sk (p.drop i).length) (shf c (p.drop i)) := fun i => shf_B a.B _ fun x hx => by
    obtain ⟨h1, h2⟩ := good_mem g x (List.mem_of_mem_drop hx)
    have e : (10 : Nat) ^ 30 < 2 ^ 100 := by decide
    exact ⟨by omega, by omega⟩
  have hd : ∀ i, (p.drop i).length ≤ 7 := fun i => by rw [List.length_drop]; omega
  refine ⟨sz_p g, fun i => (hb i).2.szmul (BP.line a.B) (hb i).1 (sk_mono _ (hd i)), fun i => ?_⟩
  exact ((hb i).2.multiply (BP.line a.B) (hb i).1).szp (sk_mono _ (hd i))
theorem sz_pow {c : Rat} (a : Arg c) (i : Nat) (h : i ≤ 100) : Sz (c ^ i) := (a.B.pow i).sz (by omega)
theorem sz_sub {p : List Rat} {c : Rat} (g : Good p) (a : Arg c) : Sz c ∧ SzP (Kqg1.derivative p) ∧ SzP (Kqg1.scale c (Kqg1.derivative p)) := by
  have hd := (good_B g).deriv (by have := good_len g; omega)
  exact ⟨a.B.sz (by omega), hd.szp (by omega), (BP.scale a.B hd).szp (by omega)⟩
theorem sz_polar {p : List Rat} {c : Rat} (g : Good p) (a : Arg c) : SzMul [-c, 1] (Kqg1.derivative p) ∧ SzP (Kqg1.scale ((Kqg1.degree p : Nat) : Rat) p) ∧ SzP (Kqg1.multiply [-c, 1] (Kqg1.derivative p)) := by
  have hl := good_len g
  have hd := (good_B g).deriv (by omega)
  have hn : B 7 ((Kqg1.degree p : Nat) : Rat) := B.nat (by have : (2 : Nat) ^ 7 = 128 := rfl; unfold Kqg1.degree; omega) (by decide)
  exact ⟨(BP.line a.B).szmul hd (n := 2) (by simp) (by omega), (BP.scale hn (good_B g)).szp (by omega), ((BP.line a.B).multiply hd (n := 2) (by simp)).szp (by omega)⟩
theorem mult_B (w k : Nat) (h : k ≤ 12) : B 200 (Kqg3.multiplier w k) := by
  have hk : k < 2 ^ 8 := by have : (2 : Nat) ^ 8 = 256 := rfl; omega
  have hkk : k * k < 2 ^ 8 := by
    have : (2 : Nat) ^ 8 = 256 := rfl
    have := Nat.mul_le_mul h h
    omega
  unfold Kqg3.multiplier
  split
  · exact (B.nat hk (by decide)).mono (by decide)
  · exact (B.nat (k := 8) (by have : (2 : Nat) ^ 8 = 256 := rfl; omega) (by decide)).mono (by decide)
  · exact (B.nat (k := 60) (by have := fact_le k h; have : (2 : Nat) ^ 60 = 1152921504606846976 := rfl; omega) (by decide)).inv.mono (by decide)
  · refine (B.nat (k := 160) ?_ (by decide)).inv.mono (by decide)
    exact Nat.pow_lt_pow_right (by decide) (by have := Nat.mul_le_mul h h; omega)
  · refine (B.nat (k := 8) ?_ (by decide)).mono (by decide)
    exact Nat.lt_of_le_of_lt (Nat.mul_le_mul_left k (Nat.sub_le k 1)) hkk
  · exact (B.nat hkk (by decide)).mono (by decide)
theorem sz_mult (w k : Nat) (h : k ≤ 12) : Sz (Kqg3.multiplier w k) := (mult_B w k h).sz (by omega)
theorem BP.wt {p q w : List Rat} (a : BP 100 p) (b : BP 100 q) (c : BP 100 w) : SzWt p q w := ⟨a.szp (by omega), b.szp (by omega), c.szp (by omega), fun i => ((a i).mul (b i)).sz (by omega)⟩
theorem fact_B {n : Nat} (h : n ≤ 12) : B 60 ((Kqg3.factorial n : Nat) : Rat) := B.nat (by have := fact_le n h; have : (2 : Nat) ^ 60 = 1152921504606846976 := rfl; omega) (by decide)
theorem binom_le : ∀ n, n ≤ 6 → ∀ k, k ≤ n → Kqg3.binomial n k < 2 ^ 60 := by decide
theorem sz_szego {p q : List Rat} (g : Good p) (k : Good q) (n : Nat) (h : n ≤ 6) : SzWt p q (wSzego n) := by
  refine BP.wt (good_B g) (good_B k) (BP.of (by decide) fun c hc => ?_)
  obtain ⟨i, hi, rfl⟩ := List.mem_map.mp hc
  have hi' := List.mem_range.mp hi
  exact (B.nat (binom_le n h i (by omega)) (by decide)).inv.mono (by decide)
theorem sz_schur {p q : List Rat} (g : Good p) (k : Good q) (n : Nat) (h : n ≤ 7) : SzWt p q (wSchur n) := by
  refine BP.wt (good_B g) (good_B k) (BP.of (by decide) fun c hc => ?_)
  obtain ⟨i, hi, rfl⟩ := List.mem_map.mp hc
  have hi' := List.mem_range.mp hi
  exact (fact_B (by omega)).mono (by decide)
theorem sz_hada {p q : List Rat} (g : Good p) (k : Good q) (n : Nat) : SzWt p q (wOne n) := by
  refine BP.wt (good_B g) (good_B k) (BP.of (by decide) fun c hc => ?_)
  rw [List.eq_of_mem_replicate hc]
  exact B.one (by decide)
theorem iter_B {p : List Rat} (h : BP 100 p) (hl : p.length ≤ 7) (m : Nat) (hm : m ≤ 7) : BP 300 (Kqg3.iteratedDerivative m p) := fun i => by
  by_cases hi : i < 7
  · have e := co_iter m p i
    have h1 := fact_pos i
    have h0 : ((Kqg3.factorial i : Nat) : Rat) ≠ 0 := fun z => by have := Rat.natCast_eq_zero_iff.mp z; omega
    by_cases him : i + m ≤ 12
    · have e2 : co (Kqg3.iteratedDerivative m p) i = co p (i + m) * ((Kqg3.factorial (i + m) : Nat) : Rat) * (1 / ((Kqg3.factorial i : Nat) : Rat)) := by
        rw [← e]; grind
      rw [e2]
      exact (((h _).mul (fact_B him)).mul (fact_B (n := i) (by omega)).inv).mono (by decide)
    · have e3 : co p (i + m) = 0 := RK.co_of_le (by omega)
      rw [e3] at e
      have e2 : co (Kqg3.iteratedDerivative m p) i = 0 := by grind
      rw [e2]
      exact B.zero (by decide)
  · have := iter_len m p
    rw [RK.co_of_le (by omega)]
    exact B.zero (by decide)
theorem sz_free {p q : List Rat} (g : Good p) (k : Good q) (n : Nat) (h : n ≤ 6) : SzFree n p q := by
  have gl := good_len g
  have hd : ∀ m, m ≤ 12 → B 200 (d0 q m) := fun m hm => ((good_B k m).mul (fact_B hm)).mono (by decide)
  have hi : ∀ m, m ≤ n + 1 → BP 300 (Kqg3.iteratedDerivative m p) := fun m hm => iter_B (good_B g) gl m (by omega)
  have hs : ∀ m, m ≤ n + 1 → BP (600 * m + 1) (fsum n p q m) := by
    intro m
    induction m with
    | zero => exact fun _ i => by rw [show co (fsum n p q 0) i = 0 from RK.co_nil i]; exact B.zero (by decide)
    | succ m ih =>
      intro hm
      rw [fsum_succ]
      exact ((ih (by omega)).add (BP.scale (hd (n - m) (by omega)) (hi m (by omega)))).mono (by omega)
  exact ⟨sz_p k, fun m hm => (hd m (by omega)).sz (by omega), fun m hm => (hi m hm).szp (by omega), fun m hm => (hs m hm).szp (by omega), fun m hm => (BP.scale (hd (n - m) (by omega)) (hi m (by omega))).szp (by omega), (fact_B (by omega)).inv.sz (by omega)⟩
theorem sz_mean {p : List Rat} (g : Good p) (np : p ≠ []) : SzMean p := by
  have gl := good_len g
  have hb := good_B g
  have hld : B 100 (ld p) := by
    have e : ld p = co p (p.length - 1) := RK.Tr.lead np
    rw [e]; exact hb _
  have hs : ∀ o, B 300 (symS p o) := fun o => by
    unfold symS
    split
    · exact B.zero (by decide)
    · split
      · exact ((hb _).div hld).neg.mono (by decide)
      · exact ((hb _).div hld).mono (by decide)
  have hn : B 10 (1 / ((p.length - 1 : Nat) : Rat)) := (B.nat (by have : (2 : Nat) ^ 10 = 1024 := rfl; omega) (by decide)).inv
  have hm : B 1000 (Kqg3.mean p) := by
    by_cases h : p.length - 1 = 0
    · have e : Kqg3.mean p = 0 := by
        unfold Kqg3.mean
        show (if Kqg1.degree p = 0 then _ else _) = _
        exact if_pos h
      rw [e]; exact B.zero (by decide)
    · rw [← mean_eq np h]
      exact ((hs 1).mul hn).mono (by decide)
  have h2 : B 10 (2 : Rat) := ⟨by decide, by decide⟩
  have hx : B 2000 (symS p 1 * symS p 1 - 2 * symS p 2) := by
    rw [Rat.sub_eq_add_neg]
    exact (((hs 1).mul (hs 1)).add (h2.mul (hs 2)).neg).mono (by decide)
  exact ⟨sz_p g, hn.sz (by omega), (hs 1).sz (by omega), (hs 2).sz (by omega), ((hs 1).mul (hs 1)).sz (by omega), (h2.mul (hs 2)).sz (by omega), hm.sz (by omega), hx.sz (by omega), (hx.mul hn).sz (by omega), (hm.mul hm).sz (by omega)⟩
end RW
namespace RW
open RK (co Tr ld ev)
theorem two_pow_ge (x : Int) (h : 0 ≤ x) : x ≤ 2 ^ x.toNat := by
  have h1 : x.toNat < 2 ^ x.toNat := Nat.lt_two_pow_self
  have h2 : ((2 ^ x.toNat : Nat) : Int) = (2 : Int) ^ x.toNat := by rw [Int.natCast_pow]; rfl
  omega
theorem cdn_step (f : Nat) (d : Nat) (hd : 0 < d) : f ∣ f * (d / Nat.gcd f d) ∧ d ∣ f * (d / Nat.gcd f d) := by
  refine ⟨Nat.dvd_mul_right _ _, ?_⟩
  have e : f * (d / Nat.gcd f d) = Nat.lcm f d := by
    rw [← Nat.mul_div_assoc _ (Nat.gcd_dvd_right f d)]
    rfl
  rw [e]
  exact Nat.dvd_lcm_right f d
theorem cdn_mono : ∀ (f : Nat) (p : List Rat), f ∣ cdn f p
  | f, [] => Nat.dvd_refl _
  | f, q :: p => Nat.dvd_trans (Nat.dvd_mul_right _ _) (cdn_mono _ p)
theorem cdn_dvd : ∀ (f : Nat) (p : List Rat) (q : Rat), q ∈ p → q.den ∣ cdn f p
  | f, r :: p, q, h => by
    rcases List.mem_cons.mp h with rfl | h
    · exact Nat.dvd_trans (cdn_step f q.den (Nat.pos_of_ne_zero q.den_nz)).2 (cdn_mono _ p)
    · exact cdn_dvd _ p q h
theorem bnd_nn (ns : List Int) : 0 ≤ bndI ns := by
  unfold bndI
  have h : ∀ (l : List Int) (m : Int), 0 ≤ m → 0 ≤ l.foldl (fun m n => maxI m (absI n)) m := by
    intro l
    induction l with
    | nil => intro m h; exact h
    | cons a l ih =>
      intro m h
      refine ih _ ?_
      show 0 ≤ maxI m (absI a)
      unfold maxI absI
      split <;> split <;> omega
  have h1 := h ns 0 (Int.le_refl 0)
  have h2 : 0 ≤ absI (lastI ns) := by unfold absI; split <;> omega
  have := Int.ediv_nonneg h1 h2
  omega
/-! ### a polynomial over one denominator -/
def okD (Np Dp Nq Dq T : Nat) : Bool := Nat.ble (Np + T * (Nq + 1) + Nq + Dq) 67000000 && Nat.ble (Dp + T * Nq + Dq) 67000000
def chkE (K : Nat → Nat → Nat → Bool) : Nat → Nat → Nat → Nat → Nat → Nat → Nat → Bool
  | 0, _, _, _, _, _, _ => false
  | n + 1, Lp, Lq, Np, Dp, Nq, Dq => if Lq = 0 then K Lp Np Dp else
    okD Np Dp Nq Dq (Lp + 1 - Lq) && (List.range Lq).all fun L' => chkE K n Lq L' Nq Dq (Np + (Lp + 1 - Lq) * (Nq + 1)) (Dp + (Lp + 1 - Lq) * Nq)
def chkC : Nat → Nat → Nat → Nat → Nat → Nat → Nat → Bool
  | 0, _, Lq, _, _, _, _ => Nat.beq Lq 0
  | n + 1, Lp, Lq, Np, Dp, Nq, Dq => if Lq = 0 then true else
    (Nat.ble Nq 20000000 && Nat.ble Dq 20000000) && okD Np Dp Nq Dq (Lp + 1 - Lq) && (List.range Lq).all fun L' => chkC n Lq L' Nq Dq (Np + (Lp + 1 - Lq) * (Nq + 1)) (Dp + (Lp + 1 - Lq) * Nq)
def chkS (Ls Ns Ds : Nat) : Bool := Nat.ble Ns 2000000 && Nat.ble Ds 2000000 && (List.range Ls).all fun L' => chkC Ls Ls L' Ns Ds (Ns + 3) Ds
def chkK (Lp Np Dp : Nat) (Lg Ng Dg : Nat) : Bool := okD Np Dp Ng Dg (Lp + 1 - Lg) && Nat.ble Lg Lp && (if Lg = 1 then chkS Lp (Np + Dg) (Dp + Ng) else chkS (Lp + 1 - Lg) (Np + (Lp + 1 - Lg) * (Ng + 1) + Dg) (Dp + (Lp + 1 - Lg) * Ng))
def chk (Lp Np Dp : Nat) : Bool := (List.range Lp).all fun L' => chkE (chkK Lp Np Dp) (L' + 1) Lp L' Np Dp (Np + 3) Dp
theorem chk_all : ∀ L, L ≤ 7 → chk L (100 * L + 1) (100 * L + 1) = true := by decide +kernel
def Cm (N D : Nat) (p : List Rat) : Prop := ∃ (e : Int) (f : Nat → Int), e ≠ 0 ∧ e.natAbs < 2 ^ D ∧ ∀ i, co p i * (e : Rat) = (f i : Rat) ∧ (f i).natAbs < 2 ^ N
theorem Cm.congr {N D : Nat} {p q : List Rat} (h : Cm N D p) (e : ∀ i, co q i = co p i) : Cm N D q := by
  obtain ⟨a, f, h1, h2, h3⟩ := h
  exact ⟨a, f, h1, h2, fun i => by rw [e]; exact h3 i⟩
theorem Cm.B {N D k : Nat} {p : List Rat} (h : Cm N D p) (h1 : N ≤ k) (h2 : D ≤ k) : BP k p := fun i => by
  obtain ⟨a, f, a1, a2, a3⟩ := h
  exact B.of a1 (a3 i).1 (Nat.lt_of_lt_of_le (a3 i).2 (Nat.pow_le_pow_right (by decide) h1)) (Nat.lt_of_lt_of_le a2 (Nat.pow_le_pow_right (by decide) h2))
theorem Cm.nil {N D : Nat} (h : 1 ≤ D) : Cm N D [] := ⟨1, fun _ => 0, by decide, Nat.lt_of_lt_of_le (by decide : (1 : Int).natAbs < 2 ^ 1) (Nat.pow_le_pow_right (by decide) h), fun i => ⟨by
  rw [RK.co_nil]
  have e : ((0 : Int) : Rat) = 0 := rfl
  rw [e]; grind, Nat.pow_pos (by decide)⟩⟩
theorem Cm.cons {k N : Nat} {c : Rat} {p : List Rat} (hc : RW.B k c) (h : Cm N N p) : Cm (k + N) (k + N) (c :: p) := by
  obtain ⟨e, f, h1, h2, h3⟩ := h
  refine ⟨(c.den : Int) * e, fun i => match i with | 0 => c.num * e | i + 1 => (c.den : Int) * f i, Int.mul_ne_zero (den_ne0 c) h1, ?_, fun i => ?_⟩
  · rw [Int.natAbs_mul]; exact lt_pow_mul hc.2 h2
  · cases i with
    | zero =>
      refine ⟨?_, ?_⟩
      · rw [RK.co_zero]
        show c * _ = ((c.num * e : Int) : Rat)
        rw [Rat.intCast_mul, Rat.intCast_mul, ← num_den_mul c]
        have e1 : ((c.den : Int) : Rat) = ((c.den : Nat) : Rat) := rfl
        rw [e1]; grind
      · show (c.num * e).natAbs < _
        rw [Int.natAbs_mul]; exact lt_pow_mul hc.1 h2
    | succ i =>
      refine ⟨?_, ?_⟩
      · rw [RK.co_succ]
        show _ = (((c.den : Int) * f i : Int) : Rat)
        rw [Rat.intCast_mul, Rat.intCast_mul, ← (h3 i).1]
        grind
      · show ((c.den : Int) * f i).natAbs < _
        rw [Int.natAbs_mul]; exact lt_pow_mul hc.2 (h3 i).2
theorem Cm.all {k : Nat} : ∀ p : List Rat, (∀ c ∈ p, RW.B k c) → Cm (k * p.length + 1) (k * p.length + 1) p
  | [], _ => Cm.nil (by omega)
  | c :: p, h => by
    have := Cm.cons (h c (List.mem_cons_self ..)) (Cm.all p fun x hx => h x (List.mem_cons_of_mem _ hx))
    have e : k + (k * p.length + 1) = k * (c :: p).length + 1 := by
      rw [List.length_cons, Nat.mul_succ]
      omega
    rw [e] at this
    exact this
theorem Cm.deriv {N D : Nat} {p : List Rat} (h : Cm N D p) (hl : p.length ≤ 8) : Cm (N + 3) D (Kqg1.derivative p) := by
  obtain ⟨e, f, h1, h2, h3⟩ := h
  refine ⟨e, fun i => if i < 7 then ((i + 1 : Nat) : Int) * f (i + 1) else 0, h1, h2, fun i => ?_⟩
  rw [RK.co_deriv]
  dsimp only
  by_cases hi : i < 7
  · rw [if_pos hi]
    refine ⟨?_, ?_⟩
    · rw [Rat.intCast_mul, ← (h3 (i + 1)).1]
      have e1 : (((i + 1 : Nat) : Int) : Rat) = ((i + 1 : Nat) : Rat) := rfl
      rw [e1]; grind
    · rw [Int.natAbs_mul, Nat.mul_comm, Int.natAbs_natCast]
      exact lt_pow_mul (h3 (i + 1)).2 (by have : (2 : Nat) ^ 3 = 8 := rfl; omega)
  · rw [if_neg hi, RK.co_of_le (by omega)]
    refine ⟨?_, Nat.pow_pos (by decide)⟩
    have e1 : ((0 : Int) : Rat) = 0 := rfl
    rw [e1]; grind
theorem Cm.neg {N D : Nat} {p : List Rat} (h : Cm N D p) : Cm N D (Kqg1.scale (-1) p) := by
  obtain ⟨e, f, h1, h2, h3⟩ := h
  refine ⟨e, fun i => - f i, h1, h2, fun i => ⟨?_, ?_⟩⟩
  · rw [RK.co_scale, Rat.intCast_neg, ← (h3 i).1]; grind
  · rw [Int.natAbs_neg]; exact (h3 i).2
end RW
namespace RW
open RK (co Tr ld ev)
theorem dvs_Cm {p d : List Rat} {N M : Nat} {e g : Int} {f h : Nat → Int} {E : Int} (td : Tr d) (hd : d ≠ [])
    (hp : ∀ i, co p i * (e : Rat) = (f i : Rat) ∧ (f i).natAbs < 2 ^ N) (hE : E ≠ 0) (hq : ∀ i, co d i * (E : Rat) = (h i : Rat) ∧ (h i).natAbs < 2 ^ M) (hg : g = h (d.length - 1)) :
    ∀ t, t ≤ dn p d → ∃ r : Nat → Int, ∀ i, co (dvs p d t).1 i * ((e * g ^ t : Int) : Rat) = (r i : Rat) ∧ (r i).natAbs < 2 ^ (N + t * (M + 1))
  | 0, _ => ⟨f, fun i => by
      refine ⟨?_, by simpa using (hp i).2⟩
      show co p i * _ = _
      rw [Int.pow_zero, Int.mul_one]
      exact (hp i).1⟩
  | t + 1, ht => by
    obtain ⟨r, hr⟩ := dvs_Cm td hd hp hE hq hg t (by omega)
    have d0 : 0 < d.length := List.length_pos_iff.mpr hd
    obtain ⟨l1, l2⟩ := dvs_length p d t
    unfold dn at ht
    have hl0 : ld d ≠ 0 := RK.Tr.lead_ne td hd
    have hle : ld d * (E : Rat) = (g : Rat) := by
      have e1 : ld d = co d (d.length - 1) := RK.Tr.lead hd
      rw [e1, hg]
      exact (hq _).1
    have hgM : g.natAbs < 2 ^ M := by rw [hg]; exact (hq _).2
    have e2 : e * g ^ (t + 1) = e * g ^ t * g := by rw [Int.pow_succ, Int.mul_assoc]
    have e3 : N + (t + 1) * (M + 1) = N + t * (M + 1) + M + 1 := by rw [Nat.succ_mul]; omega
    generalize hk : p.length - d.length - t = k at *
    refine ⟨fun i => if k ≤ i ∧ i < k + d.length then r i * g - r (k + d.length - 1) * h (i - k) else r i * g, fun i => ?_⟩
    dsimp only
    have ed : (dvs p d (t + 1)).1 = dstep (dvs p d t).1 d k (dfac (dvs p d t).1 d k) d.length := by rw [dvs, hk]
    rw [ed, co_dstep _ _ _ _ _ (by omega), e2, e3]
    have hr := hr
    generalize e * g ^ t = X at *
    have b1 : (r i * g).natAbs < 2 ^ (N + t * (M + 1) + M) := by rw [Int.natAbs_mul]; exact lt_pow_mul (hr i).2 hgM
    by_cases c : k ≤ i ∧ i < k + d.length
    · rw [if_pos c, if_pos c]
      constructor
      · have q1 := (hr i).1
        have q2 := (hr (k + d.length - 1)).1
        have q3 := (hq (i - k)).1
        unfold dfac
        rw [Rat.intCast_mul X g, Rat.intCast_sub, Rat.intCast_mul (r i) g, Rat.intCast_mul (r _) (h _), ← q1, ← q2, ← q3, ← hle]
        generalize (X : Rat) = X
        have : co (dvs p d t).1 (k + d.length - 1) = co (dvs p d t).1 (k + d.length - 1) / ld d * ld d := (Rat.div_mul_cancel hl0).symm
        generalize co (dvs p d t).1 (k + d.length - 1) / ld d = z at *
        rw [this]
        grind
      · have b2 : (r (k + d.length - 1) * h (i - k)).natAbs < 2 ^ (N + t * (M + 1) + M) := by rw [Int.natAbs_mul]; exact lt_pow_mul (hr _).2 (hq _).2
        have := Int.natAbs_sub_le (r i * g) (r (k + d.length - 1) * h (i - k))
        rw [Nat.pow_succ]
        omega
    · rw [if_neg c, if_neg c]
      constructor
      · rw [Rat.intCast_mul X g, Rat.intCast_mul (r i) g, ← (hr i).1]
        grind
      · rw [Nat.pow_succ]
        omega
theorem ne_lead {d : List Rat} {E : Int} {h : Nat → Int} (td : Tr d) (hd : d ≠ []) (hE : E ≠ 0) (hq : ∀ i, co d i * (E : Rat) = (h i : Rat)) : h (d.length - 1) ≠ 0 := by
  intro z
  have hl0 : ld d ≠ 0 := RK.Tr.lead_ne td hd
  have e1 : ld d = co d (d.length - 1) := RK.Tr.lead hd
  have h1 := hq (d.length - 1)
  rw [z, ← e1] at h1
  have hE0 : (E : Rat) ≠ 0 := fun z => hE (Rat.intCast_eq_zero_iff.mp z)
  have e0 : ((0 : Int) : Rat) = 0 := rfl
  rw [e0] at h1
  rcases Rat.mul_eq_zero.mp h1 with w | w
  · exact hl0 w
  · exact hE0 w
theorem pow_abs {g : Int} {M : Nat} (h : g.natAbs < 2 ^ M) : ∀ t, (g ^ t).natAbs ≤ 2 ^ (t * M)
  | 0 => by rw [Int.pow_zero]; simp
  | t + 1 => by
    have ih := pow_abs h t
    rw [Int.pow_succ, Int.natAbs_mul, Nat.succ_mul, Nat.pow_add]
    exact Nat.mul_le_mul ih (by omega)
theorem lt_pow_mul' {a b j k : Nat} (h1 : a < 2 ^ j) (h2 : b ≤ 2 ^ k) : a * b < 2 ^ (j + k) := by
  rw [Nat.pow_add]
  have p2 : 0 < 2 ^ k := Nat.pow_pos (by decide)
  exact Nat.lt_of_le_of_lt (Nat.mul_le_mul_left a h2) (Nat.mul_lt_mul_of_pos_right h1 p2)
theorem okD_ok {Np Dp Nq Dq T : Nat} (h : okD Np Dp Nq Dq T = true) : Np + T * (Nq + 1) + Nq + Dq ≤ 67000000 ∧ Dp + T * Nq + Dq ≤ 67000000 := by
  unfold okD at h
  obtain ⟨a, b⟩ := Bool.and_eq_true_iff.mp h
  exact ⟨Nat.le_of_ble_eq_true a, Nat.le_of_ble_eq_true b⟩
theorem dvs_snd (p d : List Rat) : ∀ t, (dvs p d t).2 = (List.range t).map (dfc p d)
  | 0 => rfl
  | t + 1 => by
    rw [dvs, dvs_snd p d t, List.range_succ, List.map_append]
    rfl
theorem co_rev (T : Nat) (f : Nat → Rat) (i : Nat) : co ((List.range T).map f).reverse i = if i < T then f (T - 1 - i) else 0 := by
  by_cases h : i < T
  · rw [if_pos h, RK.co_getElem (by rw [List.length_reverse, List.length_map, List.length_range]; exact h), List.getElem_reverse]
    simp
  · rw [if_neg h, RK.co_of_le]
    rw [List.length_reverse, List.length_map, List.length_range]
    omega
theorem div_sz {p d : List Rat} {Np Dp Nd Dd : Nat} (tp : Tr p) (td : Tr d) (hd : d ≠ []) (hp : Cm Np Dp p) (hq : Cm Nd Dd d) (ok : okD Np Dp Nd Dd (dn p d) = true) :
    SzDiv p d ∧ Cm (Np + dn p d * (Nd + 1)) (Dp + dn p d * Nd) (Kqg1.remainder p d) ∧ Cm (Np + dn p d * (Nd + 1) + Dd) (Dp + dn p d * Nd) (Kqg1.quotient p d) := by
  obtain ⟨ok1, ok2⟩ := okD_ok ok
  have hq' := hq
  obtain ⟨e, f, e0, eD, hf⟩ := hp
  obtain ⟨E, h, E0, ED, hh⟩ := hq
  generalize hT : dn p d = T at *
  have st := dvs_Cm td hd hf E0 hh rfl
  rw [hT] at st
  have g0 := ne_lead td hd E0 fun i => (hh i).1
  have gM : (h (d.length - 1)).natAbs < 2 ^ Nd := (hh _).2
  generalize hg : h (d.length - 1) = g at *
  have d0 : 0 < d.length := List.length_pos_iff.mpr hd
  have hle : ld d * (E : Rat) = (g : Rat) := by
    have e1 : ld d = co d (d.length - 1) := RK.Tr.lead hd
    rw [e1, ← hg]
    exact (hh _).1
  have hl0 : ld d ≠ 0 := RK.Tr.lead_ne td hd
  have den : ∀ t, t ≤ T → e * g ^ t ≠ 0 ∧ (e * g ^ t).natAbs < 2 ^ (Dp + T * Nd) := fun t ht => by
    refine ⟨Int.mul_ne_zero e0 (Int.pow_ne_zero g0), ?_⟩
    rw [Int.natAbs_mul]
    exact Nat.lt_of_lt_of_le (lt_pow_mul' eD (pow_abs gM t)) (Nat.pow_le_pow_right (by decide) (by have := Nat.mul_le_mul_right Nd ht; omega))
  have mono : ∀ t, t ≤ T → Np + t * (Nd + 1) ≤ Np + T * (Nd + 1) := fun t ht => by have := Nat.mul_le_mul_right (Nd + 1) ht; omega
  -- a factor over the next denominator
  have fac : ∀ t, t < T → ∃ m : Int, dfc p d t * ((e * g ^ (t + 1) : Int) : Rat) = ((m * E : Int) : Rat) ∧ m.natAbs < 2 ^ (Np + t * (Nd + 1)) := fun t ht => by
    obtain ⟨r, hr⟩ := st t (by omega)
    refine ⟨r (p.length - d.length - t + d.length - 1), ?_, (hr _).2⟩
    have e2 : e * g ^ (t + 1) = e * g ^ t * g := by rw [Int.pow_succ, Int.mul_assoc]
    rw [e2]
    have hr := hr
    generalize e * g ^ t = X at *
    rw [Rat.intCast_mul X g, Rat.intCast_mul (r _) E, ← (hr _).1, ← hle]
    unfold dfc dfac
    generalize (X : Rat) = X
    have : co (dvs p d t).1 (p.length - d.length - t + d.length - 1) = co (dvs p d t).1 (p.length - d.length - t + d.length - 1) / ld d * ld d := (Rat.div_mul_cancel hl0).symm
    generalize co (dvs p d t).1 (p.length - d.length - t + d.length - 1) / ld d = z at *
    rw [this]
    grind
  have big : ∀ {a b : Nat}, a ≤ b → 2 ^ a ≤ 2 ^ b := fun h => Nat.pow_le_pow_right (by decide) h
  refine ⟨⟨?_, ?_, ?_, ?_⟩, ?_, ?_⟩
  · exact (hq'.B (k := Nd + Dd) (by omega) (by omega)).szp (by omega)
  · intro t ht
    rw [hT] at ht
    obtain ⟨r, hr⟩ := st t (by omega)
    obtain ⟨dn1, dn2⟩ := den t (by omega)
    have hm := mono t (by omega)
    refine BP.szp (k := 67000000) (fun i => B.of dn1 (hr i).1 ?_ ?_) (Nat.le_refl _)
    · exact Nat.lt_of_lt_of_le (hr i).2 (big (by omega))
    · exact Nat.lt_of_lt_of_le dn2 (big (by omega))
  · intro t ht
    rw [hT] at ht
    obtain ⟨m, m1, m2⟩ := fac t ht
    obtain ⟨dn1, dn2⟩ := den (t + 1) (by omega)
    have hm := mono t (by omega)
    refine (B.of (k := 67000000) dn1 m1 ?_ ?_).sz (Nat.le_refl _)
    · rw [Int.natAbs_mul]; exact Nat.lt_of_lt_of_le (lt_pow_mul m2 ED) (big (by omega))
    · exact Nat.lt_of_lt_of_le dn2 (big (by omega))
  · intro t ht j
    rw [hT] at ht
    obtain ⟨m, m1, m2⟩ := fac t ht
    obtain ⟨dn1, dn2⟩ := den (t + 1) (by omega)
    have hm := mono t (by omega)
    refine (B.of (k := 67000000) (n := m * h j) dn1 ?_ ?_ ?_).sz (Nat.le_refl _)
    · rw [Rat.intCast_mul m (h j), ← (hh j).1]
      rw [Rat.intCast_mul m E] at m1
      generalize ((e * g ^ (t + 1) : Int) : Rat) = X at *
      grind
    · rw [Int.natAbs_mul]; exact Nat.lt_of_lt_of_le (lt_pow_mul m2 (hh j).2) (big (by omega))
    · exact Nat.lt_of_lt_of_le dn2 (big (by omega))
  · have hdv := (dvs_div tp td hd).2
    rw [hT] at hdv
    obtain ⟨r, hr⟩ := st T (Nat.le_refl _)
    obtain ⟨dn1, dn2⟩ := den T (Nat.le_refl _)
    exact ⟨_, r, dn1, dn2, fun i => by rw [← hdv, RK.co_trim]; exact hr i⟩
  · have hdv := (dvs_div tp td hd).1
    rw [hT] at hdv
    obtain ⟨dn1, dn2⟩ := den T (Nat.le_refl _)
    have ex : ∀ i, ∃ n : Int, co (Kqg1.quotient p d) i * ((e * g ^ T : Int) : Rat) = (n : Rat) ∧ n.natAbs < 2 ^ (Np + T * (Nd + 1) + Dd) := fun i => by
      rw [← hdv, RK.co_trim, dvs_snd, co_rev]
      by_cases hi : i < T
      · rw [if_pos hi]
        obtain ⟨m, m1, m2⟩ := fac (T - 1 - i) (by omega)
        refine ⟨m * E * g ^ i, ?_, ?_⟩
        · have e2 : e * g ^ T = e * g ^ (T - 1 - i + 1) * g ^ i := by
            rw [Int.mul_assoc, ← Int.pow_add]
            congr 2
            omega
          rw [e2, Rat.intCast_mul (e * g ^ (T - 1 - i + 1)) (g ^ i), Rat.intCast_mul (m * E) (g ^ i), ← m1]
          grind
        · rw [Int.natAbs_mul, Int.natAbs_mul]
          refine Nat.lt_of_lt_of_le (lt_pow_mul' (lt_pow_mul m2 ED) (pow_abs gM i)) (big ?_)
          have e4 : (T - 1 - i) * (Nd + 1) + i * (Nd + 1) ≤ T * (Nd + 1) := by
            rw [← Nat.add_mul]
            exact Nat.mul_le_mul_right _ (by omega)
          have e5 : i * Nd ≤ i * (Nd + 1) := Nat.mul_le_mul_left _ (by omega)
          omega
      · rw [if_neg hi]
        refine ⟨0, ?_, Nat.pow_pos (by decide)⟩
        have e0 : ((0 : Int) : Rat) = 0 := rfl
        rw [e0]; grind
    exact ⟨_, fun i => (ex i).choose, dn1, dn2, fun i => (ex i).choose_spec⟩
end RW
namespace RW
open RK (co Tr ld ev chS nx chn Part)
theorem all_range {n : Nat} {f : Nat → Bool} (h : (List.range n).all f = true) {i : Nat} (hi : i < n) : f i = true := List.all_eq_true.mp h i (List.mem_range.mpr hi)
theorem dn_eq (p d : List Rat) : dn p d = p.length + 1 - d.length := rfl
theorem len_ne {p : List Rat} (h : p ≠ []) : ¬ p.length = 0 := fun z => h (List.length_eq_zero_iff.mp z)
theorem chkE_ok (K : Nat → Nat → Nat → Bool) : ∀ (n : Nat) (p q : List Rat) (Np Dp Nq Dq : Nat), Tr p → Tr q → Cm Np Dp p → Cm Nq Dq q → chkE K n p.length q.length Np Dp Nq Dq = true →
    SzEuc n p q ∧ ∃ Ng Dg, K (Kqg1.euclid n p q).length Ng Dg = true ∧ Cm Ng Dg (Kqg1.euclid n p q)
  | 0, p, q, Np, Dp, Nq, Dq, tp, tq, hp, hq, h => by cases h
  | n + 1, p, q, Np, Dp, Nq, Dq, tp, tq, hp, hq, h => by
    rw [chkE] at h
    by_cases hn : q = []
    · subst hn
      rw [if_pos (show ([] : List Rat).length = 0 from rfl)] at h
      refine ⟨.inl rfl, Np, Dp, ?_⟩
      rw [Kqg1.euclid, if_pos rfl]
      exact ⟨h, hp⟩
    · rw [if_neg (len_ne hn)] at h
      obtain ⟨h1, h2⟩ := Bool.and_eq_true_iff.mp h
      obtain ⟨a, b, _⟩ := div_sz tp tq hn hp hq h1
      have hl := RK.rem_length tp tq hn
      obtain ⟨c1, Ng, Dg, c2, c3⟩ := chkE_ok K n q (Kqg1.remainder p q) _ _ _ _ tq (RK.Tr.remainder tp tq hn) hq b (all_range h2 hl)
      refine ⟨.inr ⟨a, c1⟩, Ng, Dg, ?_⟩
      rw [Kqg1.euclid, if_neg hn]
      exact ⟨c2, c3⟩
/-! ### the common denominator divides -/
theorem den_dvd {q : Rat} {n d : Int} (hd : d ≠ 0) (e : q * (d : Rat) = (n : Rat)) : q.den ∣ d.natAbs := by
  have e2 := num_den_mul q
  have hd0 : ((q.den : Nat) : Rat) ≠ 0 := by
    intro z; exact q.den_nz (Rat.natCast_eq_zero_iff.mp z)
  have e3 : (q.num : Rat) * (d : Rat) = (n : Rat) * ((q.den : Nat) : Rat) := by
    generalize ((q.den : Nat) : Rat) = b at *
    grind
  have e4 : q.num * d = n * (q.den : Int) := by
    have : ((q.num * d : Int) : Rat) = ((n * (q.den : Int) : Int) : Rat) := by
      rw [Rat.intCast_mul, Rat.intCast_mul]; exact e3
    exact Rat.intCast_inj.mp this
  have e5 : q.num.natAbs * d.natAbs = n.natAbs * q.den := by
    have := congrArg Int.natAbs e4
    rw [Int.natAbs_mul, Int.natAbs_mul] at this
    simpa using this
  exact Nat.Coprime.dvd_of_dvd_mul_left q.reduced.symm ⟨n.natAbs, by rw [e5, Nat.mul_comm]⟩
theorem cdn_of_dvd {M : Nat} : ∀ (f : Nat) (p : List Rat), f ∣ M → (∀ q ∈ p, q.den ∣ M) → cdn f p ∣ M
  | f, [], h, _ => h
  | f, q :: p, h, hp => by
    refine cdn_of_dvd _ p ?_ fun r hr => hp r (List.mem_cons_of_mem _ hr)
    have e : f * (q.den / Nat.gcd f q.den) = Nat.lcm f q.den := by
      rw [← Nat.mul_div_assoc _ (Nat.gcd_dvd_right f q.den)]
      rfl
    rw [e]
    exact Nat.lcm_dvd h (hp q (List.mem_cons_self ..))
theorem Cm.dvd {N D : Nat} {p : List Rat} (h : Cm N D p) : ∃ (e : Int) (f : Nat → Int), e ≠ 0 ∧ e.natAbs < 2 ^ D ∧ (∀ i, co p i * (e : Rat) = (f i : Rat) ∧ (f i).natAbs < 2 ^ N) ∧ ∀ i, cdn 1 (p.take i) ∣ e.natAbs := by
  obtain ⟨e, f, h1, h2, h3⟩ := h
  refine ⟨e, f, h1, h2, h3, fun i => cdn_of_dvd 1 _ (Nat.one_dvd _) fun q hq => ?_⟩
  obtain ⟨j, hj, ej⟩ := List.getElem_of_mem (List.mem_of_mem_take hq)
  have := h3 j
  rw [RK.co_getElem hj, ej] at this
  exact den_dvd h1 this.1
theorem Cm.szcd {N D k : Nat} {p : List Rat} (h : Cm N D p) (h1 : N ≤ k) (h2 : D ≤ k) (hk : k ≤ 67000000) : SzCd k 1 p := by
  have hb := h.B h1 h2
  obtain ⟨e, f, e0, eD, hf, dv⟩ := h.dvd
  have mem : ∀ q ∈ p, RW.B k q := fun q hq => by
    obtain ⟨j, hj, ej⟩ := List.getElem_of_mem hq
    have := hb j
    rw [RK.co_getElem hj, ej] at this
    exact this
  refine ⟨hk, fun i => ?_, fun q hq => (mem q hq).2, fun q hq => (mem q hq).1⟩
  have := Nat.le_of_dvd (by omega) (dv i)
  exact Nat.lt_of_le_of_lt this (Nat.lt_of_lt_of_le eD (Nat.pow_le_pow_right (by decide) h2))
theorem wnum_cast0 (p : List Rat) {q : Rat} (hq : q ∈ p) : ((q.num * ((cdn 1 p / q.den : Nat) : Int) : Int) : Rat) = q * ((cdn 1 p : Nat) : Rat) := by
  obtain ⟨k, hk⟩ := cdn_dvd 1 p q hq
  have hd : 0 < q.den := Nat.pos_of_ne_zero q.den_nz
  have e1 : cdn 1 p / q.den = k := by rw [hk]; exact Nat.mul_div_cancel_left k hd
  rw [e1, Rat.intCast_mul, ← num_den_mul q]
  have e3 : ((cdn 1 p : Nat) : Rat) = ((q.den : Nat) : Rat) * ((k : Nat) : Rat) := by rw [hk, Rat.natCast_mul]
  rw [e3]
  have e4 : (((k : Nat) : Int) : Rat) = ((k : Nat) : Rat) := rfl
  rw [e4]
  grind
theorem Cm.wnum {N D : Nat} {p : List Rat} (h : Cm N D p) : ∀ n ∈ wnum p, n.natAbs < 2 ^ N := by
  intro n hn
  obtain ⟨q, hq, rfl⟩ := List.mem_map.mp hn
  obtain ⟨e, f, e0, eD, hf, dv⟩ := h.dvd
  have dv1 : cdn 1 p ∣ e.natAbs := by
    have := dv p.length
    rwa [List.take_length] at this
  obtain ⟨z, hz⟩ := Int.ofNat_dvd_left.mpr dv1
  have ec := wnum_cast0 p hq
  generalize q.num * ((cdn 1 p / q.den : Nat) : Int) = m at *
  obtain ⟨j, hj, ej⟩ := List.getElem_of_mem hq
  have hj2 := hf j
  rw [RK.co_getElem hj, ej] at hj2
  have z0 : z ≠ 0 := fun w => e0 (by rw [hz, w, Int.mul_zero])
  have e5 : m * z = f j := by
    have : ((m * z : Int) : Rat) = (f j : Rat) := by
      rw [Rat.intCast_mul, ec, ← hj2.1, hz, Rat.intCast_mul]
      have e4 : (((cdn 1 p : Nat) : Int) : Rat) = ((cdn 1 p : Nat) : Rat) := rfl
      rw [e4]; grind
    exact Rat.intCast_inj.mp this
  have e6 := congrArg Int.natAbs e5
  rw [Int.natAbs_mul] at e6
  have : m.natAbs * 1 ≤ m.natAbs * z.natAbs := Nat.mul_le_mul_left _ (by omega)
  omega
/-! ### the chain -/
theorem tailc_nil (m : Nat) (b : List Rat) : tailc m b [] = [] := by unfold tailc; rw [if_pos rfl]
theorem chkC_ok : ∀ (n : Nat) (p q : List Rat) (Np Dp Nq Dq : Nat), Tr p → Tr q → Cm Np Dp p → Cm Nq Dq q → chkC n p.length q.length Np Dp Nq Dq = true →
    SzCh n p q ∧ ∀ f ∈ tailc n p q, Cm 20000000 20000000 f ∧ f.length ≤ q.length
  | 0, p, q, Np, Dp, Nq, Dq, tp, tq, hp, hq, h => by
    have : q.length = 0 := Nat.eq_of_beq_eq_true h
    have hn : q = [] := List.length_eq_zero_iff.mp this
    subst hn
    exact ⟨rfl, fun f hf => by rw [tailc_nil] at hf; cases hf⟩
  | n + 1, p, q, Np, Dp, Nq, Dq, tp, tq, hp, hq, h => by
    rw [chkC] at h
    by_cases hn : q = []
    · subst hn
      exact ⟨.inl rfl, fun f hf => by rw [tailc_nil] at hf; cases hf⟩
    · rw [if_neg (len_ne hn)] at h
      obtain ⟨h1, h2⟩ := Bool.and_eq_true_iff.mp h
      obtain ⟨h0, h1⟩ := Bool.and_eq_true_iff.mp h1
      obtain ⟨n1, n2⟩ := Bool.and_eq_true_iff.mp h0
      have n1 := Nat.le_of_ble_eq_true n1
      have n2 := Nat.le_of_ble_eq_true n2
      obtain ⟨a, b, _⟩ := div_sz tp tq hn hp hq h1
      have hl := RK.nx_length tp tq hn
      obtain ⟨c1, c2⟩ := chkC_ok n q (nx p q) _ _ _ _ tq (RK.Tr.scale _ _) hq b.neg (all_range h2 hl)
      refine ⟨.inr ⟨⟨20000000, hq.szcd n1 n2 (by omega)⟩, a, c1⟩, fun f hf => ?_⟩
      rw [tailc_succ n p q hn] at hf
      rcases List.mem_cons.mp hf with rfl | hf
      · obtain ⟨e, g, g1, g2, g3⟩ := hq
        exact ⟨⟨e, g, g1, Nat.lt_of_lt_of_le g2 (Nat.pow_le_pow_right (by decide) n2), fun i => ⟨(g3 i).1, Nat.lt_of_lt_of_le (g3 i).2 (Nat.pow_le_pow_right (by decide) n1)⟩⟩, Nat.le_refl _⟩
      · exact ⟨(c2 f hf).1, Nat.le_trans (c2 f hf).2 (Nat.le_of_lt hl)⟩
end RW
namespace RW
open RK (co Tr ld ev chS nx chn Part)
theorem Cm.mono {N D N' D' : Nat} {p : List Rat} (h : Cm N D p) (h1 : N ≤ N') (h2 : D ≤ D') : Cm N' D' p := by
  obtain ⟨e, g, g1, g2, g3⟩ := h
  exact ⟨e, g, g1, Nat.lt_of_lt_of_le g2 (Nat.pow_le_pow_right (by decide) h2), fun i => ⟨(g3 i).1, Nat.lt_of_lt_of_le (g3 i).2 (Nat.pow_le_pow_right (by decide) h1)⟩⟩
/-- the quotient by a constant -/
theorem Cm.const {Np Dp Ng Dg : Nat} {p g s : List Rat} (tg : Tr g) (hg : g.length = 1) (hp : Cm Np Dp p) (hq : Cm Ng Dg g) (e : ∀ t, ev p t = ev g t * ev s t) : Cm (Np + Dg) (Dp + Ng) s := by
  obtain ⟨c, rfl⟩ : ∃ c, g = [c] := by
    cases g with
    | nil => cases hg
    | cons c r =>
      cases r with
      | nil => exact ⟨c, rfl⟩
      | cons _ _ => simp at hg
  have hc : ∀ i, co p i = c * co s i := fun i => by
    rw [← RK.co_scale]
    refine RK.co_of_ev (fun t => ?_) i
    rw [RK.ev_scale, e, RK.ev_cons, RK.ev_nil]
    grind
  obtain ⟨a, f, a0, aD, hf⟩ := hp
  obtain ⟨b, h, b0, bD, hh⟩ := hq
  have hh0 := hh 0
  rw [RK.co_zero] at hh0
  have h00 : h 0 ≠ 0 := ne_lead tg (List.cons_ne_nil _ _) b0 fun i => (hh i).1
  refine ⟨a * h 0, fun i => f i * b, Int.mul_ne_zero a0 h00, ?_, fun i => ⟨?_, ?_⟩⟩
  · rw [Int.natAbs_mul]; exact lt_pow_mul aD hh0.2
  · rw [Rat.intCast_mul a (h 0), Rat.intCast_mul (f i) b, ← hh0.1, ← (hf i).1, hc]
    grind
  · rw [Int.natAbs_mul]; exact lt_pow_mul (hf i).2 bD
structure AllSz (p : List Rat) : Prop where
  c : SzChain p
  h : Cm 2000000 2000000 (sE p)
  m : ∀ f ∈ chS (sE p), Cm 20000000 20000000 f ∧ f.length ≤ 7
  n : sE p ≠ []
  t : Tr (sE p)
theorem all_sz {p : List Rat} (g : Good p) (np : p ≠ []) : AllSz p := by
  have hl := good_len g
  have tp := g.t
  have p0 : 0 < p.length := List.length_pos_iff.mpr np
  have hp : Cm (100 * p.length + 1) (100 * p.length + 1) p := Cm.all p fun c hc => by
    obtain ⟨a, b⟩ := good_mem g c hc
    have e : (10 : Nat) ^ 30 < 2 ^ 100 := by decide
    exact ⟨by omega, by omega⟩
  have dl := RK.deriv_length p
  have ck := chk_all p.length hl
  unfold chk at ck
  have ck2 := all_range ck (i := (Kqg1.derivative p).length) (by omega)
  obtain ⟨eu, Ng, Dg, kk, cg⟩ := chkE_ok _ _ p (Kqg1.derivative p) _ _ _ _ tp (RK.Tr.deriv p) hp (hp.deriv (by omega)) ck2
  obtain ⟨i1, i2, i3, i4, u, v, i5⟩ := RK.euclid_ok ((Kqg1.derivative p).length + 1) p (Kqg1.derivative p) tp (RK.Tr.deriv p) (.inl np) (by omega)
  have pt : Part p (gE p) (sE p) := RK.Part.of tp np i1 i2 i3 i4 ⟨u, v, i5⟩
  have ns := pt.ns
  have ts := pt.ts
  have lens := pt.lengths.1
  have g0 : 0 < (gE p).length := List.length_pos_iff.mpr pt.ng
  have s0 : 0 < (sE p).length := List.length_pos_iff.mpr ns
  have kk : chkK p.length (100 * p.length + 1) (100 * p.length + 1) (gE p).length Ng Dg = true := kk
  have cg : Cm Ng Dg (gE p) := cg
  unfold chkK at kk
  obtain ⟨k1, k3⟩ := Bool.and_eq_true_iff.mp kk
  obtain ⟨k1, _⟩ := Bool.and_eq_true_iff.mp k1
  obtain ⟨d1, _, d3⟩ := div_sz tp pt.tg pt.ng hp cg k1
  have fin : ∃ Ns Ds, Cm Ns Ds (sE p) ∧ chkS (sE p).length Ns Ds = true := by
    by_cases h1 : (gE p).length = 1
    · rw [if_pos h1] at k3
      refine ⟨_, _, Cm.const pt.tg h1 hp cg pt.mul, ?_⟩
      have e : (sE p).length = p.length := by omega
      rw [e]
      exact k3
    · rw [if_neg h1] at k3
      refine ⟨_, _, d3, ?_⟩
      have e : (sE p).length = p.length + 1 - (gE p).length := by omega
      rw [e]
      exact k3
  obtain ⟨Ns, Ds, cs, ks⟩ := fin
  unfold chkS at ks
  obtain ⟨ks, kc⟩ := Bool.and_eq_true_iff.mp ks
  obtain ⟨b1, b2⟩ := Bool.and_eq_true_iff.mp ks
  have b1 := Nat.le_of_ble_eq_true b1
  have b2 := Nat.le_of_ble_eq_true b2
  have sdl := RK.deriv_length (sE p)
  obtain ⟨c1, c2⟩ := chkC_ok _ (sE p) (Kqg1.derivative (sE p)) _ _ _ _ ts (RK.Tr.deriv _) cs (cs.deriv (by omega)) (all_range kc (i := (Kqg1.derivative (sE p)).length) (by omega))
  refine ⟨⟨⟨sz_p g, eu, d1⟩, (cs.B (k := 2000000) b1 b2).szp (by omega), ⟨2000000, cs.szcd b1 b2 (by omega)⟩, c1⟩, cs.mono b1 b2, fun f hf => ?_, ns, ts⟩
  rw [chS_tail] at hf
  rcases List.mem_cons.mp hf with rfl | hf
  · exact ⟨cs.mono (by omega) (by omega), by omega⟩
  · exact ⟨(c2 f hf).1, by have := (c2 f hf).2; omega⟩
theorem sz_chain {p : List Rat} (g : Good p) (np : p ≠ []) : SzChain p := (all_sz g np).c
/-! ### values -/
theorem head_chS {p : List Rat} : headI (chainI p) = wnum (sE p) := by
  unfold chainI
  rw [chS_tail]
  rfl
theorem bnd_lt {ns : List Int} {N : Nat} (h : ∀ n ∈ ns, n.natAbs < 2 ^ N) : (bndI ns).natAbs < 2 ^ (N + 2) := by
  have h1 : ∀ (l : List Int) (m : Int), (∀ n ∈ l, n.natAbs < 2 ^ N) → 0 ≤ m → m.natAbs < 2 ^ N → 0 ≤ l.foldl (fun m n => maxI m (absI n)) m ∧ (l.foldl (fun m n => maxI m (absI n)) m).natAbs < 2 ^ N := by
    intro l
    induction l with
    | nil => exact fun m _ h0 hm => ⟨h0, hm⟩
    | cons a l ih =>
      intro m hl h0 hm
      have ha := hl a (List.mem_cons_self ..)
      refine ih _ (fun n hn => hl n (List.mem_cons_of_mem _ hn)) ?_ ?_
      · show 0 ≤ maxI m (absI a)
        unfold maxI absI
        split <;> split <;> omega
      · show (maxI m (absI a)).natAbs < 2 ^ N
        unfold maxI absI
        split <;> split <;> omega
  have hp : 0 < 2 ^ N := Nat.pow_pos (by decide)
  obtain ⟨a, b⟩ := h1 ns 0 h (Int.le_refl _) (by simpa using hp)
  unfold bndI
  generalize ns.foldl (fun m n => maxI m (absI n)) 0 = X at *
  have hL : 0 ≤ absI (lastI ns) := by unfold absI; split <;> omega
  generalize absI (lastI ns) = L at *
  have q1 := Int.ediv_nonneg a hL
  have q2 : X / L ≤ X := Int.ediv_le_self _ a
  rw [Nat.pow_add]
  have : (2 : Nat) ^ 2 = 4 := rfl
  omega
theorem fold_bits {ns : List Int} {m : Int} {k N M : Nat} (hn : ∀ n ∈ ns, n.natAbs < 2 ^ N) (hm : m.natAbs < 2 ^ M) (hk : k ≤ 30) (l7 : ns.length ≤ 7) : ∀ i, i ≤ ns.length →
    ((ns.reverse.take i).foldl (vstep m k) (0, 1)).1.natAbs < 2 ^ (N + 300 + i * (M + 10)) ∧ ((ns.reverse.take i).foldl (vstep m k) (0, 1)).2 = 2 ^ (k * i)
  | 0, _ => by
    rw [List.take_zero]
    exact ⟨Nat.pow_pos (by decide), rfl⟩
  | i + 1, h => by
    obtain ⟨a, b⟩ := fold_bits hn hm hk l7 i (by omega)
    have hi : i < ns.reverse.length := by rw [List.length_reverse]; omega
    have hx : ns.reverse[i]? = some ns.reverse[i] := List.getElem?_eq_getElem hi
    rw [foldl_take_succ (vstep m k) (0, 1) hx]
    have hb : (ns.reverse[i]).natAbs < 2 ^ N := hn _ (List.mem_reverse.mp (List.getElem_mem hi))
    generalize (ns.reverse.take i).foldl (vstep m k) (0, 1) = s at *
    generalize ns.reverse[i] = n at *
    refine ⟨?_, ?_⟩
    · show (s.1 * m + n * s.2).natAbs < _
      have c1 : (s.1 * m).natAbs < 2 ^ (N + 300 + i * (M + 10) + M) := by rw [Int.natAbs_mul]; exact lt_pow_mul a hm
      have hki : k * i ≤ 30 * 7 := Nat.mul_le_mul hk (by omega)
      have c2 : (n * s.2).natAbs < 2 ^ (N + 300 + i * (M + 10) + M) := by
        rw [Int.natAbs_mul, b]
        have e : ((2 : Int) ^ (k * i)).natAbs = 2 ^ (k * i) := by rw [Int.natAbs_pow]; rfl
        rw [e]
        exact Nat.lt_of_lt_of_le (lt_pow_mul' hb (Nat.le_refl _)) (Nat.pow_le_pow_right (by decide) (by omega))
      have c3 := Int.natAbs_add_le (s.1 * m) (n * s.2)
      have e : N + 300 + (i + 1) * (M + 10) = N + 300 + i * (M + 10) + M + 1 + 9 := by rw [Nat.succ_mul]; omega
      rw [e]
      refine Nat.lt_of_lt_of_le (m := 2 ^ (N + 300 + i * (M + 10) + M + 1)) ?_ (Nat.pow_le_pow_right (by decide) (by omega))
      rw [Nat.pow_succ]
      omega
    · show s.2 * 2 ^ k = _
      rw [b, ← Int.pow_add, Nat.mul_succ]
theorem szv_of {ns : List Int} {m : Int} {k N M : Nat} (hn : ∀ n ∈ ns, n.natAbs < 2 ^ N) (hm : m.natAbs < 2 ^ M) (hk : k ≤ 30) (l7 : ns.length ≤ 7) (hs : N + 300 + 8 * (M + 10) ≤ 134000000) : SzV ns m k := by
  have st := fold_bits hn hm hk l7
  have pw : ∀ i, i ≤ ns.length → ((ns.reverse.take i).foldl (vstep m k) (0, 1)).2.natAbs < 2 ^ 211 := fun i hi => by
    rw [(st i hi).2, Int.natAbs_pow]
    exact Nat.pow_lt_pow_right (by decide) (by have := Nat.mul_le_mul hk (show i ≤ 7 by omega); omega)
  refine ⟨fun i hi => ⟨_, M, (st i (by omega)).1, hm, ?_⟩, fun i n hx => ?_, fun i hi => ⟨by omega, ?_⟩⟩
  · have := Nat.mul_le_mul_right (M + 10) (show i ≤ 7 by omega)
    omega
  · have hi : i < ns.reverse.length := by
      rcases Nat.lt_or_ge i ns.reverse.length with h | h
      · exact h
      · rw [List.getElem?_eq_none h] at hx; cases hx
    rw [List.length_reverse] at hi
    exact ⟨N, 211, hn n (List.mem_reverse.mp (List.mem_of_getElem? hx)), pw i (by omega), by omega⟩
  · have := PyProof.Rows.intBits_le (pw i (by omega))
    have e : (2 : Int) ^ 27 = 134217728 := rfl
    rw [e]
    omega
theorem sz_vals {p : List Rat} (g : Good p) (np : p ≠ []) (m : Int) (k : Nat) (hk : k ≤ 30) (h1 : -(bndI (headI (chainI p)) * 2 ^ k) ≤ m) (h2 : m ≤ bndI (headI (chainI p)) * 2 ^ k) : SzVs (chainI p) m k := by
  have A := all_sz g np
  intro ns hns
  obtain ⟨f, hf, rfl⟩ := List.mem_map.mp hns
  obtain ⟨c, l7⟩ := A.m f hf
  have bb := bnd_lt A.h.wnum
  rw [head_chS] at h1 h2
  generalize bndI (wnum (sE p)) = b at *
  refine szv_of (N := 20000000) (M := 2000040) c.wnum ?_ hk (by unfold wnum; rw [List.length_map]; exact l7) (by omega)
  have e : ((b * 2 ^ k : Int)).natAbs ≤ 2 ^ (2000000 + 2 + 30) := by
    rw [Int.natAbs_mul, Int.natAbs_pow, Nat.pow_add]
    exact Nat.mul_le_mul (Nat.le_of_lt bb) (Nat.pow_le_pow_right (by decide) hk)
  refine Nat.lt_of_le_of_lt (m := (b * 2 ^ k).natAbs) ?_ (Nat.lt_of_le_of_lt e (Nat.pow_lt_pow_right (by decide) (by decide)))
  generalize b * 2 ^ k = z at *
  omega
theorem sz_bound {p : List Rat} (g : Good p) (np : p ≠ []) (k : Nat) (hk : k ≤ 30) : L2.CShl (bndI (headI (chainI p))) (k : Int) ∧ ∃ n : Nat, 2 * (bndI (headI (chainI p)) * 2 ^ k) ≤ 2 ^ n := by
  have A := all_sz g np
  have bb := bnd_lt A.h.wnum
  rw [head_chS]
  have := PyProof.Rows.intBits_le bb
  refine ⟨⟨by omega, ?_⟩, (2 * (bndI (wnum (sE p)) * 2 ^ k)).toNat, ?_⟩
  · have e : (2 : Int) ^ 27 = 134217728 := rfl
    rw [e]
    omega
  · refine two_pow_ge _ ?_
    have h1 := bnd_nn (wnum (sE p))
    have h2 : (0 : Int) ≤ 2 ^ k := Int.le_of_lt (Int.pow_pos (by decide))
    have := Int.mul_nonneg h1 h2
    omega
end RW
namespace RW
open PySem PySem.Spec PyProof.Rows L2 C8
open RK (co Tr ld ev)
/-- the class, its attributes -/
structure ClsT (K : PySem.W.Frag) (C : Addr) : Prop where
  cl : Cls K C
  nR : NoAttr K C "is_ready"
  nS : NoAttr K C "slots"
def KF (r : Bool) (l : Addr) : List (Str × V) := [("is_ready", .bl r), ("slots", .ref l)]
theorem KF_r (r : Bool) (l : Addr) : (KF r l).lookup ("is_ready" : Str) = some (.bl r) := rfl
theorem KF_s (r : Bool) (l : Addr) : (KF r l).lookup ("slots" : Str) = some (.ref l) := rfl
theorem KF_putR (r b : Bool) (l : Addr) : putF "is_ready" (.bl b) (KF r l) = KF b l := rfl
theorem KF_putS (r : Bool) (l m : Addr) : putF "slots" (.ref m) (KF r l) = KF r m := rfl
theorem KF_new (b : Bool) (m : Addr) : putF "slots" (.ref m) (putF "is_ready" (.bl b) []) = KF b m := rfl
abbrev St4 := Option (List (List Rat))
/-- the polynomial in a slot: its list is none of the object's own -/
def Sl (K : PySem.W.Frag) (Z : Addr → Prop) (l : Addr) (H : Hp) (v : V) (p : List Rat) : Prop := ∃ b, v = .ref b ∧ (b ≠ l ∧ ¬ Z b) ∧ Po K H (.ref b) p
theorem sqL_updI {K : PySem.W.Frag} {H : Hp} {x a C dx : Addr} {fs : List (Str × V)} {o : HO} {zs : List V} (hx : H x = some (.ins C dx fs)) (h : SqL K H a zs) : SqL K (upd H x o) a zs := by
  rcases h with h | h
  · rcases h with h | ⟨u, h⟩
    · exact .inl (.inl (by rw [upd_ne (ne_of h hx (by intro z; cases z))]; exact h))
    · exact .inl (.inr ⟨u, by rw [upd_ne (ne_of h hx (by intro z; cases z))]; exact h⟩)
  · exact .inr h
theorem sqT_updI {K : PySem.W.Frag} {H : Hp} {x a C dx : Addr} {fs : List (Str × V)} {o : HO} {zs : List V} (hx : H x = some (.ins C dx fs)) (h : SqT K H a zs) : SqT K (upd H x o) a zs := by
  rcases h with h | h
  · rcases h with h | ⟨u, h⟩
    · exact .inl (.inl (by rw [upd_ne (ne_of h hx (by intro z; cases z))]; exact h))
    · exact .inl (.inr ⟨u, by rw [upd_ne (ne_of h hx (by intro z; cases z))]; exact h⟩)
  · exact .inr h
theorem Sl.updI {K : PySem.W.Frag} {Z : Addr → Prop} {H : Hp} {x l C dx : Addr} {fs : List (Str × V)} {o : HO} {v : V} {p : List Rat} (hx : H x = some (.ins C dx fs)) (h : Sl K Z l H v p) : Sl K Z l (upd H x o) v p := by
  obtain ⟨b, e, n, b2, ws, e2, hs, pr⟩ := h
  exact ⟨b, e, n, b2, ws, e2, sqL_updI hx hs, Paired.mapP pr fun v q ⟨t, e, ht⟩ => ⟨t, e, sqT_updI hx ht⟩⟩
/-- the object -/
structure KAt (K : PySem.W.Frag) (C : Addr) (Z : Addr → Prop) (H : Hp) (a l : Addr) (st : St4) : Prop where
  o : ∃ dx, H a = some (.ins C dx (KF st.isSome l))
  s : ∃ vs, H l = some (.lst vs) ∧ Paired (Sl K Z l H) vs (st.getD [])
  z : ∀ b, Z b → H b ≠ none
/-- what stands but for the object and its list -/
def Kp (a l : Addr) (H H' : Hp) : Prop := ∀ b o, H b = some o → b ≠ a → b ≠ l → H' b = some o
theorem Kp.of {a l : Addr} {H H' : Hp} (s : Same H H') : Kp a l H H' := fun b o e _ _ => s b o e
theorem Kp.trans {a l : Addr} {H H1 H2 : Hp} (s : Kp a l H H1) (t : Kp a l H1 H2) : Kp a l H H2 := fun b o e n m => t b o (s b o e n m) n m
theorem Sl.same {K : PySem.W.Frag} {Z : Addr → Prop} {l : Addr} {H H' : Hp} {v : V} {p : List Rat} (s : Same H H') (h : Sl K Z l H v p) : Sl K Z l H' v p := let ⟨b, e, n, q⟩ := h; ⟨b, e, n, q.same s⟩
theorem Sl.stab {K : PySem.W.Frag} {Z : Addr → Prop} {l : Addr} : Stab (Sl K Z l) l where
  same := fun _ _ _ _ s h => h.same s
  upd := fun H xs ys v x hl ⟨b, e, n, q⟩ => ⟨b, e, n, Po.upd hl n.1 q⟩
theorem KAt.same {K : PySem.W.Frag} {Z : Addr → Prop} {C : Addr} {H H' : Hp} {a l : Addr} {st : St4} (h : KAt K C Z H a l st) (s : Same H H') : KAt K C Z H' a l st :=
  ⟨let ⟨dx, e⟩ := h.o; ⟨dx, s _ _ e⟩, let ⟨vs, e, p⟩ := h.s; ⟨vs, s _ _ e, Paired.mapP p fun _ _ q => q.same s⟩, fun b z n => h.z b z (s.free n)⟩
/-- an operation's end: the state, the answer in a new list -/
def Out (K : PySem.W.Frag) (C : Addr) (Z : Addr → Prop) (a l : Addr) (st : St4) (ans : List Int) (H : Hp) (Q : VK) : Prop :=
  ∀ (H' : Hp) (b l' : Addr), Kp a l H H' → KAt K C Z H' a l' st → (l' = l ∨ Nw H H' l') → Nw H H' b → b ≠ l' → H' b = some (.lst (ans.map V.int)) → Q (.ref b) H'
theorem Nw.afterK {a l : Addr} {H0 H H' : Hp} {b : Addr} {oa ol : HO} (s : Kp a l H0 H) (ha : H a = some oa) (hl : H l = some ol) (n : Nw H H' b) : Nw H0 H' b := by
  refine ⟨?_, n.there⟩
  cases e : H0 b with
  | none => rfl
  | some o =>
    by_cases h1 : b = a
    · have := n.free; rw [h1, ha] at this; cases this
    by_cases h2 : b = l
    · have := n.free; rw [h2, hl] at this; cases this
    have := s b o e h1 h2
    rw [n.free] at this
    cases this
/-- an operation behind what changed nothing -/
theorem Out.after {K : PySem.W.Frag} {Z : Addr → Prop} {C a l : Addr} {st : St4} {ans : List Int} {H H1 : Hp} {Q : VK} (s : Same H H1) (h : Out K C Z a l st ans H Q) : Out K C Z a l st ans H1 Q :=
  fun H' b l' k ka hl nb ne hb => h H' b l' (Kp.trans (Kp.of s) k) ka (hl.elim .inl fun n => .inr (n.after s)) (nb.after s) ne hb
/-- an answer of a new written list, the state as it was -/
theorem Out.lay {K : PySem.W.Frag} {Z : Addr → Prop} {C a l : Addr} {st : St4} {ans : List Int} {H : Hp} {Q : VK} (h : Out K C Z a l st ans H Q) (k : KAt K C Z H a l st) : ∀ b, H b = none → Q (.ref b) (upd H b (.lst (ans.map V.int))) := fun b hb => by
  have s : Same H (upd H b (.lst (ans.map V.int))) := same_lay hb
  obtain ⟨vs, hl, _⟩ := k.s
  exact h _ b l (Kp.of s) (k.same s) (.inl rfl) (Nw.lay hb) (fun e => by rw [e, hl] at hb; cases hb) upd_same
def showI (p : List Rat) : List Int := (p.length : Int) :: p.flatMap Kqg1.fraction
def storeS (ps : List (List Rat)) (i : Nat) (p : List Rat) : St4 × List Int := if storeB p then (some (ps.set i p), showI p) else (some ps, [-75])
section
variable {P : Program} {w : World} {K : PySem.W.Frag} {mg : Str → Option Value} {base : Heap} {C : Addr}
def S_shown (K : PySem.W.Frag) (a : V) (H : Hp) (Q : VK) : Prop := ∃ p : List Rat, Po K H a p ∧ p.length ≤ 1000 ∧ ∀ (H' : Hp) (b : Addr), Same H H' → Nw H H' b → H' b = some (.lst ((showI p).map V.int)) → Q (.ref b) H'
theorem frac_len : ∀ p : List Rat, (p.flatMap Kqg1.fraction).length = 2 * p.length
  | [] => rfl
  | q :: p => by
    rw [List.flatMap_cons, List.length_append, frac_len p, List.length_cons]
    show 2 + 2 * p.length = 2 * (p.length + 1)
    omega
theorem frac_take {p : List Rat} {i : Nat} {q : Rat} (h : p[i]? = some q) : (p.take (i + 1)).flatMap Kqg1.fraction = (p.take i).flatMap Kqg1.fraction ++ [q.num, (q.den : Int)] := by
  rw [take_succ h, List.flatMap_append]
  rfl
theorem c_shown (T : Txt P K mg base) (d : DefB K mg "shown" (top 78) ["polynomial"]) : Cal P w K mg base 1 "shown" (sp1 (S_shown K)) [] := by
  have S : FnScope ["polynomial", "found", "fraction"] ["polynomial"] (fnScope (top 78)) := fnScope_by (by decide +kernel)
  refine mk1 (k := 0) d S fun f cdv A outer s H a1 Q E hr h => ?_
  refine ⟨_, (pss_cons (ps_set (i := 1) S.nd rfl (Or.inl rfl) (pe_lst (pa_cons (pe_callB call_len_seq (by rfl) T.len PySem.boot_len (pa_cons (pv 0) pa_nil)) pa_nil))) (pss_cons (ps_for PassesOwn.never rfl (pi_list (pv 0)) (pg_name (i := 2) S.nd rfl (Or.inl rfl)) (pss_one (ps_expr (pe_bm PySem.F.plainAttrs_list PySem.F.slot_list_extend PySem.F.type_list_extend mt_extendT (pv 1) (pa_cons (pv 2) pa_nil))))) (pss_one (ps_ret (pv 1))))), ?_⟩
  obtain ⟨p, ⟨l1, vs1, rfl, hs1, hpr1⟩, hn, q⟩ := h
  have n1 := Paired.len hpr1
  refine ⟨_, rfl, l1, vs1, rfl, .inl hs1, (by show 1 ≤ sizeLine; decide), fun l hl => ?_⟩
  have s0 : Same H (upd H l (.lst [.int vs1.length])) := same_lay hl
  refine ⟨_, rfl, l1, rfl, ⟨_, sqL_same s0 hs1⟩, ?_⟩
  refine for_list (K := K) (a := l1) (xs := vs1) (fun i σ H' => ∃ x, σ = [some (.ref l1), some (.ref l), x] ∧ Same H H' ∧ Nw H H' l ∧ H' l = some (.lst (((p.length : Int) :: (p.take i).flatMap Kqg1.fraction).map V.int))) ⟨_, rfl, s0, Nw.lay hl, ?_⟩ ?_ ?_ ?_
  · rw [upd_same, n1]
    rfl
  · rintro i σ H' _ ⟨x, rfl, s1, _, _⟩
    exact sqL_same s1 hs1
  · rintro i v σ H' hv ⟨x, rfl, s1, nl, hl'⟩
    obtain ⟨c, hc, ⟨t, rfl, ht⟩⟩ := Paired.at hpr1 hv
    have hi : i < vs1.length := by
      rcases Nat.lt_or_ge i vs1.length with h | h
      · exact h
      · rw [List.getElem?_eq_none h] at hv; cases hv
    refine ⟨_, rfl, .inl ⟨rfl, _, SqL.of hl'⟩, _, rfl, l, t, _, _, rfl, rfl, hl', sqT_same s1 ht, ?_, some (.ref t), rfl, same_new s1 nl.free, ⟨nl.free, fun z => by rw [upd_same] at z; cases z⟩, ?_⟩
    · rw [List.length_map, List.length_cons, frac_len, List.length_take]
      refine Nat.le_of_lt (lt_line ?_)
      show 2 * min i p.length + 1 + 2 ≤ 1000000
      omega
    · rw [upd_same, frac_take hc]
      simp
  · rintro σ H' ⟨x, rfl, s1, nl, hl'⟩
    rw [n1, List.take_length] at hl'
    exact ⟨_, rfl, q H' l s1 nl hl'⟩
def S_k___init__ (C : Addr) (K : PySem.W.Frag) (a : V) (H : Hp) (Q : VK) : Prop := ∃ x dx, a = .ref x ∧ H x = some (.ins C dx []) ∧ ∀ (H' : Hp) (l : Addr), KAt K C (fun _ => False) H' x l none → Nw H H' l → (∀ b o, H b = some o → b ≠ x → H' b = some o) → Q .non H'
theorem sl_nil {Z : Addr → Prop} {l : Addr} {H : Hp} : Paired (Sl K Z l H) [] ((none : St4).getD []) := .nil
def S_k_create (C : Addr) (K : PySem.W.Frag) (a : V) (H : Hp) (Q : VK) : Prop := ∃ (Z : Addr → Prop) (x l : Addr) (st : St4), a = .ref x ∧ KAt K C Z H x l st ∧ Out K C Z x l (some [[], [], [], []]) [0] H Q
theorem c_k_create (T : Txt P K mg base) (c : ClsT K C) (d : MetB K C "create" "Keeper.create" (inClass (top 79) 1) ["self"]) : Met P w K mg base 1 C "create" (sp1 (S_k_create C K)) [] := by
  have S : FnScope ["self", "slot"] ["self"] (fnScope (inClass (top 79) 1)) := fnScope_by (by decide +kernel)
  refine mt1 (k := 0) d S fun f cdv A outer s H a1 Q E hr h => ?_
  refine ⟨_, (pss_cons (ps_fld (pv 0) pe_bl rfl) (pss_cons (ps_fld (pv 0) (pe_lc (own := [("slot", 1)]) rfl S.nd (pi_range1 (by rfl) T.range (pa_cons (pe_gc rfl T.gSLOTS) pa_nil)) (blkOk_by (own := [("slot", 1)]) (N := ["self", "slot"]) (sc := fnScope (inClass (top 79) 1)) (by decide +kernel)) (fun _ _ _ _ _ => (pg_name (i := 1) S.nd rfl (Or.inl rfl))) (fun _ _ _ _ _ => pts_nil) (fun _ _ _ _ _ => (pe_lst pa_nil))) rfl) (pss_one (ps_ret (pe_lst (pa_cons pe_int pa_nil)))))), ?_⟩
  obtain ⟨Z, x, l, st, rfl, hk, q⟩ := h
  obtain ⟨dx, ho⟩ := hk.o
  obtain ⟨vs, hl, hp⟩ := hk.s
  have xl : x ≠ l := ne_of ho hl (by intro z; cases z)
  refine ⟨_, rfl, x, C, dx, _, rfl, ho, c.cl, c.nR, (by show 2 < 1000; decide), ?_⟩
  rw [KF_putR]
  have k1 : Kp x l H (upd H x (.ins C dx (KF true l))) := fun b o e n _ => by rw [upd_ne n]; exact e
  have ho1 : upd H x (.ins C dx (KF true l)) x = some (.ins C dx (KF true l)) := upd_same
  have hl1 : upd H x (.ins C dx (KF true l)) l = some (.lst vs) := by rw [upd_ne xl.symm]; exact hl
  have zz : ∀ b, Z b → upd H x (.ins C dx (KF true l)) b ≠ none := fun b z n => by
    by_cases e : b = x
    · rw [e, ho1] at n; cases n
    · rw [upd_ne e] at n; exact hk.z b z n
  generalize upd H x (.ins C dx (KF true l)) = H1 at *
  refine ⟨4, rfl, by decide, by decide, fun D hD => ?_⟩
  refine lc_range (lo := 0) (n := 4) (fun i H' => ∃ us, Gr (Sl K Z D) H1 H' D us (List.replicate i ([] : List Rat))) ⟨_, Gr.new hD⟩ ?_ ?_
  · rintro i H' hi ⟨us, g⟩
    refine ⟨rfl, yes ?_⟩
    refine ⟨Nat.zero_le _, fun p hp' => ?_⟩
    have s1 : Same H' (upd H' p (.lst [])) := same_lay hp'
    have g2 := g.same Sl.stab s1
    refine ⟨us, g2.h, g2.room (by simp; omega), us ++ [.ref p], ?_⟩
    rw [List.replicate_succ']
    exact g2.push Sl.stab ⟨p, rfl, ⟨(fun e => by rw [e, g.h] at hp'; cases hp'), fun z => zz _ z (g.s.free hp')⟩, ⟨p, [], rfl, SqL.of upd_same, .nil⟩⟩
  · rintro H2 ⟨us, g⟩
    refine ⟨_, rfl, x, C, dx, _, rfl, g.s _ _ ho1, c.cl, c.nS, (by show 2 < 1000; decide), ?_⟩
    rw [KF_putS]
    refine ⟨(by show 1 ≤ sizeLine; decide), fun b hb => ?_⟩
    have xD : D ≠ x := g.nn.ne2 ho1
    have ho2 : H2 x = some (.ins C dx (KF true l)) := g.s _ _ ho1
    have hD3 : upd H2 x (.ins C dx (KF true D)) D = some (.lst us) := by rw [upd_ne xD]; exact g.h
    have bx : b ≠ x := fun e => by rw [e, upd_same] at hb; cases hb
    have bD : b ≠ D := fun e => by rw [e, hD3] at hb; cases hb
    have s4 : Same (upd H2 x (.ins C dx (KF true D))) (upd (upd H2 x (.ins C dx (KF true D))) b (.lst [.int 0])) := same_lay hb
    have kp : Kp x l H (upd (upd H2 x (.ins C dx (KF true D))) b (.lst [.int 0])) := fun d o e n m => by
      refine s4 d o ?_
      rw [upd_ne n]
      exact g.s d o (k1 d o e n m)
    have k3 : Kp x l H (upd H2 x (.ins C dx (KF true D))) := fun d o e n m => by
      rw [upd_ne n]
      exact g.s d o (k1 d o e n m)
    have hl3 : upd H2 x (.ins C dx (KF true D)) l = some (.lst vs) := by rw [upd_ne xl.symm]; exact g.s _ _ hl1
    refine q _ b D kp ⟨⟨dx, s4 _ _ upd_same⟩, ⟨us, s4 _ _ hD3, ?_⟩, fun b' z n => zz b' z (by
      have n1 := s4.free n
      by_cases e : b' = x
      · rw [e, upd_same] at n1; cases n1
      · rw [upd_ne e] at n1; exact g.s.free n1)⟩ (.inr ⟨?_, fun z => by rw [s4 _ _ hD3] at z; cases z⟩) ?_ bD upd_same
    · have e : List.replicate 4 ([] : List Rat) = (some [[], [], [], []] : St4).getD [] := rfl
      rw [← e]
      exact Paired.mapP g.p fun v p h => (h.updI ho2).same s4
    · exact (Nw.afterK k1 ho1 hl1 g.nn).free
    · exact Nw.afterK k3 upd_same hl3 (Nw.lay hb)
/-- the object's parts, as a promise's reading asks for them -/
theorem KAt.get {Z : Addr → Prop} {H : Hp} {a l : Addr} {ps : List (List Rat)} (h : KAt K C Z H a l (some ps)) : ∃ dx vs, H a = some (.ins C dx (KF true l)) ∧ H l = some (.lst vs) ∧ Paired (Sl K Z l H) vs ps := by
  obtain ⟨dx, e⟩ := h.o
  obtain ⟨vs, e2, p⟩ := h.s
  exact ⟨dx, vs, e, e2, p⟩
theorem Sl.po {Z : Addr → Prop} {l : Addr} {H : Hp} {v : V} {p : List Rat} (h : Sl K Z l H v p) : Po K H v p := by
  obtain ⟨b, rfl, _, q⟩ := h
  exact q
def S_k_store (C : Addr) (K : PySem.W.Frag) (a b d : V) (H : Hp) (Q : VK) : Prop := ∃ (Z : Addr → Prop) (x l : Addr) (ps : List (List Rat)) (i : Nat) (y : Addr) (p : List Rat), a = .ref x ∧ KAt K C Z H x l (some ps) ∧ b = .int (i : Int) ∧ i < ps.length ∧ d = .ref y ∧ y ≠ l ∧ ¬ Z y ∧ Po K H (.ref y) p ∧
  Out K C Z x l (storeS ps i p).1 (storeS ps i p).2 H Q
theorem c_k_store (T : Txt P K mg base) (c : ClsT K C) (d : MetB K C "store" "Keeper.store" (inClass (top 79) 2) ["self", "slot", "polynomial"]) (c_may_be_stored : Cal P w K mg base 2 "may_be_stored" (sp1 (S_may_be_stored K)) []) (c_shown : Cal P w K mg base 1 "shown" (sp1 (S_shown K)) []) : Met P w K mg base 3 C "store" (sp3 (S_k_store C K)) [] := by
  have S : FnScope ["self", "slot", "polynomial"] ["self", "slot", "polynomial"] (fnScope (inClass (top 79) 2)) := fnScope_by (by decide +kernel)
  refine mt3 (k := 2) d S fun f cdv A outer s H a1 a2 a3 Q E hr h => ?_
  refine ⟨_, (pss_cons (ps_if (pt_not (pt_val (pe_c c_may_be_stored hr (by decide) rfl (pa_cons (pv 2) pa_nil)))) (pss_one (ps_ret (pe_lst (pa_cons (pe_gc rfl T.gTOO_LARGE) pa_nil)))) pss_nil) (pss_cons (ps_asg (pv 2) (pg_sub (pe_fld (pv 0) rfl) (pv 1) set_list)) (pss_one (ps_ret (pe_c c_shown hr (by decide) rfl (pa_cons (pv 2) pa_nil)))))), ?_⟩
  obtain ⟨Z, x, l, ps, i, y, p, rfl, hk, rfl, hi, rfl, yl, yz, hp, q⟩ := h
  obtain ⟨dx, vs, ho, hl, hpr⟩ := hk.get
  have n1 := Paired.len hpr
  have xl : x ≠ l := ne_of ho hl (by intro z; cases z)
  refine ⟨_, rfl, _, rfl, p, hp, _, rfl, ?_⟩
  unfold storeS at q
  by_cases hs : storeB p = true
  · rw [if_pos hs] at q
    refine ifF (by rw [hs]; rfl) ?_
    refine ⟨_, rfl, _, rfl, x, C, dx, _, _, rfl, ho, c.cl, c.nS, KF_s _ _, _, rfl, l, vs, _, i, rfl, rfl, hl, ?_, ?_⟩
    · unfold ixN
      rw [if_pos (by omega), if_pos (by omega), Int.toNat_natCast]
    have hp1 : Po K (upd H l (.lst (vs.set i (.ref y)))) (.ref y) p := Po.upd hl yl hp
    have hl1 : upd H l (.lst (vs.set i (.ref y))) l = some (.lst (vs.set i (.ref y))) := upd_same
    have hx1 : upd H l (.lst (vs.set i (.ref y))) x = some (.ins C dx (KF true l)) := by rw [upd_ne xl]; exact ho
    have hlen : p.length ≤ 7 := by
      unfold storeB at hs
      exact of_decide_eq_true (Bool.and_eq_true_iff.mp hs).1
    refine ⟨_, rfl, _, rfl, p, hp1, by omega, fun H' b s nb hb => ?_⟩
    have kp : Kp x l H H' := fun d o e n m => s d o (by rw [upd_ne m]; exact e)
    refine q H' b l kp ⟨⟨dx, s _ _ hx1⟩, ⟨_, s _ _ hl1, ?_⟩, fun b' z n => hk.z b' z (by
        have n1 := s.free n
        by_cases e : b' = l
        · rw [e, upd_same] at n1; cases n1
        · rw [upd_ne e] at n1; exact n1)⟩ (.inl rfl) ?_ (nb.ne2 hl1) hb
    · have g : Gr (Sl K Z l) (fun a => if a = l then none else H a) H l vs ps := ⟨if_pos rfl, fun b o e => by
        have e' : (if b = l then none else H b) = some o := e
        split at e'
        · cases e'
        · exact e', hl, hpr⟩
      have g2 := g.put (i := i) (v := .ref y) (x := p) Sl.stab ⟨y, rfl, ⟨yl, yz⟩, hp⟩
      exact Paired.mapP g2.p fun v p h => h.same s
    · exact Nw.afterK (a := x) (l := l) (H0 := H) (fun d o e n m => by rw [upd_ne m]; exact e) hx1 hl1 nb
  · have hs' : storeB p = false := by simpa using hs
    rw [if_neg hs] at q
    refine ifT (by rw [hs']; rfl) ?_
    exact ⟨(by show 1 ≤ sizeLine; decide), q.lay hk⟩
end
end RW
namespace RW
open PySem PySem.Spec PyProof.Rows L2 C8
open RK (co Tr ld ev)
/-! ### the specification's words -/
def stp (st : St4) (q : Kqg3.Request) : St4 × List Int := ((Kqg3.step st q).1, Kqg3Neutral.fields (Kqg3.step st q).2)
theorem fit_eq (q : Rat) : fitB q = (decide (q.num.natAbs ≤ Kqg1.maxCoefficient) && decide (q.den ≤ Kqg1.maxCoefficient)) := by
  have e : Kqg1.maxCoefficient = 1000000000000000000000000000000 := rfl
  unfold fitB big absI
  rw [e]
  congr 1
  · apply decide_eq_decide.mpr
    split <;> omega
  · apply decide_eq_decide.mpr
    omega
theorem store_eq (p : List Rat) : storeB p = Kqg3.isSmall p := by
  unfold storeB Kqg3.isSmall
  congr 1
  congr 1
  funext q
  exact fit_eq q
theorem storeS_eq (ps : List (List Rat)) (i : Nat) (p : List Rat) : storeS ps i p = ((Kqg3.store ps i p).1, Kqg3Neutral.fields (Kqg3.store ps i p).2) := by
  unfold storeS Kqg3.store
  rw [store_eq]
  split <;> rfl
theorem slot_nat (n : Nat) : slotB (n : Int) = decide (n < 4) := by
  unfold slotB
  rw [decide_eq_true (show (0 : Int) ≤ n by omega), Bool.true_and]
  apply decide_eq_decide.mpr
  omega
theorem num_eq (x : Int) : numB x = decide (x.natAbs ≤ 1000) := by
  unfold numB
  rw [← Bool.decide_and]
  apply decide_eq_decide.mpr
  omega
theorem list_eq (m d : Nat) (l : List Int) : (denB (d : Int) && numsB l m) = Kqg3.isNumberList m d l := by
  unfold denB numsB Kqg3.isNumberList
  have e1 : decide ((1 : Int) ≤ d) = decide (1 ≤ d) := decide_eq_decide.mpr (by omega)
  have e2 : decide ((d : Int) ≤ 1000) = decide (d ≤ 1000) := decide_eq_decide.mpr (by omega)
  have e3 : l.all numB = l.all fun x => decide (x.natAbs ≤ 1000) := by
    congr 1
    funext x
    exact num_eq x
  rw [e1, e2, e3]
  generalize decide (1 ≤ d) = a
  generalize decide (d ≤ 1000) = b
  generalize decide (l.length ≤ m) = c
  generalize (l.all fun x => decide (x.natAbs ≤ 1000)) = e
  cases a <;> cases b <;> cases c <;> cases e <;> rfl
structure Four (ps : List (List Rat)) : Prop where
  n : ps.length = 4
  g : ∀ p ∈ ps, Good p
theorem Four.at {ps : List (List Rat)} (h : Four ps) {i : Nat} (hi : i < 4) : ps[i]? = some (Kqg3.polynomialIn ps i) ∧ Good (Kqg3.polynomialIn ps i) := by
  have hi' : i < ps.length := by rw [h.n]; exact hi
  have e : Kqg3.polynomialIn ps i = ps[i] := by
    unfold Kqg3.polynomialIn
    rw [List.getD_eq_getElem?_getD, List.getElem?_eq_getElem hi']
    rfl
  rw [e]
  exact ⟨List.getElem?_eq_getElem hi', h.g _ (List.getElem_mem hi')⟩
section
variable {P : Program} {w : World} {K : PySem.W.Frag} {mg : Str → Option Value} {base : Heap} {C : Addr}
theorem rat_div (x : Int) (d : Nat) : Rat.divInt x (d : Int) = (x : Rat) / (d : Rat) := by
  rw [Rat.divInt_eq_div]
  rfl
def S_k_set_polynomial (C : Addr) (K : PySem.W.Frag) (a b e g : V) (H : Hp) (Q : VK) : Prop := ∃ (Z : Addr → Prop) (x l : Addr) (ps : List (List Rat)) (n d : Nat) (cs : List Int), a = .ref x ∧ KAt K C Z H x l (some ps) ∧ Four ps ∧ b = .int (n : Int) ∧ e = .int (d : Int) ∧ Is K H g cs ∧ cs.length ≤ 60 ∧
  Out K C Z x l (stp (some ps) (.setPolynomial n d cs)).1 (stp (some ps) (.setPolynomial n d cs)).2 H Q
theorem stp_poly_no {ps : List (List Rat)} {n d : Nat} {cs : List Int} (h : ¬ n < 4) : stp (some ps) (.setPolynomial n d cs) = (some ps, [-2]) := by
  have e : Kqg3.step (some ps) (.setPolynomial n d cs) = (some ps, .value (-2)) := by
    show (if 4 ≤ n then _ else _) = _
    rw [if_pos (by omega)]
  unfold stp
  rw [e]
  rfl
theorem stp_poly_out {ps : List (List Rat)} {n d : Nat} {cs : List Int} (h : n < 4) (h2 : Kqg3.isNumberList 7 d cs = false) : stp (some ps) (.setPolynomial n d cs) = (some ps, [-22]) := by
  have e : Kqg3.step (some ps) (.setPolynomial n d cs) = (some ps, .value (-22)) := by
    show (if 4 ≤ n then _ else if Kqg3.isNumberList 7 d cs = false then _ else _) = _
    rw [if_neg (by omega), if_pos h2]
  unfold stp
  rw [e]
  rfl
theorem stp_poly {ps : List (List Rat)} {n d : Nat} {cs : List Int} (h : n < 4) (h2 : Kqg3.isNumberList 7 d cs = true) : stp (some ps) (.setPolynomial n d cs) = storeS ps n (Kqg1.trim (cs.map fun (x : Int) => ((x : Rat) / (d : Rat)))) := by
  have e : Kqg3.step (some ps) (.setPolynomial n d cs) = Kqg3.store ps n (Kqg1.trim (cs.map fun (x : Int) => ((x : Rat) / (d : Rat)))) := by
    show (if 4 ≤ n then _ else if Kqg3.isNumberList 7 d cs = false then _ else _) = _
    rw [if_neg (by omega), if_neg (by rw [h2]; simp)]
  unfold stp
  rw [e, storeS_eq]
theorem c_k_set_polynomial (T : Txt P K mg base) (c : ClsT K C) (d : MetB K C "set_polynomial" "Keeper.set_polynomial" (inClass (top 79) 3) ["self", "slot", "denominator", "coefficients"]) (c_k_store : Met P w K mg base 3 C "store" (sp3 (S_k_store C K)) []) (c_are_numerators : Cal P w K mg base 2 "are_numerators" (sp2 (S_are_numerators K)) []) (c_is_denominator : Cal P w K mg base 1 "is_denominator" (sp1 (S_is_denominator K)) []) (c_is_slot : Cal P w K mg base 1 "is_slot" (sp1 (S_is_slot K)) []) (c_lowest : Cal P w K mg base 33 "lowest" (sp2 (S_lowest K)) []) (c_trimmed : Cal P w K mg base 1 "trimmed" (sp1 (S_trimmed K)) []) : Met P w K mg base 34 C "set_polynomial" (sp4 (S_k_set_polynomial C K)) [] := by
  have S : FnScope ["self", "slot", "denominator", "coefficients", "one"] ["self", "slot", "denominator", "coefficients"] (fnScope (inClass (top 79) 3)) := fnScope_by (by decide +kernel)
  refine mt4 (k := 33) d S fun f cdv A outer s H a1 a2 a3 a4 Q E hr h => ?_
  refine ⟨_, (pss_cons (ps_if (pt_not (pt_val (pe_c c_is_slot hr (by decide) rfl (pa_cons (pv 1) pa_nil)))) (pss_one (ps_ret (pe_lst (pa_cons (pe_gc rfl T.gNO_SLOT) pa_nil)))) pss_nil) (pss_cons (ps_if (PW.pt (pw_or (pt_not (pt_val (pe_c c_is_denominator hr (by decide) rfl (pa_cons (pv 2) pa_nil)))) (pw_or1 (pt_not (pt_val (pe_c c_are_numerators hr (by decide) rfl (pa_cons (pv 3) (pa_cons (pe_gc rfl T.gMOST_COEFFICIENTS) pa_nil)))))))) (pss_one (ps_ret (pe_lst (pa_cons (pe_gc rfl T.gOUT_OF_RANGE) pa_nil)))) pss_nil) (pss_one (ps_ret (pe_mt c_k_store hr (by decide) (pv 0) (pa_cons (pv 1) (pa_cons (pe_c c_trimmed hr (by decide) rfl (pa_cons (pe_lc (own := [("one", 4)]) rfl S.nd (pi_list (pv 3)) (blkOk_by (own := [("one", 4)]) (N := ["self", "slot", "denominator", "coefficients", "one"]) (sc := fnScope (inClass (top 79) 3)) (by decide +kernel)) (fun _ _ _ _ _ => (pg_name (i := 4) S.nd rfl (Or.inl rfl))) (fun _ _ _ _ _ => pts_nil) (fun _ _ _ _ _ => (pe_c c_lowest hr (by decide) rfl (pa_cons (pv 4) (pa_cons (pv 2) pa_nil))))) pa_nil)) pa_nil))))))), ?_⟩
  obtain ⟨Z, x, l, ps, n, d, cs, rfl, hk, hf, rfl, rfl, hc, hn, q⟩ := h
  obtain ⟨dx, vs, ho, hl, hpr⟩ := hk.get
  refine ⟨_, rfl, _, rfl, n, rfl, _, rfl, ?_⟩
  rw [slot_nat]
  by_cases h4 : n < 4
  · rw [decide_eq_true h4]
    refine ifF rfl ?_
    refine ⟨_, rfl, _, rfl, d, rfl, _, rfl, ?_⟩
    have le := list_eq 7 d cs
    have out : Kqg3.isNumberList 7 d cs = false → ∀ b, H b = none → Q (.ref b) (upd H b (.lst [.int (-22)])) := by
      intro h2
      rw [stp_poly_out h4 h2] at q
      exact q.lay hk
    by_cases hd : denB (d : Int) = true
    · refine ifF (by rw [hd]; rfl) ?_
      refine ⟨_, rfl, _, _, rfl, cs, 7, hc, rfl, _, rfl, ?_⟩
      rw [hd, Bool.true_and] at le
      rw [le]
      by_cases hv : Kqg3.isNumberList 7 d cs = true
      · rw [hv]
        refine ifF rfl ?_
        rw [stp_poly h4 hv] at q
        obtain ⟨l1, vs1, rfl, hs1, hpr1⟩ := hc
        have n1 := Paired.len hpr1
        have hdp : 1 ≤ d := by
          unfold denB at hd
          have := of_decide_eq_true (Bool.and_eq_true_iff.mp hd).1
          omega
        refine ⟨_, rfl, x, dx, _, rfl, ho, rfl, _, rfl, ?_⟩
        refine ⟨_, rfl, l1, rfl, ⟨_, hs1⟩, fun D hD => lc_list (K := K) (a := l1) (xs := vs1) (fun i H' => ∃ us, Gr (Fr K) H H' D us ((cs.take i).map fun (x : Int) => ((x : Rat) / (d : Rat)))) ⟨_, Gr.new hD⟩ ?_ ?_ ?_⟩
        · rintro i H' _ ⟨us, g⟩
          exact sqL_same g.s hs1
        · rintro i v H' hv ⟨us, g⟩
          obtain ⟨m, hm, rfl⟩ := Paired.at hpr1 hv
          refine ⟨rfl, yes ?_⟩
          refine ⟨_, rfl, _, rfl, _, _, rfl, m, (d : Int), rfl, rfl, by omega, fun H2 r s2 f2 => ?_⟩
          have g2 := g.same Fr.stab s2
          refine ⟨us, g2.h, g2.room (by simp; omega), us ++ [r], ?_⟩
          rw [map_take_succ hm]
          rw [rat_div] at f2
          exact g2.push Fr.stab f2
        · rintro H' ⟨us, g⟩
          rw [n1, List.take_length] at g
          refine ⟨_, rfl, _, g.ls, fun H2 r2 s2 n2 f2 => ?_⟩
          have sA := g.s.trans s2
          exact ⟨_, _, _, rfl, Z, x, l, ps, n, r2, _, rfl, hk.same sA, rfl, by rw [hf.n]; exact h4, rfl, (n2.after g.s).ne2 hl, fun z => hk.z _ z (n2.after g.s).free, f2, q.after sA⟩
      · have hv' : Kqg3.isNumberList 7 d cs = false := by simpa using hv
        rw [hv']
        refine ifT rfl ?_
        exact ⟨(by show 1 ≤ sizeLine; decide), out hv'⟩
    · have hd' : denB (d : Int) = false := by simpa using hd
      refine ifT (by rw [hd']; rfl) (ifT rfl ?_)
      rw [hd', Bool.false_and] at le
      exact ⟨(by show 1 ≤ sizeLine; decide), out le.symm⟩
  · rw [decide_eq_false h4]
    refine ifT rfl ?_
    rw [stp_poly_no h4] at q
    exact ⟨(by show 1 ≤ sizeLine; decide), q.lay hk⟩
end
end RW
namespace RW
open PySem PySem.Spec PyProof.Rows L2 C8
open RK (co Tr ld ev)
section
variable {P : Program} {w : World} {K : PySem.W.Frag} {mg : Str → Option Value} {base : Heap} {C : Addr}
theorem stp_roots_no {ps : List (List Rat)} {n d : Nat} {cs : List Int} (h : ¬ n < 4) : stp (some ps) (.setRoots n d cs) = (some ps, [-2]) := by
  have e : Kqg3.step (some ps) (.setRoots n d cs) = (some ps, .value (-2)) := by
    show (if 4 ≤ n then _ else _) = _
    rw [if_pos (by omega)]
  unfold stp
  rw [e]
  rfl
theorem stp_roots_out {ps : List (List Rat)} {n d : Nat} {cs : List Int} (h : n < 4) (h2 : Kqg3.isNumberList 6 d cs = false) : stp (some ps) (.setRoots n d cs) = (some ps, [-22]) := by
  have e : Kqg3.step (some ps) (.setRoots n d cs) = (some ps, .value (-22)) := by
    show (if 4 ≤ n then _ else if Kqg3.isNumberList 6 d cs = false then _ else _) = _
    rw [if_neg (by omega), if_pos h2]
  unfold stp
  rw [e]
  rfl
theorem stp_roots {ps : List (List Rat)} {n d : Nat} {cs : List Int} (h : n < 4) (h2 : Kqg3.isNumberList 6 d cs = true) : stp (some ps) (.setRoots n d cs) = storeS ps n (rfold d cs) := by
  have e : Kqg3.step (some ps) (.setRoots n d cs) = Kqg3.store ps n (rfold d cs) := by
    show (if 4 ≤ n then _ else if Kqg3.isNumberList 6 d cs = false then _ else _) = _
    rw [if_neg (by omega), if_neg (by rw [h2]; simp)]
    rfl
  unfold stp
  rw [e, storeS_eq]
theorem rfold_succ {d : Nat} {cs : List Int} {i : Nat} {x : Int} (h : cs[i]? = some x) : rfold d (cs.take (i + 1)) = Kqg1.multiply (rfold d (cs.take i)) [-((x : Rat) / (d : Rat)), 1] := by
  unfold rfold
  rw [take_succ h, List.foldl_append]
  rfl
theorem rfold_len (d : Nat) (cs : List Int) : ∀ i, i ≤ cs.length → (rfold d (cs.take i)).length ≤ 2 * i + 1
  | 0, _ => by
    rw [List.take_zero]
    show 1 ≤ 1
    omega
  | i + 1, h => by
    have hx : cs[i]? = some cs[i] := List.getElem?_eq_getElem h
    rw [rfold_succ hx]
    have h1 := rfold_len d cs i (by omega)
    have h2 := mul_len (rfold d (cs.take i)) [-((cs[i] : Rat) / (d : Rat)), 1]
    simp only [List.length_cons, List.length_nil] at h2
    omega
theorem roots_valid {d : Nat} {cs : List Int} (h : Kqg3.isNumberList 6 d cs = true) : cs.length ≤ 6 ∧ 1 ≤ d ∧ d ≤ 1000 ∧ ∀ x ∈ cs, x.natAbs ≤ 1000 := by
  unfold Kqg3.isNumberList at h
  simp only [Bool.and_eq_true, decide_eq_true_eq, List.all_eq_true] at h
  exact ⟨h.1.1.1, h.1.1.2, h.1.2, h.2⟩
def S_k_set_roots (C : Addr) (K : PySem.W.Frag) (a b e g : V) (H : Hp) (Q : VK) : Prop := ∃ (Z : Addr → Prop) (x l : Addr) (ps : List (List Rat)) (n d : Nat) (cs : List Int), a = .ref x ∧ KAt K C Z H x l (some ps) ∧ Four ps ∧ b = .int (n : Int) ∧ e = .int (d : Int) ∧ Is K H g cs ∧ cs.length ≤ 60 ∧
  Out K C Z x l (stp (some ps) (.setRoots n d cs)).1 (stp (some ps) (.setRoots n d cs)).2 H Q
theorem c_k_set_roots (T : Txt P K mg base) (c : ClsT K C) (d : MetB K C "set_roots" "Keeper.set_roots" (inClass (top 79) 4) ["self", "slot", "denominator", "roots"]) (c_k_store : Met P w K mg base 3 C "store" (sp3 (S_k_store C K)) []) (c_are_numerators : Cal P w K mg base 2 "are_numerators" (sp2 (S_are_numerators K)) []) (c_is_denominator : Cal P w K mg base 1 "is_denominator" (sp1 (S_is_denominator K)) []) (c_is_slot : Cal P w K mg base 1 "is_slot" (sp1 (S_is_slot K)) []) (c_line_with_root : Cal P w K mg base 2 "line_with_root" (sp1 (S_line_with_root K)) []) (c_lowest : Cal P w K mg base 33 "lowest" (sp2 (S_lowest K)) []) (c_product_of : Cal P w K mg base 35 "product_of" (sp2 (S_product_of K)) []) : Met P w K mg base 36 C "set_roots" (sp4 (S_k_set_roots C K)) [] := by
  have S : FnScope ["self", "slot", "denominator", "roots", "found", "root"] ["self", "slot", "denominator", "roots"] (fnScope (inClass (top 79) 4)) := fnScope_by (by decide +kernel)
  refine mt4 (k := 35) d S fun f cdv A outer s H a1 a2 a3 a4 Q E hr h => ?_
  obtain ⟨aONE, gONE, tONE⟩ := T.gONE
  refine ⟨_, (pss_cons (ps_if (pt_not (pt_val (pe_c c_is_slot hr (by decide) rfl (pa_cons (pv 1) pa_nil)))) (pss_one (ps_ret (pe_lst (pa_cons (pe_gc rfl T.gNO_SLOT) pa_nil)))) pss_nil) (pss_cons (ps_if (PW.pt (pw_or (pt_not (pt_val (pe_c c_is_denominator hr (by decide) rfl (pa_cons (pv 2) pa_nil)))) (pw_or1 (pt_not (pt_val (pe_c c_are_numerators hr (by decide) rfl (pa_cons (pv 3) (pa_cons (pe_gc rfl T.gMOST_ROOTS) pa_nil)))))))) (pss_one (ps_ret (pe_lst (pa_cons (pe_gc rfl T.gOUT_OF_RANGE) pa_nil)))) pss_nil) (pss_cons (ps_set (i := 4) S.nd rfl (Or.inl rfl) (pe_lst (pa_cons (pe_gc rfl gONE) pa_nil))) (pss_cons (ps_for PassesOwn.never rfl (pi_list (pv 3)) (pg_name (i := 5) S.nd rfl (Or.inl rfl)) (pss_one (ps_set (i := 4) S.nd rfl (Or.inl rfl) (pe_c c_product_of hr (by decide) rfl (pa_cons (pv 4) (pa_cons (pe_c c_line_with_root hr (by decide) rfl (pa_cons (pe_c c_lowest hr (by decide) rfl (pa_cons (pv 5) (pa_cons (pv 2) pa_nil))) pa_nil)) pa_nil)))))) (pss_one (ps_ret (pe_mt c_k_store hr (by decide) (pv 0) (pa_cons (pv 1) (pa_cons (pv 4) pa_nil))))))))), ?_⟩
  obtain ⟨Z, x, l, ps, n, d, cs, rfl, hk, hf, rfl, rfl, hc, hn, q⟩ := h
  obtain ⟨dx, vs, ho, hl, hpr⟩ := hk.get
  refine ⟨_, rfl, _, rfl, n, rfl, _, rfl, ?_⟩
  rw [slot_nat]
  by_cases h4 : n < 4
  · rw [decide_eq_true h4]
    refine ifF rfl ?_
    refine ⟨_, rfl, _, rfl, d, rfl, _, rfl, ?_⟩
    have le := list_eq 6 d cs
    have out : Kqg3.isNumberList 6 d cs = false → ∀ b, H b = none → Q (.ref b) (upd H b (.lst [.int (-22)])) := by
      intro h2
      rw [stp_roots_out h4 h2] at q
      exact q.lay hk
    by_cases hd : denB (d : Int) = true
    · refine ifF (by rw [hd]; rfl) ?_
      refine ⟨_, rfl, _, _, rfl, cs, 6, hc, rfl, _, rfl, ?_⟩
      rw [hd, Bool.true_and] at le
      rw [le]
      by_cases hv : Kqg3.isNumberList 6 d cs = true
      · rw [hv]
        refine ifF rfl ?_
        rw [stp_roots h4 hv] at q
        obtain ⟨v1, v2, v3, v4⟩ := roots_valid hv
        obtain ⟨l1, vs1, rfl, hs1, hpr1⟩ := hc
        have n1 := Paired.len hpr1
        refine ⟨(by show 1 ≤ sizeLine; decide), fun l0 hl0 => ?_⟩
        have s0 : Same H (upd H l0 (.lst [.ref aONE])) := same_lay hl0
        refine ⟨_, rfl, l1, rfl, ⟨_, sqL_same s0 hs1⟩, ?_⟩
        refine for_list (K := K) (a := l1) (xs := vs1) (fun i σ H' => ∃ (r : Addr) (y : Option V), σ = [some (.ref x), some (.int (n : Int)), some (.int (d : Int)), some (.ref l1), some (.ref r), y] ∧ Same H H' ∧ Nw H H' r ∧ Po K H' (.ref r) (rfold d (cs.take i))) ⟨l0, _, rfl, s0, Nw.lay hl0, ⟨l0, _, rfl, SqL.of upd_same, .cons ⟨aONE, rfl, tONE _⟩ .nil⟩⟩ ?_ ?_ ?_
        · rintro i σ H' _ ⟨r, y, rfl, s1, _, _⟩
          exact sqL_same s1 hs1
        · rintro i v σ H' hv' ⟨r, y, rfl, s1, nr, pr⟩
          obtain ⟨m, hm, rfl⟩ := Paired.at hpr1 hv'
          have hi : i < cs.length := by
            rcases Nat.lt_or_ge i cs.length with h | h
            · exact h
            · rw [List.getElem?_eq_none h] at hm; cases hm
          have hlen := rfold_len d cs i (by omega)
          refine ⟨_, rfl, _, rfl, _, rfl, _, _, rfl, m, (d : Int), rfl, rfl, by omega, fun H2 r2 s2 f2 => ?_⟩
          rw [rat_div] at f2
          refine ⟨_, rfl, _, f2, fun H3 r3 s3 n3 f3 => ?_⟩
          refine ⟨_, _, rfl, _, _, (pr.same s2).same s3, f3, by omega, by simp, sz_roots v2 v3 v1 v4 i m hm, fun H4 r4 s4 n4 f4 => ?_⟩
          have f4' : Po K H4 (.ref r4) (Kqg1.multiply (rfold d (cs.take i)) [-((m : Rat) / (d : Rat)), 1]) := f4
          rw [← rfold_succ hm] at f4'
          have sA := (s1.trans s2).trans s3
          exact ⟨r4, _, rfl, sA.trans s4, n4.after sA, f4'⟩
        · rintro σ H' ⟨r, y, rfl, s1, nr, pr⟩
          rw [n1, List.take_length] at pr
          refine ⟨_, rfl, x, dx, _, rfl, s1 _ _ ho, rfl, _, rfl, _, rfl, ?_⟩
          exact ⟨_, _, _, rfl, Z, x, l, ps, n, r, _, rfl, hk.same s1, rfl, by rw [hf.n]; exact h4, rfl, nr.ne2 hl, fun z => hk.z _ z nr.free, pr, q.after s1⟩
      · have hv' : Kqg3.isNumberList 6 d cs = false := by simpa using hv
        rw [hv']
        refine ifT rfl ?_
        exact ⟨(by show 1 ≤ sizeLine; decide), out hv'⟩
    · have hd' : denB (d : Int) = false := by simpa using hd
      refine ifT (by rw [hd']; rfl) (ifT rfl ?_)
      rw [hd', Bool.false_and] at le
      exact ⟨(by show 1 ≤ sizeLine; decide), out le.symm⟩
  · rw [decide_eq_false h4]
    refine ifT rfl ?_
    rw [stp_roots_no h4] at q
    exact ⟨(by show 1 ≤ sizeLine; decide), q.lay hk⟩
theorem slot_at {H : Hp} {l : Addr} {vs : List V} {ps : List (List Rat)} (hf : Four ps) (hpr : Paired (Sl K Z l H) vs ps) {n : Nat} (h4 : n < 4) : ∃ v, atI vs (n : Int) = some v ∧ Sl K Z l H v (Kqg3.polynomialIn ps n) ∧ Good (Kqg3.polynomialIn ps n) := by
  obtain ⟨e, g⟩ := hf.at h4
  obtain ⟨v, hv, sv⟩ := Paired.at' hpr e
  exact ⟨v, atI_nat hv, sv, g⟩
theorem stp_get {ps : List (List Rat)} {n : Nat} : stp (some ps) (.getPolynomial n) = (some ps, if 4 ≤ n then [-2] else showI (Kqg3.polynomialIn ps n)) := by
  show (some ps, Kqg3Neutral.fields (if 4 ≤ n then Kqg3.Result.value (-2) else Kqg3.polynomialResult (Kqg3.polynomialIn ps n))) = _
  split <;> rfl
def S_k_get_polynomial (C : Addr) (K : PySem.W.Frag) (a b : V) (H : Hp) (Q : VK) : Prop := ∃ (Z : Addr → Prop) (x l : Addr) (ps : List (List Rat)) (n : Nat), a = .ref x ∧ KAt K C Z H x l (some ps) ∧ Four ps ∧ b = .int (n : Int) ∧
  Out K C Z x l (stp (some ps) (.getPolynomial n)).1 (stp (some ps) (.getPolynomial n)).2 H Q
theorem c_k_get_polynomial (T : Txt P K mg base) (c : ClsT K C) (d : MetB K C "get_polynomial" "Keeper.get_polynomial" (inClass (top 79) 5) ["self", "slot"]) (c_is_slot : Cal P w K mg base 1 "is_slot" (sp1 (S_is_slot K)) []) (c_shown : Cal P w K mg base 1 "shown" (sp1 (S_shown K)) []) : Met P w K mg base 2 C "get_polynomial" (sp2 (S_k_get_polynomial C K)) [] := by
  have S : FnScope ["self", "slot"] ["self", "slot"] (fnScope (inClass (top 79) 5)) := fnScope_by (by decide +kernel)
  refine mt2 (k := 1) d S fun f cdv A outer s H a1 a2 Q E hr h => ?_
  refine ⟨_, (pss_cons (ps_if (pt_not (pt_val (pe_c c_is_slot hr (by decide) rfl (pa_cons (pv 1) pa_nil)))) (pss_one (ps_ret (pe_lst (pa_cons (pe_gc rfl T.gNO_SLOT) pa_nil)))) pss_nil) (pss_one (ps_ret (pe_c c_shown hr (by decide) rfl (pa_cons (pe_ix ix_list (pe_fld (pv 0) rfl) (pv 1) (fun _ _ => rfl)) pa_nil))))), ?_⟩
  obtain ⟨Z, x, l, ps, n, rfl, hk, hf, rfl, q⟩ := h
  obtain ⟨dx, vs, ho, hl, hpr⟩ := hk.get
  rw [stp_get] at q
  refine ⟨_, rfl, _, rfl, n, rfl, _, rfl, ?_⟩
  rw [slot_nat]
  by_cases h4 : n < 4
  · rw [decide_eq_true h4]
    refine ifF rfl ?_
    rw [if_neg (by omega)] at q
    obtain ⟨v, hv, sv, gv⟩ := slot_at hf hpr h4
    have hlen := good_len gv
    refine ⟨_, rfl, x, C, dx, _, _, rfl, ho, c.cl, c.nS, KF_s _ _, _, rfl, l, vs, _, v, rfl, rfl, SqL.of hl, hv, ?_⟩
    refine ⟨_, rfl, _, sv.po, by omega, fun H' b s nb hb => ?_⟩
    exact q H' b l (Kp.of s) (hk.same s) (.inl rfl) nb (nb.ne2 hl) hb
  · rw [decide_eq_false h4]
    refine ifT rfl ?_
    rw [if_pos (by omega)] at q
    exact ⟨(by show 1 ≤ sizeLine; decide), q.lay hk⟩
def refI (ps : List (List Rat)) (n : Nat) : Int := if 4 ≤ n then -2 else if Kqg3.polynomialIn ps n = [] then -33 else 0
def S_k_refusal (C : Addr) (K : PySem.W.Frag) (a b : V) (H : Hp) (Q : VK) : Prop := ∃ (Z : Addr → Prop) (x l : Addr) (ps : List (List Rat)) (n : Nat), a = .ref x ∧ KAt K C Z H x l (some ps) ∧ Four ps ∧ b = .int (n : Int) ∧ RetI (refI ps n) H Q
theorem c_k_refusal (T : Txt P K mg base) (c : ClsT K C) (d : MetB K C "refusal" "Keeper.refusal" (inClass (top 79) 6) ["self", "slot"]) (c_is_slot : Cal P w K mg base 1 "is_slot" (sp1 (S_is_slot K)) []) : Met P w K mg base 2 C "refusal" (sp2 (S_k_refusal C K)) [] := by
  have S : FnScope ["self", "slot"] ["self", "slot"] (fnScope (inClass (top 79) 6)) := fnScope_by (by decide +kernel)
  refine mt2 (k := 1) d S fun f cdv A outer s H a1 a2 Q E hr h => ?_
  refine ⟨_, (pss_cons (ps_if (pt_not (pt_val (pe_c c_is_slot hr (by decide) rfl (pa_cons (pv 1) pa_nil)))) (pss_one (ps_ret (pe_gc rfl T.gNO_SLOT))) pss_nil) (pss_one (ps_ret (pe_ifExp (pt_cmpR (op_eqD hr.units) (pe_ix ix_list (pe_fld (pv 0) rfl) (pv 1) (fun _ _ => rfl)) (pe_lst pa_nil) (nomark _)) (pe_gc rfl T.gIS_ZERO) pe_int)))), ?_⟩
  obtain ⟨Z, x, l, ps, n, rfl, hk, hf, rfl, q⟩ := h
  obtain ⟨dx, vs, ho, hl, hpr⟩ := hk.get
  unfold refI at q
  refine ⟨_, rfl, _, rfl, n, rfl, _, rfl, ?_⟩
  rw [slot_nat]
  by_cases h4 : n < 4
  · rw [decide_eq_true h4]
    refine ifF rfl ?_
    rw [if_neg (by omega)] at q
    obtain ⟨v, hv, sv, gv⟩ := slot_at hf hpr h4
    refine ⟨_, rfl, x, C, dx, _, _, rfl, ho, c.cl, c.nS, KF_s _ _, _, rfl, l, vs, _, v, rfl, rfl, SqL.of hl, hv, Nat.zero_le _, fun l' hl' => ?_⟩
    have s0 : Same H (upd H l' (.lst [])) := same_lay hl'
    refine ⟨_, .list [], (sv.po.same s0).dp, .lst (SqL.of upd_same) .nil, Po_shaped _, rfl, _, rfl, ?_⟩
    rw [Po_nil]
    by_cases hz : Kqg3.polynomialIn ps n = []
    · rw [if_pos hz] at q
      rw [hz]
      exact ifT rfl (q _ s0)
    · rw [if_neg hz] at q
      refine ifF ?_ (q _ s0)
      cases e : Kqg3.polynomialIn ps n with
      | nil => exact absurd e hz
      | cons _ _ => rfl
  · rw [decide_eq_false h4]
    refine ifT rfl ?_
    rw [if_pos (by omega)] at q
    exact q _ (Same.refl H)
def prI (ps : List (List Rat)) (i j k : Nat) : Int := if 4 ≤ i ∨ 4 ≤ j ∨ 4 ≤ k then -2 else if Kqg3.polynomialIn ps i = [] ∨ Kqg3.polynomialIn ps j = [] then -33 else if (Kqg3.polynomialIn ps i).length ≠ (Kqg3.polynomialIn ps j).length then -34 else 0
def S_k_pair_refusal (C : Addr) (K : PySem.W.Frag) (a b e g : V) (H : Hp) (Q : VK) : Prop := ∃ (Z : Addr → Prop) (x l : Addr) (ps : List (List Rat)) (i j k : Nat), a = .ref x ∧ KAt K C Z H x l (some ps) ∧ Four ps ∧ b = .int (i : Int) ∧ e = .int (j : Int) ∧ g = .int (k : Int) ∧ RetI (prI ps i j k) H Q
theorem c_k_pair_refusal (T : Txt P K mg base) (c : ClsT K C) (d : MetB K C "pair_refusal" "Keeper.pair_refusal" (inClass (top 79) 7) ["self", "first", "second", "target"]) (c_is_slot : Cal P w K mg base 1 "is_slot" (sp1 (S_is_slot K)) []) : Met P w K mg base 2 C "pair_refusal" (sp4 (S_k_pair_refusal C K)) [] := by
  have S : FnScope ["self", "first", "second", "target"] ["self", "first", "second", "target"] (fnScope (inClass (top 79) 7)) := fnScope_by (by decide +kernel)
  refine mt4 (k := 1) d S fun f cdv A outer s H a1 a2 a3 a4 Q E hr h => ?_
  refine ⟨_, (pss_cons (ps_if (PW.pt (pw_or (pt_not (pt_val (pe_c c_is_slot hr (by decide) rfl (pa_cons (pv 1) pa_nil)))) (pw_or (pt_not (pt_val (pe_c c_is_slot hr (by decide) rfl (pa_cons (pv 2) pa_nil)))) (pw_or1 (pt_not (pt_val (pe_c c_is_slot hr (by decide) rfl (pa_cons (pv 3) pa_nil)))))))) (pss_one (ps_ret (pe_gc rfl T.gNO_SLOT))) pss_nil) (pss_cons (ps_if (PW.pt (pw_or (pt_cmpR (op_eqD hr.units) (pe_ix ix_list (pe_fld (pv 0) rfl) (pv 1) (fun _ _ => rfl)) (pe_lst pa_nil) (nomark _)) (pw_or1 (pt_cmpR (op_eqD hr.units) (pe_ix ix_list (pe_fld (pv 0) rfl) (pv 2) (fun _ _ => rfl)) (pe_lst pa_nil) (nomark _))))) (pss_one (ps_ret (pe_gc rfl T.gIS_ZERO))) pss_nil) (pss_one (ps_ret (pe_ifExp (pt_cmpR op_ne (pe_callB call_len_seq (by rfl) T.len PySem.boot_len (pa_cons (pe_ix ix_list (pe_fld (pv 0) rfl) (pv 1) (fun _ _ => rfl)) pa_nil)) (pe_callB call_len_seq (by rfl) T.len PySem.boot_len (pa_cons (pe_ix ix_list (pe_fld (pv 0) rfl) (pv 2) (fun _ _ => rfl)) pa_nil)) (nomark _)) (pe_gc rfl T.gNOT_FITTING) pe_int))))), ?_⟩
  obtain ⟨Z, x, l, ps, i, j, m, rfl, hk, hf, rfl, rfl, rfl, q⟩ := h
  obtain ⟨dx, vs, ho, hl, hpr⟩ := hk.get
  unfold prI at q
  have no : (4 ≤ i ∨ 4 ≤ j ∨ 4 ≤ m) → Q (.int (-2)) H := fun z => by
    rw [if_pos z] at q
    exact q _ (Same.refl H)
  refine ⟨_, rfl, _, rfl, i, rfl, _, rfl, ?_⟩
  rw [slot_nat]
  by_cases h1 : i < 4
  · rw [decide_eq_true h1]
    refine ifF rfl ?_
    refine ⟨_, rfl, _, rfl, j, rfl, _, rfl, ?_⟩
    rw [slot_nat]
    by_cases h2 : j < 4
    · rw [decide_eq_true h2]
      refine ifF rfl ?_
      refine ⟨_, rfl, _, rfl, m, rfl, _, rfl, ?_⟩
      rw [slot_nat]
      by_cases h3 : m < 4
      · rw [decide_eq_true h3]
        refine ifF rfl ?_
        rw [if_neg (by omega)] at q
        obtain ⟨v, hv, sv, gv⟩ := slot_at hf hpr h1
        obtain ⟨u, hu, su, gu⟩ := slot_at hf hpr h2
        refine ⟨_, rfl, x, C, dx, _, _, rfl, ho, c.cl, c.nS, KF_s _ _, _, rfl, l, vs, _, v, rfl, rfl, SqL.of hl, hv, Nat.zero_le _, fun l' hl' => ?_⟩
        have s0 : Same H (upd H l' (.lst [])) := same_lay hl'
        refine ⟨_, .list [], (sv.po.same s0).dp, .lst (SqL.of upd_same) .nil, Po_shaped _, rfl, _, rfl, ?_⟩
        rw [Po_nil]
        generalize Kqg3.polynomialIn ps i = p at *
        generalize Kqg3.polynomialIn ps j = r at *
        by_cases hz : p = []
        · rw [if_pos (.inl hz)] at q
          subst hz
          exact ifT rfl (ifT rfl (q _ s0))
        · refine ifF ?_ ?_
          · cases p with
            | nil => exact absurd rfl hz
            | cons _ _ => rfl
          refine ⟨_, rfl, x, C, dx, _, _, rfl, s0 _ _ ho, c.cl, c.nS, KF_s _ _, _, rfl, l, vs, _, u, rfl, rfl, SqL.of (s0 _ _ hl), hu, Nat.zero_le _, fun l2 hl2 => ?_⟩
          have s2 : Same (upd H l' (.lst [])) (upd (upd H l' (.lst [])) l2 (.lst [])) := same_lay hl2
          have sA := s0.trans s2
          refine ⟨_, .list [], (su.po.same sA).dp, .lst (SqL.of upd_same) .nil, Po_shaped _, rfl, _, rfl, ?_⟩
          rw [Po_nil]
          by_cases hz2 : r = []
          · rw [if_pos (.inr hz2)] at q
            subst hz2
            exact ifT rfl (q _ sA)
          · refine ifF ?_ ?_
            · cases r with
              | nil => exact absurd rfl hz2
              | cons _ _ => rfl
            rw [if_neg (fun z => z.elim hz hz2)] at q
            obtain ⟨b1, ws1, rfl, hb1, pr1⟩ := sv.po
            obtain ⟨b2, ws2, rfl, hb2, pr2⟩ := su.po
            have m1 := Paired.len pr1
            have m2 := Paired.len pr2
            refine ⟨_, rfl, x, C, dx, _, _, rfl, sA _ _ ho, c.cl, c.nS, KF_s _ _, _, rfl, l, vs, _, _, rfl, rfl, SqL.of (sA _ _ hl), hv, b1, ws1, rfl, .inl (sqL_same sA hb1), ?_⟩
            refine ⟨_, rfl, x, C, dx, _, _, rfl, sA _ _ ho, c.cl, c.nS, KF_s _ _, _, rfl, l, vs, _, _, rfl, rfl, SqL.of (sA _ _ hl), hu, b2, ws2, rfl, .inl (sqL_same sA hb2), rfl, _, rfl, ?_⟩
            have ed : (!decide (V.int (ws1.length : Int) = V.int (ws2.length : Int))) = decide (p.length ≠ r.length) := by
              rw [m1, m2, dec_eq]
              by_cases hh : p.length = r.length
              · simp [hh]
              · have : ¬ (p.length : Int) = (r.length : Int) := by omega
                simp [hh, this]
            rw [ed]
            by_cases hh : p.length ≠ r.length
            · rw [if_pos hh] at q
              exact ifT (decide_eq_true hh) (q _ sA)
            · rw [if_neg hh] at q
              exact ifF (decide_eq_false hh) (q _ sA)
      · rw [decide_eq_false h3]
        exact ifT rfl (no (by omega))
    · rw [decide_eq_false h2]
      exact ifT rfl (ifT rfl (no (by omega)))
  · rw [decide_eq_false h1]
    exact ifT rfl (ifT rfl (no (by omega)))
end
end RW
namespace RW
open PySem PySem.Spec PyProof.Rows L2 C8
open RK (co Tr ld ev)
section
variable {P : Program} {w : World} {K : PySem.W.Frag} {mg : Str → Option Value} {base : Heap} {C : Addr}
theorem c_k___init__ (T : Txt P K mg base) (c : ClsT K C) (d : MetB K C "__init__" "Keeper.__init__" (inClass (top 79) 0) ["self"]) : Met P w K mg base 1 C "__init__" (sp1 (S_k___init__ C K)) [] := by
  have S : FnScope ["self"] ["self"] (fnScope (inClass (top 79) 0)) := fnScope_by (by decide +kernel)
  refine mt1 (k := 0) d S fun f cdv A outer s H a1 Q E hr h => ?_
  refine ⟨_, (pss_cons (ps_fld (pv 0) pe_bl rfl) (pss_one (ps_fld (pv 0) (pe_lst pa_nil) rfl))), ?_⟩
  obtain ⟨x, dx, rfl, ho, q⟩ := h
  refine ⟨_, rfl, x, C, dx, [], rfl, ho, c.cl, c.nR, (by show 0 < 1000; decide), ?_⟩
  have ho1 : upd H x (.ins C dx (putF "is_ready" (.bl false) [])) x = some (.ins C dx (putF "is_ready" (.bl false) [])) := upd_same
  refine ⟨Nat.zero_le _, fun l hl => ?_⟩
  have hx : x ≠ l := fun e => by rw [← e, ho1] at hl; cases hl
  refine ⟨_, rfl, x, C, dx, _, rfl, (by rw [upd_ne hx]; exact ho1), c.cl, c.nS, (by show 1 < 1000; decide), ?_⟩
  rw [KF_new]
  have hl0 : H l = none := by rw [upd_ne hx.symm] at hl; exact hl
  refine q _ l ⟨⟨dx, upd_same⟩, ⟨[], ?_, .nil⟩, fun _ z => z.elim⟩ ⟨hl0, ?_⟩ fun b o e n => ?_
  · rw [upd_ne hx.symm, upd_same]
  · rw [upd_ne hx.symm, upd_same]
    intro z
    cases z
  · rw [upd_ne n, upd_ne (ne_of_none e hl0), upd_ne n]
    exact e
theorem stp_sum {ps : List (List Rat)} : stp (some ps) .summary = (some ps, 4 :: ps.map fun p => (p.length : Int)) := rfl
def S_k_summary (C : Addr) (K : PySem.W.Frag) (a : V) (H : Hp) (Q : VK) : Prop := ∃ (Z : Addr → Prop) (x l : Addr) (ps : List (List Rat)), a = .ref x ∧ KAt K C Z H x l (some ps) ∧ Four ps ∧ Out K C Z x l (stp (some ps) .summary).1 (stp (some ps) .summary).2 H Q
theorem c_k_summary (T : Txt P K mg base) (c : ClsT K C) (d : MetB K C "summary" "Keeper.summary" (inClass (top 79) 9) ["self"]) : Met P w K mg base 1 C "summary" (sp1 (S_k_summary C K)) [] := by
  have S : FnScope ["self", "polynomial"] ["self"] (fnScope (inClass (top 79) 9)) := fnScope_by (by decide +kernel)
  refine mt1 (k := 0) d S fun f cdv A outer s H a1 Q E hr h => ?_
  refine ⟨_, (pss_one (ps_ret (pe_op op_cat (pe_lst (pa_cons (pe_gc rfl T.gSLOTS) pa_nil)) (pe_lc (te := tCB (fun xs H Q => ∃ p ys, xs = [.ref p] ∧ (SqL K H p ys ∨ SqT K H p ys) ∧ Q (.int ys.length) H) (tCons (tVar 1) tNil)) (own := [("polynomial", 1)]) rfl S.nd (pi_list (pe_fld (pv 0) rfl)) (blkOk_by (own := [("polynomial", 1)]) (N := ["self", "polynomial"]) (sc := fnScope (inClass (top 79) 9)) (by decide +kernel)) (fun _ _ _ _ _ => (pg_name (i := 1) S.nd rfl (Or.inl rfl))) (fun _ _ _ _ _ => pts_nil) (fun _ _ _ _ _ => (pe_callB call_len_seq (by rfl) T.len PySem.boot_len (pa_cons (pv 1) pa_nil))))))), ?_⟩
  obtain ⟨Z, x, l, ps, rfl, hk, hf, q⟩ := h
  obtain ⟨dx, vs, ho, hl, hpr⟩ := hk.get
  have n1 := Paired.len hpr
  rw [stp_sum] at q
  refine ⟨(by show 1 ≤ sizeLine; decide), fun l1 hl1 => ?_⟩
  have s0 : Same H (upd H l1 (.lst [.int 4])) := same_lay hl1
  have h1 : upd H l1 (.lst [.int 4]) l1 = some (.lst [.int 4]) := upd_same
  generalize upd H l1 (.lst [.int 4]) = H1 at *
  refine ⟨_, rfl, x, C, dx, _, _, rfl, s0 _ _ ho, c.cl, c.nS, KF_s _ _, l, rfl, ⟨_, SqL.of (s0 _ _ hl)⟩, fun D hD => lc_list (K := K) (a := l) (xs := vs) (fun i H' => ∃ us, Gr In H1 H' D us ((ps.take i).map fun p => (p.length : Int))) ⟨_, Gr.new hD⟩ ?_ ?_ ?_⟩
  · rintro i H' _ ⟨us, g⟩
    exact SqL.of (g.s _ _ (s0 _ _ hl))
  · rintro i v H' hv ⟨us, g⟩
    obtain ⟨p, hp, sp⟩ := Paired.at hpr hv
    obtain ⟨b, ws, rfl, hb, pr⟩ := sp.po
    have hi : (ps.take i).length ≤ 4 := by rw [List.length_take, hf.n]; omega
    refine ⟨rfl, yes ?_⟩
    refine ⟨_, rfl, b, ws, rfl, .inl (sqL_same g.s (sqL_same s0 hb)), us, g.h, g.room (by rw [List.length_map]; omega), us ++ [.int p.length], ?_⟩
    rw [map_take_succ hp, Paired.len pr]
    exact g.push In.stab rfl
  · rintro H' ⟨us, g⟩
    rw [n1, List.take_length] at g
    have e := ints_eq g.p
    have ln : us.length = 4 := by rw [g.len, List.length_map, hf.n]
    refine ⟨l1, D, _, us, rfl, rfl, g.s _ _ h1, g.h, ?_, fun b hb => ?_⟩
    · rw [ln]
      decide
    have s1 : Same H' (upd H' b (.lst ([.int 4] ++ us))) := same_lay hb
    have sA := (s0.trans g.s).trans s1
    refine q _ b l (Kp.of sA) (hk.same sA) (.inl rfl) ((Nw.lay hb).after (s0.trans g.s)) (fun e => by rw [e, g.s _ _ (s0 _ _ hl)] at hb; cases hb) ?_
    rw [upd_same, e]
    rfl
def floorI (p : List Rat) (k : Nat) (g : Bool) : Int := Kqg1.bisect (fun m => reachB (chainI p) m k g) (2 * (bndI (headI (chainI p)) * 2 ^ k)).toNat (-(bndI (headI (chainI p)) * 2 ^ k)) (bndI (headI (chainI p)) * 2 ^ k)
def floorS (ps : List (List Rat)) (n k : Nat) (g : Bool) : List Int :=
  if refI ps n ≠ 0 then [refI ps n] else if 30 < k then [-22] else if chgBot (chainI (Kqg3.polynomialIn ps n)) - chgTop (chainI (Kqg3.polynomialIn ps n)) = 0 then [-34] else [0, floorI (Kqg3.polynomialIn ps n) k g]
theorem ref_zero {ps : List (List Rat)} {n : Nat} (h : refI ps n = 0) : n < 4 ∧ Kqg3.polynomialIn ps n ≠ [] := by
  unfold refI at h
  by_cases h4 : 4 ≤ n
  · rw [if_pos h4] at h; cases h
  · rw [if_neg h4] at h
    by_cases hz : Kqg3.polynomialIn ps n = []
    · rw [if_pos hz] at h; cases h
    · exact ⟨by omega, hz⟩
theorem sE_ne {p : List Rat} (tp : Tr p) (np : p ≠ []) : sE p ≠ [] := by
  obtain ⟨g1, g2, g3⟩ := gE_ok tp np
  obtain ⟨i1, i2, i3, i4, u, v, i5⟩ := RK.euclid_ok ((Kqg1.derivative p).length + 1) p (Kqg1.derivative p) tp (RK.Tr.deriv p) (.inl np) (by omega)
  exact (RK.Part.of tp np i1 i2 i3 i4 ⟨u, v, i5⟩).ns
theorem wnum_last {p : List Rat} (np : p ≠ []) (tp : Tr p) : lastI (wnum p) ≠ 0 := by
  have hl : (wnum p).getLast? = (p.getLast?).map fun q => q.num * ((cdn 1 p / q.den : Nat) : Int) := by
    unfold wnum
    rw [List.getLast?_map]
  have h0 := RK.Tr.lead_ne tp np
  unfold lastI
  rw [hl]
  unfold Kqg1.leadingCoefficient at h0
  cases e : p.getLast? with
  | none => rw [List.getLast?_eq_none_iff] at e; exact absurd e np
  | some q =>
    rw [e] at h0
    have hq : q ≠ 0 := h0
    have hm : q ∈ p := List.mem_of_getLast? e
    show q.num * ((cdn 1 p / q.den : Nat) : Int) ≠ 0
    intro z
    rcases Int.mul_eq_zero.mp z with z | z
    · exact hq (Rat.num_eq_zero.mp z)
    · have hd := cdn_dvd 1 p q hm
      have hp := cdn_pos 1 p (by decide)
      have h1 : 0 < q.den := Nat.pos_of_ne_zero q.den_nz
      have : 0 < cdn 1 p / q.den := Nat.div_pos (Nat.le_of_dvd hp hd) h1
      omega
def S_k_floor (C : Addr) (K : PySem.W.Frag) (a b e g : V) (H : Hp) (Q : VK) : Prop := ∃ (Z : Addr → Prop) (x l : Addr) (ps : List (List Rat)) (n k : Nat) (gr : Bool), a = .ref x ∧ KAt K C Z H x l (some ps) ∧ Four ps ∧ b = .int (n : Int) ∧ e = .int (k : Int) ∧ g = .bl gr ∧ Out K C Z x l (some ps) (floorS ps n k gr) H Q
theorem c_k_floor (T : Txt P K mg base) (c : ClsT K C) (d : MetB K C "floor" "Keeper.floor" (inClass (top 79) 8) ["self", "slot", "bits", "is_greatest"]) (c_k_refusal : Met P w K mg base 2 C "refusal" (sp2 (S_k_refusal C K)) []) (c_chain_of : Cal P w K mg base 39 "chain_of" (sp1 (S_chain_of K)) []) (c_floor_of_root : Cal P w K mg base 34 "floor_of_root" (sp3 (S_floor_of_root K)) []) (c_root_count : Cal P w K mg base 3 "root_count" (sp1 (S_root_count K)) []) : Met P w K mg base 40 C "floor" (sp4 (S_k_floor C K)) [] := by
  have S : FnScope ["self", "slot", "bits", "is_greatest", "code", "chain"] ["self", "slot", "bits", "is_greatest"] (fnScope (inClass (top 79) 8)) := fnScope_by (by decide +kernel)
  refine mt4 (k := 39) d S fun f cdv A outer s H a1 a2 a3 a4 Q E hr h => ?_
  refine ⟨_, (pss_cons (ps_set (i := 4) S.nd rfl (Or.inl rfl) (pe_mt c_k_refusal hr (by decide) (pv 0) (pa_cons (pv 1) pa_nil))) (pss_cons (ps_if (pt_cmpR op_ne (pv 4) pe_int (nomark _)) (pss_one (ps_ret (pe_lst (pa_cons (pv 4) pa_nil)))) pss_nil) (pss_cons (ps_if (pt_cmpR op_gt (pv 2) (pe_gc rfl T.gMOST_BITS) (nomark _)) (pss_one (ps_ret (pe_lst (pa_cons (pe_gc rfl T.gOUT_OF_RANGE) pa_nil)))) pss_nil) (pss_cons (ps_set (i := 5) S.nd rfl (Or.inl rfl) (pe_c c_chain_of hr (by decide) rfl (pa_cons (pe_ix ix_list (pe_fld (pv 0) rfl) (pv 1) (fun _ _ => rfl)) pa_nil))) (pss_cons (ps_if (pt_cmpR op_eq (pe_c c_root_count hr (by decide) rfl (pa_cons (pv 5) pa_nil)) pe_int (nomark _)) (pss_one (ps_ret (pe_lst (pa_cons (pe_gc rfl T.gNOT_FITTING) pa_nil)))) pss_nil) (pss_one (ps_ret (pe_lst (pa_cons pe_int (pa_cons (pe_c c_floor_of_root hr (by decide) rfl (pa_cons (pv 5) (pa_cons (pv 2) (pa_cons (pv 3) pa_nil)))) pa_nil)))))))))), ?_⟩
  obtain ⟨Z, x, l, ps, n, k, gr, rfl, hk, hf, rfl, rfl, rfl, q⟩ := h
  obtain ⟨dx, vs, ho, hl, hpr⟩ := hk.get
  unfold floorS at q
  refine ⟨_, rfl, x, dx, _, rfl, ho, rfl, _, rfl, _, _, rfl, Z, x, l, ps, n, rfl, hk, hf, rfl, fun H1 s1 => ?_⟩
  have k1 := hk.same s1
  have q1 := q.after s1
  refine ⟨_, rfl, rfl, _, rfl, ?_⟩
  have ed : (!decide (V.int (refI ps n) = V.int 0)) = decide (refI ps n ≠ 0) := by
    rw [dec_eq]
    by_cases h : refI ps n = 0 <;> simp [h]
  rw [ed]
  by_cases hr : refI ps n ≠ 0
  · rw [if_pos hr] at q1
    refine ifT (decide_eq_true hr) ?_
    exact ⟨_, rfl, (by show 1 ≤ sizeLine; decide), q1.lay k1⟩
  · rw [if_neg hr] at q1
    refine ifF (decide_eq_false hr) ?_
    obtain ⟨h4, np⟩ := ref_zero (Decidable.not_not.mp hr)
    refine ⟨_, rfl, _, _, rfl, rfl, _, rfl, ?_⟩
    by_cases h30 : 30 < k
    · rw [if_pos h30] at q1
      refine ifT (decide_eq_true (by omega)) ?_
      exact ⟨(by show 1 ≤ sizeLine; decide), q1.lay k1⟩
    · rw [if_neg h30] at q1
      refine ifF (decide_eq_false (by omega)) ?_
      obtain ⟨v, hv, sv, gv⟩ := slot_at hf hpr h4
      have tp := gv.t
      have hlen := good_len gv
      obtain ⟨ok, hh⟩ := chain_ok tp np (by omega) (sE_ne tp np)
      refine ⟨_, rfl, x, C, dx, _, _, rfl, s1 _ _ ho, c.cl, c.nS, KF_s _ _, _, rfl, l, vs, _, v, rfl, rfl, SqL.of (s1 _ _ hl), hv, ?_⟩
      refine ⟨_, rfl, _, sv.po.same s1, tp, np, by omega, sz_chain gv np, fun H2 r2 s2 n2 f2 => ?_⟩
      have f2' : LLs K H2 (.ref r2) (chainI (Kqg3.polynomialIn ps n)) := f2
      refine ⟨_, rfl, _, rfl, _, f2', ok.n, ok.e, fun H3 s3 => ?_⟩
      refine ⟨rfl, _, rfl, ?_⟩
      rw [dec_eq]
      have k3 := (k1.same s2).same s3
      have q3 := (q1.after s2).after s3
      generalize hc : chainI (Kqg3.polynomialIn ps n) = ch at *
      by_cases h0 : chgBot ch - chgTop ch = 0
      · rw [if_pos h0] at q3
        refine ifT (decide_eq_true h0) ?_
        exact ⟨(by show 1 ≤ sizeLine; decide), q3.lay k3⟩
      · rw [if_neg h0] at q3
        refine ifF (decide_eq_false h0) ?_
        have hb := sz_bound gv np k (by omega)
        rw [hc] at hb
        refine ⟨_, rfl, _, rfl, _, rfl, _, _, _, rfl, ch, k, gr, (2 * (bndI (headI ch) * 2 ^ k)).toNat, f2'.same s3, rfl, rfl, ok, ?_, hb.1, two_pow_ge _ ?_, ?_, fun H4 s4 => ?_⟩
        · rw [hh]
          exact wnum_last (sE_ne tp np) (sE_ok tp np).1
        · have h1 := bnd_nn (headI ch)
          have h2 : (0 : Int) ≤ 2 ^ k := Int.le_of_lt (Int.pow_pos (by decide))
          have := Int.mul_nonneg h1 h2
          omega
        · intro m m1 m2
          have := sz_vals gv np m k (by omega)
          rw [hc] at this
          exact this m1 m2
        · refine ⟨(by show 2 ≤ sizeLine; decide), ?_⟩
          have e5 : floorI (Kqg3.polynomialIn ps n) k gr = Kqg1.bisect (fun m => reachB ch m k gr) (2 * (bndI (headI ch) * 2 ^ k)).toNat (-(bndI (headI ch) * 2 ^ k)) (bndI (headI ch) * 2 ^ k) := by
            unfold floorI
            rw [hc]
          rw [← e5]
          exact (q3.after s4).lay (k3.same s4)
end
end RW
namespace RW
open RK (co Tr ld ev sg sc V Vp Vm chS cnt below Sq Part)
/-! ### sign changes -/
def sI (n : Int) : Int := if n = 0 then 0 else if n < 0 then -1 else 1
theorem sI_ne {n : Int} (h : n ≠ 0) : sI n ≠ 0 := by unfold sI; rw [if_neg h]; split <;> decide
theorem sI_eq {m n : Int} (hm : m ≠ 0) (hn : n ≠ 0) : sI m = sI n ↔ (decide (0 < n) = decide (0 < m)) := by
  unfold sI
  rw [if_neg hm, if_neg hn]
  by_cases h1 : m < 0 <;> by_cases h2 : n < 0
  · have h3 : ¬ 0 < m := by omega
    have h4 : ¬ 0 < n := by omega
    simp [h1, h2, h3, h4]
  · have h3 : ¬ 0 < m := by omega
    have h4 : 0 < n := by omega
    simp [h1, h2, h3, h4]
  · have h3 : 0 < m := by omega
    have h4 : ¬ 0 < n := by omega
    simp [h1, h2, h3, h4]
  · have h3 : 0 < m := by omega
    have h4 : 0 < n := by omega
    simp [h1, h2, h3, h4]
theorem chI_from : ∀ (l : List Int) (c z : Int), (l.foldl cstep (c, z)).1 = c + (sc (if z = 0 then l.map sI else sI z :: l.map sI) : Nat)
  | [], c, z => by
    by_cases h : z = 0
    · rw [if_pos h]; show c = c + ((0 : Nat) : Int); omega
    · rw [if_neg h]
      show c = c + ((sc [sI z] : Nat) : Int)
      rw [RK.sc_one]; omega
  | n :: l, c, z => by
    have ih := chI_from l
    rw [List.foldl_cons]
    by_cases hn : n = 0
    · have e : cstep (c, z) n = (c, z) := by unfold cstep; rw [if_pos hn]
      have e2 : sI n = 0 := by unfold sI; rw [if_pos hn]
      rw [e, ih c z]
      by_cases h : z = 0
      · rw [if_pos h, if_pos h, List.map_cons, e2, RK.sc_zero]
      · rw [if_neg h, if_neg h, List.map_cons, e2, RK.sc_zero2]
    · by_cases h : z = 0
      · have e : cstep (c, z) n = (c, n) := by unfold cstep; rw [if_neg hn, if_neg (by simp [h])]
        rw [e, ih c n, if_neg hn, if_pos h, List.map_cons]
      · rw [if_neg h, List.map_cons, RK.sc_two (sI_ne h) (sI_ne hn)]
        by_cases hs : decide (0 < n) = decide (0 < z)
        · have e : cstep (c, z) n = (c, n) := by unfold cstep; rw [if_neg hn, if_neg (by simp [hs])]
          rw [e, ih c n, if_neg hn, if_pos ((sI_eq h hn).mpr hs)]
          omega
        · have e : cstep (c, z) n = (c + 1, n) := by unfold cstep; rw [if_neg hn, if_pos ⟨h, hs⟩]
          rw [e, ih (c + 1) n, if_neg hn, if_neg (fun w => hs ((sI_eq h hn).mp w))]
          omega
theorem chI_eq (l : List Int) : chI l = (sc (l.map sI) : Nat) := by
  have := chI_from l 0 0
  rw [if_pos rfl] at this
  unfold chI
  omega
theorem sI_cast (n : Int) : sI n = sg (n : Rat) := by
  unfold sI RK.sg Kqg1.sign
  by_cases h : n = 0
  · rw [if_pos h, if_pos (by rw [h]; rfl)]
  · have h' : (n : Rat) ≠ 0 := fun z => h (Rat.intCast_eq_zero_iff.mp z)
    rw [if_neg h, if_neg h']
    by_cases h2 : n < 0
    · rw [if_pos h2, if_pos (by exact_mod_cast (Rat.intCast_neg_iff.mpr h2))]
    · have h3 : 0 < n := by omega
      have h4 : (0 : Rat) < (n : Rat) := Rat.intCast_pos.mpr h3
      rw [if_neg h2, if_neg (by grind)]
theorem sg_scale {c x : Rat} (h : 0 < c) : sg (c * x) = sg x := by
  rw [RK.sg_mul, RK.sg_pos h]; omega
/-! ### values -/
theorem pow_pos2 (b : Nat) : (0 : Rat) < (2 : Rat) ^ b := Rat.pow_pos (by decide)
theorem vst_fold (m : Int) (b : Nat) (l : List Int) : vst m b l = l.foldr (fun n s => vstep m b s n) (0, 1) := by
  unfold vst
  rw [List.foldl_reverse]
theorem vst_ok (m : Int) (b : Nat) (t : Rat) (ht : t * (2 : Rat) ^ b = (m : Rat)) : ∀ l : List Int, 0 < (vst m b l).2 ∧ ((vst m b l).1 : Rat) * (2 : Rat) ^ b = ev (l.map fun (n : Int) => (n : Rat)) t * ((vst m b l).2 : Rat)
  | [] => by
    refine ⟨(by show (0 : Int) < 1; decide), ?_⟩
    show ((0 : Int) : Rat) * _ = ev [] t * _
    rw [RK.ev_nil]
    grind
  | n :: l => by
    obtain ⟨h1, h2⟩ := vst_ok m b t ht l
    have e : vst m b (n :: l) = vstep m b (vst m b l) n := by rw [vst_fold, vst_fold]; rfl
    rw [e]
    unfold vstep
    generalize (vst m b l).1 = F at *
    generalize (vst m b l).2 = S at *
    refine ⟨Int.mul_pos h1 (Int.pow_pos (by decide)), ?_⟩
    show ((F * m + n * S : Int) : Rat) * _ = ev ((n : Rat) :: l.map fun (n : Int) => (n : Rat)) t * ((S * 2 ^ b : Int) : Rat)
    rw [RK.ev_cons, Rat.intCast_add, Rat.intCast_mul, Rat.intCast_mul, Rat.intCast_mul, Rat.intCast_pow]
    generalize ev (l.map fun (n : Int) => (n : Rat)) t = y at *
    have e3 : ((2 : Int) : Rat) = 2 := rfl
    rw [e3]
    generalize ((2 : Rat) ^ b) = z at *
    rw [← ht]
    grind
theorem vat_sg (m : Int) (b : Nat) (t : Rat) (ht : t * (2 : Rat) ^ b = (m : Rat)) (l : List Int) : sI (vat l m b) = sg (ev (l.map fun (n : Int) => (n : Rat)) t) := by
  obtain ⟨h1, h2⟩ := vst_ok m b t ht l
  have h3 : (0 : Rat) < ((vst m b l).2 : Rat) := Rat.intCast_pos.mpr h1
  have h4 := pow_pos2 b
  rw [sI_cast]
  show sg ((vst m b l).1 : Rat) = _
  rw [← sg_scale (c := (2 : Rat) ^ b) h4, Rat.mul_comm, h2, Rat.mul_comm, sg_scale h3]
/-! ### a positive multiple in whole numbers -/
theorem wnum_cast (p : List Rat) : (wnum p).map (fun (n : Int) => (n : Rat)) = p.map fun x => ((cdn 1 p : Nat) : Rat) * x := by
  unfold wnum
  rw [List.map_map]
  refine List.map_congr_left fun q hq => ?_
  obtain ⟨k, hk⟩ := cdn_dvd 1 p q hq
  have hd : 0 < q.den := Nat.pos_of_ne_zero q.den_nz
  have e1 : cdn 1 p / q.den = k := by rw [hk]; exact Nat.mul_div_cancel_left k hd
  show ((q.num * ((cdn 1 p / q.den : Nat) : Int) : Int) : Rat) = _
  rw [e1, Rat.intCast_mul]
  have e2 : q = (q.num : Rat) / ((q.den : Nat) : Rat) := by rw [← rat_div]; exact (Rat.num_divInt_den q).symm
  have hd0 : ((q.den : Nat) : Rat) ≠ 0 := by
    intro z; exact q.den_nz (Rat.natCast_eq_zero_iff.mp z)
  have e3 : ((cdn 1 p : Nat) : Rat) = ((q.den : Nat) : Rat) * ((k : Nat) : Rat) := by rw [hk, Rat.natCast_mul]
  rw [e3]
  have e4 : (((k : Nat) : Int) : Rat) = ((k : Nat) : Rat) := rfl
  rw [e4]
  generalize ((q.den : Nat) : Rat) = d at *
  generalize (q.num : Rat) = n at *
  generalize ((k : Nat) : Rat) = z at *
  have : q * d = n := by rw [e2]; grind
  grind
theorem cdn_posR (p : List Rat) : (0 : Rat) < ((cdn 1 p : Nat) : Rat) := Rat.natCast_pos.mpr (cdn_pos 1 p (by decide))
theorem wnum_sg (m : Int) (b : Nat) (t : Rat) (ht : t * (2 : Rat) ^ b = (m : Rat)) (p : List Rat) : sI (vat (wnum p) m b) = sg (ev p t) := by
  rw [vat_sg m b t ht, wnum_cast, RK.ev_map, sg_scale (cdn_posR p)]
theorem wnum_last_sg {p : List Rat} (np : p ≠ []) : sI (lastI (wnum p)) = sg (Kqg1.leadingCoefficient p) := by
  have h1 : (lastI (wnum p) : Rat) = ((cdn 1 p : Nat) : Rat) * Kqg1.leadingCoefficient p := by
    have h := congrArg List.getLast? (wnum_cast p)
    rw [List.getLast?_map, List.getLast?_map] at h
    unfold lastI Kqg1.leadingCoefficient
    cases e : p.getLast? with
    | none => rw [List.getLast?_eq_none_iff] at e; exact absurd e np
    | some q =>
      rw [e] at h
      cases e2 : (wnum p).getLast? with
      | none => rw [e2] at h; cases h
      | some n =>
        rw [e2] at h
        simpa using h
  rw [sI_cast, h1, sg_scale (cdn_posR p)]
end RW
namespace RW
open RK (co Tr ld ev sg sc V Vp Vm chS cnt below Sq Part Nest)
theorem part_ok {p : List Rat} (tp : Tr p) (np : p ≠ []) : Part p (gE p) (sE p) := by
  obtain ⟨g1, g2, g3⟩ := gE_ok tp np
  obtain ⟨i1, i2, i3, i4, u, v, i5⟩ := RK.euclid_ok ((Kqg1.derivative p).length + 1) p (Kqg1.derivative p) tp (RK.Tr.deriv p) (.inl np) (by omega)
  exact RK.Part.of tp np i1 i2 i3 i4 ⟨u, v, i5⟩
theorem neg_sI (n : Int) : sI (-n) = - sI n := by
  unfold sI
  by_cases h : n = 0
  · rw [if_pos h, if_pos (by omega)]; rfl
  · rw [if_neg h, if_neg (by omega)]
    by_cases h2 : n < 0
    · rw [if_pos h2, if_neg (by omega)]; rfl
    · rw [if_neg h2, if_pos (by omega)]
theorem low_sg {p : List Rat} (np : p ≠ []) : sI (lowI (wnum p)) = Kqg1.signAt p .minusInfinity := by
  have hl : (wnum p).length = p.length := by unfold wnum; rw [List.length_map]
  have h0 := List.length_pos_iff.mpr np
  unfold lowI
  rw [hl]
  show _ = if Kqg1.degree p % 2 = 0 then Kqg1.sign (Kqg1.leadingCoefficient p) else -(Kqg1.sign (Kqg1.leadingCoefficient p))
  by_cases h : p.length % 2 = 1
  · rw [if_pos h, if_pos (by unfold Kqg1.degree; omega), wnum_last_sg np]
  · rw [if_neg h, if_neg (by unfold Kqg1.degree; omega), neg_sI, wnum_last_sg np]
section
variable {p : List Rat} (tp : Tr p) (np : p ≠ [])
include tp np
theorem sq_ok : Sq (sE p) := (part_ok tp np).Sq
theorem ch_mem : ∀ f ∈ chS (sE p), f ≠ [] := fun f hf => (RK.chn_ok _ _ _ (sq_ok tp np).t (sq_ok tp np).n (RK.Tr.deriv _) f hf).2
theorem chgAt_eq (m : Int) (b : Nat) (t : Rat) (ht : t * (2 : Rat) ^ b = (m : Rat)) : chgAt (chainI p) m b = (V (chS (sE p)) t : Nat) := by
  unfold chgAt chainI
  rw [chI_eq, List.map_map, List.map_map, RK.V_eq]
  generalize chS (sE p) = c
  have e : c.map (sI ∘ ((fun ns => vat ns m b) ∘ wnum)) = c.map fun q => sg (ev q t) := List.map_congr_left fun f _ => wnum_sg m b t ht f
  first | rw [e] | (rw [show (sI ∘ (fun ns => vat ns m b)) ∘ wnum = sI ∘ ((fun ns => vat ns m b) ∘ wnum) from rfl, e])
theorem chgTop_eq : chgTop (chainI p) = (Vp (chS (sE p)) : Nat) := by
  unfold chgTop chainI
  rw [chI_eq, List.map_map, List.map_map]
  have hm := ch_mem tp np
  show _ = ((sc ((chS (sE p)).map fun q => Kqg1.signAt q .plusInfinity) : Nat) : Int)
  generalize chS (sE p) = c at *
  have e : c.map (sI ∘ (lastI ∘ wnum)) = c.map fun q => Kqg1.signAt q .plusInfinity := List.map_congr_left fun f hf => wnum_last_sg (hm f hf)
  first | rw [e] | (rw [show (sI ∘ lastI) ∘ wnum = sI ∘ (lastI ∘ wnum) from rfl, e])
theorem chgBot_eq : chgBot (chainI p) = (Vm (chS (sE p)) : Nat) := by
  unfold chgBot chainI
  rw [chI_eq, List.map_map, List.map_map]
  have hm := ch_mem tp np
  show _ = ((sc ((chS (sE p)).map fun q => Kqg1.signAt q .minusInfinity) : Nat) : Int)
  generalize chS (sE p) = c at *
  have e : c.map (sI ∘ (lowI ∘ wnum)) = c.map fun q => Kqg1.signAt q .minusInfinity := List.map_congr_left fun f hf => low_sg (hm f hf)
  first | rw [e] | (rw [show (sI ∘ lowI) ∘ wnum = sI ∘ (lowI ∘ wnum) from rfl, e])
theorem head_eq : headI (chainI p) = wnum (sE p) := by
  obtain ⟨r, hr⟩ := RK.chn_head (sE p).length (sE p) (Kqg1.derivative (sE p))
  unfold chainI
  show headI ((RK.chn ((sE p).length + 1) (sE p) (Kqg1.derivative (sE p))).map wnum) = _
  rw [hr]
  rfl
theorem isRt_eq (m : Int) (b : Nat) (t : Rat) (ht : t * (2 : Rat) ^ b = (m : Rat)) : isRt (chainI p) m b = decide (ev (sE p) t = 0) := by
  unfold isRt
  rw [head_eq tp np]
  have h := wnum_sg m b t ht (sE p)
  apply decide_eq_decide.mpr
  constructor
  · intro z
    rw [z] at h
    rcases RK.sg_cases (ev (sE p) t) with ⟨a, _⟩ | ⟨a, _⟩ | ⟨_, a⟩
    · rw [a] at h; cases h
    · rw [a] at h; cases h
    · exact a
  · intro z
    rw [z, RK.sg_zero] at h
    exact Decidable.byContradiction fun w => sI_ne w h
theorem belowB_eq (m : Int) (b : Nat) (t : Rat) (ht : t * (2 : Rat) ^ b = (m : Rat)) : belowB (chainI p) m b = decide (0 < below (sE p) t) := by
  unfold belowB
  rw [chgBot_eq tp np, chgAt_eq tp np m b t ht, isRt_eq tp np m b t ht]
  have h := ((sq_ok tp np).chain t).2
  unfold below
  by_cases hr : ev (sE p) t = 0
  · rw [if_pos hr, decide_eq_true hr, Bool.not_true, Bool.and_false, Bool.or_false]
    apply decide_eq_decide.mpr
    omega
  · rw [if_neg hr, decide_eq_false hr, Bool.not_false, Bool.and_true, ← Bool.decide_or]
    apply decide_eq_decide.mpr
    omega
theorem fromB_eq (m : Int) (b : Nat) (t : Rat) (ht : t * (2 : Rat) ^ b = (m : Rat)) : fromB (chainI p) m b = decide (below (sE p) t < cnt (sE p)) := by
  unfold fromB
  rw [chgTop_eq tp np, chgAt_eq tp np m b t ht, isRt_eq tp np m b t ht]
  have h := (sq_ok tp np).chain t
  unfold below cnt
  rw [← Bool.decide_or]
  apply decide_eq_decide.mpr
  by_cases hr : ev (sE p) t = 0
  · have := (sq_ok tp np).root hr
    rw [if_pos hr]
    constructor
    · intro _; omega
    · intro _; exact .inl hr
  · rw [if_neg hr]
    constructor
    · rintro (z | z)
      · exact absurd z hr
      · omega
    · intro z; exact .inr (by omega)
theorem cnt_int : chgBot (chainI p) - chgTop (chainI p) = (cnt (sE p) : Nat) := by
  rw [chgBot_eq tp np, chgTop_eq tp np]
  have h := (sq_ok tp np).chain 0
  unfold cnt
  omega
theorem realB_eq : realB (chainI p) = decide (cnt (sE p) = (sE p).length - 1) := by
  unfold realB
  rw [cnt_int tp np, head_eq tp np]
  have h0 := List.length_pos_iff.mpr (sq_ok tp np).n
  have hl : (wnum (sE p)).length = (sE p).length := by unfold wnum; rw [List.length_map]
  rw [hl]
  apply decide_eq_decide.mpr
  omega
theorem law_real : realB (chainI p) = Kqg1.isRealRooted p := by rw [realB_eq tp np, RK.isRealRooted_eq (part_ok tp np)]
theorem law_nonneg : (realB (chainI p) && !belowB (chainI p) 0 0) = Kqg3.hasNonnegativeRoots p := by
  rw [realB_eq tp np, belowB_eq tp np 0 0 0 (by show (0 : Rat) * 1 = 0; grind), RK.nonneg_eq (part_ok tp np)]
  congr 1
  rw [← decide_not]
  apply decide_eq_decide.mpr
  omega
theorem law_count : chgBot (chainI p) - chgTop (chainI p) = 0 ↔ Kqg3.rootCount p = 0 := by
  rw [cnt_int tp np, RK.rootCount_zero (part_ok tp np)]
  omega
end
end RW
namespace RW
open RK (co Tr ld ev sg sc V Vp Vm chS cnt below Sq Part Nest CB alt Bd)
theorem bisect_ok (f : Int → Bool) : ∀ (n : Nat) (lo hi : Int), f lo = true → f hi = false → lo < hi → hi - lo ≤ 2 ^ n → f (Kqg1.bisect f n lo hi) = true ∧ f (Kqg1.bisect f n lo hi + 1) = false
  | 0, lo, hi, h1, h2, h3, h4 => by
    have : hi = lo + 1 := by
      have e : (2 : Int) ^ 0 = 1 := rfl
      rw [e] at h4
      omega
    show f lo = true ∧ f (lo + 1) = false
    rw [← this]
    exact ⟨h1, h2⟩
  | n + 1, lo, hi, h1, h2, h3, h4 => by
    unfold Kqg1.bisect
    by_cases c : hi ≤ lo + 1
    · have : hi = lo + 1 := by omega
      rw [if_pos c, ← this]
      exact ⟨h1, h2⟩
    · rw [if_neg c]
      rw [Int.pow_succ] at h4
      simp only []
      obtain ⟨z, hz⟩ : ∃ z, (2 : Int) ^ n = z := ⟨_, rfl⟩
      rw [hz] at h4
      by_cases hm : f ((lo + hi) / 2) = true
      · rw [if_pos hm]
        refine bisect_ok f n _ _ hm h2 (by omega) ?_
        rw [hz]
        omega
      · rw [if_neg hm]
        refine bisect_ok f n _ _ h1 (by simpa using hm) (by omega) ?_
        rw [hz]
        omega
theorem bisect_uniq {f : Int → Bool} (anti : ∀ a b, a ≤ b → f b = true → f a = true) {m n : Int} (h1 : f m = true) (h2 : f (m + 1) = false) (h3 : f n = true) (h4 : f (n + 1) = false) : m = n := by
  rcases Int.lt_trichotomy m n with h | h | h
  · have := anti (m + 1) n (by omega) h3
    rw [h2] at this; cases this
  · exact h
  · have := anti (n + 1) m (by omega) h1
    rw [h4] at this; cases this
/-! ### beyond all roots -/
structure Beyond (s : List Rat) (b : Rat) : Prop where
  nz : ∀ t, b ≤ t ∨ t ≤ -b → ev s t ≠ 0
  nn : ∀ N : Nest, (∀ n, b ≤ N.a n) ∨ (∀ n, N.b n ≤ -b) → ¬ N.Nul (ev s)
theorem Beyond.mono {s : List Rat} {b c : Rat} (h : Beyond s b) (hc : b ≤ c) : Beyond s c :=
  ⟨fun t z => h.nz t (z.elim (fun z => .inl (by grind)) fun z => .inr (by grind)), fun N z => h.nn N (z.elim (fun z => .inl fun n => by have := z n; grind) fun z => .inr fun n => by have := z n; grind)⟩
theorem Beyond.dvd {p g s : List Rat} {b : Rat} (h : Beyond p b) (e : ∀ t, ev p t = ev g t * ev s t) : Beyond s b :=
  ⟨fun t z w => h.nz t z (by rw [e, w]; grind), fun N z w => h.nn N z (w.mul g fun x => by rw [e]; grind)⟩
theorem half_lt {l y : Rat} (hl : l ≠ 0) (h : l * l ≤ y * l) (e : Rat) (he : e = (if l < 0 then -l else l) / 2) : ¬ (Bd e y) := by
  intro hb
  unfold RK.Bd at hb
  by_cases c : l < 0
  · rw [if_pos c] at he
    have h1 : (y - l) * (-l) ≤ 0 := by grind
    have h2 : 0 < -l := by grind
    have h3 : 0 < y - l := by grind
    have := Rat.mul_pos h3 h2
    grind
  · rw [if_neg c] at he
    have h2 : 0 < l := by grind
    have h3 : 0 < l - y := by grind
    have := Rat.mul_pos h3 h2
    grind
theorem Beyond.of {f : List Rat} {M b : Rat} (nf : f ≠ []) (hl : ld f ≠ 0) (hM : 0 ≤ M) (h : CB M (ld f) f) (hb : M + 1 ≤ b) : Beyond f b := by
  have R : ∀ t, b ≤ t → ld f * ld f ≤ ev f t * ld f := fun t ht => RK.right_of hM (by grind) nf rfl h
  have Lf : ∀ t, t ≤ -b → ld f * ld f ≤ alt f * ev f t * ld f := fun t ht => RK.left_of hM (by grind) nf rfl h
  have ha : alt f = 1 ∨ alt f = -1 := by unfold RK.alt; split <;> simp
  have sp := RK.sq_pos hl
  have ep : 0 < (if ld f < 0 then -ld f else ld f) / 2 := by split <;> grind
  constructor
  · rintro t (z | z) w
    · have := R t z; rw [w] at this; grind
    · have := Lf t z; rw [w] at this; grind
  · rintro N (z | z) w
    · obtain ⟨n, hn⟩ := w _ ep
      exact half_lt hl (R _ (z n)) _ rfl (hn _ Rat.le_refl (N.le n))
    · obtain ⟨n, hn⟩ := w _ ep
      have h1 := Lf _ (z n)
      have h2 := hn _ (N.le n) Rat.le_refl
      rcases ha with a | a
      · rw [a] at h1
        exact half_lt hl (by grind) _ rfl h2
      · rw [a] at h1
        exact half_lt (y := - ev f (N.b n)) hl (by grind) _ rfl h2.neg
theorem below_left {s : List Rat} (h : Sq s) {b x : Rat} (B : Beyond s b) (hx : x ≤ -b) : below s x = 0 := by
  obtain ⟨B0, b0, h1, h2⟩ := RK.V_far h.t h.n
  have e : V (chS s) x = Vm (chS s) := by
    by_cases c : x ≤ -B0
    · exact h2 x c
    · rw [← h2 (-B0) Rat.le_refl]
      refine (RK.V_eq_of_no_root h.t h.q (by grind) fun N hN => B.nn N (.inr fun n => ?_)).symm
      have := (hN n).2
      grind
  unfold below
  rw [e]
  omega
theorem below_right {s : List Rat} (h : Sq s) {b x : Rat} (B : Beyond s b) (hx : b ≤ x) : below s x = cnt s := by
  obtain ⟨B0, b0, h1, h2⟩ := RK.V_far h.t h.n
  have e : V (chS s) x = Vp (chS s) := by
    by_cases c : B0 ≤ x
    · exact h1 x c
    · rw [← h1 B0 Rat.le_refl]
      refine RK.V_eq_of_no_root h.t h.q (by grind) fun N hN => B.nn N (.inl fun n => ?_)
      have := (hN n).1
      grind
  unfold below cnt
  rw [e, if_neg (B.nz x (.inl hx))]
  omega
/-! ### the two bounds -/
theorem absI_le (n : Int) : n ≤ absI n ∧ -n ≤ absI n := by unfold absI; split <;> omega
theorem foldI_ge : ∀ (l : List Int) (m : Int), m ≤ l.foldl (fun m n => maxI m (absI n)) m ∧ ∀ n ∈ l, absI n ≤ l.foldl (fun m n => maxI m (absI n)) m
  | [], m => ⟨Int.le_refl _, fun _ h => by cases h⟩
  | a :: l, m => by
    obtain ⟨h1, h2⟩ := foldI_ge l (maxI m (absI a))
    have h3 : m ≤ maxI m (absI a) ∧ absI a ≤ maxI m (absI a) := by unfold maxI; split <;> omega
    rw [List.foldl_cons]
    refine ⟨by omega, fun n hn => ?_⟩
    rcases List.mem_cons.mp hn with rfl | hn
    · omega
    · exact h2 n hn
theorem bndI_ge {ns : List Int} (h0 : lastI ns ≠ 0) : 2 ≤ bndI ns ∧ ∀ n ∈ ns, absI n ≤ (bndI ns - 1) * absI (lastI ns) := by
  obtain ⟨h1, h2⟩ := foldI_ge ns 0
  unfold bndI
  generalize ns.foldl (fun m n => maxI m (absI n)) 0 = X at *
  have hL : 0 < absI (lastI ns) := by unfold absI; split <;> omega
  generalize absI (lastI ns) = L at *
  have h3 := Int.ediv_nonneg h1 (Int.le_of_lt hL)
  refine ⟨by omega, fun n hn => ?_⟩
  have h4 := h2 n hn
  have h5 : X < (X / L + 1) * L := Int.lt_ediv_add_one_mul_self X hL
  have e : X / L + 2 - 1 = X / L + 1 := by omega
  rw [e]
  omega
theorem mul_abs (a b : Int) : a * b ≤ absI a * absI b ∧ -(a * b) ≤ absI a * absI b := by
  have h1 := absI_le a
  have h2 := absI_le b
  have e : absI a * absI b = absI (a * b) := by
    unfold absI
    by_cases ha : a < 0 <;> by_cases hb : b < 0
    · have := Int.mul_pos (by omega : 0 < -a) (by omega : 0 < -b)
      rw [if_pos ha, if_pos hb, if_neg (by rw [Int.neg_mul_neg] at this; omega), Int.neg_mul_neg]
    · by_cases hb0 : b = 0
      · subst hb0; simp
      · have := Int.mul_pos (by omega : 0 < -a) (by omega : 0 < b)
        rw [Int.neg_mul] at this
        rw [if_pos ha, if_neg hb, if_pos (by omega), Int.neg_mul]
    · by_cases ha0 : a = 0
      · subst ha0; simp
      · have := Int.mul_pos (by omega : 0 < a) (by omega : 0 < -b)
        rw [Int.mul_neg] at this
        rw [if_neg ha, if_pos hb, if_pos (by omega), Int.mul_neg]
    · have := Int.mul_nonneg (by omega : 0 ≤ a) (by omega : 0 ≤ b)
      rw [if_neg ha, if_neg hb, if_neg (by omega)]
  rw [e]
  exact absI_le (a * b)
theorem wnum_mem {s : List Rat} {c : Rat} (h : c ∈ s) : ∃ n ∈ wnum s, (n : Rat) = ((cdn 1 s : Nat) : Rat) * c := by
  have h1 : ((cdn 1 s : Nat) : Rat) * c ∈ (wnum s).map (fun (n : Int) => (n : Rat)) := by
    rw [wnum_cast]
    exact List.mem_map.mpr ⟨c, h, rfl⟩
  obtain ⟨n, hn, e⟩ := List.mem_map.mp h1
  exact ⟨n, hn, e⟩
theorem wnum_ld {p : List Rat} (np : p ≠ []) : (lastI (wnum p) : Rat) = ((cdn 1 p : Nat) : Rat) * ld p := by
  have h := congrArg List.getLast? (wnum_cast p)
  rw [List.getLast?_map, List.getLast?_map] at h
  unfold lastI
  show _ = _ * Kqg1.leadingCoefficient p
  unfold Kqg1.leadingCoefficient
  cases e : p.getLast? with
  | none => rw [List.getLast?_eq_none_iff] at e; exact absurd e np
  | some q =>
    rw [e] at h
    cases e2 : (wnum p).getLast? with
    | none => rw [e2] at h; cases h
    | some n =>
      rw [e2] at h
      simpa using h
theorem prog_bound {s : List Rat} (ts : Tr s) (ns : s ≠ []) : Beyond s (bndI (wnum s) : Int) := by
  have h0 := wnum_last ns ts
  obtain ⟨b2, hb⟩ := bndI_ge h0
  have hD := cdn_posR s
  have hL := wnum_ld ns
  generalize hM : bndI (wnum s) - 1 = M at *
  have eb : ((bndI (wnum s) : Int) : Rat) = (M : Rat) + 1 := by
    have : bndI (wnum s) = M + 1 := by omega
    rw [this, Rat.intCast_add]
    rfl
  rw [eb]
  have hl0 : ld s ≠ 0 := RK.Tr.lead_ne ts ns
  have hM0 : (0 : Rat) ≤ (M : Rat) := Rat.intCast_nonneg.mpr (by omega)
  refine Beyond.of (M := (M : Rat)) ns hl0 hM0 (fun c hc => ?_) Rat.le_refl
  obtain ⟨n, hn, en⟩ := wnum_mem hc
  have h1 := hb n hn
  obtain ⟨a1, a2⟩ := mul_abs n (lastI (wnum s))
  generalize lastI (wnum s) = L at *
  have hLL : absI L * absI L = L * L := by unfold absI; split <;> grind
  have hLn : 0 ≤ absI L := by unfold absI; split <;> omega
  have h2 : absI n * absI L ≤ M * absI L * absI L := Int.mul_le_mul_of_nonneg_right h1 hLn
  rw [Int.mul_assoc, hLL] at h2
  have q1 : (n : Rat) * (L : Rat) ≤ (M : Rat) * ((L : Rat) * (L : Rat)) := by
    have : ((n * L : Int) : Rat) ≤ ((M * (L * L) : Int) : Rat) := Rat.intCast_le_intCast.mpr (by omega)
    rw [Rat.intCast_mul, Rat.intCast_mul, Rat.intCast_mul] at this
    exact this
  have q2 : -((M : Rat) * ((L : Rat) * (L : Rat))) ≤ (n : Rat) * (L : Rat) := by
    have : ((-(M * (L * L)) : Int) : Rat) ≤ ((n * L : Int) : Rat) := Rat.intCast_le_intCast.mpr (by omega)
    rw [Rat.intCast_neg, Rat.intCast_mul, Rat.intCast_mul, Rat.intCast_mul] at this
    exact this
  rw [en, hL] at q1 q2
  generalize ((cdn 1 s : Nat) : Rat) = D at *
  generalize (M : Rat) = m at *
  generalize ld s = l at *
  have hDD := Rat.mul_pos hD hD
  constructor
  · have e : D * D * (m * (l * l) - c * l) = m * (D * l * (D * l)) - D * c * (D * l) := by grind
    refine Decidable.byContradiction fun z => ?_
    have := Rat.mul_pos hDD (show 0 < c * l - m * (l * l) by grind)
    grind
  · refine Decidable.byContradiction fun z => ?_
    have := Rat.mul_pos hDD (show 0 < -(m * (l * l)) - c * l by grind)
    grind
theorem ceil_ge (x : Rat) : x ≤ ((Kqg1.ceiling x : Nat) : Rat) := by
  unfold Kqg1.ceiling
  have hd : (0 : Int) < (x.den : Int) := by have := Nat.pos_of_ne_zero x.den_nz; omega
  have h1 : x.num ≤ ((x.num + (x.den : Int) - 1) / (x.den : Int)) * (x.den : Int) := by
    have := Int.lt_ediv_add_one_mul_self (x.num + (x.den : Int) - 1) hd
    rw [Int.add_mul, Int.one_mul] at this
    omega
  have h2 : ((x.num + (x.den : Int) - 1) / (x.den : Int)) ≤ (((x.num + (x.den : Int) - 1) / (x.den : Int)).toNat : Int) := Int.self_le_toNat _
  generalize ((x.num + (x.den : Int) - 1) / (x.den : Int)) = c at *
  generalize c.toNat = N at *
  have h3 : x.num ≤ (N : Int) * (x.den : Int) := Int.le_trans h1 (Int.mul_le_mul_of_nonneg_right h2 (Int.le_of_lt hd))
  have h4 : ((x.num : Int) : Rat) ≤ (((N : Int) * (x.den : Int) : Int) : Rat) := Rat.intCast_le_intCast.mpr h3
  rw [Rat.intCast_mul] at h4
  have e2 : x = (x.num : Rat) / ((x.den : Nat) : Rat) := by rw [← rat_div]; exact (Rat.num_divInt_den x).symm
  have hd0 : (0 : Rat) < ((x.den : Nat) : Rat) := Rat.natCast_pos.mpr (by omega)
  have e5 : x * ((x.den : Nat) : Rat) = (x.num : Rat) := by
    generalize ((x.den : Nat) : Rat) = d at *
    generalize (x.num : Rat) = n at *
    rw [e2]; grind
  have e6 : (((x.den : Nat) : Int) : Rat) = ((x.den : Nat) : Rat) := rfl
  have e7 : (((N : Nat) : Int) : Rat) = ((N : Nat) : Rat) := rfl
  rw [e6, e7, ← e5] at h4
  refine Decidable.byContradiction fun z => ?_
  have := Rat.mul_pos hd0 (show 0 < x - ((N : Nat) : Rat) by grind)
  grind
theorem foldR_ge : ∀ (l : List Rat) (m : Rat), m ≤ l.foldl (fun x y => if x < y then y else x) m ∧ ∀ y ∈ l, y ≤ l.foldl (fun x y => if x < y then y else x) m
  | [], m => ⟨Rat.le_refl, fun _ h => by cases h⟩
  | a :: l, m => by
    obtain ⟨h1, h2⟩ := foldR_ge l (if m < a then a else m)
    rw [List.foldl_cons]
    have h3 : m ≤ (if m < a then a else m) ∧ a ≤ (if m < a then a else m) := by split <;> grind
    refine ⟨Rat.le_trans h3.1 h1, fun y hy => ?_⟩
    rcases List.mem_cons.mp hy with rfl | hy
    · exact Rat.le_trans h3.2 h1
    · exact h2 y hy
theorem spec_bound {p : List Rat} (tp : Tr p) (np : p ≠ []) : Beyond p ((Kqg1.rootBound p : Nat) : Rat) := by
  have hl0 : ld p ≠ 0 := RK.Tr.lead_ne tp np
  unfold Kqg1.rootBound
  obtain ⟨f1, f2⟩ := foldR_ge (p.map fun c => Kqg1.absolute (c / Kqg1.leadingCoefficient p)) 0
  generalize (p.map fun c => Kqg1.absolute (c / Kqg1.leadingCoefficient p)).foldl (fun x y => if x < y then y else x) 0 = X at *
  have hc := ceil_ge X
  rw [Rat.natCast_add]
  have e1 : ((1 : Nat) : Rat) = 1 := rfl
  rw [e1]
  generalize ((Kqg1.ceiling X : Nat) : Rat) = M at *
  refine Beyond.of (M := M) np hl0 (by grind) (fun c hcp => ?_) Rat.le_refl
  have h1 := f2 _ (List.mem_map.mpr ⟨c, hcp, rfl⟩)
  unfold Kqg1.absolute at h1
  have h1' : (if c / ld p < 0 then -(c / ld p) else c / ld p) ≤ X := h1
  generalize ld p = l at *
  have hz : c * l = (c / l) * (l * l) := by
    have : c = (c / l) * l := (Rat.div_mul_cancel hl0).symm
    grind
  have hll := RK.sq_nonneg l
  have b1 : c / l ≤ M ∧ -M ≤ c / l := by split at h1' <;> grind
  generalize c / l = z at *
  rw [hz]
  have m1 := Rat.mul_nonneg (show 0 ≤ M - z by grind) hll
  have m2 := Rat.mul_nonneg (show 0 ≤ M + z by grind) hll
  constructor <;> grind
end RW
namespace RW
open RK (co Tr ld ev sg sc V Vp Vm chS cnt below Sq Part Nest CB alt Bd)
theorem dy_mul (m : Int) (k : Nat) : Kqg1.dyadic m k * (2 : Rat) ^ k = (m : Rat) := by
  unfold Kqg1.dyadic
  have h := pow_pos2 k
  have e : (((2 ^ k : Nat) : Nat) : Rat) = (2 : Rat) ^ k := by rw [Rat.natCast_pow]; rfl
  rw [e]
  generalize (2 : Rat) ^ k = z at *
  grind
theorem dy_le {m n : Int} {k : Nat} (h : m ≤ n) : Kqg1.dyadic m k ≤ Kqg1.dyadic n k := by
  have h1 := dy_mul m k
  have h2 := dy_mul n k
  have h3 := pow_pos2 k
  have h4 : (m : Rat) ≤ (n : Rat) := Rat.intCast_le_intCast.mpr h
  refine Decidable.byContradiction fun z => ?_
  have := Rat.mul_pos h3 (show 0 < Kqg1.dyadic m k - Kqg1.dyadic n k by grind)
  grind
theorem dy_ge {m : Int} {k : Nat} {b : Int} (h : b * 2 ^ k ≤ m) : (b : Rat) ≤ Kqg1.dyadic m k := by
  have h1 := dy_mul m k
  have h3 := pow_pos2 k
  have h4 : ((b * 2 ^ k : Int) : Rat) ≤ (m : Rat) := Rat.intCast_le_intCast.mpr h
  rw [Rat.intCast_mul, Rat.intCast_pow] at h4
  have e : ((2 : Int) : Rat) = 2 := rfl
  rw [e] at h4
  refine Decidable.byContradiction fun z => ?_
  have := Rat.mul_pos h3 (show 0 < (b : Rat) - Kqg1.dyadic m k by grind)
  grind
theorem dy_neg {m : Int} {k : Nat} : Kqg1.dyadic (-m) k = - Kqg1.dyadic m k := by
  have h1 := dy_mul m k
  have h2 := dy_mul (-m) k
  have h3 := pow_pos2 k
  rw [Rat.intCast_neg] at h2
  generalize (2 : Rat) ^ k = z at *
  have : (Kqg1.dyadic (-m) k + Kqg1.dyadic m k) * z = 0 := by grind
  grind
/-- what both bisections ask -/
def askB (s : List Rat) (k : Nat) (g : Bool) (m : Int) : Bool := if g then decide (below s (Kqg1.dyadic m k) < cnt s) else decide (below s (Kqg1.dyadic m k) = 0)
theorem askB_t (s : List Rat) (k : Nat) (m : Int) : askB s k true m = decide (below s (Kqg1.dyadic m k) < cnt s) := rfl
theorem askB_f (s : List Rat) (k : Nat) (m : Int) : askB s k false m = decide (below s (Kqg1.dyadic m k) = 0) := rfl
theorem ask_anti {s : List Rat} (h : Sq s) (k : Nat) (g : Bool) (a b : Int) (hab : a ≤ b) (hb : askB s k g b = true) : askB s k g a = true := by
  have hm := h.mono (dy_le (k := k) hab)
  cases g
  · rw [askB_f] at *
    have := of_decide_eq_true hb
    exact decide_eq_true (by omega)
  · rw [askB_t] at *
    have := of_decide_eq_true hb
    exact decide_eq_true (by omega)
theorem ask_low {s : List Rat} (h : Sq s) (h0 : cnt s ≠ 0) {b : Int} (B : Beyond s (b : Rat)) (k : Nat) (g : Bool) {m : Int} (hm : b * 2 ^ k ≤ m) : askB s k g (-m) = true ∧ askB s k g m = false := by
  have h1 := dy_ge hm
  have h2 : Kqg1.dyadic (-m) k ≤ -(b : Rat) := by rw [dy_neg]; grind
  have l := below_left h B h2
  have r := below_right h B h1
  cases g
  · rw [askB_f, askB_f, l, r]
    exact ⟨decide_eq_true (Eq.refl (0 : Nat)), decide_eq_false h0⟩
  · rw [askB_t, askB_t, l, r]
    generalize cnt s = c at *
    exact ⟨decide_eq_true (by omega), decide_eq_false (by omega)⟩
theorem fuel_log (c : Nat) (h : 0 < c) : ((2 * c : Nat) : Int) ≤ 2 ^ (Nat.log2 (2 * c) + 2) := by
  have h1 : 2 * c < 2 ^ (Nat.log2 (2 * c) + 1) := Nat.lt_log2_self
  have h2 : 2 ^ (Nat.log2 (2 * c) + 1) ≤ 2 ^ (Nat.log2 (2 * c) + 2) := Nat.pow_le_pow_right (by decide) (by omega)
  have h3 : ((2 ^ (Nat.log2 (2 * c) + 2) : Nat) : Int) = (2 : Int) ^ (Nat.log2 (2 * c) + 2) := by rw [Int.natCast_pow]; rfl
  omega
section
variable {p : List Rat} (tp : Tr p) (np : p ≠ [])
include tp np
theorem reach_eq (k : Nat) (g : Bool) : (fun m => reachB (chainI p) m k g) = askB (sE p) k g := by
  funext m
  cases g
  · show (!belowB (chainI p) m k) = _
    rw [askB_f, belowB_eq tp np m k _ (dy_mul m k), ← decide_not]
    generalize below (sE p) (Kqg1.dyadic m k) = c
    apply decide_eq_decide.mpr
    omega
  · show fromB (chainI p) m k = _
    rw [askB_t, fromB_eq tp np m k _ (dy_mul m k)]
theorem floorI_ok (k : Nat) (g : Bool) (h0 : cnt (sE p) ≠ 0) : askB (sE p) k g (floorI p k g) = true ∧ askB (sE p) k g (floorI p k g + 1) = false := by
  unfold floorI
  rw [reach_eq tp np, head_eq tp np]
  have hs := sq_ok tp np
  have B := prog_bound hs.t hs.n
  have b2 := (bndI_ge (wnum_last hs.n hs.t)).1
  have p2 : (0 : Int) < 2 ^ k := Int.pow_pos (by decide)
  have hp := Int.mul_pos (show 0 < bndI (wnum (sE p)) by omega) p2
  obtain ⟨a1, a2⟩ := ask_low hs h0 B k g (Int.le_refl (bndI (wnum (sE p)) * 2 ^ k))
  refine bisect_ok _ _ _ _ a1 a2 (by omega) ?_
  have := two_pow_ge (2 * (bndI (wnum (sE p)) * 2 ^ k)) (by omega)
  omega
theorem rootFloor_ok (k idx : Nat) (g : Bool) (h0 : cnt (sE p) ≠ 0) (hf : (fun m => decide (Kqg1.countBelow p (Kqg1.dyadic m k) ≤ idx)) = askB (sE p) k g) : askB (sE p) k g (Kqg1.rootFloor p idx k) = true ∧ askB (sE p) k g (Kqg1.rootFloor p idx k + 1) = false := by
  show askB (sE p) k g (Kqg1.bisect (fun m => decide (Kqg1.countBelow p (Kqg1.dyadic m k) ≤ idx)) (Nat.log2 (2 * (Kqg1.rootBound p * 2 ^ k + 1)) + 2) (-((Kqg1.rootBound p * 2 ^ k + 1 : Nat) : Int)) ((Kqg1.rootBound p * 2 ^ k + 1 : Nat) : Int)) = true ∧
    askB (sE p) k g (Kqg1.bisect (fun m => decide (Kqg1.countBelow p (Kqg1.dyadic m k) ≤ idx)) (Nat.log2 (2 * (Kqg1.rootBound p * 2 ^ k + 1)) + 2) (-((Kqg1.rootBound p * 2 ^ k + 1 : Nat) : Int)) ((Kqg1.rootBound p * 2 ^ k + 1 : Nat) : Int) + 1) = false
  rw [hf]
  have hs := sq_ok tp np
  have B : Beyond (sE p) (((Kqg1.rootBound p : Nat) : Int) : Rat) := (spec_bound tp np).dvd (part_ok tp np).mul
  have hm : ((Kqg1.rootBound p : Nat) : Int) * 2 ^ k ≤ ((Kqg1.rootBound p * 2 ^ k + 1 : Nat) : Int) := by
    have e : ((Kqg1.rootBound p * 2 ^ k + 1 : Nat) : Int) = ((Kqg1.rootBound p : Nat) : Int) * 2 ^ k + 1 := by
      rw [Int.natCast_add, Int.natCast_mul, Int.natCast_pow]
      rfl
    omega
  obtain ⟨a1, a2⟩ := ask_low hs h0 B k g hm
  have fl := fuel_log (Kqg1.rootBound p * 2 ^ k + 1) (Nat.succ_pos _)
  generalize Kqg1.rootBound p * 2 ^ k + 1 = c at *
  have cpos : 0 < (c : Int) := by
    rcases Nat.eq_zero_or_pos c with z | z
    · subst z
      have : askB (sE p) k g (-((0 : Nat) : Int)) = askB (sE p) k g ((0 : Nat) : Int) := by rfl
      rw [a1, a2] at this
      cases this
    · omega
  exact bisect_ok _ _ _ _ a1 a2 (by omega) (by omega)
theorem law_floor (k idx : Nat) (g : Bool) (h0 : cnt (sE p) ≠ 0) (hf : (fun m => decide (Kqg1.countBelow p (Kqg1.dyadic m k) ≤ idx)) = askB (sE p) k g) : floorI p k g = Kqg1.rootFloor p idx k := by
  obtain ⟨a1, a2⟩ := floorI_ok tp np k g h0
  obtain ⟨b1, b2⟩ := rootFloor_ok tp np k idx g h0 hf
  exact bisect_uniq (ask_anti (sq_ok tp np) k g) a1 a2 b1 b2
theorem law_greatest (k : Nat) (h : Kqg3.rootCount p ≠ 0) : floorI p k true = Kqg1.rootFloor p (Kqg3.rootCount p - 1) k := by
  have h0 : cnt (sE p) ≠ 0 := fun z => h ((RK.rootCount_zero (part_ok tp np)).mpr z)
  refine law_floor tp np k _ true h0 (funext fun m => ?_)
  rw [RK.greatest_test (part_ok tp np) h, askB_t]
theorem law_smallest (k : Nat) (h : Kqg3.rootCount p ≠ 0) : floorI p k false = Kqg1.rootFloor p 0 k := by
  have h0 : cnt (sE p) ≠ 0 := fun z => h ((RK.rootCount_zero (part_ok tp np)).mpr z)
  refine law_floor tp np k _ false h0 (funext fun m => ?_)
  rw [RK.smallest_test (part_ok tp np), askB_f]
end
end RW
namespace RW
open PySem PySem.Spec PyProof.Rows L2 C8
open RK (co Tr ld ev)
/-! ### an operator on one polynomial -/
inductive Chg where
  | shift (a : Int) (b : Nat)
  | scale (a : Int) (b : Nat)
  | recip
  | deriv
  | less (a : Int) (b : Nat)
  | polar (a : Int) (b : Nat)
  | mult (w : Nat)
def flatC (i j : Nat) : Chg → List Int
  | .shift a b => [5, i, j, a, b]
  | .scale a b => [6, i, j, a, b]
  | .recip => [7, i, j]
  | .deriv => [8, i, j]
  | .less a b => [9, i, j, a, b]
  | .polar a b => [10, i, j, a, b]
  | .mult w => [11, i, j, w]
def validC : Chg → Bool
  | .shift a b => Kqg3.isArgument a b
  | .scale a b => Kqg3.isArgument a b && a != 0
  | .recip => true
  | .deriv => true
  | .less a b => Kqg3.isArgument a b
  | .polar a b => Kqg3.isArgument a b
  | .mult w => decide (w ≤ 5)
def appC (p : List Rat) : Chg → List Rat
  | .shift a b => Kqg3.shiftRoots p (Kqg1.rational a b)
  | .scale a b => Kqg3.scaleRoots p (Kqg1.rational a b)
  | .recip => Kqg3.reciprocal p
  | .deriv => Kqg1.derivative p
  | .less a b => Kqg3.subtractDerivative p (Kqg1.rational a b)
  | .polar a b => Kqg3.polarDerivative p (Kqg1.rational a b)
  | .mult w => Kqg3.multiplyCoefficients p (Kqg3.multiplier w)
theorem Is.get {K : PySem.W.Frag} {H : Hp} {v : V} {l : List Int} (h : Is K H v l) : ∃ a, v = .ref a ∧ SqL K H a (l.map V.int) := by
  obtain ⟨a, vs, rfl, hs, pr⟩ := h
  rw [ints_eq pr] at hs
  exact ⟨a, rfl, hs⟩
theorem arg_eq (a : Int) (b : Nat) : (numB a && denB (b : Int)) = Kqg3.isArgument a b := by
  unfold denB Kqg3.isArgument
  rw [num_eq]
  have e1 : decide ((1 : Int) ≤ b) = decide (1 ≤ b) := decide_eq_decide.mpr (by omega)
  have e2 : decide ((b : Int) ≤ 1000) = decide (b ≤ 1000) := decide_eq_decide.mpr (by omega)
  rw [e1, e2, Bool.and_assoc]
section
variable {P : Program} {w : World} {K : PySem.W.Frag} {mg : Str → Option Value} {base : Heap} {C : Addr}
def S_is_change_in_range (K : PySem.W.Frag) (a : V) (H : Hp) (Q : VK) : Prop := ∃ (i j : Nat) (g : Chg), Is K H a (flatC i j g) ∧ RetB (validC g) H Q
theorem c_is_change_in_range (T : Txt P K mg base) (d : DefB K mg "is_change_in_range" (top 115) ["call"]) (c_is_denominator : Cal P w K mg base 1 "is_denominator" (sp1 (S_is_denominator K)) []) (c_is_numerator : Cal P w K mg base 1 "is_numerator" (sp1 (S_is_numerator K)) []) : Cal P w K mg base 2 "is_change_in_range" (sp1 (S_is_change_in_range K)) [] := by
  have S : FnScope ["call"] ["call"] (fnScope (top 115)) := fnScope_by (by decide +kernel)
  refine mk1 (k := 1) d S fun f cdv A outer s H a1 Q E hr h => ?_
  refine ⟨_, (pss_cons (ps_if (pt_cmpR op_in_seq (pe_ix ix_list (pv 0) pe_int (fun _ _ => rfl)) (pe_tup (pa_cons (pe_gc rfl T.gRECIPROCAL) (pa_cons (pe_gc rfl T.gDERIVATIVE) pa_nil))) (by rfl)) (pss_one (ps_ret pe_bl)) pss_nil) (pss_cons (ps_if (pt_cmpR op_eq (pe_ix ix_list (pv 0) pe_int (fun _ _ => rfl)) (pe_gc rfl T.gAPPLY_MULTIPLIER) (nomark _)) (pss_one (ps_ret (pe_cmpR op_le (pe_ix ix_list (pv 0) pe_int (fun _ _ => rfl)) (pe_gc rfl T.gMOST_SEQUENCE) (nomark _)))) pss_nil) (pss_cons (ps_if (PW.pt (pw_and (pt_cmpR op_eq (pe_ix ix_list (pv 0) pe_int (fun _ _ => rfl)) (pe_gc rfl T.gSCALE_ROOTS) (nomark _)) (pw_and1 (pt_cmpR op_eq (pe_ix ix_list (pv 0) pe_int (fun _ _ => rfl)) pe_int (nomark _))))) (pss_one (ps_ret pe_bl)) pss_nil) (pss_one (ps_ret (pe_and (pe_c c_is_numerator hr (by decide) rfl (pa_cons (pe_ix ix_list (pv 0) pe_int (fun _ _ => rfl)) pa_nil)) (pe_one (pe_c c_is_denominator hr (by decide) rfl (pa_cons (pe_ix ix_list (pv 0) pe_int (fun _ _ => rfl)) pa_nil))))))))), ?_⟩
  obtain ⟨i, j, g, hc, q⟩ := h
  obtain ⟨l, rfl, hs⟩ := hc.get
  have t0 : ∀ {R : Hp → Prop}, (∀ p, H p = none → R (upd H p (.tup [.int 7, .int 8]))) → 2 ≤ sizeLine ∧ ∀ p, H p = none → R (upd H p (.tup [.int 7, .int 8])) := fun h => ⟨(by decide), h⟩
  have big : ([V.int 7, V.int 8] : List V).length ≤ sizeLine := (by show 2 ≤ sizeLine; decide)
  cases g
  case recip =>
    exact ⟨_, rfl, l, _, _, _, rfl, rfl, hs, rfl, big, fun p hp => ⟨_, _, rfl, .inr (SqT.of upd_same), rfl, rfl, _, rfl, ifT rfl (q _ (same_lay hp))⟩⟩
  case deriv =>
    exact ⟨_, rfl, l, _, _, _, rfl, rfl, hs, rfl, big, fun p hp => ⟨_, _, rfl, .inr (SqT.of upd_same), rfl, rfl, _, rfl, ifT rfl (q _ (same_lay hp))⟩⟩
  case mult w =>
    refine ⟨_, rfl, l, _, _, _, rfl, rfl, hs, rfl, big, fun p hp => ⟨_, _, rfl, .inr (SqT.of upd_same), rfl, rfl, _, rfl, ifF rfl ?_⟩⟩
    have hs1 := sqL_same (same_lay (o := .tup [.int 7, .int 8]) hp) hs
    refine ⟨_, rfl, l, _, _, _, rfl, rfl, hs1, rfl, rfl, _, rfl, ifT rfl ?_⟩
    refine ⟨_, rfl, l, _, _, _, rfl, rfl, hs1, rfl, _, _, rfl, rfl, ?_⟩
    have e : decide ((w : Int) ≤ 5) = decide (w ≤ 5) := decide_eq_decide.mpr (by omega)
    show Q (.bl (decide ((w : Int) ≤ 5))) _
    rw [e]
    exact q _ (same_lay hp)
  case scale a b =>
    refine ⟨_, rfl, l, _, _, _, rfl, rfl, hs, rfl, big, fun p hp => ⟨_, _, rfl, .inr (SqT.of upd_same), rfl, rfl, _, rfl, ifF rfl ?_⟩⟩
    have hs1 := sqL_same (same_lay (o := .tup [.int 7, .int 8]) hp) hs
    refine ⟨_, rfl, l, _, _, _, rfl, rfl, hs1, rfl, rfl, _, rfl, ifF rfl ?_⟩
    refine ⟨_, rfl, l, _, _, _, rfl, rfl, hs1, rfl, rfl, _, rfl, ifT rfl ?_⟩
    refine ⟨_, rfl, l, _, _, _, rfl, rfl, hs1, rfl, rfl, _, rfl, ?_⟩
    have e0 : decide (V.int a = V.int 0) = decide (a = 0) := dec_eq a 0
    rw [e0]
    have q1 := q _ (same_lay (o := .tup [.int 7, .int 8]) hp)
    have e2 : validC (.scale a b) = ((numB a && denB (b : Int)) && (a != 0)) := by rw [arg_eq]; rfl
    rw [e2] at q1
    by_cases ha : a = 0
    · subst ha
      have q2 : Q (.bl false) _ := (by simpa using q1); exact ifT rfl q2
    · have e3 : (a != 0) = true := by simpa using ha
      rw [e3, Bool.and_true] at q1
      refine ifF (decide_eq_false ha) ?_
      refine ⟨_, rfl, l, _, _, _, rfl, rfl, hs1, rfl, _, rfl, _, rfl, _, rfl, ?_⟩; cases hn : numB a with | true => (rw [hn, Bool.true_and] at q1; exact ifT rfl ⟨_, rfl, l, _, _, _, rfl, rfl, hs1, rfl, _, rfl, _, rfl, q1⟩) | false => (rw [hn, Bool.false_and] at q1; exact ifF rfl q1)
  all_goals
    rename_i a b
    refine ⟨_, rfl, l, _, _, _, rfl, rfl, hs, rfl, big, fun p hp => ⟨_, _, rfl, .inr (SqT.of upd_same), rfl, rfl, _, rfl, ifF rfl ?_⟩⟩
    have hs1 := sqL_same (same_lay (o := .tup [.int 7, .int 8]) hp) hs
    refine ⟨_, rfl, l, _, _, _, rfl, rfl, hs1, rfl, rfl, _, rfl, ifF rfl ?_⟩
    refine ⟨_, rfl, l, _, _, _, rfl, rfl, hs1, rfl, rfl, _, rfl, ifF rfl ?_⟩
    have q1 : Q (.bl (numB a && denB (b : Int))) (upd H p (.tup [.int 7, .int 8])) := by rw [arg_eq]; exact q _ (same_lay (o := .tup [.int 7, .int 8]) hp)
    refine ⟨_, rfl, l, _, _, _, rfl, rfl, hs1, rfl, _, rfl, _, rfl, _, rfl, ?_⟩; cases hn : numB a with | true => (rw [hn, Bool.true_and] at q1; exact ifT rfl ⟨_, rfl, l, _, _, _, rfl, rfl, hs1, rfl, _, rfl, _, rfl, q1⟩) | false => (rw [hn, Bool.false_and] at q1; exact ifF rfl q1)
theorem div_dvd (a : Int) (b : Nat) (hb : 1 ≤ b) : (Kqg1.rational a b).num.natAbs ∣ a.natAbs ∧ (Kqg1.rational a b).den ∣ b := by
  have hb0 : ((b : Nat) : Rat) ≠ 0 := by
    intro z; have := Rat.natCast_eq_zero_iff.mp z; omega
  generalize hq : Kqg1.rational a b = q
  have e1 : q * ((b : Nat) : Rat) = (a : Rat) := by
    rw [← hq]; unfold Kqg1.rational; grind
  have e2 : q = (q.num : Rat) / ((q.den : Nat) : Rat) := by rw [← rat_div]; exact (Rat.num_divInt_den q).symm
  have hd0 : ((q.den : Nat) : Rat) ≠ 0 := by
    intro z; exact q.den_nz (Rat.natCast_eq_zero_iff.mp z)
  have e3 : (q.num : Rat) * ((b : Nat) : Rat) = (a : Rat) * ((q.den : Nat) : Rat) := by
    generalize ((q.den : Nat) : Rat) = d at *
    generalize (q.num : Rat) = n at *
    grind
  have e4 : q.num * (b : Int) = a * (q.den : Int) := by
    have : ((q.num * (b : Int) : Int) : Rat) = ((a * (q.den : Int) : Int) : Rat) := by
      rw [Rat.intCast_mul, Rat.intCast_mul]; exact e3
    exact Rat.intCast_inj.mp this
  have e5 : q.num.natAbs * b = a.natAbs * q.den := by
    have := congrArg Int.natAbs e4
    rw [Int.natAbs_mul, Int.natAbs_mul] at this
    simpa using this
  constructor
  · exact Nat.Coprime.dvd_of_dvd_mul_right q.reduced ⟨b, e5.symm⟩
  · exact Nat.Coprime.dvd_of_dvd_mul_left q.reduced.symm ⟨a.natAbs, by rw [e5, Nat.mul_comm]⟩
theorem RetN.after {R : Hp → V → Prop} {H H1 : Hp} {Q : VK} (s : Same H H1) (q : RetN R H Q) : RetN R H1 Q := fun H' r s2 n f => q H' r (s.trans s2) (n.after s) f
theorem Arg.of {a : Int} {b : Nat} (h : Kqg3.isArgument a b = true) : Arg (Kqg1.rational a b) ∧ 1 ≤ b := by
  unfold Kqg3.isArgument at h
  simp only [Bool.and_eq_true, decide_eq_true_eq] at h
  obtain ⟨⟨h1, h2⟩, h3⟩ := h
  have hb0 : ((b : Nat) : Rat) ≠ 0 := by
    intro z; have := Rat.natCast_eq_zero_iff.mp z; omega
  obtain ⟨d1, d2⟩ := div_dvd a b h2
  refine ⟨⟨?_, Nat.le_trans (Nat.le_of_dvd h2 d2) h3⟩, h2⟩
  by_cases ha : a = 0
  · have e : Kqg1.rational a b = 0 := by unfold Kqg1.rational; rw [ha]; grind
    rw [e]
    decide
  · exact Nat.le_trans (Nat.le_of_dvd (by omega) d1) h1
def S_changed (K : PySem.W.Frag) (a b : V) (H : Hp) (Q : VK) : Prop := ∃ (i j : Nat) (g : Chg) (p : List Rat), Po K H a p ∧ Is K H b (flatC i j g) ∧ validC g = true ∧ Good p ∧ p ≠ [] ∧ RetN (fun H' r => Po K H' r (appC p g)) H Q
theorem c_changed (T : Txt P K mg base) (d : DefB K mg "changed" (top 116) ["polynomial", "call"]) (c_derivative_of : Cal P w K mg base 35 "derivative_of" (sp1 (S_derivative_of K)) []) (c_less_derivative : Cal P w K mg base 37 "less_derivative" (sp2 (S_less_derivative K)) []) (c_lowest : Cal P w K mg base 33 "lowest" (sp2 (S_lowest K)) []) (c_multiplied : Cal P w K mg base 35 "multiplied" (sp2 (S_multiplied K)) []) (c_polar : Cal P w K mg base 37 "polar" (sp2 (S_polar K)) []) (c_scaled : Cal P w K mg base 36 "scaled" (sp2 (S_scaled K)) []) (c_shifted : Cal P w K mg base 36 "shifted" (sp2 (S_shifted K)) []) (c_turned_round : Cal P w K mg base 2 "turned_round" (sp1 (S_turned_round K)) []) : Cal P w K mg base 38 "changed" (sp2 (S_changed K)) [] := by
  have S : FnScope ["polynomial", "call", "argument"] ["polynomial", "call"] (fnScope (top 116)) := fnScope_by (by decide +kernel)
  refine mk2 (k := 37) d S fun f cdv A outer s H a1 a2 Q E hr h => ?_
  refine ⟨_, (pss_cons (ps_if (pt_cmpR op_eq (pe_ix ix_list (pv 1) pe_int (fun _ _ => rfl)) (pe_gc rfl T.gRECIPROCAL) (nomark _)) (pss_one (ps_ret (pe_c c_turned_round hr (by decide) rfl (pa_cons (pv 0) pa_nil)))) pss_nil) (pss_cons (ps_if (pt_cmpR op_eq (pe_ix ix_list (pv 1) pe_int (fun _ _ => rfl)) (pe_gc rfl T.gDERIVATIVE) (nomark _)) (pss_one (ps_ret (pe_c c_derivative_of hr (by decide) rfl (pa_cons (pv 0) pa_nil)))) pss_nil) (pss_cons (ps_if (pt_cmpR op_eq (pe_ix ix_list (pv 1) pe_int (fun _ _ => rfl)) (pe_gc rfl T.gAPPLY_MULTIPLIER) (nomark _)) (pss_one (ps_ret (pe_c c_multiplied hr (by decide) rfl (pa_cons (pv 0) (pa_cons (pe_ix ix_list (pv 1) pe_int (fun _ _ => rfl)) pa_nil))))) pss_nil) (pss_cons (ps_set (i := 2) S.nd rfl (Or.inl rfl) (pe_c c_lowest hr (by decide) rfl (pa_cons (pe_ix ix_list (pv 1) pe_int (fun _ _ => rfl)) (pa_cons (pe_ix ix_list (pv 1) pe_int (fun _ _ => rfl)) pa_nil)))) (pss_cons (ps_if (pt_cmpR op_eq (pe_ix ix_list (pv 1) pe_int (fun _ _ => rfl)) (pe_gc rfl T.gSHIFT_ROOTS) (nomark _)) (pss_one (ps_ret (pe_c c_shifted hr (by decide) rfl (pa_cons (pv 0) (pa_cons (pv 2) pa_nil))))) pss_nil) (pss_cons (ps_if (pt_cmpR op_eq (pe_ix ix_list (pv 1) pe_int (fun _ _ => rfl)) (pe_gc rfl T.gSCALE_ROOTS) (nomark _)) (pss_one (ps_ret (pe_c c_scaled hr (by decide) rfl (pa_cons (pv 0) (pa_cons (pv 2) pa_nil))))) pss_nil) (pss_cons (ps_if (pt_cmpR op_eq (pe_ix ix_list (pv 1) pe_int (fun _ _ => rfl)) (pe_gc rfl T.gSUBTRACT_DERIVATIVE) (nomark _)) (pss_one (ps_ret (pe_c c_less_derivative hr (by decide) rfl (pa_cons (pv 0) (pa_cons (pv 2) pa_nil))))) pss_nil) (pss_one (ps_ret (pe_c c_polar hr (by decide) rfl (pa_cons (pv 0) (pa_cons (pv 2) pa_nil)))))))))))), ?_⟩
  obtain ⟨i, j, g, p, hp, hc, hv, gd, np, q⟩ := h
  obtain ⟨l, rfl, hs1⟩ := hc.get
  have hlen := good_len gd
  cases g
  case recip => exact ⟨_, rfl, l, _, _, _, rfl, rfl, hs1, rfl, rfl, _, rfl, ifT rfl ⟨_, rfl, _, rfl, p, hp, q⟩⟩
  case deriv => exact ⟨_, rfl, l, _, _, _, rfl, rfl, hs1, rfl, rfl, _, rfl, ifF rfl ⟨_, rfl, l, _, _, _, rfl, rfl, hs1, rfl, rfl, _, rfl, ifT rfl ⟨_, rfl, _, rfl, p, hp, gd.t, by omega, sz_p gd, q⟩⟩⟩
  case mult w =>
    have hw : w ≤ 5 := of_decide_eq_true hv
    exact ⟨_, rfl, l, _, _, _, rfl, rfl, hs1, rfl, rfl, _, rfl, ifF rfl ⟨_, rfl, l, _, _, _, rfl, rfl, hs1, rfl, rfl, _, rfl, ifF rfl ⟨_, rfl, l, _, _, _, rfl, rfl, hs1, rfl, rfl, _, rfl, ifT rfl ⟨_, rfl, _, rfl, l, _, _, _, rfl, rfl, hs1, rfl, _, _, rfl, p, w, hp, rfl, hw, by omega, sz_p gd, fun k hk => sz_mult w k hk, q⟩⟩⟩⟩
  all_goals
    rename_i a b
    have hv1 : Kqg3.isArgument a b = true := by first | exact hv | exact (Bool.and_eq_true_iff.mp hv).1
    obtain ⟨ar, hb⟩ := Arg.of hv1
    refine ⟨_, rfl, l, _, _, _, rfl, rfl, hs1, rfl, rfl, _, rfl, ifF rfl ⟨_, rfl, l, _, _, _, rfl, rfl, hs1, rfl, rfl, _, rfl, ifF rfl ⟨_, rfl, l, _, _, _, rfl, rfl, hs1, rfl, rfl, _, rfl, ifF rfl ⟨_, rfl, l, _, _, _, rfl, rfl, hs1, rfl, _, rfl, l, _, _, _, rfl, rfl, hs1, rfl, _, _, rfl, a, (b : Int), rfl, rfl, by omega, fun H2 r2 s2 f2 => ?_⟩⟩⟩⟩
    rw [rat_div] at f2
    have hs2 := sqL_same s2 hs1
    have hp2 := hp.same s2
    have q2 := RetN.after s2 q
  case shift =>
    exact ⟨_, rfl, l, _, _, _, rfl, rfl, hs2, rfl, rfl, _, rfl, ifT rfl ⟨_, rfl, _, rfl, _, _, rfl, p, _, hp2, f2, by omega, sz_shift gd ar, q2⟩⟩
  case scale =>
    have ha : a ≠ 0 := by simpa using (Bool.and_eq_true_iff.mp hv).2
    have hc0 : Kqg1.rational a b ≠ 0 := by
      unfold Kqg1.rational
      intro z
      have hb0 : ((b : Nat) : Rat) ≠ 0 := by
        intro z; have := Rat.natCast_eq_zero_iff.mp z; omega
      have ha0 : ((a : Int) : Rat) ≠ 0 := by
        intro z; exact ha (Rat.intCast_eq_zero_iff.mp z)
      grind
    exact ⟨_, rfl, l, _, _, _, rfl, rfl, hs2, rfl, rfl, _, rfl, ifF rfl ⟨_, rfl, l, _, _, _, rfl, rfl, hs2, rfl, rfl, _, rfl, ifT rfl ⟨_, rfl, _, rfl, _, _, rfl, p, _, hp2, f2, gd.t, np, hc0, by omega, sz_p gd, fun i hi => sz_pow ar i hi, q2⟩⟩⟩
  case less =>
    obtain ⟨z1, z2, z3⟩ := sz_sub gd ar
    exact ⟨_, rfl, l, _, _, _, rfl, rfl, hs2, rfl, rfl, _, rfl, ifF rfl ⟨_, rfl, l, _, _, _, rfl, rfl, hs2, rfl, rfl, _, rfl, ifF rfl ⟨_, rfl, l, _, _, _, rfl, rfl, hs2, rfl, rfl, _, rfl, ifT rfl ⟨_, rfl, _, rfl, _, _, rfl, p, _, hp2, f2, gd.t, by omega, sz_p gd, z1, z2, z3, q2⟩⟩⟩⟩
  case polar =>
    obtain ⟨z1, z2, z3⟩ := sz_polar gd ar
    exact ⟨_, rfl, l, _, _, _, rfl, rfl, hs2, rfl, rfl, _, rfl, ifF rfl ⟨_, rfl, l, _, _, _, rfl, rfl, hs2, rfl, rfl, _, rfl, ifF rfl ⟨_, rfl, l, _, _, _, rfl, rfl, hs2, rfl, rfl, _, rfl, ifF rfl ⟨_, rfl, _, rfl, _, _, rfl, p, _, hp2, f2, gd.t, np, by omega, sz_p gd, z1, z2, z3, q2⟩⟩⟩⟩
end
end RW
namespace RW
open PySem PySem.Spec PyProof.Rows L2 C8
open RK (co Tr ld ev)
def reqC (i j : Nat) : Chg → Kqg3.Request
  | .shift a b => .shiftRoots i j a b
  | .scale a b => .scaleRoots i j a b
  | .recip => .reciprocal i j
  | .deriv => .derivative i j
  | .less a b => .subtractDerivative i j a b
  | .polar a b => .polarDerivative i j a b
  | .mult w => .applyMultiplier i j w
theorem stp_op {ps : List (List Rat)} {i j : Nat} {v : Bool} {f : List Rat → List Rat} {r : Kqg3.Request} (h : Kqg3.step (some ps) r = Kqg3.applyOperator (some ps) ps i j v f) :
    stp (some ps) r = if 4 ≤ i ∨ 4 ≤ j then (some ps, [-2]) else if v = false then (some ps, [-22]) else if Kqg3.polynomialIn ps i = [] then (some ps, [-33]) else storeS ps j (f (Kqg3.polynomialIn ps i)) := by
  have hn : Kqg3.noSlot i j 0 = decide (4 ≤ i ∨ 4 ≤ j) := by
    unfold Kqg3.noSlot
    have e : Kqg3.slotCount = 4 := rfl
    rw [e]
    by_cases h1 : 4 ≤ i <;> by_cases h2 : 4 ≤ j <;> simp [h1, h2]
  unfold stp
  rw [h]
  unfold Kqg3.applyOperator
  rw [hn]
  by_cases h1 : 4 ≤ i ∨ 4 ≤ j
  · rw [if_pos h1, if_pos (decide_eq_true h1)]
    rfl
  · rw [if_neg h1, if_neg (by simpa using h1)]
    by_cases h2 : v = false
    · rw [if_pos h2, if_pos h2]
      rfl
    · rw [if_neg h2, if_neg h2]
      by_cases h3 : Kqg3.polynomialIn ps i = []
      · rw [if_pos h3, if_pos h3]
        rfl
      · rw [if_neg h3, if_neg h3, storeS_eq]
theorem stp_chg {ps : List (List Rat)} {i j : Nat} (g : Chg) :
    stp (some ps) (reqC i j g) = if 4 ≤ i ∨ 4 ≤ j then (some ps, [-2]) else if validC g = false then (some ps, [-22]) else if Kqg3.polynomialIn ps i = [] then (some ps, [-33]) else storeS ps j (appC (Kqg3.polynomialIn ps i) g) := by
  cases g with
  | shift a b => exact stp_op (f := fun p => Kqg3.shiftRoots p (Kqg1.rational a b)) rfl
  | scale a b => exact stp_op (f := fun p => Kqg3.scaleRoots p (Kqg1.rational a b)) rfl
  | recip => exact stp_op (v := true) (f := Kqg3.reciprocal) rfl
  | deriv => exact stp_op (v := true) (f := Kqg1.derivative) rfl
  | less a b => exact stp_op (f := fun p => Kqg3.subtractDerivative p (Kqg1.rational a b)) rfl
  | polar a b => exact stp_op (f := fun p => Kqg3.polarDerivative p (Kqg1.rational a b)) rfl
  | mult w => exact stp_op (f := fun p => Kqg3.multiplyCoefficients p (Kqg3.multiplier w)) rfl
theorem flat12 (i j : Nat) (g : Chg) : atI ((flatC i j g).map V.int) 1 = some (.int i) ∧ atI ((flatC i j g).map V.int) 2 = some (.int j) := by
  cases g <;> exact ⟨rfl, rfl⟩
section
variable {P : Program} {w : World} {K : PySem.W.Frag} {mg : Str → Option Value} {base : Heap} {C : Addr}
def S_change_answer (C : Addr) (K : PySem.W.Frag) (a b : V) (H : Hp) (Q : VK) : Prop := ∃ (Z : Addr → Prop) (x l : Addr) (ps : List (List Rat)) (i j : Nat) (g : Chg), a = .ref x ∧ KAt K C Z H x l (some ps) ∧ Four ps ∧ Is K H b (flatC i j g) ∧
  Out K C Z x l (stp (some ps) (reqC i j g)).1 (stp (some ps) (reqC i j g)).2 H Q
theorem c_change_answer (T : Txt P K mg base) (c : ClsT K C) (d : DefB K mg "change_answer" (top 117) ["keeper", "call"]) (c_k_store : Met P w K mg base 3 C "store" (sp3 (S_k_store C K)) []) (c_changed : Cal P w K mg base 38 "changed" (sp2 (S_changed K)) []) (c_is_change_in_range : Cal P w K mg base 2 "is_change_in_range" (sp1 (S_is_change_in_range K)) []) (c_is_slot : Cal P w K mg base 1 "is_slot" (sp1 (S_is_slot K)) []) : Cal P w K mg base 39 "change_answer" (sp2 (S_change_answer C K)) [] := by
  have S : FnScope ["keeper", "call", "source", "target", "polynomial"] ["keeper", "call"] (fnScope (top 117)) := fnScope_by (by decide +kernel)
  refine mk2 (k := 38) d S fun f cdv A outer s H a1 a2 Q E hr h => ?_
  refine ⟨_, (pss_cons (ps_par (i := 2) (j := 3) rfl S.nd rfl rfl (by decide) rfl rfl (pa_cons (pe_ix ix_list (pv 1) pe_int (fun _ _ => rfl)) (pa_cons (pe_ix ix_list (pv 1) pe_int (fun _ _ => rfl)) pa_nil)) (by rfl)) (pss_cons (ps_if (PW.pt (pw_or (pt_not (pt_val (pe_c c_is_slot hr (by decide) rfl (pa_cons (pv 2) pa_nil)))) (pw_or1 (pt_not (pt_val (pe_c c_is_slot hr (by decide) rfl (pa_cons (pv 3) pa_nil))))))) (pss_one (ps_ret (pe_lst (pa_cons (pe_gc rfl T.gNO_SLOT) pa_nil)))) pss_nil) (pss_cons (ps_if (pt_not (pt_val (pe_c c_is_change_in_range hr (by decide) rfl (pa_cons (pv 1) pa_nil)))) (pss_one (ps_ret (pe_lst (pa_cons (pe_gc rfl T.gOUT_OF_RANGE) pa_nil)))) pss_nil) (pss_cons (ps_set (i := 4) S.nd rfl (Or.inl rfl) (pe_ix ix_list (pe_fld (pv 0) rfl) (pv 2) (fun _ _ => rfl))) (pss_cons (ps_if (pt_cmpR (op_eqD hr.units) (pv 4) (pe_lst pa_nil) (nomark _)) (pss_one (ps_ret (pe_lst (pa_cons (pe_gc rfl T.gIS_ZERO) pa_nil)))) pss_nil) (pss_one (ps_ret (pe_mt c_k_store hr (by decide) (pv 0) (pa_cons (pv 3) (pa_cons (pe_c c_changed hr (by decide) rfl (pa_cons (pv 4) (pa_cons (pv 1) pa_nil))) pa_nil)))))))))), ?_⟩
  obtain ⟨Z, x, l0, ps, i, j, g, rfl, hk, hf, hc, q⟩ := h
  obtain ⟨dx, vs, ho, hl, hpr⟩ := hk.get
  have hc' := hc
  obtain ⟨l, rfl, hs1⟩ := hc'.get
  obtain ⟨f1, f2⟩ := flat12 i j g
  rw [stp_chg] at q
  refine ⟨_, rfl, l, _, _, _, rfl, rfl, hs1, f1, _, rfl, l, _, _, _, rfl, rfl, hs1, f2, _, _, rfl, ?_⟩
  refine ⟨_, rfl, _, rfl, i, rfl, _, rfl, ?_⟩
  rw [slot_nat]
  by_cases h4 : i < 4
  · rw [decide_eq_true h4]
    refine ifF rfl ?_
    refine ⟨_, rfl, _, rfl, j, rfl, _, rfl, ?_⟩
    rw [slot_nat]
    by_cases h5 : j < 4
    · rw [decide_eq_true h5]
      refine ifF rfl ?_
      rw [if_neg (by omega)] at q
      refine ⟨_, rfl, _, rfl, i, j, g, hc, fun H1 s1 => ?_⟩
      refine ⟨_, rfl, ?_⟩
      have q1 := q.after s1
      have k1 := hk.same s1
      by_cases hv : validC g = false
      · rw [if_pos hv] at q1
        rw [hv]
        exact ifT rfl ⟨(by show 1 ≤ sizeLine; decide), q1.lay k1⟩
      · rw [if_neg hv] at q1
        have hv' : validC g = true := by simpa using hv
        rw [hv']
        refine ifF rfl ?_
        obtain ⟨v, hat, sv, gv⟩ := slot_at hf hpr h4
        refine ⟨_, rfl, x, C, dx, _, _, rfl, s1 _ _ ho, c.cl, c.nS, KF_s _ _, _, rfl, l0, vs, _, v, rfl, rfl, SqL.of (s1 _ _ hl), hat, ?_⟩
        refine ⟨_, rfl, Nat.zero_le _, fun l' hl' => ?_⟩
        have s2 : Same H1 (upd H1 l' (.lst [])) := same_lay hl'
        have sA := s1.trans s2
        refine ⟨_, .list [], (sv.po.same sA).dp, .lst (SqL.of upd_same) .nil, Po_shaped _, rfl, _, rfl, ?_⟩
        rw [Po_nil]
        have q2 := q1.after s2
        have k2 := k1.same s2
        by_cases hz : Kqg3.polynomialIn ps i = []
        · rw [if_pos hz] at q2
          rw [hz]
          exact ifT rfl ⟨(by show 1 ≤ sizeLine; decide), q2.lay k2⟩
        · rw [if_neg hz] at q2
          refine ifF ?_ ?_
          · cases e : Kqg3.polynomialIn ps i with
            | nil => exact absurd e hz
            | cons _ _ => rfl
          refine ⟨_, rfl, x, dx, _, rfl, sA _ _ ho, rfl, _, rfl, _, rfl, _, rfl, _, _, rfl, i, j, g, _, sv.po.same sA, LsI.same sA hc, hv', gv, hz, fun H3 r3 s3 n3 f3 => ?_⟩
          exact ⟨_, _, _, rfl, Z, x, l0, ps, j, r3, _, rfl, k2.same s3, rfl, by rw [hf.n]; exact h5, rfl, (n3.after sA).ne2 hl, fun z => hk.z _ z (n3.after sA).free, f3, q2.after s3⟩
    · rw [decide_eq_false h5]
      rw [if_pos (by omega)] at q
      exact ifT rfl ⟨(by show 1 ≤ sizeLine; decide), q.lay hk⟩
  · rw [decide_eq_false h4]
    rw [if_pos (by omega)] at q
    exact ifT rfl (ifT rfl ⟨(by show 1 ≤ sizeLine; decide), q.lay hk⟩)
end
end RW
namespace RW
open PySem PySem.Spec PyProof.Rows L2 C8
open RK (co Tr ld ev)
inductive Jn where
  | szego
  | schur
  | hada
  | free
def numJ : Jn → Int
  | .szego => 12
  | .schur => 13
  | .hada => 14
  | .free => 15
def appJ (p q : List Rat) : Jn → List Rat
  | .szego => Kqg3.schurSzego (Kqg1.degree p) p q
  | .schur => Kqg3.schurProduct p q
  | .hada => Kqg3.hadamardProduct p q
  | .free => Kqg3.freeSum (Kqg1.degree p) p q
def reqJ (i j k : Nat) : Jn → Kqg3.Request
  | .szego => .schurSzego i j k
  | .schur => .schurProduct i j k
  | .hada => .hadamardProduct i j k
  | .free => .freeSum i j k
theorem stp_comp {ps : List (List Rat)} {i j k : Nat} {f : Nat → List Rat → List Rat → List Rat} {r : Kqg3.Request} (h : Kqg3.step (some ps) r = Kqg3.compose (some ps) ps i j k f) :
    stp (some ps) r = if prI ps i j k ≠ 0 then (some ps, [prI ps i j k]) else storeS ps k (f (Kqg1.degree (Kqg3.polynomialIn ps i)) (Kqg3.polynomialIn ps i) (Kqg3.polynomialIn ps j)) := by
  have hn : Kqg3.noSlot i j k = decide (4 ≤ i ∨ 4 ≤ j ∨ 4 ≤ k) := by
    unfold Kqg3.noSlot
    have e : Kqg3.slotCount = 4 := rfl
    rw [e]
    by_cases h1 : 4 ≤ i <;> by_cases h2 : 4 ≤ j <;> by_cases h3 : 4 ≤ k <;> simp [h1, h2, h3]
  unfold stp
  rw [h]
  unfold Kqg3.compose prI
  rw [hn]
  by_cases h1 : 4 ≤ i ∨ 4 ≤ j ∨ 4 ≤ k
  · rw [if_pos h1, if_pos (decide_eq_true h1), if_pos (by decide)]
    rfl
  · rw [if_neg h1, if_neg (by simpa using h1)]
    generalize Kqg3.polynomialIn ps i = p
    generalize Kqg3.polynomialIn ps j = q
    by_cases h2 : p = [] ∨ q = []
    · rw [if_pos h2, if_pos h2, if_pos (by decide)]
      rfl
    · rw [if_neg h2, if_neg h2]
      have hp : 1 ≤ p.length := by
        cases p with
        | nil => exact absurd (.inl rfl) h2
        | cons _ _ => simp
      have hq : 1 ≤ q.length := by
        cases q with
        | nil => exact absurd (.inr rfl) h2
        | cons _ _ => simp
      by_cases h3 : p.length ≠ q.length
      · have h4 : Kqg1.degree p ≠ Kqg1.degree q := by unfold Kqg1.degree; omega
        rw [if_pos h3, if_pos h4, if_pos (by decide)]
        rfl
      · have h4 : ¬ Kqg1.degree p ≠ Kqg1.degree q := by unfold Kqg1.degree; omega
        rw [if_neg h3, if_neg h4, if_neg (by simp), storeS_eq]
theorem stp_join {ps : List (List Rat)} {i j k : Nat} (g : Jn) :
    stp (some ps) (reqJ i j k g) = if prI ps i j k ≠ 0 then (some ps, [prI ps i j k]) else storeS ps k (appJ (Kqg3.polynomialIn ps i) (Kqg3.polynomialIn ps j) g) := by
  cases g with
  | szego => exact stp_comp (f := Kqg3.schurSzego) rfl
  | schur => exact stp_comp (f := fun _ => Kqg3.schurProduct) rfl
  | hada => exact stp_comp (f := fun _ => Kqg3.hadamardProduct) rfl
  | free => exact stp_comp (f := Kqg3.freeSum) rfl
theorem pr_zero {ps : List (List Rat)} {i j k : Nat} (h : prI ps i j k = 0) : i < 4 ∧ j < 4 ∧ k < 4 ∧ Kqg3.polynomialIn ps i ≠ [] ∧ Kqg3.polynomialIn ps j ≠ [] ∧ (Kqg3.polynomialIn ps j).length = (Kqg3.polynomialIn ps i).length := by
  unfold prI at h
  by_cases h1 : 4 ≤ i ∨ 4 ≤ j ∨ 4 ≤ k
  · rw [if_pos h1] at h; cases h
  · rw [if_neg h1] at h
    by_cases h2 : Kqg3.polynomialIn ps i = [] ∨ Kqg3.polynomialIn ps j = []
    · rw [if_pos h2] at h; cases h
    · rw [if_neg h2] at h
      by_cases h3 : (Kqg3.polynomialIn ps i).length ≠ (Kqg3.polynomialIn ps j).length
      · rw [if_pos h3] at h; cases h
      · exact ⟨by omega, by omega, by omega, fun z => h2 (.inl z), fun z => h2 (.inr z), by omega⟩
section
variable {P : Program} {w : World} {K : PySem.W.Frag} {mg : Str → Option Value} {base : Heap} {C : Addr}
def S_joined (K : PySem.W.Frag) (a b e : V) (H : Hp) (Q : VK) : Prop := ∃ (g : Jn) (p r : List Rat), a = .int (numJ g) ∧ Po K H b p ∧ Po K H e r ∧ Good p ∧ Good r ∧ p ≠ [] ∧ r.length = p.length ∧ RetN (fun H' v => Po K H' v (appJ p r g)) H Q
theorem c_joined (T : Txt P K mg base) (d : DefB K mg "joined" (top 118) ["number", "first", "second"]) (c_free_sum_of : Cal P w K mg base 36 "free_sum_of" (sp2 (S_free_sum_of K)) []) (c_hadamard_of : Cal P w K mg base 36 "hadamard_of" (sp2 (S_hadamard_of K)) []) (c_schur_of : Cal P w K mg base 36 "schur_of" (sp2 (S_schur_of K)) []) (c_schur_szego_of : Cal P w K mg base 36 "schur_szego_of" (sp2 (S_schur_szego_of K)) []) : Cal P w K mg base 37 "joined" (sp3 (S_joined K)) [] := by
  have S : FnScope ["number", "first", "second"] ["number", "first", "second"] (fnScope (top 118)) := fnScope_by (by decide +kernel)
  refine mk3 (k := 36) d S fun f cdv A outer s H a1 a2 a3 Q E hr h => ?_
  refine ⟨_, (pss_cons (ps_if (pt_cmpR op_eq (pv 0) (pe_gc rfl T.gSCHUR_SZEGO) (nomark _)) (pss_one (ps_ret (pe_c c_schur_szego_of hr (by decide) rfl (pa_cons (pv 1) (pa_cons (pv 2) pa_nil))))) pss_nil) (pss_cons (ps_if (pt_cmpR op_eq (pv 0) (pe_gc rfl T.gSCHUR_PRODUCT) (nomark _)) (pss_one (ps_ret (pe_c c_schur_of hr (by decide) rfl (pa_cons (pv 1) (pa_cons (pv 2) pa_nil))))) pss_nil) (pss_cons (ps_if (pt_cmpR op_eq (pv 0) (pe_gc rfl T.gHADAMARD_PRODUCT) (nomark _)) (pss_one (ps_ret (pe_c c_hadamard_of hr (by decide) rfl (pa_cons (pv 1) (pa_cons (pv 2) pa_nil))))) pss_nil) (pss_one (ps_ret (pe_c c_free_sum_of hr (by decide) rfl (pa_cons (pv 1) (pa_cons (pv 2) pa_nil)))))))), ?_⟩
  obtain ⟨g, p, r, rfl, hp, hr2, gp, gr, np, hn, q⟩ := h
  have hlen := good_len gp
  cases g
  case szego => exact ⟨_, rfl, rfl, _, rfl, ifT rfl ⟨_, rfl, _, rfl, _, _, rfl, p, r, hp, hr2, hn, np, by omega, sz_szego gp gr _ (by omega), q⟩⟩
  case schur => exact ⟨_, rfl, rfl, _, rfl, ifF rfl ⟨_, rfl, rfl, _, rfl, ifT rfl ⟨_, rfl, _, rfl, _, _, rfl, p, r, hp, hr2, hn, by omega, sz_schur gp gr _ (by omega), q⟩⟩⟩
  case hada => exact ⟨_, rfl, rfl, _, rfl, ifF rfl ⟨_, rfl, rfl, _, rfl, ifF rfl ⟨_, rfl, rfl, _, rfl, ifT rfl ⟨_, rfl, _, rfl, _, _, rfl, p, r, hp, hr2, hn, by omega, sz_hada gp gr _, q⟩⟩⟩⟩
  case free => exact ⟨_, rfl, rfl, _, rfl, ifF rfl ⟨_, rfl, rfl, _, rfl, ifF rfl ⟨_, rfl, rfl, _, rfl, ifF rfl ⟨_, rfl, _, rfl, _, _, rfl, p, r, hp, hr2, gp.t, hn, np, by omega, sz_free gp gr _ (by omega), q⟩⟩⟩⟩
def S_product_answer (C : Addr) (K : PySem.W.Frag) (a b : V) (H : Hp) (Q : VK) : Prop := ∃ (Z : Addr → Prop) (x l : Addr) (ps : List (List Rat)) (i j k : Nat) (g : Jn), a = .ref x ∧ KAt K C Z H x l (some ps) ∧ Four ps ∧ Is K H b [numJ g, i, j, k] ∧
  Out K C Z x l (stp (some ps) (reqJ i j k g)).1 (stp (some ps) (reqJ i j k g)).2 H Q
theorem c_product_answer (T : Txt P K mg base) (c : ClsT K C) (d : DefB K mg "product_answer" (top 119) ["keeper", "call"]) (c_k_pair_refusal : Met P w K mg base 2 C "pair_refusal" (sp4 (S_k_pair_refusal C K)) []) (c_k_store : Met P w K mg base 3 C "store" (sp3 (S_k_store C K)) []) (c_joined : Cal P w K mg base 37 "joined" (sp3 (S_joined K)) []) : Cal P w K mg base 38 "product_answer" (sp2 (S_product_answer C K)) [] := by
  have S : FnScope ["keeper", "call", "number", "first", "second", "target", "code"] ["keeper", "call"] (fnScope (top 119)) := fnScope_by (by decide +kernel)
  refine mk2 (k := 37) d S fun f cdv A outer s H a1 a2 Q E hr h => ?_
  refine ⟨_, (pss_cons (ps_asg (pv 1) (pg_lst rfl (pgs_cons (pg_name (i := 2) S.nd rfl (Or.inl rfl)) (pgs_cons (pg_name (i := 3) S.nd rfl (Or.inl rfl)) (pgs_cons (pg_name (i := 4) S.nd rfl (Or.inl rfl)) (pgs_cons (pg_name (i := 5) S.nd rfl (Or.inl rfl)) pgs_nil)))))) (pss_cons (ps_set (i := 6) S.nd rfl (Or.inl rfl) (pe_mt c_k_pair_refusal hr (by decide) (pv 0) (pa_cons (pv 3) (pa_cons (pv 4) (pa_cons (pv 5) pa_nil))))) (pss_cons (ps_if (pt_cmpR op_ne (pv 6) pe_int (nomark _)) (pss_one (ps_ret (pe_lst (pa_cons (pv 6) pa_nil)))) pss_nil) (pss_one (ps_ret (pe_mt c_k_store hr (by decide) (pv 0) (pa_cons (pv 5) (pa_cons (pe_c c_joined hr (by decide) rfl (pa_cons (pv 2) (pa_cons (pe_ix ix_list (pe_fld (pv 0) rfl) (pv 3) (fun _ _ => rfl)) (pa_cons (pe_ix ix_list (pe_fld (pv 0) rfl) (pv 4) (fun _ _ => rfl)) pa_nil)))) pa_nil)))))))), ?_⟩
  obtain ⟨Z, x, l0, ps, i, j, m, g, rfl, hk, hf, hc, q⟩ := h
  obtain ⟨dx, vs, ho, hl, hpr⟩ := hk.get
  have hc' := hc
  obtain ⟨l, rfl, hs1⟩ := hc'.get
  rw [stp_join] at q
  refine ⟨_, rfl, l, _, rfl, hs1, rfl, _, _, rfl, _, _, rfl, _, _, rfl, _, _, rfl, rfl, ?_⟩
  refine ⟨_, rfl, x, dx, _, rfl, ho, rfl, _, rfl, _, rfl, _, rfl, ?_⟩
  refine ⟨_, _, _, _, rfl, Z, x, l0, ps, i, j, m, rfl, hk, hf, rfl, rfl, rfl, fun H1 s1 => ?_⟩
  have q1 := q.after s1
  have k1 := hk.same s1
  refine ⟨_, rfl, rfl, _, rfl, ?_⟩
  have ed : (!decide (V.int (prI ps i j m) = V.int 0)) = decide (prI ps i j m ≠ 0) := by
    rw [dec_eq]
    by_cases h : prI ps i j m = 0 <;> simp [h]
  rw [ed]
  by_cases hr0 : prI ps i j m ≠ 0
  · rw [if_pos hr0] at q1
    refine ifT (decide_eq_true hr0) ?_
    exact ⟨_, rfl, (by show 1 ≤ sizeLine; decide), q1.lay k1⟩
  · rw [if_neg hr0] at q1
    refine ifF (decide_eq_false hr0) ?_
    obtain ⟨h1, h2, h3, n1, n2, hn⟩ := pr_zero (Decidable.not_not.mp hr0)
    obtain ⟨v, hv, sv, gv⟩ := slot_at hf hpr h1
    obtain ⟨u, hu, su, gu⟩ := slot_at hf hpr h2
    refine ⟨_, rfl, x, dx, _, rfl, s1 _ _ ho, rfl, _, rfl, ?_⟩
    refine ⟨_, rfl, _, rfl, x, C, dx, _, _, rfl, s1 _ _ ho, c.cl, c.nS, KF_s _ _, _, rfl, l0, vs, _, v, rfl, rfl, SqL.of (s1 _ _ hl), hv, ?_⟩
    refine ⟨_, rfl, x, C, dx, _, _, rfl, s1 _ _ ho, c.cl, c.nS, KF_s _ _, _, rfl, l0, vs, _, u, rfl, rfl, SqL.of (s1 _ _ hl), hu, ?_⟩
    refine ⟨_, _, _, rfl, g, _, _, rfl, sv.po.same s1, su.po.same s1, gv, gu, n1, hn, fun H3 r3 s3 n3 f3 => ?_⟩
    exact ⟨_, _, _, rfl, Z, x, l0, ps, m, r3, _, rfl, k1.same s3, rfl, by rw [hf.n]; exact h3, rfl, (n3.after s1).ne2 hl, fun z => hk.z _ z (n3.after s1).free, f3, q1.after s3⟩
end
end RW
namespace RW
open PySem PySem.Spec PyProof.Rows L2 C8
open RK (co Tr ld ev)
inductive Qn where
  | real
  | mean
  | var
  | nonneg
def numQ : Qn → Int
  | .real => 4
  | .mean => 16
  | .var => 17
  | .nonneg => 20
def oneI (b : Bool) : List Int := [if b then 1 else 0]
def ansQ (p : List Rat) : Qn → List Int
  | .real => oneI (Kqg1.isRealRooted p)
  | .mean => 0 :: Kqg1.fraction (Kqg3.mean p)
  | .var => 0 :: Kqg1.fraction (Kqg3.variance p)
  | .nonneg => oneI (Kqg3.hasNonnegativeRoots p)
def reqQ (i : Nat) : Qn → Kqg3.Request
  | .real => .isRealRooted i
  | .mean => .mean i
  | .var => .variance i
  | .nonneg => .hasNonnegativeRoots i
theorem stp_nz {ps : List (List Rat)} {i : Nat} {f : List Rat → Kqg3.Result} {r : Kqg3.Request} (h : Kqg3.step (some ps) r = Kqg3.ofNonzero (some ps) ps i f) :
    stp (some ps) r = (some ps, if refI ps i ≠ 0 then [refI ps i] else Kqg3Neutral.fields (f (Kqg3.polynomialIn ps i))) := by
  unfold stp
  rw [h]
  unfold Kqg3.ofNonzero refI
  have e : Kqg3.slotCount = 4 := rfl
  rw [e]
  by_cases h1 : 4 ≤ i
  · rw [if_pos h1, if_pos h1, if_pos (by decide)]
    rfl
  · rw [if_neg h1, if_neg h1]
    by_cases h2 : Kqg3.polynomialIn ps i = []
    · rw [if_pos h2, if_pos h2, if_pos (by decide)]
      rfl
    · rw [if_neg h2, if_neg h2, if_neg (by simp)]
theorem one_eq (b : Bool) : Kqg3Neutral.fields (.value (if b = true then 1 else 0)) = oneI b := rfl
theorem stp_q {ps : List (List Rat)} {i : Nat} (g : Qn) : stp (some ps) (reqQ i g) = (some ps, if refI ps i ≠ 0 then [refI ps i] else ansQ (Kqg3.polynomialIn ps i) g) := by
  cases g with
  | real => exact stp_nz (f := fun p => .value (if Kqg1.isRealRooted p then 1 else 0)) rfl
  | mean => exact stp_nz (f := fun p => .values 0 (Kqg1.fraction (Kqg3.mean p))) rfl
  | var => exact stp_nz (f := fun p => .values 0 (Kqg1.fraction (Kqg3.variance p))) rfl
  | nonneg => exact stp_nz (f := fun p => .value (if Kqg3.hasNonnegativeRoots p then 1 else 0)) rfl
theorem floor_eq {ps : List (List Rat)} (hf : Four ps) (i k : Nat) (g : Bool) : floorS ps i k g = (stp (some ps) (if g then .greatestRoot i k else .smallestRoot i k)).2 := by
  have e : stp (some ps) (if g then .greatestRoot i k else .smallestRoot i k) = (some ps, if refI ps i ≠ 0 then [refI ps i] else
      if 30 < k then [-22] else if Kqg3.rootCount (Kqg3.polynomialIn ps i) = 0 then [-34] else [0, if g then Kqg1.rootFloor (Kqg3.polynomialIn ps i) (Kqg3.rootCount (Kqg3.polynomialIn ps i) - 1) k else Kqg1.rootFloor (Kqg3.polynomialIn ps i) 0 k]) := by
    cases g with
    | true =>
      refine (stp_nz (f := fun p => if 30 < k then .value (-22) else if Kqg3.rootCount p = 0 then .value (-34) else .values 0 [Kqg1.rootFloor p (Kqg3.rootCount p - 1) k]) rfl).trans ?_
      congr 1
      split
      · rfl
      · split
        · rfl
        · split <;> rfl
    | false =>
      refine (stp_nz (f := fun p => if 30 < k then .value (-22) else if Kqg3.rootCount p = 0 then .value (-34) else .values 0 [Kqg1.rootFloor p 0 k]) rfl).trans ?_
      congr 1
      split
      · rfl
      · split
        · rfl
        · split <;> rfl
  rw [e]
  unfold floorS
  show _ = if refI ps i ≠ 0 then _ else _
  by_cases hr : refI ps i ≠ 0
  · rw [if_pos hr, if_pos hr]
  · rw [if_neg hr, if_neg hr]
    obtain ⟨h4, np⟩ := ref_zero (Decidable.not_not.mp hr)
    have tp := (hf.at h4).2.t
    by_cases h30 : 30 < k
    · rw [if_pos h30, if_pos h30]
    · rw [if_neg h30, if_neg h30]
      by_cases h0 : Kqg3.rootCount (Kqg3.polynomialIn ps i) = 0
      · rw [if_pos h0, if_pos ((law_count tp np).mpr h0)]
      · rw [if_neg h0, if_neg (fun z => h0 ((law_count tp np).mp z))]
        cases g with
        | true => rw [law_greatest tp np k h0]; rfl
        | false => rw [law_smallest tp np k h0]; rfl
/-- an answer comes out, in a new list -/
def OutL (ans : List Int) (H : Hp) (Q : VK) : Prop := ∀ (H' : Hp) (b : Addr), Same H H' → Nw H H' b → H' b = some (.lst (ans.map V.int)) → Q (.ref b) H'
theorem OutL.after {ans : List Int} {H H1 : Hp} {Q : VK} (s : Same H H1) (q : OutL ans H Q) : OutL ans H1 Q := fun H' b s2 n f => q H' b (s.trans s2) (n.after s) f
section
variable {P : Program} {w : World} {K : PySem.W.Frag} {mg : Str → Option Value} {base : Heap} {C : Addr}
def S_truth (K : PySem.W.Frag) (a : V) (H : Hp) (Q : VK) : Prop := ∃ b : Bool, a = .bl b ∧ OutL (oneI b) H Q
theorem c_truth (T : Txt P K mg base) (d : DefB K mg "truth" (top 120) ["is_so"]) : Cal P w K mg base 1 "truth" (sp1 (S_truth K)) [] := by
  have S : FnScope ["is_so"] ["is_so"] (fnScope (top 120)) := fnScope_by (by decide +kernel)
  refine mk1 (k := 0) d S fun f cdv A outer s H a1 Q E hr h => ?_
  refine ⟨_, (pss_one (ps_ret (pe_ifExp (pt_val (pv 0)) (pe_lst (pa_cons pe_int pa_nil)) (pe_lst (pa_cons pe_int pa_nil))))), ?_⟩
  obtain ⟨b, rfl, q⟩ := h
  cases b
  · exact ⟨_, rfl, _, rfl, ifF rfl ⟨(by show 1 ≤ sizeLine; decide), fun p hp => q _ p (same_lay hp) (Nw.lay hp) upd_same⟩⟩
  · exact ⟨_, rfl, _, rfl, ifT rfl ⟨(by show 1 ≤ sizeLine; decide), fun p hp => q _ p (same_lay hp) (Nw.lay hp) upd_same⟩⟩
def S_asked (K : PySem.W.Frag) (a b : V) (H : Hp) (Q : VK) : Prop := ∃ (g : Qn) (p : List Rat), a = .int (numQ g) ∧ Po K H b p ∧ Good p ∧ p ≠ [] ∧ OutL (ansQ p g) H Q
theorem c_asked (T : Txt P K mg base) (d : DefB K mg "asked" (top 121) ["number", "polynomial"]) (c_has_no_negative_root : Cal P w K mg base 40 "has_no_negative_root" (sp1 (S_has_no_negative_root K)) []) (c_has_only_real_roots : Cal P w K mg base 40 "has_only_real_roots" (sp1 (S_has_only_real_roots K)) []) (c_mean_of : Cal P w K mg base 36 "mean_of" (sp1 (S_mean_of K)) []) (c_truth : Cal P w K mg base 1 "truth" (sp1 (S_truth K)) []) (c_variance_of : Cal P w K mg base 37 "variance_of" (sp1 (S_variance_of K)) []) : Cal P w K mg base 41 "asked" (sp2 (S_asked K)) [] := by
  have S : FnScope ["number", "polynomial"] ["number", "polynomial"] (fnScope (top 121)) := fnScope_by (by decide +kernel)
  refine mk2 (k := 40) d S fun f cdv A outer s H a1 a2 Q E hr h => ?_
  refine ⟨_, (pss_cons (ps_if (pt_cmpR op_eq (pv 0) (pe_gc rfl T.gMEAN) (nomark _)) (pss_one (ps_ret (pe_op op_cat (pe_lst (pa_cons pe_int pa_nil)) (pe_callTy call_list_of (by rfl) T.list (by decide +kernel) (pa_cons (pe_c c_mean_of hr (by decide) rfl (pa_cons (pv 1) pa_nil)) pa_nil))))) pss_nil) (pss_cons (ps_if (pt_cmpR op_eq (pv 0) (pe_gc rfl T.gVARIANCE) (nomark _)) (pss_one (ps_ret (pe_op op_cat (pe_lst (pa_cons pe_int pa_nil)) (pe_callTy call_list_of (by rfl) T.list (by decide +kernel) (pa_cons (pe_c c_variance_of hr (by decide) rfl (pa_cons (pv 1) pa_nil)) pa_nil))))) pss_nil) (pss_cons (ps_if (pt_cmpR op_eq (pv 0) (pe_gc rfl T.gIS_REAL_ROOTED) (nomark _)) (pss_one (ps_ret (pe_c c_truth hr (by decide) rfl (pa_cons (pe_c c_has_only_real_roots hr (by decide) rfl (pa_cons (pv 1) pa_nil)) pa_nil)))) pss_nil) (pss_one (ps_ret (pe_c c_truth hr (by decide) rfl (pa_cons (pe_and (pe_c c_has_only_real_roots hr (by decide) rfl (pa_cons (pv 1) pa_nil)) (pe_one (pe_c c_has_no_negative_root hr (by decide) rfl (pa_cons (pv 1) pa_nil)))) pa_nil))))))), ?_⟩
  obtain ⟨g, p, rfl, hp, gp, np, q⟩ := h
  have hlen := good_len gp
  have tp := gp.t
  have list0 : ∀ (r : Rat), (∀ (H' : Hp) (b : Addr), Same H H' → Nw H H' b → H' b = some (.lst ((0 :: Kqg1.fraction r).map V.int)) → Q (.ref b) H') → ∀ l, H l = none → ∀ (H2 : Hp) (v : V), Same (upd H l (.lst [.int 0])) H2 → Fr K H2 v r → 
      ∃ (p : Addr) (ys : List V), [v] = [.ref p] ∧ (SqL K H2 p ys ∨ SqT K H2 p ys) ∧ ∀ m, H2 m = none → ∃ (l1 b : Addr) (xs zs : List V), V.ref l = .ref l1 ∧ V.ref m = .ref b ∧ upd H2 m (.lst ys) l1 = some (.lst xs) ∧ upd H2 m (.lst ys) b = some (.lst zs) ∧ xs.length + zs.length ≤ sizeLine ∧ ∀ p, upd H2 m (.lst ys) p = none → Q (.ref p) (upd (upd H2 m (.lst ys)) p (.lst (xs ++ zs))) := by
    intro r q l hl H2 v s2 f2
    obtain ⟨t, rfl, ht⟩ := f2
    refine ⟨t, _, rfl, .inr ht, fun m hm => ⟨l, m, [.int 0], _, rfl, rfl, ?_, upd_same, (by show 1 + 2 ≤ sizeLine; decide), fun p hp => ?_⟩⟩
    · exact same_lay hm _ _ (s2 _ _ upd_same)
    · have sA : Same H (upd H2 m (.lst [.int r.num, .int (r.den : Int)])) := ((same_lay hl).trans s2).trans (same_lay hm)
      exact q _ p (sA.trans (same_lay hp)) ((Nw.lay hp).after sA) upd_same
  cases g
  case mean => exact ⟨_, rfl, rfl, _, rfl, ifT rfl ⟨(by show 1 ≤ sizeLine; decide), fun l hl => ⟨_, rfl, _, rfl, p, hp.same (same_lay hl), tp, np, sz_mean gp np, fun H2 v s2 f2 => list0 _ q l hl H2 v s2 f2⟩⟩⟩
  case var => exact ⟨_, rfl, rfl, _, rfl, ifF rfl ⟨_, rfl, rfl, _, rfl, ifT rfl ⟨(by show 1 ≤ sizeLine; decide), fun l hl => ⟨_, rfl, _, rfl, p, hp.same (same_lay hl), tp, np, sz_mean gp np, fun H2 v s2 f2 => list0 _ q l hl H2 v s2 f2⟩⟩⟩⟩
  case real =>
    refine ⟨_, rfl, rfl, _, rfl, ifF rfl ⟨_, rfl, rfl, _, rfl, ifF rfl ⟨_, rfl, rfl, _, rfl, ifT rfl ⟨_, rfl, _, rfl, p, hp, tp, np, by omega, sE_ne tp np, sz_chain gp np, fun H1 s1 => ?_⟩⟩⟩⟩
    rw [law_real tp np]
    exact ⟨_, rfl, _, rfl, q.after s1⟩
  case nonneg =>
    refine ⟨_, rfl, rfl, _, rfl, ifF rfl ⟨_, rfl, rfl, _, rfl, ifF rfl ⟨_, rfl, rfl, _, rfl, ifF rfl ⟨_, rfl, _, rfl, p, hp, tp, np, by omega, sE_ne tp np, sz_chain gp np, fun H1 s1 => ?_⟩⟩⟩⟩
    have ln := law_nonneg tp np
    have q' : OutL (oneI (Kqg3.hasNonnegativeRoots p)) H Q := q
    rw [← ln] at q'
    refine ⟨_, rfl, ?_⟩
    have h00 := bnd_nn (headI (chainI p))
    have sz0 : SzVs (chainI p) 0 0 := sz_vals gp np 0 0 (Nat.zero_le _) (by generalize bndI (headI (chainI p)) = z at *; omega) (by generalize bndI (headI (chainI p)) = z at *; omega)
    clear ln
    generalize realB (chainI p) = rb at *
    cases rb with
    | true =>
      refine ifT rfl ?_
      refine ⟨_, rfl, _, rfl, p, hp.same s1, tp, np, by omega, sE_ne tp np, sz_chain gp np, sz0, fun H2 s2 => ?_⟩
      exact ⟨_, rfl, _, rfl, q'.after (s1.trans s2)⟩
    | false =>
      refine ifF rfl ?_
      exact ⟨_, rfl, _, rfl, q'.after s1⟩
def S_question_answer (C : Addr) (K : PySem.W.Frag) (a b : V) (H : Hp) (Q : VK) : Prop := ∃ (Z : Addr → Prop) (x l : Addr) (ps : List (List Rat)) (i : Nat) (g : Qn), a = .ref x ∧ KAt K C Z H x l (some ps) ∧ Four ps ∧ Is K H b [numQ g, i] ∧
  Out K C Z x l (stp (some ps) (reqQ i g)).1 (stp (some ps) (reqQ i g)).2 H Q
theorem c_question_answer (T : Txt P K mg base) (c : ClsT K C) (d : DefB K mg "question_answer" (top 122) ["keeper", "call"]) (c_k_refusal : Met P w K mg base 2 C "refusal" (sp2 (S_k_refusal C K)) []) (c_asked : Cal P w K mg base 41 "asked" (sp2 (S_asked K)) []) : Cal P w K mg base 42 "question_answer" (sp2 (S_question_answer C K)) [] := by
  have S : FnScope ["keeper", "call", "code"] ["keeper", "call"] (fnScope (top 122)) := fnScope_by (by decide +kernel)
  refine mk2 (k := 41) d S fun f cdv A outer s H a1 a2 Q E hr h => ?_
  refine ⟨_, (pss_cons (ps_set (i := 2) S.nd rfl (Or.inl rfl) (pe_mt c_k_refusal hr (by decide) (pv 0) (pa_cons (pe_ix ix_list (pv 1) pe_int (fun _ _ => rfl)) pa_nil))) (pss_cons (ps_if (pt_cmpR op_ne (pv 2) pe_int (nomark _)) (pss_one (ps_ret (pe_lst (pa_cons (pv 2) pa_nil)))) pss_nil) (pss_one (ps_ret (pe_c c_asked hr (by decide) rfl (pa_cons (pe_ix ix_list (pv 1) pe_int (fun _ _ => rfl)) (pa_cons (pe_ix ix_list (pe_fld (pv 0) rfl) (pe_ix ix_list (pv 1) pe_int (fun _ _ => rfl)) (fun _ _ => rfl)) pa_nil))))))), ?_⟩
  obtain ⟨Z, x, l0, ps, i, g, rfl, hk, hf, hc, q⟩ := h
  obtain ⟨dx, vs, ho, hl, hpr⟩ := hk.get
  obtain ⟨l, rfl, hs1⟩ := hc.get
  rw [stp_q] at q
  refine ⟨_, rfl, x, dx, _, rfl, ho, rfl, _, rfl, l, _, _, _, rfl, rfl, hs1, rfl, _, _, rfl, Z, x, l0, ps, i, rfl, hk, hf, rfl, fun H1 s1 => ?_⟩
  have q1 := q.after s1
  have k1 := hk.same s1
  refine ⟨_, rfl, rfl, _, rfl, ?_⟩
  have ed : (!decide (V.int (refI ps i) = V.int 0)) = decide (refI ps i ≠ 0) := by
    rw [dec_eq]
    by_cases h : refI ps i = 0 <;> simp [h]
  rw [ed]
  by_cases hr0 : refI ps i ≠ 0
  · rw [if_pos hr0] at q1
    refine ifT (decide_eq_true hr0) ?_
    exact ⟨_, rfl, (by show 1 ≤ sizeLine; decide), q1.lay k1⟩
  · rw [if_neg hr0] at q1
    refine ifF (decide_eq_false hr0) ?_
    obtain ⟨h4, np⟩ := ref_zero (Decidable.not_not.mp hr0)
    obtain ⟨v, hv, sv, gv⟩ := slot_at hf hpr h4
    have hs2 := sqL_same s1 hs1
    refine ⟨_, rfl, l, _, _, _, rfl, rfl, hs2, rfl, _, rfl, x, C, dx, _, _, rfl, s1 _ _ ho, c.cl, c.nS, KF_s _ _, _, rfl, l, _, _, _, rfl, rfl, hs2, rfl, l0, vs, _, v, rfl, rfl, SqL.of (s1 _ _ hl), hv, ?_⟩
    refine ⟨_, _, rfl, g, _, rfl, sv.po.same s1, gv, np, fun H2 b s2 n2 f2 => ?_⟩
    exact q1 H2 b l0 (Kp.of s2) (k1.same s2) (.inl rfl) n2 (n2.ne2 (s1 _ _ hl)) f2
end
end RW
namespace RW
open PySem PySem.Spec PyProof.Rows L2 C8
open RK (co Tr ld ev)
inductive Rq where
  | poly (n d : Nat) (cs : List Int)
  | roots (n d : Nat) (cs : List Int)
  | get (n : Nat)
  | chg (i j : Nat) (g : Chg)
  | join (i j k : Nat) (g : Jn)
  | floor (i k : Nat) (g : Bool)
  | sum
  | ask (i : Nat) (g : Qn)
def flatR : Rq → List Int
  | .poly n d cs => 1 :: n :: d :: cs.length :: cs
  | .roots n d cs => 2 :: n :: d :: cs.length :: cs
  | .get n => [3, n]
  | .chg i j g => flatC i j g
  | .join i j k g => [numJ g, i, j, k]
  | .floor i k g => [if g then 18 else 19, i, k]
  | .sum => [21]
  | .ask i g => [numQ g, i]
def reqR : Rq → Kqg3.Request
  | .poly n d cs => .setPolynomial n d cs
  | .roots n d cs => .setRoots n d cs
  | .get n => .getPolynomial n
  | .chg i j g => reqC i j g
  | .join i j k g => reqJ i j k g
  | .floor i k g => if g then .greatestRoot i k else .smallestRoot i k
  | .sum => .summary
  | .ask i g => reqQ i g
def okR : Rq → Prop
  | .poly _ _ cs => cs.length ≤ 60
  | .roots _ _ cs => cs.length ≤ 60
  | _ => True
theorem cut4 (a b c d : V) (xs : List V) : cutV (a :: b :: c :: d :: xs) (some 4) none = xs := by
  unfold cutV
  have e : HT.sIx (a :: b :: c :: d :: xs).length 0 (some 4) = 4 := by
    refine (HT.sIx_nat _ _ 4).trans ?_
    simp only [List.length_cons]
    omega
  rw [e, HT.sIx_none]
  simp only [List.drop_succ_cons, List.drop_zero, List.length_cons]
  exact List.take_of_length_le (by omega)
theorem cutR (o n d : Int) (cs : List Int) : cutV ((o :: n :: d :: (cs.length : Int) :: cs).map V.int) (some 4) none = cs.map V.int := cut4 _ _ _ _ _
theorem Is.lay {K : PySem.W.Frag} {H : Hp} {p : Addr} {cs : List Int} {zs : List V} (h : zs = cs.map V.int) : Is K (upd H p (.lst zs)) (.ref p) cs := by
  subst h
  refine ⟨p, _, rfl, SqL.of upd_same, ?_⟩
  induction cs with
  | nil => exact .nil
  | cons c cs ih => exact .cons rfl (Paired.mapP ih fun _ _ h => h)
section
variable {P : Program} {w : World} {K : PySem.W.Frag} {mg : Str → Option Value} {base : Heap} {C : Addr}
def S_ready_answer (C : Addr) (K : PySem.W.Frag) (a b : V) (H : Hp) (Q : VK) : Prop := ∃ (Z : Addr → Prop) (x l : Addr) (ps : List (List Rat)) (r : Rq), a = .ref x ∧ KAt K C Z H x l (some ps) ∧ Four ps ∧ Is K H b (flatR r) ∧ okR r ∧
  Out K C Z x l (stp (some ps) (reqR r)).1 (stp (some ps) (reqR r)).2 H Q
theorem stp_floor {ps : List (List Rat)} (hf : Four ps) (i k : Nat) (g : Bool) : stp (some ps) (reqR (.floor i k g)) = (some ps, floorS ps i k g) := by
  rw [floor_eq hf]
  cases g <;> rfl
theorem c_ready_answer (T : Txt P K mg base) (c : ClsT K C) (d : DefB K mg "ready_answer" (top 123) ["keeper", "call"]) (c_k_floor : Met P w K mg base 40 C "floor" (sp4 (S_k_floor C K)) []) (c_k_get_polynomial : Met P w K mg base 2 C "get_polynomial" (sp2 (S_k_get_polynomial C K)) []) (c_k_set_polynomial : Met P w K mg base 34 C "set_polynomial" (sp4 (S_k_set_polynomial C K)) []) (c_k_set_roots : Met P w K mg base 36 C "set_roots" (sp4 (S_k_set_roots C K)) []) (c_k_summary : Met P w K mg base 1 C "summary" (sp1 (S_k_summary C K)) []) (c_change_answer : Cal P w K mg base 39 "change_answer" (sp2 (S_change_answer C K)) []) (c_product_answer : Cal P w K mg base 38 "product_answer" (sp2 (S_product_answer C K)) []) (c_question_answer : Cal P w K mg base 42 "question_answer" (sp2 (S_question_answer C K)) []) : Cal P w K mg base 43 "ready_answer" (sp2 (S_ready_answer C K)) [] := by
  have S : FnScope ["keeper", "call", "number"] ["keeper", "call"] (fnScope (top 123)) := fnScope_by (by decide +kernel)
  refine mk2 (k := 42) d S fun f cdv A outer s H a1 a2 Q E hr h => ?_
  refine ⟨_, (pss_cons (ps_set (i := 2) S.nd rfl (Or.inl rfl) (pe_ix ix_list (pv 1) pe_int (fun _ _ => rfl))) (pss_cons (ps_if (pt_cmpR op_eq (pv 2) (pe_gc rfl T.gSET_POLYNOMIAL) (nomark _)) (pss_one (ps_ret (pe_mt c_k_set_polynomial hr (by decide) (pv 0) (pa_cons (pe_ix ix_list (pv 1) pe_int (fun _ _ => rfl)) (pa_cons (pe_ix ix_list (pv 1) pe_int (fun _ _ => rfl)) (pa_cons (pe_slice sl_list (pv 1) (po_some pe_int) po_none) pa_nil)))))) pss_nil) (pss_cons (ps_if (pt_cmpR op_eq (pv 2) (pe_gc rfl T.gSET_ROOTS) (nomark _)) (pss_one (ps_ret (pe_mt c_k_set_roots hr (by decide) (pv 0) (pa_cons (pe_ix ix_list (pv 1) pe_int (fun _ _ => rfl)) (pa_cons (pe_ix ix_list (pv 1) pe_int (fun _ _ => rfl)) (pa_cons (pe_slice sl_list (pv 1) (po_some pe_int) po_none) pa_nil)))))) pss_nil) (pss_cons (ps_if (pt_cmpR op_eq (pv 2) (pe_gc rfl T.gGET_POLYNOMIAL) (nomark _)) (pss_one (ps_ret (pe_mt c_k_get_polynomial hr (by decide) (pv 0) (pa_cons (pe_ix ix_list (pv 1) pe_int (fun _ _ => rfl)) pa_nil)))) pss_nil) (pss_cons (ps_if (pt_chain op_le op_le (pe_gc rfl T.gSHIFT_ROOTS) (pv 2) (pe_gc rfl T.gAPPLY_MULTIPLIER)) (pss_one (ps_ret (pe_c c_change_answer hr (by decide) rfl (pa_cons (pv 0) (pa_cons (pv 1) pa_nil))))) pss_nil) (pss_cons (ps_if (pt_chain op_le op_le (pe_gc rfl T.gSCHUR_SZEGO) (pv 2) (pe_gc rfl T.gFREE_SUM)) (pss_one (ps_ret (pe_c c_product_answer hr (by decide) rfl (pa_cons (pv 0) (pa_cons (pv 1) pa_nil))))) pss_nil) (pss_cons (ps_if (PW.pt (pw_or (pt_cmpR op_eq (pv 2) (pe_gc rfl T.gGREATEST_ROOT) (nomark _)) (pw_or1 (pt_cmpR op_eq (pv 2) (pe_gc rfl T.gSMALLEST_ROOT) (nomark _))))) (pss_one (ps_ret (pe_mt c_k_floor hr (by decide) (pv 0) (pa_cons (pe_ix ix_list (pv 1) pe_int (fun _ _ => rfl)) (pa_cons (pe_ix ix_list (pv 1) pe_int (fun _ _ => rfl)) (pa_cons (pe_cmpR op_eq (pv 2) (pe_gc rfl T.gGREATEST_ROOT) (nomark _)) pa_nil)))))) pss_nil) (pss_cons (ps_if (pt_cmpR op_eq (pv 2) (pe_gc rfl T.gSUMMARY) (nomark _)) (pss_one (ps_ret (pe_mt0 c_k_summary hr (by decide) (pv 0)))) pss_nil) (pss_one (ps_ret (pe_c c_question_answer hr (by decide) rfl (pa_cons (pv 0) (pa_cons (pv 1) pa_nil))))))))))))), ?_⟩
  obtain ⟨Z, x, l0, ps, r, rfl, hk, hf, hc, hok, q⟩ := h
  obtain ⟨dx, vs, ho, hl, hpr⟩ := hk.get
  have hc' := hc
  obtain ⟨l, rfl, hs1⟩ := hc'.get
  cases r
  case poly n d cs =>
    refine ⟨_, rfl, l, _, _, _, rfl, rfl, hs1, atI_nat (j := 0) rfl, ?_⟩
    refine ⟨_, rfl, rfl, _, rfl, ifT rfl ?_⟩
    refine ⟨_, rfl, x, dx, _, rfl, ho, rfl, _, rfl, l, _, _, _, rfl, rfl, hs1, atI_nat (j := 1) rfl, _, rfl, l, _, _, _, rfl, rfl, hs1, atI_nat (j := 2) rfl, _, rfl, _, rfl, l, _, rfl, hs1, fun p hp => ?_⟩
    have s1 := same_lay (o := .lst (cutV ((flatR (.poly n d cs)).map V.int) (some 4) none)) hp
    exact ⟨_, _, _, _, rfl, Z, x, l0, ps, n, d, cs, rfl, hk.same s1, hf, rfl, rfl, Is.lay (cutR 1 n d cs), hok, q.after s1⟩
  case roots n d cs =>
    refine ⟨_, rfl, l, _, _, _, rfl, rfl, hs1, atI_nat (j := 0) rfl, ?_⟩
    refine ⟨_, rfl, rfl, _, rfl, ifF rfl ?_⟩
    refine ⟨_, rfl, rfl, _, rfl, ifT rfl ?_⟩
    refine ⟨_, rfl, x, dx, _, rfl, ho, rfl, _, rfl, l, _, _, _, rfl, rfl, hs1, atI_nat (j := 1) rfl, _, rfl, l, _, _, _, rfl, rfl, hs1, atI_nat (j := 2) rfl, _, rfl, _, rfl, l, _, rfl, hs1, fun p hp => ?_⟩
    have s1 := same_lay (o := .lst (cutV ((flatR (.roots n d cs)).map V.int) (some 4) none)) hp
    exact ⟨_, _, _, _, rfl, Z, x, l0, ps, n, d, cs, rfl, hk.same s1, hf, rfl, rfl, Is.lay (cutR 2 n d cs), hok, q.after s1⟩
  case get n =>
    refine ⟨_, rfl, l, _, _, _, rfl, rfl, hs1, rfl, ?_⟩
    refine ⟨_, rfl, rfl, _, rfl, ifF rfl ?_⟩
    refine ⟨_, rfl, rfl, _, rfl, ifF rfl ?_⟩
    refine ⟨_, rfl, rfl, _, rfl, ifT rfl ?_⟩
    exact ⟨_, rfl, x, dx, _, rfl, ho, rfl, _, rfl, l, _, _, _, rfl, rfl, hs1, rfl, _, _, rfl, Z, x, l0, ps, n, rfl, hk, hf, rfl, q⟩
  case chg i j g =>
    have hq : S_change_answer C K (.ref x) (.ref l) H Q := ⟨Z, x, l0, ps, i, j, g, rfl, hk, hf, hc, q⟩
    cases g
    all_goals
      refine ⟨_, rfl, l, _, _, _, rfl, rfl, hs1, rfl, ?_⟩
      refine ⟨_, rfl, rfl, _, rfl, ifF rfl ?_⟩
      refine ⟨_, rfl, rfl, _, rfl, ifF rfl ?_⟩
      refine ⟨_, rfl, rfl, _, rfl, ifF rfl ?_⟩
      refine ⟨_, rfl, _, _, rfl, rfl, _, rfl, ifT rfl ⟨_, _, rfl, rfl, _, rfl, ifT rfl ?_⟩⟩
      exact ⟨_, rfl, _, rfl, _, _, rfl, hq⟩
  case join i j k g =>
    have hq : S_product_answer C K (.ref x) (.ref l) H Q := ⟨Z, x, l0, ps, i, j, k, g, rfl, hk, hf, hc, q⟩
    cases g
    all_goals
      refine ⟨_, rfl, l, _, _, _, rfl, rfl, hs1, rfl, ?_⟩
      refine ⟨_, rfl, rfl, _, rfl, ifF rfl ?_⟩
      refine ⟨_, rfl, rfl, _, rfl, ifF rfl ?_⟩
      refine ⟨_, rfl, rfl, _, rfl, ifF rfl ?_⟩
      refine ⟨_, rfl, _, _, rfl, rfl, _, rfl, ifT rfl ⟨_, _, rfl, rfl, _, rfl, ifF rfl ?_⟩⟩
      refine ⟨_, rfl, _, _, rfl, rfl, _, rfl, ifT rfl ⟨_, _, rfl, rfl, _, rfl, ifT rfl ?_⟩⟩
      exact ⟨_, rfl, _, rfl, _, _, rfl, hq⟩
  case floor i k g =>
    rw [stp_floor hf] at q
    cases g
    all_goals
      refine ⟨_, rfl, l, _, _, _, rfl, rfl, hs1, rfl, ?_⟩
      refine ⟨_, rfl, rfl, _, rfl, ifF rfl ?_⟩
      refine ⟨_, rfl, rfl, _, rfl, ifF rfl ?_⟩
      refine ⟨_, rfl, rfl, _, rfl, ifF rfl ?_⟩
      refine ⟨_, rfl, _, _, rfl, rfl, _, rfl, ifT rfl ⟨_, _, rfl, rfl, _, rfl, ifF rfl ?_⟩⟩
      refine ⟨_, rfl, _, _, rfl, rfl, _, rfl, ifT rfl ⟨_, _, rfl, rfl, _, rfl, ifF rfl ?_⟩⟩
    case false =>
      refine ⟨_, rfl, rfl, _, rfl, ifF rfl ?_⟩
      refine ⟨_, rfl, rfl, _, rfl, ifT rfl ?_⟩
      exact ⟨_, rfl, x, dx, _, rfl, ho, rfl, _, rfl, l, _, _, _, rfl, rfl, hs1, rfl, _, rfl, l, _, _, _, rfl, rfl, hs1, rfl, _, rfl, rfl, _, _, _, _, rfl, Z, x, l0, ps, i, k, _, rfl, hk, hf, rfl, rfl, rfl, q⟩
    case true =>
      refine ⟨_, rfl, rfl, _, rfl, ifT rfl ?_⟩
      exact ⟨_, rfl, x, dx, _, rfl, ho, rfl, _, rfl, l, _, _, _, rfl, rfl, hs1, rfl, _, rfl, l, _, _, _, rfl, rfl, hs1, rfl, _, rfl, rfl, _, _, _, _, rfl, Z, x, l0, ps, i, k, _, rfl, hk, hf, rfl, rfl, rfl, q⟩
  case sum =>
    refine ⟨_, rfl, l, _, _, _, rfl, rfl, hs1, rfl, ?_⟩
    refine ⟨_, rfl, rfl, _, rfl, ifF rfl ?_⟩
    refine ⟨_, rfl, rfl, _, rfl, ifF rfl ?_⟩
    refine ⟨_, rfl, rfl, _, rfl, ifF rfl ?_⟩
    refine ⟨_, rfl, _, _, rfl, rfl, _, rfl, ifT rfl ⟨_, _, rfl, rfl, _, rfl, ifF rfl ?_⟩⟩
    refine ⟨_, rfl, _, _, rfl, rfl, _, rfl, ifT rfl ⟨_, _, rfl, rfl, _, rfl, ifF rfl ?_⟩⟩
    refine ⟨_, rfl, rfl, _, rfl, ifF rfl ?_⟩
    refine ⟨_, rfl, rfl, _, rfl, ifF rfl ?_⟩
    refine ⟨_, rfl, rfl, _, rfl, ifT rfl ?_⟩
    exact ⟨_, rfl, x, dx, _, rfl, ho, rfl, _, rfl, Z, x, l0, ps, rfl, hk, hf, q⟩
  case ask i g =>
    have hq : S_question_answer C K (.ref x) (.ref l) H Q := ⟨Z, x, l0, ps, i, g, rfl, hk, hf, hc, q⟩
    cases g
    case real =>
      refine ⟨_, rfl, l, _, _, _, rfl, rfl, hs1, rfl, ?_⟩
      refine ⟨_, rfl, rfl, _, rfl, ifF rfl ?_⟩
      refine ⟨_, rfl, rfl, _, rfl, ifF rfl ?_⟩
      refine ⟨_, rfl, rfl, _, rfl, ifF rfl ?_⟩
      refine ⟨_, rfl, _, _, rfl, rfl, _, rfl, ifF rfl ⟨_, rfl, ifF rfl ?_⟩⟩
      refine ⟨_, rfl, _, _, rfl, rfl, _, rfl, ifF rfl ⟨_, rfl, ifF rfl ?_⟩⟩
      refine ⟨_, rfl, rfl, _, rfl, ifF rfl ?_⟩
      refine ⟨_, rfl, rfl, _, rfl, ifF rfl ?_⟩
      refine ⟨_, rfl, rfl, _, rfl, ifF rfl ?_⟩
      exact ⟨_, rfl, _, rfl, _, _, rfl, hq⟩
    all_goals
      refine ⟨_, rfl, l, _, _, _, rfl, rfl, hs1, rfl, ?_⟩
      refine ⟨_, rfl, rfl, _, rfl, ifF rfl ?_⟩
      refine ⟨_, rfl, rfl, _, rfl, ifF rfl ?_⟩
      refine ⟨_, rfl, rfl, _, rfl, ifF rfl ?_⟩
      refine ⟨_, rfl, _, _, rfl, rfl, _, rfl, ifT rfl ⟨_, _, rfl, rfl, _, rfl, ifF rfl ?_⟩⟩
      refine ⟨_, rfl, _, _, rfl, rfl, _, rfl, ifT rfl ⟨_, _, rfl, rfl, _, rfl, ifF rfl ?_⟩⟩
      refine ⟨_, rfl, rfl, _, rfl, ifF rfl ?_⟩
      refine ⟨_, rfl, rfl, _, rfl, ifF rfl ?_⟩
      refine ⟨_, rfl, rfl, _, rfl, ifF rfl ?_⟩
      exact ⟨_, rfl, _, rfl, _, _, rfl, hq⟩
/-- a request: create, or one that asks for an object that was created -/
abbrev Rq0 := Option Rq
def flat0 : Rq0 → List Int
  | none => [0]
  | some r => flatR r
def req0 : Rq0 → Kqg3.Request
  | none => .create
  | some r => reqR r
def ok0 : Rq0 → Prop
  | none => True
  | some r => okR r
theorem stp_create (st : St4) : stp st .create = (some [[], [], [], []], [0]) := rfl
theorem stp_none (r : Rq) : stp none (reqR r) = (none, [-11]) := by
  cases r
  case chg i j g => cases g <;> rfl
  case join i j k g => cases g <;> rfl
  case floor i k g => cases g <;> rfl
  case ask i g => cases g <;> rfl
  all_goals rfl
theorem flat0_op (r : Rq) : ∃ o : Int, (flatR r).head? = some o ∧ o ≠ 0 := by
  cases r
  case chg i j g => cases g <;> exact ⟨_, rfl, by decide⟩
  case join i j k g => cases g <;> exact ⟨_, rfl, by decide⟩
  case floor i k g => cases g <;> exact ⟨_, rfl, by decide⟩
  case ask i g => cases g <;> exact ⟨_, rfl, by decide⟩
  all_goals exact ⟨_, rfl, by decide⟩
def Four0 (st : St4) : Prop := ∀ ps, st = some ps → Four ps
def S_answer (C : Addr) (K : PySem.W.Frag) (a b : V) (H : Hp) (Q : VK) : Prop := ∃ (Z : Addr → Prop) (x l : Addr) (st : St4) (r : Rq0), a = .ref x ∧ KAt K C Z H x l st ∧ Four0 st ∧ Is K H b (flat0 r) ∧ ok0 r ∧
  Out K C Z x l (stp st (req0 r)).1 (stp st (req0 r)).2 H Q
theorem c_answer (T : Txt P K mg base) (c : ClsT K C) (d : DefB K mg "answer" (top 124) ["keeper", "call"]) (c_k_create : Met P w K mg base 1 C "create" (sp1 (S_k_create C K)) []) (c_ready_answer : Cal P w K mg base 43 "ready_answer" (sp2 (S_ready_answer C K)) []) : Cal P w K mg base 44 "answer" (sp2 (S_answer C K)) [] := by
  have S : FnScope ["keeper", "call"] ["keeper", "call"] (fnScope (top 124)) := fnScope_by (by decide +kernel)
  refine mk2 (k := 43) d S fun f cdv A outer s H a1 a2 Q E hr h => ?_
  refine ⟨_, (pss_cons (ps_if (pt_cmpR op_eq (pe_ix ix_list (pv 1) pe_int (fun _ _ => rfl)) (pe_gc rfl T.gCREATE) (nomark _)) (pss_one (ps_ret (pe_mt0 c_k_create hr (by decide) (pv 0)))) pss_nil) (pss_cons (ps_if (pt_not (pt_val (pe_fld (pv 0) rfl))) (pss_one (ps_ret (pe_lst (pa_cons (pe_gc rfl T.gNOT_CREATED) pa_nil)))) pss_nil) (pss_one (ps_ret (pe_c c_ready_answer hr (by decide) rfl (pa_cons (pv 0) (pa_cons (pv 1) pa_nil))))))), ?_⟩
  obtain ⟨Z, x, l0, st, r, rfl, hk, hf, hc, hok, q⟩ := h
  have hc' := hc
  obtain ⟨l, rfl, hs1⟩ := hc'.get
  obtain ⟨dx, ho⟩ := hk.o
  cases r with
  | none =>
    have q0 : Out K C Z x l0 (stp st .create).1 (stp st .create).2 H Q := q
    rw [stp_create] at q0
    refine ⟨_, rfl, l, _, _, _, rfl, rfl, hs1, rfl, rfl, _, rfl, ifT rfl ?_⟩
    exact ⟨_, rfl, x, dx, _, rfl, ho, rfl, _, rfl, Z, x, l0, st, rfl, hk, q0⟩
  | some r =>
    obtain ⟨o, h1, h2⟩ := flat0_op r
    have h1' : ((flat0 (some r)).map V.int)[0]? = some (.int o) := by
      rw [List.getElem?_map, ← List.head?_eq_getElem?]
      show ((flatR r).head?).map V.int = _
      rw [h1]
      rfl
    refine ⟨_, rfl, l, _, _, _, rfl, rfl, hs1, atI_nat (j := 0) h1', rfl, _, rfl, ?_⟩
    rw [dec_eq, decide_eq_false h2]
    refine ifF rfl ?_
    refine ⟨_, rfl, x, C, dx, _, _, rfl, ho, c.cl, c.nR, KF_r _ _, _, rfl, ?_⟩
    cases st with
    | none =>
      have q0 : Out K C Z x l0 (stp none (reqR r)).1 (stp none (reqR r)).2 H Q := q
      rw [stp_none] at q0
      refine ifT rfl ?_
      exact ⟨(by show 1 ≤ sizeLine; decide), q0.lay hk⟩
    | some ps =>
      refine ifF rfl ?_
      exact ⟨_, rfl, _, rfl, _, _, rfl, Z, x, l0, ps, r, rfl, hk, hf ps rfl, hc, hok, q⟩
end
end RW
namespace RW
open PySem PySem.Spec PyProof.Rows L2 C8
open RK (co Tr ld ev)
theorem Good.store {ps : List (List Rat)} (h : Four ps) (i : Nat) {p : List Rat} (t : Tr p) : Four0 (storeS ps i p).1 := by
  intro qs e
  unfold storeS at e
  by_cases hs : storeB p = true
  · rw [if_pos hs] at e
    have e' : ps.set i p = qs := by simpa using e
    subst e'
    refine ⟨by rw [List.length_set]; exact h.n, fun q hq => ?_⟩
    rcases List.mem_or_eq_of_mem_set hq with h1 | h1
    · exact h.g q h1
    · subst h1
      exact ⟨t, by rw [← store_eq]; exact hs⟩
  · rw [if_neg hs] at e
    have e' : ps = qs := by simpa using e
    subst e'
    exact h
theorem Four0.self {ps : List (List Rat)} (h : Four ps) : Four0 (some ps) := fun qs e => by cases e; exact h
theorem tr_shift (p : List Rat) (c : Rat) : Tr (Kqg3.shiftRoots p c) := by
  cases p with
  | nil => exact Tr.nil
  | cons a p => exact RK.Tr.add _ _
theorem tr_app (p : List Rat) (g : Chg) : Tr (appC p g) := by
  cases g with
  | shift a b => exact tr_shift _ _
  | scale a b => exact RK.Tr.trim _
  | recip => exact RK.Tr.trim _
  | deriv => exact RK.Tr.deriv _
  | less a b => exact RK.Tr.add _ _
  | polar a b => exact RK.Tr.add _ _
  | mult w => exact RK.Tr.trim _
theorem tr_join (p q : List Rat) (g : Jn) : Tr (appJ p q g) := by
  cases g with
  | szego => exact RK.Tr.trim _
  | schur => exact RK.Tr.trim _
  | hada => exact RK.Tr.trim _
  | free => exact RK.Tr.scale _ _
theorem tr_rfold (d : Nat) (cs : List Int) : Tr (rfold d cs) := by
  unfold rfold
  have h : ∀ (l : List Int) (p : Kqg1.Poly), Tr p → Tr (l.foldl (fun (p : Kqg1.Poly) (x : Int) => Kqg1.multiply p [-((x : Rat) / (d : Rat)), 1]) p) := by
    intro l
    induction l with
    | nil => intro p h; exact h
    | cons x l ih => intro p h; exact ih _ (RK.Tr.multiply _ _)
  exact h cs [1] (RK.Tr.cons RK.Tr.nil (.inr (by decide)))
theorem four_step {st : St4} (h : Four0 st) (r : Rq0) : Four0 (stp st (req0 r)).1 := by
  cases r with
  | none =>
    show Four0 (stp st .create).1
    rw [stp_create]
    intro ps e
    have e' : [[], [], [], []] = ps := by simpa using e
    subst e'
    refine ⟨rfl, fun p hp => ?_⟩
    have hp' : p = [] := by simpa using hp
    subst hp'
    exact ⟨RK.Tr.nil, by decide⟩
  | some r =>
    cases st with
    | none =>
      show Four0 (stp none (reqR r)).1
      rw [stp_none]
      exact h
    | some ps =>
      have hf := h ps rfl
      show Four0 (stp (some ps) (reqR r)).1
      cases r with
      | poly n d cs =>
        show Four0 (stp (some ps) (.setPolynomial n d cs)).1
        by_cases h4 : n < 4
        · by_cases hv : Kqg3.isNumberList 7 d cs = true
          · rw [stp_poly h4 hv]; exact Good.store hf _ (RK.Tr.trim _)
          · rw [stp_poly_out h4 (by simpa using hv)]; exact h
        · rw [stp_poly_no h4]; exact h
      | roots n d cs =>
        show Four0 (stp (some ps) (.setRoots n d cs)).1
        by_cases h4 : n < 4
        · by_cases hv : Kqg3.isNumberList 6 d cs = true
          · rw [stp_roots h4 hv]; exact Good.store hf _ (tr_rfold d cs)
          · rw [stp_roots_out h4 (by simpa using hv)]; exact h
        · rw [stp_roots_no h4]; exact h
      | get n => exact h
      | chg i j g =>
        show Four0 (stp (some ps) (reqC i j g)).1
        rw [stp_chg]
        split
        · exact h
        · split
          · exact h
          · split
            · exact h
            · exact Good.store hf _ (tr_app _ _)
      | join i j k g =>
        show Four0 (stp (some ps) (reqJ i j k g)).1
        rw [stp_join]
        split
        · exact h
        · exact Good.store hf _ (tr_join _ _ _)
      | floor i k g => rw [stp_floor hf]; exact h
      | sum => exact h
      | ask i g =>
        show Four0 (stp (some ps) (reqQ i g)).1
        rw [stp_q]; exact h
def outs : St4 → List Rq0 → List Int
  | _, [] => []
  | st, r :: rs => ((stp st (req0 r)).2.length : Int) :: (stp st (req0 r)).2 ++ outs (stp st (req0 r)).1 rs
theorem flat_len (r : Rq0) : 1 ≤ (flat0 r).length := by
  cases r with
  | none => exact Nat.le_refl 1
  | some r =>
    obtain ⟨o, h1, _⟩ := flat0_op r
    show 1 ≤ (flatR r).length
    cases e : flatR r with
    | nil => rw [e] at h1; cases h1
    | cons _ _ => simp
section
variable {P : Program} {w : World} {K : PySem.W.Frag} {mg : Str → Option Value} {base : Heap} {C : Addr}
theorem drop_at {cs a rest : List Int} {i j : Nat} {x : Int} (h : cs.drop i = a ++ rest) (hx : a[j]? = some x) : (cs.map V.int)[i + j]? = some (.int x) := by
  have h1 : (cs.drop i)[j]? = some x := by
    rw [h, List.getElem?_append_left]
    · exact hx
    · rcases Nat.lt_or_ge j a.length with z | z
      · exact z
      · rw [List.getElem?_eq_none z] at hx; cases hx
  rw [List.getElem?_drop] at h1
  rw [List.getElem?_map, h1]
  rfl
def S_size_of_call (K : PySem.W.Frag) (a b : V) (H : Hp) (Q : VK) : Prop := ∃ (cs : List Int) (i : Nat) (r : Rq0) (rest : List Int), Is K H a cs ∧ b = .int (i : Int) ∧ cs.drop i = flat0 r ++ rest ∧ Q (.int ((flat0 r).length : Nat)) H
theorem c_size_of_call (T : Txt P K mg base) (d : DefB K mg "size_of_call" (top 125) ["calls", "place"]) : Cal P w K mg base 1 "size_of_call" (sp2 (S_size_of_call K)) [] := by
  have S : FnScope ["calls", "place", "size"] ["calls", "place"] (fnScope (top 125)) := fnScope_by (by decide +kernel)
  refine mk2 (k := 0) d S fun f cdv A outer s H a1 a2 Q E hr h => ?_
  obtain ⟨aCALL_SIZES, gCALL_SIZES, tCALL_SIZES⟩ := T.gCALL_SIZES
  refine ⟨_, (pss_cons (ps_set (i := 2) S.nd rfl (Or.inl rfl) (pe_ix ix_tup (pe_gc rfl gCALL_SIZES) (pe_ix ix_list (pv 0) (pv 1) (fun _ _ => rfl)) (fun _ _ => rfl))) (pss_cons (ps_if (PW.pt (pw_or (pt_cmpR op_eq (pe_ix ix_list (pv 0) (pv 1) (fun _ _ => rfl)) (pe_gc rfl T.gSET_POLYNOMIAL) (nomark _)) (pw_or1 (pt_cmpR op_eq (pe_ix ix_list (pv 0) (pv 1) (fun _ _ => rfl)) (pe_gc rfl T.gSET_ROOTS) (nomark _))))) (pss_one (ps_ret (pe_op op_add (pv 2) (pe_ix ix_list (pv 0) (pe_op op_add (pv 1) pe_int) (fun _ _ => rfl))))) pss_nil) (pss_one (ps_ret (pv 2))))), ?_⟩
  obtain ⟨cs, i, r, rest, hc, rfl, hd, q⟩ := h
  obtain ⟨l, rfl, hs⟩ := hc.get
  have h0 : ∀ o : Int, (flat0 r)[0]? = some o → (cs.map V.int)[i]? = some (.int o) := fun o h => drop_at (j := 0) hd h
  cases r with
  | none =>
    have h1 := h0 0 rfl
    refine ⟨_, rfl, _, rfl, l, _, _, _, rfl, rfl, hs, atI_nat h1, aCALL_SIZES, _, _, _, rfl, rfl, tCALL_SIZES _, rfl, ?_⟩
    refine ⟨_, rfl, _, rfl, l, _, _, _, rfl, rfl, hs, atI_nat h1, rfl, _, rfl, ifF rfl ⟨_, rfl, _, rfl, l, _, _, _, rfl, rfl, hs, atI_nat h1, rfl, _, rfl, ifF rfl ?_⟩⟩
    exact ⟨_, rfl, q⟩
  | some r =>
    cases r
    case poly n d cs' =>
      have h1 := h0 1 rfl
      have h3 := drop_at (j := 3) (x := (cs'.length : Int)) hd rfl
      refine ⟨_, rfl, _, rfl, l, _, _, _, rfl, rfl, hs, atI_nat h1, aCALL_SIZES, _, _, _, rfl, rfl, tCALL_SIZES _, rfl, ?_⟩
      refine ⟨_, rfl, _, rfl, l, _, _, _, rfl, rfl, hs, atI_nat h1, rfl, _, rfl, ifT rfl (ifT rfl ?_)⟩
      refine ⟨_, rfl, _, rfl, _, rfl, _, _, rfl, rfl, l, _, _, _, rfl, rfl, hs, atI_nat h3, _, _, rfl, rfl, ?_⟩
      have e : ((4 : Int) + (cs'.length : Int)) = ((flat0 (some (.poly n d cs'))).length : Nat) := by
        show _ = ((cs'.length + 1 + 1 + 1 + 1 : Nat) : Int)
        omega
      show Q (.int ((4 : Int) + (cs'.length : Int))) H
      rw [e]
      exact q
    case roots n d cs' =>
      have h1 := h0 2 rfl
      have h3 := drop_at (j := 3) (x := (cs'.length : Int)) hd rfl
      refine ⟨_, rfl, _, rfl, l, _, _, _, rfl, rfl, hs, atI_nat h1, aCALL_SIZES, _, _, _, rfl, rfl, tCALL_SIZES _, rfl, ?_⟩
      refine ⟨_, rfl, _, rfl, l, _, _, _, rfl, rfl, hs, atI_nat h1, rfl, _, rfl, ifF rfl ⟨_, rfl, _, rfl, l, _, _, _, rfl, rfl, hs, atI_nat h1, rfl, _, rfl, ifT rfl ?_⟩⟩
      refine ⟨_, rfl, _, rfl, _, rfl, _, _, rfl, rfl, l, _, _, _, rfl, rfl, hs, atI_nat h3, _, _, rfl, rfl, ?_⟩
      have e : ((4 : Int) + (cs'.length : Int)) = ((flat0 (some (.roots n d cs'))).length : Nat) := by
        show _ = ((cs'.length + 1 + 1 + 1 + 1 : Nat) : Int)
        omega
      show Q (.int ((4 : Int) + (cs'.length : Int))) H
      rw [e]
      exact q
    case get n =>
      have h1 := h0 _ rfl
      exact ⟨_, rfl, _, rfl, l, _, _, _, rfl, rfl, hs, atI_nat h1, aCALL_SIZES, _, _, _, rfl, rfl, tCALL_SIZES _, rfl, _, rfl, _, rfl, l, _, _, _, rfl, rfl, hs, atI_nat h1, rfl, _, rfl, ifF rfl ⟨_, rfl, _, rfl, l, _, _, _, rfl, rfl, hs, atI_nat h1, rfl, _, rfl, ifF rfl ⟨_, rfl, q⟩⟩⟩
    case sum =>
      have h1 := h0 _ rfl
      exact ⟨_, rfl, _, rfl, l, _, _, _, rfl, rfl, hs, atI_nat h1, aCALL_SIZES, _, _, _, rfl, rfl, tCALL_SIZES _, rfl, _, rfl, _, rfl, l, _, _, _, rfl, rfl, hs, atI_nat h1, rfl, _, rfl, ifF rfl ⟨_, rfl, _, rfl, l, _, _, _, rfl, rfl, hs, atI_nat h1, rfl, _, rfl, ifF rfl ⟨_, rfl, q⟩⟩⟩
    case chg i' j g =>
      cases g
      all_goals
        have h1 := h0 _ rfl
        exact ⟨_, rfl, _, rfl, l, _, _, _, rfl, rfl, hs, atI_nat h1, aCALL_SIZES, _, _, _, rfl, rfl, tCALL_SIZES _, rfl, _, rfl, _, rfl, l, _, _, _, rfl, rfl, hs, atI_nat h1, rfl, _, rfl, ifF rfl ⟨_, rfl, _, rfl, l, _, _, _, rfl, rfl, hs, atI_nat h1, rfl, _, rfl, ifF rfl ⟨_, rfl, q⟩⟩⟩
    case join i' j k g =>
      cases g
      all_goals
        have h1 := h0 _ rfl
        exact ⟨_, rfl, _, rfl, l, _, _, _, rfl, rfl, hs, atI_nat h1, aCALL_SIZES, _, _, _, rfl, rfl, tCALL_SIZES _, rfl, _, rfl, _, rfl, l, _, _, _, rfl, rfl, hs, atI_nat h1, rfl, _, rfl, ifF rfl ⟨_, rfl, _, rfl, l, _, _, _, rfl, rfl, hs, atI_nat h1, rfl, _, rfl, ifF rfl ⟨_, rfl, q⟩⟩⟩
    case floor i' k g =>
      cases g
      all_goals
        have h1 := h0 _ rfl
        exact ⟨_, rfl, _, rfl, l, _, _, _, rfl, rfl, hs, atI_nat h1, aCALL_SIZES, _, _, _, rfl, rfl, tCALL_SIZES _, rfl, _, rfl, _, rfl, l, _, _, _, rfl, rfl, hs, atI_nat h1, rfl, _, rfl, ifF rfl ⟨_, rfl, _, rfl, l, _, _, _, rfl, rfl, hs, atI_nat h1, rfl, _, rfl, ifF rfl ⟨_, rfl, q⟩⟩⟩
    case ask i' g =>
      cases g
      all_goals
        have h1 := h0 _ rfl
        exact ⟨_, rfl, _, rfl, l, _, _, _, rfl, rfl, hs, atI_nat h1, aCALL_SIZES, _, _, _, rfl, rfl, tCALL_SIZES _, rfl, _, rfl, _, rfl, l, _, _, _, rfl, rfl, hs, atI_nat h1, rfl, _, rfl, ifF rfl ⟨_, rfl, _, rfl, l, _, _, _, rfl, rfl, hs, atI_nat h1, rfl, _, rfl, ifF rfl ⟨_, rfl, q⟩⟩⟩
end
end RW
namespace RW
open PySem PySem.Spec PyProof.Rows L2 C8
theorem pe_mk0 {X : Cx} {k j : Nat} {C : Addr} {x : Str} {sp : Sp} {dvs : List V} {p pos : Pos} (c : Mak X.prog X.w X.K X.mg X.base k x C sp dvs) (hr : Room j X.A) (hk : k + 1 ≤ j) (hg : Gl X x) (hdb : (x == ("__debug__" : Str)) = false := by decide) :
    PE X (.Call (.Name x p) [] [] pos) (tMake C sp dvs C8.E0 tNil) := by
  obtain ⟨f, fd, ps, ds, M, F, hm, b, d⟩ := c.ex
  exact pe_make0 M F (hr.mono hk) hg hm b d C8.pass0 hdb
theorem mkF1 {P : Program} {w : World} {K : PySem.W.Frag} {mg : Str → Option Value} {base : Heap} {x : Str} {st : Stmt} {N : List Str} {k : Nat} {p1 : Str} {B : V → Hp → VK → Prop} {f : Addr} {fd : FuncData} (d : C8.Fun K x x st f fd) (S : FnScope N [p1] (fnScope st))
    (h : ∀ (f : Addr) (cdv : Value) (A : Around) (outer : List Env) (s : Shared) (H : Hp) (a : V) (Q : VK) (E : XK), Room k (A.deeper (envOfC x (fnScope st) s.heap.objs.size f cdv)) → B a H Q →
      ∃ t, PSs (cxOf C8.CX0 P w K mg base N x (fnScope st) f cdv A outer s H E).nox (fnBody st) t ∧ t { nx := fun _ H' => Q .non H', rt := Q } (start N [a]) H) : FnOk P w K mg base C8.CX0 (k + 1) f fd [p1] (sp1 B) := by
  refine C8.fn0 d S (fun vs H Q E h => ?_) fun cdv A outer s H vs Q E hr hq => ?_
  · obtain ⟨_, rfl, _⟩ := h
    rfl
  · obtain ⟨a, rfl, q⟩ := hq
    exact h f cdv A outer s H a Q E hr q
end RW
namespace RW
open PySem PySem.Spec PyProof.Rows L2 C8
open RK (co Tr ld ev)
theorem cut_call {cs a rest : List Int} {i : Nat} (h : cs.drop i = a ++ rest) (hn : a ≠ []) : cutV (cs.map V.int) (some (i : Int)) (some ((i : Int) + (a.length : Int))) = a.map V.int := by
  have h2 : a.length ≤ cs.length - i := by
    rw [← List.length_drop, h, List.length_append]
    omega
  have h0 : 0 < a.length := List.length_pos_iff.mpr hn
  unfold cutV
  rw [List.length_map]
  have e1 : HT.sIx cs.length 0 (some (i : Int)) = i := by
    rw [HT.sIx_nat]
    omega
  have e2 : HT.sIx cs.length cs.length (some ((i : Int) + (a.length : Int))) = i + a.length := by
    refine (HT.sIx_nat _ _ (i + a.length)).trans ?_
    omega
  rw [e1, e2, ← List.map_drop, h, List.map_append]
  rw [show i + a.length - i = a.length from by omega]
  exact List.take_left' (by rw [List.length_map])
section
variable {P : Program} {w : World} {K : PySem.W.Frag} {mg : Str → Option Value} {base : Heap} {C : Addr}
theorem KAt.avoid {H : Hp} {a l F : Addr} {st : St4} {xs ys : List V} (h : KAt K C (fun b => b = F) H a l st) (hF : H F = some (.lst xs)) (hne : F ≠ l) : KAt K C (fun b => b = F) (upd H F (.lst ys)) a l st := by
  obtain ⟨⟨dx, ho⟩, ⟨vs, hl, hp⟩, z⟩ := h
  refine ⟨⟨dx, ?_⟩, ⟨vs, ?_, ?_⟩, ?_⟩
  · rw [upd_ne (ne_of ho hF (by intro z; cases z))]; exact ho
  · rw [upd_ne hne.symm]; exact hl
  · exact Paired.mapP hp fun v p ⟨b, e, n, q⟩ => ⟨b, e, n, Po.upd hF n.2 q⟩
  · intro b hb n
    rw [hb, upd_same] at n
    cases n
def S_answers (K : PySem.W.Frag) (a : V) (H : Hp) (Q : VK) : Prop := ∃ (cs : List Int) (rs : List Rq0), Is K H a cs ∧ cs = rs.flatMap flat0 ∧ (∀ r ∈ rs, ok0 r) ∧ (outs none rs).length ≤ 10000000 ∧ ∀ (H' : Hp) (b : Addr), Same H H' → H' b = some (.lst ((outs none rs).map V.int)) → Q (.ref b) H'
theorem c_answers (T : Txt P K mg base) (c : ClsT K C) {f0 : Addr} {fd0 : FuncData} (d : C8.Fun K "answers" "answers" (top 126) f0 fd0) (c_Keeper : Mak P w K mg base 1 "Keeper" C (sp1 (S_k___init__ C K)) []) (c_answer : Cal P w K mg base 44 "answer" (sp2 (S_answer C K)) []) (c_size_of_call : Cal P w K mg base 1 "size_of_call" (sp2 (S_size_of_call K)) []) : FnOk P w K mg base C8.CX0 45 f0 fd0 ["calls"] (sp1 (S_answers K)) := by
  have S : FnScope ["calls", "keeper", "found", "place", "size", "told"] ["calls"] (fnScope (top 126)) := fnScope_by (by decide +kernel)
  refine mkF1 (k := 44) d S fun f cdv A outer s H a1 Q E hr h => ?_
  refine ⟨_, (pss_cons (ps_set (i := 1) S.nd rfl (Or.inl rfl) (pe_mk0 c_Keeper hr (by decide) rfl)) (pss_cons (ps_set (i := 2) S.nd rfl (Or.inl rfl) (pe_lst pa_nil)) (pss_cons (ps_set (i := 3) S.nd rfl (Or.inl rfl) pe_int) (pss_cons (ps_while PassesOwn.never (pt_cmpR op_lt (pv 3) (pe_callB call_len_seq (by rfl) T.len PySem.boot_len (pa_cons (pv 0) pa_nil)) (nomark _)) (pss_cons (ps_set (i := 4) S.nd rfl (Or.inl rfl) (pe_c c_size_of_call hr (by decide) rfl (pa_cons (pv 0) (pa_cons (pv 3) pa_nil)))) (pss_cons (ps_set (i := 5) S.nd rfl (Or.inl rfl) (pe_c c_answer hr (by decide) rfl (pa_cons (pv 1) (pa_cons (pe_slice sl_list (pv 0) (po_some (pv 3)) (po_some (pe_op op_add (pv 3) (pv 4)))) pa_nil)))) (pss_cons (ps_expr (pe_bm PySem.F.plainAttrs_list PySem.F.slot_list_append PySem.F.type_list_append mt_append (pv 2) (pa_cons (pe_callB call_len_seq (by rfl) T.len PySem.boot_len (pa_cons (pv 5) pa_nil)) pa_nil))) (pss_cons (ps_expr (pe_bm PySem.F.plainAttrs_list PySem.F.slot_list_extend PySem.F.type_list_extend mt_extend (pv 2) (pa_cons (pv 5) pa_nil))) (pss_one (ps_aug (i := 3) S.nd rfl (Or.inl rfl) (pv 4) ip_add))))))) (pss_one (ps_ret (pv 2))))))), ?_⟩
  obtain ⟨cs, rs, hc, ecs, hok, hlen, q⟩ := h
  have hc' := hc
  obtain ⟨al, rfl, hs⟩ := hc'.get
  intro x dx hx hdx hne
  refine ⟨_, rfl, x, dx, rfl, upd_same, fun H1 l0 k1 n1 kp1 => ⟨rfl, ?_⟩⟩
  have s1 : Same H H1 := fun b o e => by
    have b1 : b ≠ x := ne_of_none e hx
    have b2 : b ≠ dx := ne_of_none e hdx
    refine kp1 b o ?_ b1
    rw [upd_ne b1, upd_ne b2]
    exact e
  have hl0 : H l0 = none := by
    cases e : H l0 with
    | none => rfl
    | some o =>
      have b1 : l0 ≠ x := ne_of_none e hx
      have b2 : l0 ≠ dx := ne_of_none e hdx
      have := n1.free
      rw [upd_ne b1, upd_ne b2, e] at this
      cases this
  refine ⟨Nat.zero_le _, fun F hF => ?_⟩
  have hFH : H F = none := s1.free hF
  have s2 : Same H1 (upd H1 F (.lst [])) := same_lay hF
  obtain ⟨dx1, ho1⟩ := k1.o
  have hFx : F ≠ x := fun e => by rw [e, ho1] at hF; cases hF
  have hFl0 : F ≠ l0 := by
    obtain ⟨vs, hl, _⟩ := k1.s
    intro e
    rw [e, hl] at hF
    cases hF
  refine while_by (fun σ H' => ∃ (done rest : List Rq0) (st : St4) (l : Addr) (y z : Option V) (fs : List Int), rs = done ++ rest ∧ σ = [some (.ref al), some (.ref x), some (.ref F), some (.int ((done.flatMap flat0).length : Nat)), y, z] ∧ Same H H' ∧ H l = none ∧
      KAt K C (fun b => b = F) H' x l st ∧ Four0 st ∧ H' F = some (.lst (fs.map V.int)) ∧ F ≠ l ∧ fs ++ outs st rest = outs none rs)
    (fun σ _ => match σ with
      | [_, _, _, some (.int j), _, _] => cs.length - j.toNat
      | _ => 0) ⟨[], rs, none, l0, _, _, [], rfl, rfl, s1.trans s2, hl0, ⟨⟨dx1, s2 _ _ ho1⟩, ?_, (fun b hb n => by rw [hb, upd_same] at n; cases n)⟩, (fun _ e => by cases e), upd_same, hFl0, rfl⟩ ?_ ?_
  · obtain ⟨vs, hl, hp⟩ := k1.s
    refine ⟨vs, s2 _ _ hl, ?_⟩
    cases hp
    exact .nil
  · rintro σ H' ⟨done, rest, st, l, y, z, fs, ers, rfl, sH, hl, hk, hf, hFs, hne2, eo⟩
    have hs1 := sqL_same sH hs
    refine ⟨_, rfl, _, rfl, al, _, rfl, .inl hs1, _, _, rfl, rfl, _, rfl, ?_⟩
    rw [List.length_map]
    have ecs2 : cs = done.flatMap flat0 ++ rest.flatMap flat0 := by rw [ecs, ers, List.flatMap_append]
    have hd : cs.drop (done.flatMap flat0).length = rest.flatMap flat0 := by rw [ecs2, List.drop_left]
    have hln : cs.length = (done.flatMap flat0).length + (rest.flatMap flat0).length := by rw [ecs2, List.length_append]
    generalize hplace : (done.flatMap flat0).length = place at *
    cases rest with
    | nil =>
      refine ifF (decide_eq_false (by simp at hln; omega)) ?_
      have eo2 : fs = outs none rs := by rw [← eo]; exact (List.append_nil _).symm
      rw [eo2] at hFs
      exact ⟨_, rfl, q H' F sH hFs⟩
    | cons r rest =>
      have hr1 := flat_len r
      have hcons : (r :: rest).flatMap flat0 = flat0 r ++ rest.flatMap flat0 := rfl
      rw [hcons] at hd hln
      rw [List.length_append] at hln
      refine ifT (decide_eq_true (by omega)) ?_
      have hc1 : Is K H' (.ref al) cs := LsI.same sH hc
      refine ⟨_, rfl, _, rfl, _, _, rfl, cs, place, r, rest.flatMap flat0, hc1, rfl, hd, ?_⟩
      have hne3 : flat0 r ≠ [] := fun e => by rw [e] at hr1; simp at hr1
      refine ⟨_, rfl, _, rfl, _, rfl, _, rfl, _, rfl, _, rfl, _, _, rfl, rfl, _, rfl, al, _, rfl, hs1, fun p hp => ?_⟩
      have s3 := same_lay (o := .lst (cutV (cs.map V.int) (some (place : Int)) (some ((place : Int) + ((flat0 r).length : Int))))) hp
      have hokr : ok0 r := hok r (by rw [ers]; simp)
      refine ⟨_, _, rfl, fun b => b = F, x, l, st, r, rfl, hk.same s3, hf, Is.lay (cut_call hd hne3), hokr, fun H3 b l' kp k3 hl' nb bne hb => ?_⟩
      have eo2 : fs ++ (((stp st (req0 r)).2.length : Int) :: (stp st (req0 r)).2 ++ outs (stp st (req0 r)).1 rest) = outs none rs := eo
      have hlen2 := congrArg List.length eo2
      simp only [List.length_append, List.length_cons] at hlen2
      have hF3 : H3 F = some (.lst (fs.map V.int)) := kp F _ (s3 _ _ hFs) hFx hne2
      have hl'H : H l' = none := by
        rcases hl' with e | n
        · rw [e]; exact hl
        · exact sH.free (s3.free n.free)
      have hFl' : F ≠ l' := by
        rcases hl' with e | n
        · rw [e]; exact hne2
        · exact (n.ne2 (s3 _ _ hFs)).symm
      have hFb : F ≠ b := (nb.ne2 (s3 _ _ hFs)).symm
      have sH3 : Same H H3 := fun c o e => kp c o (s3 _ _ (sH _ _ e)) (ne_of_none e hx) (ne_of_none e hl)
      refine ⟨_, rfl, .inl ⟨rfl, _, SqL.of hF3⟩, _, rfl, b, _, rfl, .inl (SqL.of hb), F, _, _, rfl, rfl, hF3, (by rw [List.length_map]; exact Nat.lt_of_lt_of_le (by omega : fs.length < 10000001) (by decide)), ?_⟩
      have k4 := k3.avoid (ys := fs.map V.int ++ [.int ((stp st (req0 r)).2.map V.int).length]) hF3 hFl'
      have hF4 : upd H3 F (.lst (fs.map V.int ++ [.int ((stp st (req0 r)).2.map V.int).length])) F = some (.lst (fs.map V.int ++ [.int ((stp st (req0 r)).2.map V.int).length])) := upd_same
      have hb4 : upd H3 F (.lst (fs.map V.int ++ [.int ((stp st (req0 r)).2.map V.int).length])) b = some (.lst ((stp st (req0 r)).2.map V.int)) := by rw [upd_ne hFb.symm]; exact hb
      have sH4 : Same H (upd H3 F (.lst (fs.map V.int ++ [.int ((stp st (req0 r)).2.map V.int).length]))) := same_new sH3 hFH
      generalize upd H3 F (.lst (fs.map V.int ++ [.int ((stp st (req0 r)).2.map V.int).length])) = H4 at *
      refine ⟨_, rfl, .inl ⟨rfl, _, SqL.of hF4⟩, _, rfl, F, b, _, _, rfl, rfl, hF4, hb4, ?_, ?_⟩
      · simp only [List.length_append, List.length_map, List.length_cons, List.length_nil]
        exact Nat.le_trans (by omega : fs.length + (0 + 1) + (stp st (req0 r)).2.length ≤ 10000001) (by decide)
      have k5 := k4.avoid (ys := fs.map V.int ++ [.int ((stp st (req0 r)).2.map V.int).length] ++ (stp st (req0 r)).2.map V.int) hF4 hFl'
      refine ⟨_, rfl, _, rfl, _, _, rfl, rfl, ?_⟩
      refine ⟨⟨done ++ [r], rest, (stp st (req0 r)).1, l', some (.int ((flat0 r).length : Nat)), some (.ref b), fs ++ (((stp st (req0 r)).2.length : Int) :: (stp st (req0 r)).2), by rw [ers]; simp, ?_, same_new sH4 hFH, hl'H, k5, four_step hf r, ?_, hFl', ?_⟩, ?_⟩
      · have e : (((done ++ [r]).flatMap flat0).length : Int) = (place : Int) + ((flat0 r).length : Int) := by
          rw [List.flatMap_append, List.length_append, hplace]
          simp
        rw [e]
        rfl
      · rw [upd_same]
        simp
      · rw [← eo2]
        simp
      · show cs.length - ((place : Int) + ((flat0 r).length : Int)).toNat < cs.length - (place : Int).toNat
        omega
  · exact fun _ _ _ _ f ⟨a, e, b, e2, p, ys, e3, h4, i, j, e5, e6, k, e7, h8⟩ => ⟨a, e, b, e2, p, ys, e3, h4, i, j, e5, e6, k, e7, f _ _ h8⟩
end
end RW
namespace RW
/-- a call, as the list of numbers has it -/
def rowsL (xs : List (List Int)) : List Int := xs.flatMap fun r => (r.length : Int) :: r
def flL : List (List Int) → List Int
  | [] => []
  | h :: rows => h ++ rowsL rows
theorem row_ok {l x s : List Int} (h : PyFlat.row l = some (x, s)) : l = (x.length : Int) :: x ++ s := by
  cases l with
  | nil => cases h
  | cons n r =>
    rw [PyFlat.row] at h
    by_cases c : 0 ≤ n ∧ n.toNat ≤ r.length
    · rw [if_pos c] at h
      cases h
      have e : ((r.take n.toNat).length : Int) = n := by rw [List.length_take]; omega
      rw [e, List.cons_append, List.take_append_drop]
    · rw [if_neg c] at h
      cases h
theorem rows_ok : ∀ (k : Nat) (l : List Int) (xs : List (List Int)) (t : List Int), PyFlat.rows k l = some (xs, t) → l = rowsL xs ++ t
  | 0, l, xs, t, h => by cases h; rfl
  | k + 1, l, xs, t, h => by
    rw [PyFlat.rows] at h
    cases e : PyFlat.row l with
    | none => rw [e] at h; cases h
    | some y =>
      obtain ⟨x, s⟩ := y
      rw [e] at h
      have h : (match PyFlat.rows k s with | none => none | some (xs, t) => some (x :: xs, t)) = some (xs, t) := h
      cases e2 : PyFlat.rows k s with
      | none => rw [e2] at h; cases h
      | some z =>
        obtain ⟨ys, u⟩ := z
        rw [e2] at h
        cases h
        rw [row_ok e, rows_ok k s ys _ e2]
        show _ = ((x.length : Int) :: x ++ rowsL ys) ++ _
        simp
theorem call_ok {sh : Int → Option (Nat × Nat)} {l : List Int} {c : List (List Int)} {t : List Int} (h : PyFlat.call sh l = some (c, t)) : l = flL c ++ t := by
  cases l with
  | nil => cases h
  | cons p r =>
    rw [PyFlat.call] at h
    cases e : sh p with
    | none => rw [e] at h; cases h
    | some y =>
      obtain ⟨n, k⟩ := y
      rw [e] at h
      have h : (if r.length < n then none else match PyFlat.rows k (r.drop n) with | none => none | some (xs, t) => some ((p :: r.take n) :: xs, t)) = some (c, t) := h
      by_cases c1 : r.length < n
      · rw [if_pos c1] at h; cases h
      · rw [if_neg c1] at h
        cases e2 : PyFlat.rows k (r.drop n) with
        | none => rw [e2] at h; cases h
        | some z =>
          obtain ⟨xs, u⟩ := z
          rw [e2] at h
          cases h
          have := rows_ok k _ _ _ e2
          show _ = (p :: r.take n ++ rowsL xs) ++ _
          rw [List.append_assoc, ← this, List.cons_append, List.take_append_drop]
theorem calls_ok {sh : Int → Option (Nat × Nat)} : ∀ (f : Nat) (l : List Int) (cs : List (List (List Int))), PyFlat.calls sh f l = some cs → l = cs.flatMap flL
  | _, [], cs, h => by
    have : cs = [] := by
      unfold PyFlat.calls at h
      cases h
      rfl
    rw [this]
    rfl
  | 0, _ :: _, cs, h => by cases h
  | f + 1, p :: r, cs, h => by
    rw [PyFlat.calls] at h
    cases e : PyFlat.call sh (p :: r) with
    | none => rw [e] at h; cases h
    | some y =>
      obtain ⟨c, t⟩ := y
      rw [e] at h
      have h : (match PyFlat.calls sh f t with | none => none | some cs => some (c :: cs)) = some cs := h
      cases e2 : PyFlat.calls sh f t with
      | none => rw [e2] at h; cases h
      | some z =>
        rw [e2] at h
        cases h
        rw [call_ok e, calls_ok f t z e2]
        rfl
theorem whole_eq (c : List (List Int)) : PyKqg3.whole c = c := by
  unfold PyKqg3.whole
  split <;> rfl
theorem n32 {z : Int} (h : Kqg3Neutral.nat32 z = true) : ((Kqg3Neutral.nat z : Nat) : Int) = z := by
  unfold Kqg3Neutral.nat32 at h
  have := of_decide_eq_true (Bool.and_eq_true_iff.mp h).1
  unfold Kqg3Neutral.nat
  omega
theorem l32 {f : Int → Bool} {l : List Int} (h : Kqg3Neutral.list32 f l = true) : l.length ≤ 60 := of_decide_eq_true (Bool.and_eq_true_iff.mp h).2
theorem req_of (c : List (List Int)) (h : Kqg3Neutral.asked1 c = true) : ∃ r : Rq0, flL c = flat0 r ∧ Kqg3Neutral.requestOf c = some (req0 r) ∧ ok0 r := by
  unfold Kqg3Neutral.asked1 at h
  split at h
  · exact ⟨none, rfl, rfl, trivial⟩
  · rename_i a b r1
    simp only [Bool.and_eq_true] at h
    refine ⟨some (.poly (Kqg3Neutral.nat a) (Kqg3Neutral.nat b) r1), ?_, rfl, l32 h.2⟩
    show _ = 1 :: ((Kqg3Neutral.nat a : Nat) : Int) :: ((Kqg3Neutral.nat b : Nat) : Int) :: (r1.length : Int) :: r1
    rw [n32 h.1.1, n32 h.1.2]
    show [1, a, b] ++ ((r1.length : Int) :: r1 ++ []) = _
    simp
  · rename_i a b r1
    simp only [Bool.and_eq_true] at h
    refine ⟨some (.roots (Kqg3Neutral.nat a) (Kqg3Neutral.nat b) r1), ?_, rfl, l32 h.2⟩
    show _ = 2 :: ((Kqg3Neutral.nat a : Nat) : Int) :: ((Kqg3Neutral.nat b : Nat) : Int) :: (r1.length : Int) :: r1
    rw [n32 h.1.1, n32 h.1.2]
    show [2, a, b] ++ ((r1.length : Int) :: r1 ++ []) = _
    simp
  · rename_i a
    exact ⟨some (.get (Kqg3Neutral.nat a)), by show _ = [3, ((Kqg3Neutral.nat a : Nat) : Int)]; rw [n32 h]; rfl, rfl, trivial⟩
  · rename_i a
    exact ⟨some (.ask (Kqg3Neutral.nat a) .real), by show _ = [4, ((Kqg3Neutral.nat a : Nat) : Int)]; rw [n32 h]; rfl, rfl, trivial⟩
  · rename_i a b d e
    simp only [Bool.and_eq_true] at h
    exact ⟨some (.chg (Kqg3Neutral.nat a) (Kqg3Neutral.nat b) (.shift d (Kqg3Neutral.nat e))), by show _ = [5, ((Kqg3Neutral.nat a : Nat) : Int), ((Kqg3Neutral.nat b : Nat) : Int), d, ((Kqg3Neutral.nat e : Nat) : Int)]; rw [n32 h.1.1.1, n32 h.1.1.2, n32 h.2]; rfl, rfl, trivial⟩
  · rename_i a b d e
    simp only [Bool.and_eq_true] at h
    exact ⟨some (.chg (Kqg3Neutral.nat a) (Kqg3Neutral.nat b) (.scale d (Kqg3Neutral.nat e))), by show _ = [6, ((Kqg3Neutral.nat a : Nat) : Int), ((Kqg3Neutral.nat b : Nat) : Int), d, ((Kqg3Neutral.nat e : Nat) : Int)]; rw [n32 h.1.1.1, n32 h.1.1.2, n32 h.2]; rfl, rfl, trivial⟩
  · rename_i a b
    simp only [Bool.and_eq_true] at h
    exact ⟨some (.chg (Kqg3Neutral.nat a) (Kqg3Neutral.nat b) .recip), by show _ = [7, ((Kqg3Neutral.nat a : Nat) : Int), ((Kqg3Neutral.nat b : Nat) : Int)]; rw [n32 h.1, n32 h.2]; rfl, rfl, trivial⟩
  · rename_i a b
    simp only [Bool.and_eq_true] at h
    exact ⟨some (.chg (Kqg3Neutral.nat a) (Kqg3Neutral.nat b) .deriv), by show _ = [8, ((Kqg3Neutral.nat a : Nat) : Int), ((Kqg3Neutral.nat b : Nat) : Int)]; rw [n32 h.1, n32 h.2]; rfl, rfl, trivial⟩
  · rename_i a b d e
    simp only [Bool.and_eq_true] at h
    exact ⟨some (.chg (Kqg3Neutral.nat a) (Kqg3Neutral.nat b) (.less d (Kqg3Neutral.nat e))), by show _ = [9, ((Kqg3Neutral.nat a : Nat) : Int), ((Kqg3Neutral.nat b : Nat) : Int), d, ((Kqg3Neutral.nat e : Nat) : Int)]; rw [n32 h.1.1.1, n32 h.1.1.2, n32 h.2]; rfl, rfl, trivial⟩
  · rename_i a b d e
    simp only [Bool.and_eq_true] at h
    exact ⟨some (.chg (Kqg3Neutral.nat a) (Kqg3Neutral.nat b) (.polar d (Kqg3Neutral.nat e))), by show _ = [10, ((Kqg3Neutral.nat a : Nat) : Int), ((Kqg3Neutral.nat b : Nat) : Int), d, ((Kqg3Neutral.nat e : Nat) : Int)]; rw [n32 h.1.1.1, n32 h.1.1.2, n32 h.2]; rfl, rfl, trivial⟩
  · rename_i a b d
    simp only [Bool.and_eq_true] at h
    exact ⟨some (.chg (Kqg3Neutral.nat a) (Kqg3Neutral.nat b) (.mult (Kqg3Neutral.nat d))), by show _ = [11, ((Kqg3Neutral.nat a : Nat) : Int), ((Kqg3Neutral.nat b : Nat) : Int), ((Kqg3Neutral.nat d : Nat) : Int)]; rw [n32 h.1.1, n32 h.1.2, n32 h.2]; rfl, rfl, trivial⟩
  · rename_i a b d
    simp only [Bool.and_eq_true] at h
    exact ⟨some (.join (Kqg3Neutral.nat a) (Kqg3Neutral.nat b) (Kqg3Neutral.nat d) .szego), by show _ = [12, ((Kqg3Neutral.nat a : Nat) : Int), ((Kqg3Neutral.nat b : Nat) : Int), ((Kqg3Neutral.nat d : Nat) : Int)]; rw [n32 h.1.1, n32 h.1.2, n32 h.2]; rfl, rfl, trivial⟩
  · rename_i a b d
    simp only [Bool.and_eq_true] at h
    exact ⟨some (.join (Kqg3Neutral.nat a) (Kqg3Neutral.nat b) (Kqg3Neutral.nat d) .schur), by show _ = [13, ((Kqg3Neutral.nat a : Nat) : Int), ((Kqg3Neutral.nat b : Nat) : Int), ((Kqg3Neutral.nat d : Nat) : Int)]; rw [n32 h.1.1, n32 h.1.2, n32 h.2]; rfl, rfl, trivial⟩
  · rename_i a b d
    simp only [Bool.and_eq_true] at h
    exact ⟨some (.join (Kqg3Neutral.nat a) (Kqg3Neutral.nat b) (Kqg3Neutral.nat d) .hada), by show _ = [14, ((Kqg3Neutral.nat a : Nat) : Int), ((Kqg3Neutral.nat b : Nat) : Int), ((Kqg3Neutral.nat d : Nat) : Int)]; rw [n32 h.1.1, n32 h.1.2, n32 h.2]; rfl, rfl, trivial⟩
  · rename_i a b d
    simp only [Bool.and_eq_true] at h
    exact ⟨some (.join (Kqg3Neutral.nat a) (Kqg3Neutral.nat b) (Kqg3Neutral.nat d) .free), by show _ = [15, ((Kqg3Neutral.nat a : Nat) : Int), ((Kqg3Neutral.nat b : Nat) : Int), ((Kqg3Neutral.nat d : Nat) : Int)]; rw [n32 h.1.1, n32 h.1.2, n32 h.2]; rfl, rfl, trivial⟩
  · rename_i a
    exact ⟨some (.ask (Kqg3Neutral.nat a) .mean), by show _ = [16, ((Kqg3Neutral.nat a : Nat) : Int)]; rw [n32 h]; rfl, rfl, trivial⟩
  · rename_i a
    exact ⟨some (.ask (Kqg3Neutral.nat a) .var), by show _ = [17, ((Kqg3Neutral.nat a : Nat) : Int)]; rw [n32 h]; rfl, rfl, trivial⟩
  · rename_i a b
    simp only [Bool.and_eq_true] at h
    exact ⟨some (.floor (Kqg3Neutral.nat a) (Kqg3Neutral.nat b) true), by show _ = [18, ((Kqg3Neutral.nat a : Nat) : Int), ((Kqg3Neutral.nat b : Nat) : Int)]; rw [n32 h.1, n32 h.2]; rfl, rfl, trivial⟩
  · rename_i a b
    simp only [Bool.and_eq_true] at h
    exact ⟨some (.floor (Kqg3Neutral.nat a) (Kqg3Neutral.nat b) false), by show _ = [19, ((Kqg3Neutral.nat a : Nat) : Int), ((Kqg3Neutral.nat b : Nat) : Int)]; rw [n32 h.1, n32 h.2]; rfl, rfl, trivial⟩
  · rename_i a
    exact ⟨some (.ask (Kqg3Neutral.nat a) .nonneg), by show _ = [20, ((Kqg3Neutral.nat a : Nat) : Int)]; rw [n32 h]; rfl, rfl, trivial⟩
  · exact ⟨some .sum, rfl, rfl, trivial⟩
  · cases h
theorem step_eq (st : St4) (c : List (List Int)) (r : Rq0) (h : Kqg3Neutral.requestOf c = some (req0 r)) : Kqg3Neutral.step st c = stp st (req0 r) := by
  unfold Kqg3Neutral.step
  rw [h]
  rfl
theorem reqs_of : ∀ cs : List (List (List Int)), (∀ c ∈ cs, Kqg3Neutral.asked1 c = true) → ∃ rs : List Rq0, cs.flatMap flL = rs.flatMap flat0 ∧ (∀ r ∈ rs, ok0 r) ∧ ∀ st : St4, PyFlat.told (PyFlat.played Kqg3Neutral.step st cs) = outs st rs
  | [], _ => ⟨[], rfl, (fun _ h => by cases h), fun _ => rfl⟩
  | c :: cs, h => by
    obtain ⟨r, h1, h2, h3⟩ := req_of c (h c (List.mem_cons_self ..))
    obtain ⟨rs, g1, g2, g3⟩ := reqs_of cs fun d hd => h d (List.mem_cons_of_mem _ hd)
    refine ⟨r :: rs, ?_, fun x hx => ?_, fun st => ?_⟩
    · rw [List.flatMap_cons, List.flatMap_cons, h1, g1]
    · rcases List.mem_cons.mp hx with rfl | hx
      · exact h3
      · exact g2 x hx
    · have e := step_eq st c r h2
      show PyFlat.told ((Kqg3Neutral.step st c).2 :: PyFlat.played Kqg3Neutral.step (Kqg3Neutral.step st c).1 cs) = _
      rw [e]
      show ((stp st (req0 r)).2.length : Int) :: (stp st (req0 r)).2 ++ PyFlat.told (PyFlat.played Kqg3Neutral.step (stp st (req0 r)).1 cs) = _
      rw [g3]
      rfl
theorem asked_ok {l : List Int} (h : PyKqg3.answers_asked l = true) : ∃ rs : List Rq0, l = rs.flatMap flat0 ∧ (∀ r ∈ rs, ok0 r) ∧ PyKqg3.answers l = outs none rs ∧ (outs none rs).length ≤ 10000000 := by
  unfold PyKqg3.answers_asked at h
  cases e : PyFlat.calls PyKqg3.shape l.length l with
  | none => rw [e] at h; cases h
  | some raw =>
    rw [e] at h
    have h : (!raw.isEmpty && PyFlat.atMost 200 raw && PyInside.calls PyKqg3.bound raw && Kqg3Neutral.asked (raw.map PyKqg3.whole) && PyFlat.short 10000000 (PyKqg3.answers l)) = true := h
    obtain ⟨h, hs⟩ := Bool.and_eq_true_iff.mp h
    obtain ⟨h, ha⟩ := Bool.and_eq_true_iff.mp h
    have ew : raw.map PyKqg3.whole = raw := by
      rw [List.map_congr_left (g := id) fun c _ => whole_eq c, List.map_id]
    rw [ew] at ha
    unfold Kqg3Neutral.asked at ha
    obtain ⟨ha, _⟩ := Bool.and_eq_true_iff.mp ha
    obtain ⟨_, ha⟩ := Bool.and_eq_true_iff.mp ha
    obtain ⟨ha, _⟩ := Bool.and_eq_true_iff.mp ha
    obtain ⟨rs, g1, g2, g3⟩ := reqs_of raw (List.all_eq_true.mp ha)
    have ea : PyKqg3.answers l = outs none rs := by
      unfold PyKqg3.answers PyKqg3.calls
      rw [e]
      show PyFlat.told (PyFlat.played Kqg3Neutral.step Kqg3Neutral.start (raw.map PyKqg3.whole)) = _
      rw [ew]
      exact g3 none
    refine ⟨rs, ?_, g2, ea, ?_⟩
    · rw [calls_ok _ l raw e, g1]
    · rw [← ea]
      exact of_decide_eq_true hs
end RW
namespace RW
open PySem PySem.Spec PyProof.Rows L2
open PySem.W (Codec)
/-! ### the end's own road: the heap behind the top has no seer -/
theorem fn_up {P : Program} {w : World} {K K' : PySem.W.Frag} {mg : Str → Option Value} {base : Heap} {CX : CXT} {k : Nat} {f : Addr} {fd : FuncData} {ps : List Str} {sp : Sp} (kin : K.In base) (F : FnOk P w K mg base CX k f fd ps sp) : FnOk P w K' mg base CX k f fd ps sp :=
  ⟨F.len, fun A outer s H args us vs Q E hr e hb hv hs => F.run A outer s H args us vs Q E hr ⟨e.frames, { e.mod with kin := kin }, e.bs, e.bsz, e.funs, e.frf, e.hok, e.bare⟩ hb hv hs⟩
theorem look_mem {α : Type} {a : Addr} {o : α} : ∀ {l : List (Addr × α)}, l.lookup a = some o → (a, o) ∈ l
  | [], e => by cases e
  | (b, x) :: l, e => by
    rw [List.lookup_cons] at e
    by_cases h : (a == b) = true
    · rw [h] at e
      cases e
      rw [beq_iff_eq.mp h]
      exact List.mem_cons_self ..
    · have h' : (a == b) = false := by simpa using h
      rw [h'] at e
      exact List.mem_cons_of_mem _ (look_mem e)
theorem mem_look0 {α : Type} {a : Addr} {o : α} : ∀ {l : List (Addr × α)}, (a, o) ∈ l → ∃ o', l.lookup a = some o'
  | (b, x) :: l, e => by
    rw [List.lookup_cons]
    by_cases h : (a == b) = true
    · rw [h]
      exact ⟨_, rfl⟩
    · have h' : (a == b) = false := by simpa using h
      rw [h']
      rcases List.mem_cons.mp e with e | e
      · cases e
        exact absurd (beq_self_eq_true _) h
      · exact mem_look0 e
theorem look_app {K E : PySem.W.Frag} {a : Addr} : (K ++ E).lookup a = (K.lookup a).or (E.lookup a) := List.lookup_append
/-- the written part, and what tells that there is no seer -/
theorem seen {K : PySem.W.Frag} {h : Heap} (X : K.In h) (N : h.NoSeer) : ∃ K' : PySem.W.Frag, K'.In h ∧ (∀ a o, K'.lookup a = some o → (∀ (its : Array Value) (n : Nat), o.data = .seq its n → o.cls = .type "list" → K.lookup a = some o)) ∧ ∀ base : Heap, K'.In base → K.In base ∧ base.NoSeer := by
  obtain ⟨⟨mc, ⟨o1, e1, p1, g1, d1, r1⟩, c1⟩, ⟨mm, ⟨o2, e2, p2, g2, d2, r2⟩, c2⟩, ⟨mb, ⟨o3, e3, p3, g3, d3, r3⟩, c3⟩, ⟨mg, bm, ob, ⟨o4, e4, p4, g4, d4, r4⟩, c4, g5, c5, c6⟩⟩ := N
  let E : PySem.W.Frag := [(cStatics, o1), (sysModules, o2), (builtinsNs, o3), (mainGlobals, o4), (bm, ob)]
  have inE : ∀ a o, E.lookup a = some o → h.get? a = some o ∧ ((∃ es ep, o.data = .dict es ep) ∨ o.cls = .type "module") := by
    intro a o e
    have m : (a, o) ∈ E := look_mem e
    simp only [E, List.mem_cons, List.not_mem_nil, or_false] at m
    rcases m with m | m | m | m | m
    · cases m; exact ⟨g1, .inl ⟨_, _, d1⟩⟩
    · cases m; exact ⟨g2, .inl ⟨_, _, d2⟩⟩
    · cases m; exact ⟨g3, .inl ⟨_, _, d3⟩⟩
    · cases m; exact ⟨g4, .inl ⟨_, _, d4⟩⟩
    · cases m; exact ⟨g5, .inr c5⟩
  have X' : PySem.W.Frag.In (K ++ E) h := fun a o e => by
    rw [look_app] at e
    cases hk : K.lookup a with
    | some o' => rw [hk] at e; cases e; exact X a _ hk
    | none => rw [hk] at e; exact (inE a o e).1
  have at_ : ∀ (base : Heap), PySem.W.Frag.In (K ++ E) base → ∀ a o, h.get? a = some o → (∃ o', E.lookup a = some o') → base.get? a = some o := fun base B a o g ⟨o', q⟩ => by
    have : ∃ o2, (K ++ E).lookup a = some o2 := by
      rw [look_app]
      cases K.lookup a with
      | some o2 => exact ⟨o2, rfl⟩
      | none => exact ⟨o', q⟩
    obtain ⟨o2, e2⟩ := this
    have z := X' a o2 e2
    rw [g] at z
    cases z
    exact B a _ e2
  have mem_look : ∀ {a : Addr} {o : Obj}, (a, o) ∈ E → ∃ o', E.lookup a = some o' := mem_look0
  refine ⟨K ++ E, X', fun a o e its n dd cc => ?_, fun base B => ⟨fun a o e => B a o (by rw [look_app, e]; rfl), ?_⟩⟩
  · rw [look_app] at e
    cases hk : K.lookup a with
    | some o' => rw [hk] at e; cases e; rfl
    | none =>
      rw [hk] at e
      rcases (inE a o e).2 with ⟨es, ep, z⟩ | z
      · rw [z] at dd; cases dd
      · rw [cc] at z
        injection z with z
        exact absurd z (by decide)
  · refine ⟨⟨mc, ⟨o1, e1, p1, at_ base B _ _ g1 (mem_look (List.mem_cons_self ..)), d1, r1⟩, c1⟩, ⟨mm, ⟨o2, e2, p2, at_ base B _ _ g2 (mem_look (o := o2) (by simp [E])), d2, r2⟩, c2⟩, ⟨mb, ⟨o3, e3, p3, at_ base B _ _ g3 (mem_look (o := o3) (by simp [E])), d3, r3⟩, c3⟩, ⟨mg, bm, ob, ⟨o4, e4, p4, at_ base B _ _ g4 (mem_look (o := o4) (by simp [E])), d4, r4⟩, c4, at_ base B _ _ g5 (mem_look (o := ob) (by simp [E])), c5, c6⟩⟩
end RW
namespace RW
open PySem PySem.Spec PyProof.Rows L2
open PySem.W (Codec OpenSpec)
/-- the call, from the promise of the row's def where the heap has no seer -/
theorem walkN {r : OpenSpec} {k : Nat} {q : Program} {loose : List Str} {XP : (Str → Option Value) → Heap → Prop} {YP : World → Heap → Prop} {d : DefRec} {K : Params → PySem.W.Frag} {ps : List Str} {sp : PySem.W.Frag → Sp}
    (hwell : r.wellSaid = true) (hlen : r.args.length = ps.length) (hr : Room k callerA) (hY : ∀ (w : World) (h : Heap), YP w h → (K w.params).In h) (hi : importsNone q = true)
    (F : ∀ (w : World) (mg : Str → Option Value) (fa : Addr) (h : Heap), YP w h → (K w.params).In h → h.Ns mainGlobals mg → mg d.name = some (.ref fa) →
      ∃ fd : FuncData, (∀ (s : Shared) (us : List Value), us.length = ps.length → BindsTo s fd ⟨us, []⟩ (ps.zip us)) ∧
        ∀ base : Heap, (K w.params).In base → base.Ns mainGlobals mg → base.NoSeer → FnOk r.prog w (K w.params) mg base C8.CX0 k fa fd ps (sp (K w.params)))
    (hsp : ∀ (K K' : PySem.W.Frag), (∀ a o, K'.lookup a = some o → (∀ (its : Array Value) (n : Nat), o.data = .seq its n → o.cls = .type "list" → K.lookup a = some o)) → ∀ (H : Hp) (xs : List V) (a : Codec.denoteAll r.args), Codec.withinAll r.args a = true → Codec.app r.args r.asked a = true → DwAll K' H xs (Codec.encAll r.args a) →
      sp K xs H (fun v H' => Dw K' H' v (r.ret.enc (Codec.app r.args r.f a))) fun _ _ _ => False) :
    PySem.W.WalkOS q loose XP YP r d [] (fun f vs => PySem.call f vs) := by
  intro w s₀ s₁ mg mb G Y fa o pm cd doc dV kV ho hd hcd hD hmg hg args vals as hpre hlay hrd hwl hlo
  obtain ⟨a, e1, e2⟩ := PySem.W.os_pre_some hpre
  obtain ⟨e3, hwi⟩ := Codec.encAll_of_decAll r.args args a e1
  subst e3
  have KX := hY w _ Y
  obtain ⟨K', X', sub, up⟩ := seen KX (G.T.seer hi)
  obtain ⟨fd, hb, hF⟩ := F w mg fa _ Y KX G.T.g hmg
  refine PySem.W.enter_call (codeAny_mono (L2.spec_call (K := K') (CX := C8.CX0) (sp := sp (K w.params)) (R := []) (cl := classAt s₀.heap) (d0 := r.ret.enc (Codec.app r.args r.f a)) X' G.T.g G.T.b G.T.builtins G.T.nolimit hg hwl (L2.pl_encAll _ _) (L2.layable_weight hlay) hr
    (fun base B nb => fn_up (up base B).1 (hF base (up base B).1 nb (up base B).2)) hb (by rw [L2.encAll_len]; exact hlen) (fun H xs _ hS => hsp (K w.params) K' sub H xs a hwi e2 hS) fun H e s' z => z) fun r' s' hq => ?_)
  obtain ⟨u, as', rfl, h1, h2, h3, h4⟩ := hq
  exact ⟨.inl ⟨u, _, as', rfl, fun _ => rfl, h1, (OpenSpec.post_iff hwell hwi _ _).mpr rfl, fun z => Bool.noConfusion (show false = true from z)⟩, h2, h3, h4⟩
/-- the request of the row -/
theorem request (K K' : PySem.W.Frag) (sub : ∀ a o, K'.lookup a = some o → (∀ (its : Array Value) (n : Nat), o.data = .seq its n → o.cls = .type "list" → K.lookup a = some o)) (H : Hp) (xs : List V) (a : Codec.denoteAll PySem.Challenge.rw_rootkeepers_s01_answers.args)
    (hask : Codec.app PySem.Challenge.rw_rootkeepers_s01_answers.args PySem.Challenge.rw_rootkeepers_s01_answers.asked a = true) (hx : DwAll K' H xs (Codec.encAll PySem.Challenge.rw_rootkeepers_s01_answers.args a)) :
    sp1 (S_answers K) xs H (fun v H' => Dw K' H' v (PySem.Challenge.rw_rootkeepers_s01_answers.ret.enc (Codec.app PySem.Challenge.rw_rootkeepers_s01_answers.args PySem.Challenge.rw_rootkeepers_s01_answers.f a))) fun _ _ _ => False := by
  cases hx with
  | cons h1 h2 =>
    cases h2
    cases h1 with
    | lst hs ha =>
      have e := L2.ints_dw a.1 _ ha
      subst e
      have hq : PyKqg3.answers_asked a.1 = true := hask
      obtain ⟨rs, g1, g2, g3, g4⟩ := asked_ok hq
      refine ⟨_, rfl, a.1, rs, ?_, g1, g2, g4, fun H' p _ hp => ?_⟩
      · refine ⟨_, a.1.map V.int, rfl, ?_, ?_⟩
        · rcases hs with hs | ⟨o, its, n, e1, e2, e3, e4, e5, e6⟩
          · exact .inl hs
          · exact .inr ⟨o, its, n, sub _ o e1 its n e4 e2, e2, e3, e4, e5, e6⟩
        · generalize a.1 = ns
          induction ns with
          | nil => exact .nil
          | cons n ns ih => exact .cons rfl ih
      · have e : PyKqg3.answers a.1 = outs none rs := g3
        rw [← e] at hp
        exact .lst (L2.SqL.of hp) (L2.dw_ints _)
end RW
namespace RW
open PySem PySem.Spec PyProof.Rows L2 C8
theorem mkFun {K : PySem.W.Frag} {x qual : Str} {st : Stmt} {f : Addr} {oc : Value} {od an : Option Addr} {osl : Array (Option Value)} {kV doc pm cdv ct : Value} (l : K.lookup f = some ⟨oc, od, .func (PySem.W.fnOf x qual (fnArgs st) (fnBody st) (fnScope st) .none kV doc pm an cdv ct), osl⟩)
    (c : PySem.W.codeIn K cdv qual = true) : C8.Fun K x qual st f (PySem.W.fnOf x qual (fnArgs st) (fnBody st) (fnScope st) .none kV doc pm an cdv ct) := ⟨⟨oc, od, .none, kV, doc, pm, an, cdv, ct, osl, rfl, l, c⟩⟩
def BindL (x qual : Str) (st : Stmt) (ps : List Str) : Prop := ∀ (kV doc pm : Value) (an : Option Addr) (cdv ct : Value) (us : List Value), us.length = ps.length → bindArgs (PySem.W.fnOf x qual (fnArgs st) (fnBody st) (fnScope st) .none kV doc pm an cdv ct) ⟨us, []⟩ = pure (ps.zip us)
theorem mkDef {K : PySem.W.Frag} {h : Heap} {mg : Str → Option Value} {x : Str} {st : Stmt} {ps : List Str} {f : Addr} {oc : Value} {od an : Option Addr} {osl : Array (Option Value)} {kV doc pm cdv ct : Value} (X : K.In h) (G : h.Ns mainGlobals mg) (b : BindL x x st ps)
    (a : PySem.W.nsIn K mainGlobals x = some (some (.ref f))) (l : K.lookup f = some ⟨oc, od, .func (PySem.W.fnOf x x (fnArgs st) (fnBody st) (fnScope st) .none kV doc pm an cdv ct), osl⟩)
    (c : PySem.W.codeIn K cdv x = true) (k : PySem.W.keepIn K (.ref f) = true) : DefB K mg x st ps :=
  ⟨f, _, ⟨mkFun l c, PySem.W.mg_of X G a, k⟩, (mkFun l c).binds rfl b⟩
theorem mkMet {K : PySem.W.Frag} {C : Addr} {x qual : Str} {st : Stmt} {ps : List Str} {f : Addr} {oc : Value} {od an : Option Addr} {osl : Array (Option Value)} {kV doc pm cdv ct : Value} (cl : Cls K C) (b : BindL x qual st ps)
    (a : PySem.W.findIn K (.ref C) x = some (some (.ref f))) (i : PySem.W.isFn K (.ref f) = true) (l : K.lookup f = some ⟨oc, od, .func (PySem.W.fnOf x qual (fnArgs st) (fnBody st) (fnScope st) .none kV doc pm an cdv ct), osl⟩)
    (c : PySem.W.codeIn K cdv qual = true) (k : PySem.W.keepIn K (.ref f) = true) : MetB K C x qual st ps :=
  ⟨f, _, mkFun l c, (mkFun l c).binds rfl b, cl, ⟨a, i, k⟩⟩
theorem mkMak {P : Program} {w : World} {K : PySem.W.Frag} {mg : Str → Option Value} {base : Heap} {C : Addr} {k : Nat} {sp : Sp} (g : mg "Keeper" = some (.ref C)) (mk : PySem.W.makesIn K C = true) (kc : PySem.W.keepIn K (.ref C) = true) (m : Met P w K mg base k C "__init__" sp []) : Mak P w K mg base k "Keeper" C sp [] := by
  obtain ⟨f, fd, ps, ds, _, me, F, b, d⟩ := m.ex
  exact ⟨⟨f, fd, ps, ds, ⟨mk, me.at_, me.fn, kc⟩, F, g, b, d⟩⟩
/-- a tuple of the written part -/
theorem mkTup {K : PySem.W.Frag} {h : Heap} {mg : Str → Option Value} {x : Str} {a : Addr} {xs : List V} {od : Option Addr} {its : Array Value} {n : Nat} {sl : Array (Option Value)} (X : K.In h) (G : h.Ns mainGlobals mg)
    (g : PySem.W.nsIn K mainGlobals x = some (some (.ref a))) (l : K.lookup a = some ⟨.type "tuple", od, .seq its n, sl⟩) (z : its.size ≤ sizeLine) (v : Vals xs its.toList) : ∃ a, (∃ u, mg x = some u ∧ RelV (.ref a) u) ∧ TupK K a xs :=
  ⟨a, ⟨_, PySem.W.mg_of X G g, rfl⟩, fun H => .inr ⟨_, its, n, l, rfl, rfl, z, v⟩⟩
theorem mkInt {K : PySem.W.Frag} {h : Heap} {mg : Str → Option Value} {x : Str} {i : Int} {tk : Tok} (X : K.In h) (G : h.Ns mainGlobals mg)
    (g : PySem.W.nsIn K mainGlobals x = some (some (.int i tk))) : ∃ u, mg x = some u ∧ RelV (.int i) u := ⟨_, PySem.W.mg_of X G g, _, rfl⟩
theorem b_k___init__ : BindL "__init__" "Keeper.__init__" (inClass (top 79) 0) ["self"] := fun _ _ _ _ _ _ us hl => match us, hl with | [_], _ => rfl
theorem b_k_create : BindL "create" "Keeper.create" (inClass (top 79) 1) ["self"] := fun _ _ _ _ _ _ us hl => match us, hl with | [_], _ => rfl
theorem b_is_slot : BindL "is_slot" "is_slot" (top 50) ["number"] := fun _ _ _ _ _ _ us hl => match us, hl with | [_], _ => rfl
theorem b_k_refusal : BindL "refusal" "Keeper.refusal" (inClass (top 79) 6) ["self", "slot"] := fun _ _ _ _ _ _ us hl => match us, hl with | [_, _], _ => rfl
theorem b_common_divisor : BindL "common_divisor" "common_divisor" (top 3) ["one", "other"] := fun _ _ _ _ _ _ us hl => match us, hl with | [_, _], _ => rfl
theorem b_lowest : BindL "lowest" "lowest" (top 4) ["numerator", "denominator"] := fun _ _ _ _ _ _ us hl => match us, hl with | [_, _], _ => rfl
theorem b_multiply : BindL "multiply" "multiply" (top 8) ["one", "other"] := fun _ _ _ _ _ _ us hl => match us, hl with | [_, _], _ => rfl
theorem b_whole : BindL "whole" "whole" (top 5) ["number"] := fun _ _ _ _ _ _ us hl => match us, hl with | [_], _ => rfl
theorem b_derivative_of : BindL "derivative_of" "derivative_of" (top 22) ["polynomial"] := fun _ _ _ _ _ _ us hl => match us, hl with | [_], _ => rfl
theorem b_divide : BindL "divide" "divide" (top 9) ["one", "other"] := fun _ _ _ _ _ _ us hl => match us, hl with | [_, _], _ => rfl
theorem b_subtract : BindL "subtract" "subtract" (top 7) ["one", "other"] := fun _ _ _ _ _ _ us hl => match us, hl with | [_, _], _ => rfl
theorem b_division_step : BindL "division_step" "division_step" (top 23) ["rest", "divisor", "place"] := fun _ _ _ _ _ _ us hl => match us, hl with | [_, _, _], _ => rfl
theorem b_trimmed : BindL "trimmed" "trimmed" (top 13) ["coefficients"] := fun _ _ _ _ _ _ us hl => match us, hl with | [_], _ => rfl
theorem b_divided : BindL "divided" "divided" (top 24) ["polynomial", "divisor"] := fun _ _ _ _ _ _ us hl => match us, hl with | [_, _], _ => rfl
theorem b_negative : BindL "negative" "negative" (top 10) ["one"] := fun _ _ _ _ _ _ us hl => match us, hl with | [_], _ => rfl
theorem b_negated : BindL "negated" "negated" (top 17) ["polynomial"] := fun _ _ _ _ _ _ us hl => match us, hl with | [_], _ => rfl
theorem b_common_part : BindL "common_part" "common_part" (top 25) ["first", "second"] := fun _ _ _ _ _ _ us hl => match us, hl with | [_, _], _ => rfl
theorem b_simple_part : BindL "simple_part" "simple_part" (top 60) ["polynomial"] := fun _ _ _ _ _ _ us hl => match us, hl with | [_], _ => rfl
theorem b_common_denominator : BindL "common_denominator" "common_denominator" (top 58) ["polynomial"] := fun _ _ _ _ _ _ us hl => match us, hl with | [_], _ => rfl
theorem b_whole_numbers : BindL "whole_numbers" "whole_numbers" (top 59) ["polynomial"] := fun _ _ _ _ _ _ us hl => match us, hl with | [_], _ => rfl
theorem b_chain_of : BindL "chain_of" "chain_of" (top 61) ["polynomial"] := fun _ _ _ _ _ _ us hl => match us, hl with | [_], _ => rfl
theorem b_bound_of : BindL "bound_of" "bound_of" (top 74) ["numbers"] := fun _ _ _ _ _ _ us hl => match us, hl with | [_], _ => rfl
theorem b_changes_in : BindL "changes_in" "changes_in" (top 62) ["numbers"] := fun _ _ _ _ _ _ us hl => match us, hl with | [_], _ => rfl
theorem b_value_at : BindL "value_at" "value_at" (top 63) ["numbers", "point"] := fun _ _ _ _ _ _ us hl => match us, hl with | [_, _], _ => rfl
theorem b_changes_at : BindL "changes_at" "changes_at" (top 64) ["chain", "point"] := fun _ _ _ _ _ _ us hl => match us, hl with | [_, _], _ => rfl
theorem b_number_below : BindL "number_below" "number_below" (top 66) ["numbers"] := fun _ _ _ _ _ _ us hl => match us, hl with | [_], _ => rfl
theorem b_changes_below : BindL "changes_below" "changes_below" (top 67) ["chain"] := fun _ _ _ _ _ _ us hl => match us, hl with | [_], _ => rfl
theorem b_is_root : BindL "is_root" "is_root" (top 69) ["chain", "point"] := fun _ _ _ _ _ _ us hl => match us, hl with | [_, _], _ => rfl
theorem b_has_root_below : BindL "has_root_below" "has_root_below" (top 71) ["chain", "point"] := fun _ _ _ _ _ _ us hl => match us, hl with | [_, _], _ => rfl
theorem b_changes_above : BindL "changes_above" "changes_above" (top 65) ["chain"] := fun _ _ _ _ _ _ us hl => match us, hl with | [_], _ => rfl
theorem b_has_root_from : BindL "has_root_from" "has_root_from" (top 70) ["chain", "point"] := fun _ _ _ _ _ _ us hl => match us, hl with | [_, _], _ => rfl
theorem b_is_reached : BindL "is_reached" "is_reached" (top 75) ["chain", "point", "is_greatest"] := fun _ _ _ _ _ _ us hl => match us, hl with | [_, _, _], _ => rfl
theorem b_floor_of_root : BindL "floor_of_root" "floor_of_root" (top 76) ["chain", "bits", "is_greatest"] := fun _ _ _ _ _ _ us hl => match us, hl with | [_, _, _], _ => rfl
theorem b_root_count : BindL "root_count" "root_count" (top 68) ["chain"] := fun _ _ _ _ _ _ us hl => match us, hl with | [_], _ => rfl
theorem b_k_floor : BindL "floor" "Keeper.floor" (inClass (top 79) 8) ["self", "slot", "bits", "is_greatest"] := fun _ _ _ _ _ _ us hl => match us, hl with | [_, _, _, _], _ => rfl
theorem b_shown : BindL "shown" "shown" (top 78) ["polynomial"] := fun _ _ _ _ _ _ us hl => match us, hl with | [_], _ => rfl
theorem b_k_get_polynomial : BindL "get_polynomial" "Keeper.get_polynomial" (inClass (top 79) 5) ["self", "slot"] := fun _ _ _ _ _ _ us hl => match us, hl with | [_, _], _ => rfl
theorem b_is_storable : BindL "is_storable" "is_storable" (top 54) ["fraction"] := fun _ _ _ _ _ _ us hl => match us, hl with | [_], _ => rfl
theorem b_may_be_stored : BindL "may_be_stored" "may_be_stored" (top 55) ["polynomial"] := fun _ _ _ _ _ _ us hl => match us, hl with | [_], _ => rfl
theorem b_k_store : BindL "store" "Keeper.store" (inClass (top 79) 2) ["self", "slot", "polynomial"] := fun _ _ _ _ _ _ us hl => match us, hl with | [_, _, _], _ => rfl
theorem b_is_numerator : BindL "is_numerator" "is_numerator" (top 51) ["number"] := fun _ _ _ _ _ _ us hl => match us, hl with | [_], _ => rfl
theorem b_are_numerators : BindL "are_numerators" "are_numerators" (top 53) ["numbers", "most"] := fun _ _ _ _ _ _ us hl => match us, hl with | [_, _], _ => rfl
theorem b_is_denominator : BindL "is_denominator" "is_denominator" (top 52) ["number"] := fun _ _ _ _ _ _ us hl => match us, hl with | [_], _ => rfl
theorem b_k_set_polynomial : BindL "set_polynomial" "Keeper.set_polynomial" (inClass (top 79) 3) ["self", "slot", "denominator", "coefficients"] := fun _ _ _ _ _ _ us hl => match us, hl with | [_, _, _, _], _ => rfl
theorem b_line_with_root : BindL "line_with_root" "line_with_root" (top 21) ["root"] := fun _ _ _ _ _ _ us hl => match us, hl with | [_], _ => rfl
theorem b_add : BindL "add" "add" (top 6) ["one", "other"] := fun _ _ _ _ _ _ us hl => match us, hl with | [_, _], _ => rfl
theorem b_product_of : BindL "product_of" "product_of" (top 20) ["first", "second"] := fun _ _ _ _ _ _ us hl => match us, hl with | [_, _], _ => rfl
theorem b_k_set_roots : BindL "set_roots" "Keeper.set_roots" (inClass (top 79) 4) ["self", "slot", "denominator", "roots"] := fun _ _ _ _ _ _ us hl => match us, hl with | [_, _, _, _], _ => rfl
theorem b_k_summary : BindL "summary" "Keeper.summary" (inClass (top 79) 9) ["self"] := fun _ _ _ _ _ _ us hl => match us, hl with | [_], _ => rfl
theorem b_coefficient_at : BindL "coefficient_at" "coefficient_at" (top 15) ["polynomial", "place"] := fun _ _ _ _ _ _ us hl => match us, hl with | [_, _], _ => rfl
theorem b_sum_of : BindL "sum_of" "sum_of" (top 18) ["first", "second"] := fun _ _ _ _ _ _ us hl => match us, hl with | [_, _], _ => rfl
theorem b_difference_of : BindL "difference_of" "difference_of" (top 19) ["first", "second"] := fun _ _ _ _ _ _ us hl => match us, hl with | [_, _], _ => rfl
theorem b_times_fraction : BindL "times_fraction" "times_fraction" (top 16) ["polynomial", "factor"] := fun _ _ _ _ _ _ us hl => match us, hl with | [_, _], _ => rfl
theorem b_less_derivative : BindL "less_derivative" "less_derivative" (top 31) ["polynomial", "factor"] := fun _ _ _ _ _ _ us hl => match us, hl with | [_, _], _ => rfl
theorem b_factorial : BindL "factorial" "factorial" (top 27) ["number"] := fun _ _ _ _ _ _ us hl => match us, hl with | [_], _ => rfl
theorem b_multiplier : BindL "multiplier" "multiplier" (top 33) ["sequence", "place"] := fun _ _ _ _ _ _ us hl => match us, hl with | [_, _], _ => rfl
theorem b_multiplied : BindL "multiplied" "multiplied" (top 34) ["polynomial", "sequence"] := fun _ _ _ _ _ _ us hl => match us, hl with | [_, _], _ => rfl
theorem b_degree_of : BindL "degree_of" "degree_of" (top 14) ["polynomial"] := fun _ _ _ _ _ _ us hl => match us, hl with | [_], _ => rfl
theorem b_polar : BindL "polar" "polar" (top 32) ["polynomial", "pole"] := fun _ _ _ _ _ _ us hl => match us, hl with | [_, _], _ => rfl
theorem b_power : BindL "power" "power" (top 11) ["one", "exponent"] := fun _ _ _ _ _ _ us hl => match us, hl with | [_, _], _ => rfl
theorem b_scaled : BindL "scaled" "scaled" (top 29) ["polynomial", "scale"] := fun _ _ _ _ _ _ us hl => match us, hl with | [_, _], _ => rfl
theorem b_shifted : BindL "shifted" "shifted" (top 28) ["polynomial", "shift"] := fun _ _ _ _ _ _ us hl => match us, hl with | [_, _], _ => rfl
theorem b_turned_round : BindL "turned_round" "turned_round" (top 30) ["polynomial"] := fun _ _ _ _ _ _ us hl => match us, hl with | [_], _ => rfl
theorem b_changed : BindL "changed" "changed" (top 116) ["polynomial", "call"] := fun _ _ _ _ _ _ us hl => match us, hl with | [_, _], _ => rfl
theorem b_is_change_in_range : BindL "is_change_in_range" "is_change_in_range" (top 115) ["call"] := fun _ _ _ _ _ _ us hl => match us, hl with | [_], _ => rfl
theorem b_change_answer : BindL "change_answer" "change_answer" (top 117) ["keeper", "call"] := fun _ _ _ _ _ _ us hl => match us, hl with | [_, _], _ => rfl
theorem b_k_pair_refusal : BindL "pair_refusal" "Keeper.pair_refusal" (inClass (top 79) 7) ["self", "first", "second", "target"] := fun _ _ _ _ _ _ us hl => match us, hl with | [_, _, _, _], _ => rfl
theorem b_derivative_at_zero : BindL "derivative_at_zero" "derivative_at_zero" (top 91) ["polynomial", "order"] := fun _ _ _ _ _ _ us hl => match us, hl with | [_, _], _ => rfl
theorem b_free_sum_of : BindL "free_sum_of" "free_sum_of" (top 92) ["first", "second"] := fun _ _ _ _ _ _ us hl => match us, hl with | [_, _], _ => rfl
theorem b_weighted : BindL "weighted" "weighted" (top 87) ["first", "second", "weights"] := fun _ _ _ _ _ _ us hl => match us, hl with | [_, _, _], _ => rfl
theorem b_hadamard_of : BindL "hadamard_of" "hadamard_of" (top 90) ["first", "second"] := fun _ _ _ _ _ _ us hl => match us, hl with | [_, _], _ => rfl
theorem b_schur_of : BindL "schur_of" "schur_of" (top 89) ["first", "second"] := fun _ _ _ _ _ _ us hl => match us, hl with | [_, _], _ => rfl
theorem b_binomial : BindL "binomial" "binomial" (top 86) ["number", "part"] := fun _ _ _ _ _ _ us hl => match us, hl with | [_, _], _ => rfl
theorem b_schur_szego_of : BindL "schur_szego_of" "schur_szego_of" (top 88) ["first", "second"] := fun _ _ _ _ _ _ us hl => match us, hl with | [_, _], _ => rfl
theorem b_joined : BindL "joined" "joined" (top 118) ["number", "first", "second"] := fun _ _ _ _ _ _ us hl => match us, hl with | [_, _, _], _ => rfl
theorem b_product_answer : BindL "product_answer" "product_answer" (top 119) ["keeper", "call"] := fun _ _ _ _ _ _ us hl => match us, hl with | [_, _], _ => rfl
theorem b_has_no_negative_root : BindL "has_no_negative_root" "has_no_negative_root" (top 73) ["polynomial"] := fun _ _ _ _ _ _ us hl => match us, hl with | [_], _ => rfl
theorem b_has_only_real_roots : BindL "has_only_real_roots" "has_only_real_roots" (top 72) ["polynomial"] := fun _ _ _ _ _ _ us hl => match us, hl with | [_], _ => rfl
theorem b_symmetric_sum : BindL "symmetric_sum" "symmetric_sum" (top 81) ["polynomial", "order"] := fun _ _ _ _ _ _ us hl => match us, hl with | [_, _], _ => rfl
theorem b_mean_of : BindL "mean_of" "mean_of" (top 83) ["polynomial"] := fun _ _ _ _ _ _ us hl => match us, hl with | [_], _ => rfl
theorem b_truth : BindL "truth" "truth" (top 120) ["is_so"] := fun _ _ _ _ _ _ us hl => match us, hl with | [_], _ => rfl
theorem b_sum_of_squares : BindL "sum_of_squares" "sum_of_squares" (top 82) ["polynomial"] := fun _ _ _ _ _ _ us hl => match us, hl with | [_], _ => rfl
theorem b_variance_of : BindL "variance_of" "variance_of" (top 84) ["polynomial"] := fun _ _ _ _ _ _ us hl => match us, hl with | [_], _ => rfl
theorem b_asked : BindL "asked" "asked" (top 121) ["number", "polynomial"] := fun _ _ _ _ _ _ us hl => match us, hl with | [_, _], _ => rfl
theorem b_question_answer : BindL "question_answer" "question_answer" (top 122) ["keeper", "call"] := fun _ _ _ _ _ _ us hl => match us, hl with | [_, _], _ => rfl
theorem b_ready_answer : BindL "ready_answer" "ready_answer" (top 123) ["keeper", "call"] := fun _ _ _ _ _ _ us hl => match us, hl with | [_, _], _ => rfl
theorem b_answer : BindL "answer" "answer" (top 124) ["keeper", "call"] := fun _ _ _ _ _ _ us hl => match us, hl with | [_, _], _ => rfl
theorem b_size_of_call : BindL "size_of_call" "size_of_call" (top 125) ["calls", "place"] := fun _ _ _ _ _ _ us hl => match us, hl with | [_, _], _ => rfl
theorem b_answers : BindL "answers" "answers" (top 126) ["calls"] := fun _ _ _ _ _ _ us hl => match us, hl with | [_], _ => rfl
theorem all_ok {P : Program} {w : World} {K : PySem.W.Frag} {mg : Str → Option Value} {C f : Addr} {fd : FuncData} (T : ∀ base : Heap, base.NoSeer → Txt P K mg base) (c : ClsT K C) (gC : mg "Keeper" = some (.ref C)) (mk : PySem.W.makesIn K C = true) (kc : PySem.W.keepIn K (.ref C) = true)
    (d_k___init__ : MetB K C "__init__" "Keeper.__init__" (inClass (top 79) 0) ["self"])
    (d_k_create : MetB K C "create" "Keeper.create" (inClass (top 79) 1) ["self"])
    (d_is_slot : DefB K mg "is_slot" (top 50) ["number"])
    (d_k_refusal : MetB K C "refusal" "Keeper.refusal" (inClass (top 79) 6) ["self", "slot"])
    (d_common_divisor : DefB K mg "common_divisor" (top 3) ["one", "other"])
    (d_lowest : DefB K mg "lowest" (top 4) ["numerator", "denominator"])
    (d_multiply : DefB K mg "multiply" (top 8) ["one", "other"])
    (d_whole : DefB K mg "whole" (top 5) ["number"])
    (d_derivative_of : DefB K mg "derivative_of" (top 22) ["polynomial"])
    (d_divide : DefB K mg "divide" (top 9) ["one", "other"])
    (d_subtract : DefB K mg "subtract" (top 7) ["one", "other"])
    (d_division_step : DefB K mg "division_step" (top 23) ["rest", "divisor", "place"])
    (d_trimmed : DefB K mg "trimmed" (top 13) ["coefficients"])
    (d_divided : DefB K mg "divided" (top 24) ["polynomial", "divisor"])
    (d_negative : DefB K mg "negative" (top 10) ["one"])
    (d_negated : DefB K mg "negated" (top 17) ["polynomial"])
    (d_common_part : DefB K mg "common_part" (top 25) ["first", "second"])
    (d_simple_part : DefB K mg "simple_part" (top 60) ["polynomial"])
    (d_common_denominator : DefB K mg "common_denominator" (top 58) ["polynomial"])
    (d_whole_numbers : DefB K mg "whole_numbers" (top 59) ["polynomial"])
    (d_chain_of : DefB K mg "chain_of" (top 61) ["polynomial"])
    (d_bound_of : DefB K mg "bound_of" (top 74) ["numbers"])
    (d_changes_in : DefB K mg "changes_in" (top 62) ["numbers"])
    (d_value_at : DefB K mg "value_at" (top 63) ["numbers", "point"])
    (d_changes_at : DefB K mg "changes_at" (top 64) ["chain", "point"])
    (d_number_below : DefB K mg "number_below" (top 66) ["numbers"])
    (d_changes_below : DefB K mg "changes_below" (top 67) ["chain"])
    (d_is_root : DefB K mg "is_root" (top 69) ["chain", "point"])
    (d_has_root_below : DefB K mg "has_root_below" (top 71) ["chain", "point"])
    (d_changes_above : DefB K mg "changes_above" (top 65) ["chain"])
    (d_has_root_from : DefB K mg "has_root_from" (top 70) ["chain", "point"])
    (d_is_reached : DefB K mg "is_reached" (top 75) ["chain", "point", "is_greatest"])
    (d_floor_of_root : DefB K mg "floor_of_root" (top 76) ["chain", "bits", "is_greatest"])
    (d_root_count : DefB K mg "root_count" (top 68) ["chain"])
    (d_k_floor : MetB K C "floor" "Keeper.floor" (inClass (top 79) 8) ["self", "slot", "bits", "is_greatest"])
    (d_shown : DefB K mg "shown" (top 78) ["polynomial"])
    (d_k_get_polynomial : MetB K C "get_polynomial" "Keeper.get_polynomial" (inClass (top 79) 5) ["self", "slot"])
    (d_is_storable : DefB K mg "is_storable" (top 54) ["fraction"])
    (d_may_be_stored : DefB K mg "may_be_stored" (top 55) ["polynomial"])
    (d_k_store : MetB K C "store" "Keeper.store" (inClass (top 79) 2) ["self", "slot", "polynomial"])
    (d_is_numerator : DefB K mg "is_numerator" (top 51) ["number"])
    (d_are_numerators : DefB K mg "are_numerators" (top 53) ["numbers", "most"])
    (d_is_denominator : DefB K mg "is_denominator" (top 52) ["number"])
    (d_k_set_polynomial : MetB K C "set_polynomial" "Keeper.set_polynomial" (inClass (top 79) 3) ["self", "slot", "denominator", "coefficients"])
    (d_line_with_root : DefB K mg "line_with_root" (top 21) ["root"])
    (d_add : DefB K mg "add" (top 6) ["one", "other"])
    (d_product_of : DefB K mg "product_of" (top 20) ["first", "second"])
    (d_k_set_roots : MetB K C "set_roots" "Keeper.set_roots" (inClass (top 79) 4) ["self", "slot", "denominator", "roots"])
    (d_k_summary : MetB K C "summary" "Keeper.summary" (inClass (top 79) 9) ["self"])
    (d_coefficient_at : DefB K mg "coefficient_at" (top 15) ["polynomial", "place"])
    (d_sum_of : DefB K mg "sum_of" (top 18) ["first", "second"])
    (d_difference_of : DefB K mg "difference_of" (top 19) ["first", "second"])
    (d_times_fraction : DefB K mg "times_fraction" (top 16) ["polynomial", "factor"])
    (d_less_derivative : DefB K mg "less_derivative" (top 31) ["polynomial", "factor"])
    (d_factorial : DefB K mg "factorial" (top 27) ["number"])
    (d_multiplier : DefB K mg "multiplier" (top 33) ["sequence", "place"])
    (d_multiplied : DefB K mg "multiplied" (top 34) ["polynomial", "sequence"])
    (d_degree_of : DefB K mg "degree_of" (top 14) ["polynomial"])
    (d_polar : DefB K mg "polar" (top 32) ["polynomial", "pole"])
    (d_power : DefB K mg "power" (top 11) ["one", "exponent"])
    (d_scaled : DefB K mg "scaled" (top 29) ["polynomial", "scale"])
    (d_shifted : DefB K mg "shifted" (top 28) ["polynomial", "shift"])
    (d_turned_round : DefB K mg "turned_round" (top 30) ["polynomial"])
    (d_changed : DefB K mg "changed" (top 116) ["polynomial", "call"])
    (d_is_change_in_range : DefB K mg "is_change_in_range" (top 115) ["call"])
    (d_change_answer : DefB K mg "change_answer" (top 117) ["keeper", "call"])
    (d_k_pair_refusal : MetB K C "pair_refusal" "Keeper.pair_refusal" (inClass (top 79) 7) ["self", "first", "second", "target"])
    (d_derivative_at_zero : DefB K mg "derivative_at_zero" (top 91) ["polynomial", "order"])
    (d_free_sum_of : DefB K mg "free_sum_of" (top 92) ["first", "second"])
    (d_weighted : DefB K mg "weighted" (top 87) ["first", "second", "weights"])
    (d_hadamard_of : DefB K mg "hadamard_of" (top 90) ["first", "second"])
    (d_schur_of : DefB K mg "schur_of" (top 89) ["first", "second"])
    (d_binomial : DefB K mg "binomial" (top 86) ["number", "part"])
    (d_schur_szego_of : DefB K mg "schur_szego_of" (top 88) ["first", "second"])
    (d_joined : DefB K mg "joined" (top 118) ["number", "first", "second"])
    (d_product_answer : DefB K mg "product_answer" (top 119) ["keeper", "call"])
    (d_has_no_negative_root : DefB K mg "has_no_negative_root" (top 73) ["polynomial"])
    (d_has_only_real_roots : DefB K mg "has_only_real_roots" (top 72) ["polynomial"])
    (d_symmetric_sum : DefB K mg "symmetric_sum" (top 81) ["polynomial", "order"])
    (d_mean_of : DefB K mg "mean_of" (top 83) ["polynomial"])
    (d_truth : DefB K mg "truth" (top 120) ["is_so"])
    (d_sum_of_squares : DefB K mg "sum_of_squares" (top 82) ["polynomial"])
    (d_variance_of : DefB K mg "variance_of" (top 84) ["polynomial"])
    (d_asked : DefB K mg "asked" (top 121) ["number", "polynomial"])
    (d_question_answer : DefB K mg "question_answer" (top 122) ["keeper", "call"])
    (d_ready_answer : DefB K mg "ready_answer" (top 123) ["keeper", "call"])
    (d_answer : DefB K mg "answer" (top 124) ["keeper", "call"])
    (d_size_of_call : DefB K mg "size_of_call" (top 125) ["calls", "place"])
    (d_answers : C8.Fun K "answers" "answers" (top 126) f fd)
    : ∀ base : Heap, base.NoSeer → FnOk P w K mg base C8.CX0 45 f fd ["calls"] (sp1 (S_answers K)) := fun base ns => by
  have T := T base ns
  have x_k___init__ := c_k___init__ (w := w) T c d_k___init__ 
  have x_k_create := c_k_create (w := w) T c d_k_create 
  have x_is_slot := c_is_slot (w := w) T d_is_slot 
  have x_k_refusal := c_k_refusal (w := w) T c d_k_refusal x_is_slot
  have x_common_divisor := c_common_divisor (w := w) T d_common_divisor 
  have x_lowest := c_lowest (w := w) T d_lowest x_common_divisor
  have x_multiply := c_multiply (w := w) T d_multiply x_lowest
  have x_whole := c_whole (w := w) T d_whole 
  have x_derivative_of := c_derivative_of (w := w) T d_derivative_of x_multiply x_whole
  have x_divide := c_divide (w := w) T d_divide x_lowest
  have x_subtract := c_subtract (w := w) T d_subtract x_lowest
  have x_division_step := c_division_step (w := w) T d_division_step x_divide x_multiply x_subtract
  have x_trimmed := c_trimmed (w := w) T d_trimmed 
  have x_divided := c_divided (w := w) T d_divided x_division_step x_trimmed
  have x_negative := c_negative (w := w) T d_negative 
  have x_negated := c_negated (w := w) T d_negated x_negative
  have x_common_part := c_common_part (w := w) T d_common_part x_divided
  have x_simple_part := c_simple_part (w := w) T d_simple_part x_common_part x_derivative_of x_divided
  have x_common_denominator := c_common_denominator (w := w) T d_common_denominator x_common_divisor
  have x_whole_numbers := c_whole_numbers (w := w) T d_whole_numbers x_common_denominator
  have x_chain_of := c_chain_of (w := w) T d_chain_of x_derivative_of x_divided x_negated x_simple_part x_whole_numbers
  have x_bound_of := c_bound_of (w := w) T d_bound_of 
  have x_changes_in := c_changes_in (w := w) T d_changes_in 
  have x_value_at := c_value_at (w := w) T d_value_at 
  have x_changes_at := c_changes_at (w := w) T d_changes_at x_changes_in x_value_at
  have x_number_below := c_number_below (w := w) T d_number_below 
  have x_changes_below := c_changes_below (w := w) T d_changes_below x_changes_in x_number_below
  have x_is_root := c_is_root (w := w) T d_is_root x_value_at
  have x_has_root_below := c_has_root_below (w := w) T d_has_root_below x_changes_at x_changes_below x_is_root
  have x_changes_above := c_changes_above (w := w) T d_changes_above x_changes_in
  have x_has_root_from := c_has_root_from (w := w) T d_has_root_from x_changes_above x_changes_at x_is_root
  have x_is_reached := c_is_reached (w := w) T d_is_reached x_has_root_below x_has_root_from
  have x_floor_of_root := c_floor_of_root (w := w) T d_floor_of_root x_bound_of x_is_reached
  have x_root_count := c_root_count (w := w) T d_root_count x_changes_above x_changes_below
  have x_k_floor := c_k_floor (w := w) T c d_k_floor x_k_refusal x_chain_of x_floor_of_root x_root_count
  have x_shown := c_shown (w := w) T d_shown 
  have x_k_get_polynomial := c_k_get_polynomial (w := w) T c d_k_get_polynomial x_is_slot x_shown
  have x_is_storable := c_is_storable (w := w) T d_is_storable 
  have x_may_be_stored := c_may_be_stored (w := w) T d_may_be_stored x_is_storable
  have x_k_store := c_k_store (w := w) T c d_k_store x_may_be_stored x_shown
  have x_is_numerator := c_is_numerator (w := w) T d_is_numerator 
  have x_are_numerators := c_are_numerators (w := w) T d_are_numerators x_is_numerator
  have x_is_denominator := c_is_denominator (w := w) T d_is_denominator 
  have x_k_set_polynomial := c_k_set_polynomial (w := w) T c d_k_set_polynomial x_k_store x_are_numerators x_is_denominator x_is_slot x_lowest x_trimmed
  have x_line_with_root := c_line_with_root (w := w) T d_line_with_root x_negative
  have x_add := c_add (w := w) T d_add x_lowest
  have x_product_of := c_product_of (w := w) T d_product_of x_add x_multiply x_trimmed
  have x_k_set_roots := c_k_set_roots (w := w) T c d_k_set_roots x_k_store x_are_numerators x_is_denominator x_is_slot x_line_with_root x_lowest x_product_of
  have x_k_summary := c_k_summary (w := w) T c d_k_summary 
  have x_coefficient_at := c_coefficient_at (w := w) T d_coefficient_at 
  have x_sum_of := c_sum_of (w := w) T d_sum_of x_add x_coefficient_at x_trimmed
  have x_difference_of := c_difference_of (w := w) T d_difference_of x_negated x_sum_of
  have x_times_fraction := c_times_fraction (w := w) T d_times_fraction x_multiply x_trimmed
  have x_less_derivative := c_less_derivative (w := w) T d_less_derivative x_derivative_of x_difference_of x_times_fraction
  have x_factorial := c_factorial (w := w) T d_factorial 
  have x_multiplier := c_multiplier (w := w) T d_multiplier x_factorial x_lowest x_whole
  have x_multiplied := c_multiplied (w := w) T d_multiplied x_multiplier x_multiply x_trimmed
  have x_degree_of := c_degree_of (w := w) T d_degree_of 
  have x_polar := c_polar (w := w) T d_polar x_degree_of x_derivative_of x_difference_of x_line_with_root x_product_of x_times_fraction x_whole
  have x_power := c_power (w := w) T d_power x_multiply
  have x_scaled := c_scaled (w := w) T d_scaled x_degree_of x_multiply x_power
  have x_shifted := c_shifted (w := w) T d_shifted x_line_with_root x_product_of x_sum_of
  have x_turned_round := c_turned_round (w := w) T d_turned_round x_trimmed
  have x_changed := c_changed (w := w) T d_changed x_derivative_of x_less_derivative x_lowest x_multiplied x_polar x_scaled x_shifted x_turned_round
  have x_is_change_in_range := c_is_change_in_range (w := w) T d_is_change_in_range x_is_denominator x_is_numerator
  have x_change_answer := c_change_answer (w := w) T c d_change_answer x_k_store x_changed x_is_change_in_range x_is_slot
  have x_k_pair_refusal := c_k_pair_refusal (w := w) T c d_k_pair_refusal x_is_slot
  have x_derivative_at_zero := c_derivative_at_zero (w := w) T d_derivative_at_zero x_factorial x_multiply x_whole
  have x_free_sum_of := c_free_sum_of (w := w) T d_free_sum_of x_degree_of x_derivative_at_zero x_derivative_of x_factorial x_lowest x_sum_of x_times_fraction
  have x_weighted := c_weighted (w := w) T d_weighted x_multiply x_trimmed
  have x_hadamard_of := c_hadamard_of (w := w) T d_hadamard_of x_weighted x_whole
  have x_schur_of := c_schur_of (w := w) T d_schur_of x_factorial x_weighted x_whole
  have x_binomial := c_binomial (w := w) T d_binomial x_factorial
  have x_schur_szego_of := c_schur_szego_of (w := w) T d_schur_szego_of x_binomial x_degree_of x_lowest x_weighted
  have x_joined := c_joined (w := w) T d_joined x_free_sum_of x_hadamard_of x_schur_of x_schur_szego_of
  have x_product_answer := c_product_answer (w := w) T c d_product_answer x_k_pair_refusal x_k_store x_joined
  have x_has_no_negative_root := c_has_no_negative_root (w := w) T d_has_no_negative_root x_chain_of x_has_root_below
  have x_has_only_real_roots := c_has_only_real_roots (w := w) T d_has_only_real_roots x_chain_of x_root_count
  have x_symmetric_sum := c_symmetric_sum (w := w) T d_symmetric_sum x_degree_of x_divide x_negative
  have x_mean_of := c_mean_of (w := w) T d_mean_of x_degree_of x_lowest x_multiply x_symmetric_sum
  have x_truth := c_truth (w := w) T d_truth 
  have x_sum_of_squares := c_sum_of_squares (w := w) T d_sum_of_squares x_multiply x_subtract x_symmetric_sum x_whole
  have x_variance_of := c_variance_of (w := w) T d_variance_of x_degree_of x_lowest x_mean_of x_multiply x_subtract x_sum_of_squares
  have x_asked := c_asked (w := w) T d_asked x_has_no_negative_root x_has_only_real_roots x_mean_of x_truth x_variance_of
  have x_question_answer := c_question_answer (w := w) T c d_question_answer x_k_refusal x_asked
  have x_ready_answer := c_ready_answer (w := w) T c d_ready_answer x_k_floor x_k_get_polynomial x_k_set_polynomial x_k_set_roots x_k_summary x_change_answer x_product_answer x_question_answer
  have x_answer := c_answer (w := w) T c d_answer x_k_create x_ready_answer
  have x_size_of_call := c_size_of_call (w := w) T d_size_of_call 
  have x_Keeper := mkMak (w := w) gC mk kc x_k___init__
  exact c_answers (w := w) T c d_answers x_Keeper x_answer x_size_of_call
theorem mkKeeper {K : PySem.W.Frag} {h : Heap} {mg : Str → Option Value} {C : Addr} (X : K.In h) (G : h.Ns mainGlobals mg)
    {f0 : Addr} {oc0 : Value} {od0 an0 : Option Addr} {sl0 : Array (Option Value)} {kV0 dc0 pm0 cd0 ct0 : Value}
    {f1 : Addr} {oc1 : Value} {od1 an1 : Option Addr} {sl1 : Array (Option Value)} {kV1 dc1 pm1 cd1 ct1 : Value}
    {f2 : Addr} {oc2 : Value} {od2 an2 : Option Addr} {sl2 : Array (Option Value)} {kV2 dc2 pm2 cd2 ct2 : Value}
    {f3 : Addr} {oc3 : Value} {od3 an3 : Option Addr} {sl3 : Array (Option Value)} {kV3 dc3 pm3 cd3 ct3 : Value}
    {f4 : Addr} {oc4 : Value} {od4 an4 : Option Addr} {sl4 : Array (Option Value)} {kV4 dc4 pm4 cd4 ct4 : Value}
    {f5 : Addr} {oc5 : Value} {od5 an5 : Option Addr} {sl5 : Array (Option Value)} {kV5 dc5 pm5 cd5 ct5 : Value}
    {f6 : Addr} {oc6 : Value} {od6 an6 : Option Addr} {sl6 : Array (Option Value)} {kV6 dc6 pm6 cd6 ct6 : Value}
    {f7 : Addr} {oc7 : Value} {od7 an7 : Option Addr} {sl7 : Array (Option Value)} {kV7 dc7 pm7 cd7 ct7 : Value}
    {f8 : Addr} {oc8 : Value} {od8 an8 : Option Addr} {sl8 : Array (Option Value)} {kV8 dc8 pm8 cd8 ct8 : Value}
    {f9 : Addr} {oc9 : Value} {od9 an9 : Option Addr} {sl9 : Array (Option Value)} {kV9 dc9 pm9 cd9 ct9 : Value}
    (a : PySem.W.nsIn K mainGlobals "Keeper" = some (some (.ref C))) (pg : PySem.W.plainGet K C Str.empty = true) (hd : PySem.W.hasDictIn K C = true) (po : PySem.W.plainOver K C = true) (sa : PySem.W.findIn K (.ref C) "__setattr__" = some (some (.builtin "object.__setattr__")))
    (nr : PySem.W.findIn K (.ref C) "is_ready" = some none) (ns : PySem.W.findIn K (.ref C) "slots" = some none) (mk : PySem.W.makesIn K C = true) (kc : PySem.W.keepIn K (.ref C) = true)
    (a0 : PySem.W.findIn K (.ref C) "__init__" = some (some (.ref f0))) (i0 : PySem.W.isFn K (.ref f0) = true) (l0 : K.lookup f0 = some ⟨oc0, od0, .func (PySem.W.fnOf "__init__" "Keeper.__init__" (fnArgs (inClass (top 79) 0)) (fnBody (inClass (top 79) 0)) (fnScope (inClass (top 79) 0)) .none kV0 dc0 pm0 an0 cd0 ct0), sl0⟩) (c0 : PySem.W.codeIn K cd0 "Keeper.__init__" = true) (k0 : PySem.W.keepIn K (.ref f0) = true)
    (a1 : PySem.W.findIn K (.ref C) "create" = some (some (.ref f1))) (i1 : PySem.W.isFn K (.ref f1) = true) (l1 : K.lookup f1 = some ⟨oc1, od1, .func (PySem.W.fnOf "create" "Keeper.create" (fnArgs (inClass (top 79) 1)) (fnBody (inClass (top 79) 1)) (fnScope (inClass (top 79) 1)) .none kV1 dc1 pm1 an1 cd1 ct1), sl1⟩) (c1 : PySem.W.codeIn K cd1 "Keeper.create" = true) (k1 : PySem.W.keepIn K (.ref f1) = true)
    (a2 : PySem.W.findIn K (.ref C) "refusal" = some (some (.ref f2))) (i2 : PySem.W.isFn K (.ref f2) = true) (l2 : K.lookup f2 = some ⟨oc2, od2, .func (PySem.W.fnOf "refusal" "Keeper.refusal" (fnArgs (inClass (top 79) 6)) (fnBody (inClass (top 79) 6)) (fnScope (inClass (top 79) 6)) .none kV2 dc2 pm2 an2 cd2 ct2), sl2⟩) (c2 : PySem.W.codeIn K cd2 "Keeper.refusal" = true) (k2 : PySem.W.keepIn K (.ref f2) = true)
    (a3 : PySem.W.findIn K (.ref C) "floor" = some (some (.ref f3))) (i3 : PySem.W.isFn K (.ref f3) = true) (l3 : K.lookup f3 = some ⟨oc3, od3, .func (PySem.W.fnOf "floor" "Keeper.floor" (fnArgs (inClass (top 79) 8)) (fnBody (inClass (top 79) 8)) (fnScope (inClass (top 79) 8)) .none kV3 dc3 pm3 an3 cd3 ct3), sl3⟩) (c3 : PySem.W.codeIn K cd3 "Keeper.floor" = true) (k3 : PySem.W.keepIn K (.ref f3) = true)
    (a4 : PySem.W.findIn K (.ref C) "get_polynomial" = some (some (.ref f4))) (i4 : PySem.W.isFn K (.ref f4) = true) (l4 : K.lookup f4 = some ⟨oc4, od4, .func (PySem.W.fnOf "get_polynomial" "Keeper.get_polynomial" (fnArgs (inClass (top 79) 5)) (fnBody (inClass (top 79) 5)) (fnScope (inClass (top 79) 5)) .none kV4 dc4 pm4 an4 cd4 ct4), sl4⟩) (c4 : PySem.W.codeIn K cd4 "Keeper.get_polynomial" = true) (k4 : PySem.W.keepIn K (.ref f4) = true)
    (a5 : PySem.W.findIn K (.ref C) "store" = some (some (.ref f5))) (i5 : PySem.W.isFn K (.ref f5) = true) (l5 : K.lookup f5 = some ⟨oc5, od5, .func (PySem.W.fnOf "store" "Keeper.store" (fnArgs (inClass (top 79) 2)) (fnBody (inClass (top 79) 2)) (fnScope (inClass (top 79) 2)) .none kV5 dc5 pm5 an5 cd5 ct5), sl5⟩) (c5 : PySem.W.codeIn K cd5 "Keeper.store" = true) (k5 : PySem.W.keepIn K (.ref f5) = true)
    (a6 : PySem.W.findIn K (.ref C) "set_polynomial" = some (some (.ref f6))) (i6 : PySem.W.isFn K (.ref f6) = true) (l6 : K.lookup f6 = some ⟨oc6, od6, .func (PySem.W.fnOf "set_polynomial" "Keeper.set_polynomial" (fnArgs (inClass (top 79) 3)) (fnBody (inClass (top 79) 3)) (fnScope (inClass (top 79) 3)) .none kV6 dc6 pm6 an6 cd6 ct6), sl6⟩) (c6 : PySem.W.codeIn K cd6 "Keeper.set_polynomial" = true) (k6 : PySem.W.keepIn K (.ref f6) = true)
    (a7 : PySem.W.findIn K (.ref C) "set_roots" = some (some (.ref f7))) (i7 : PySem.W.isFn K (.ref f7) = true) (l7 : K.lookup f7 = some ⟨oc7, od7, .func (PySem.W.fnOf "set_roots" "Keeper.set_roots" (fnArgs (inClass (top 79) 4)) (fnBody (inClass (top 79) 4)) (fnScope (inClass (top 79) 4)) .none kV7 dc7 pm7 an7 cd7 ct7), sl7⟩) (c7 : PySem.W.codeIn K cd7 "Keeper.set_roots" = true) (k7 : PySem.W.keepIn K (.ref f7) = true)
    (a8 : PySem.W.findIn K (.ref C) "summary" = some (some (.ref f8))) (i8 : PySem.W.isFn K (.ref f8) = true) (l8 : K.lookup f8 = some ⟨oc8, od8, .func (PySem.W.fnOf "summary" "Keeper.summary" (fnArgs (inClass (top 79) 9)) (fnBody (inClass (top 79) 9)) (fnScope (inClass (top 79) 9)) .none kV8 dc8 pm8 an8 cd8 ct8), sl8⟩) (c8 : PySem.W.codeIn K cd8 "Keeper.summary" = true) (k8 : PySem.W.keepIn K (.ref f8) = true)
    (a9 : PySem.W.findIn K (.ref C) "pair_refusal" = some (some (.ref f9))) (i9 : PySem.W.isFn K (.ref f9) = true) (l9 : K.lookup f9 = some ⟨oc9, od9, .func (PySem.W.fnOf "pair_refusal" "Keeper.pair_refusal" (fnArgs (inClass (top 79) 7)) (fnBody (inClass (top 79) 7)) (fnScope (inClass (top 79) 7)) .none kV9 dc9 pm9 an9 cd9 ct9), sl9⟩) (c9 : PySem.W.codeIn K cd9 "Keeper.pair_refusal" = true) (k9 : PySem.W.keepIn K (.ref f9) = true)
    : ∃ C, mg "Keeper" = some (.ref C) ∧ ClsT K C ∧ PySem.W.makesIn K C = true ∧ PySem.W.keepIn K (.ref C) = true ∧ MetB K C "__init__" "Keeper.__init__" (inClass (top 79) 0) ["self"] ∧ MetB K C "create" "Keeper.create" (inClass (top 79) 1) ["self"] ∧ MetB K C "refusal" "Keeper.refusal" (inClass (top 79) 6) ["self", "slot"] ∧ MetB K C "floor" "Keeper.floor" (inClass (top 79) 8) ["self", "slot", "bits", "is_greatest"] ∧ MetB K C "get_polynomial" "Keeper.get_polynomial" (inClass (top 79) 5) ["self", "slot"] ∧ MetB K C "store" "Keeper.store" (inClass (top 79) 2) ["self", "slot", "polynomial"] ∧ MetB K C "set_polynomial" "Keeper.set_polynomial" (inClass (top 79) 3) ["self", "slot", "denominator", "coefficients"] ∧ MetB K C "set_roots" "Keeper.set_roots" (inClass (top 79) 4) ["self", "slot", "denominator", "roots"] ∧ MetB K C "summary" "Keeper.summary" (inClass (top 79) 9) ["self"] ∧ MetB K C "pair_refusal" "Keeper.pair_refusal" (inClass (top 79) 7) ["self", "first", "second", "target"] :=
  have cl : Cls K C := ⟨pg, hd, po, sa⟩
  ⟨C, PySem.W.mg_of X G a, ⟨cl, nr, ns⟩, mk, kc, mkMet cl b_k___init__ a0 i0 l0 c0 k0, mkMet cl b_k_create a1 i1 l1 c1 k1, mkMet cl b_k_refusal a2 i2 l2 c2 k2, mkMet cl b_k_floor a3 i3 l3 c3 k3, mkMet cl b_k_get_polynomial a4 i4 l4 c4 k4, mkMet cl b_k_store a5 i5 l5 c5 k5, mkMet cl b_k_set_polynomial a6 i6 l6 c6 k6, mkMet cl b_k_set_roots a7 i7 l7 c7 k7, mkMet cl b_k_summary a8 i8 l8 c8 k8, mkMet cl b_k_pair_refusal a9 i9 l9 c9 k9⟩
theorem mkEnd {K : PySem.W.Frag} {h : Heap} {mg : Str → Option Value} {fa f : Addr} {oc : Value} {od an : Option Addr} {osl : Array (Option Value)} {kV doc pm cdv ct : Value} (X : K.In h) (G : h.Ns mainGlobals mg) (hmg : mg "answers" = some (.ref fa))
    (a : PySem.W.nsIn K mainGlobals "answers" = some (some (.ref f))) (l : K.lookup f = some ⟨oc, od, .func (PySem.W.fnOf "answers" "answers" (fnArgs (top 126)) (fnBody (top 126)) (fnScope (top 126)) .none kV doc pm an cdv ct), osl⟩) (c : PySem.W.codeIn K cdv "answers" = true)
    : ∃ fd, C8.Fun K "answers" "answers" (top 126) fa fd ∧ ∀ (s : Shared) (us : List Value), us.length = (["calls"] : List Str).length → BindsTo s fd ⟨us, []⟩ ((["calls"] : List Str).zip us) := by
  have e := hmg.symm.trans (PySem.W.mg_of X G a)
  cases e
  exact ⟨_, mkFun l c, fun s us hu => .of_eq (b_answers kV doc pm an cdv ct us hu)⟩
end RW
open PySem PySem.W PyProof.Rows
theorem PySem.Challenge.cw_rootkeepers_s01_answers_holds : PySem.Challenge.rw_rootkeepers_s01_answers.Holds := by
  w_on; k_headS; (case hw => exact ⟨[.list [.int 0]], by decide +kernel, by decide +kernel⟩)
  k_fillS
  refine RW.walkN (r := PySem.Challenge.rw_rootkeepers_s01_answers) (k := 45) (ps := ["calls"]) (sp := fun K => RW.sp1 (RW.S_answers K)) (by decide +kernel) rfl ⟨rfl, by decide, by decide⟩ (fun w h Y => PySem.W.kIn_of Y) (by decide +kernel) ?F ?S
  case F =>
    intro w mg fa h Y KX G hmg
    have n_len : mg "len" = none := PySem.W.mg_none_of KX G (by k_is)
    have n_abs : mg "abs" = none := PySem.W.mg_none_of KX G (by k_is)
    have n_max : mg "max" = none := PySem.W.mg_none_of KX G (by k_is)
    have n_list : mg "list" = none := PySem.W.mg_none_of KX G (by k_is)
    have n_range : mg "range" = none := PySem.W.mg_none_of KX G (by k_is)
    have n_reversed : mg "reversed" = none := PySem.W.mg_none_of KX G (by k_is)
    have gNOT_CREATED : ∃ u, mg "NOT_CREATED" = some u ∧ L2.RelV (.int (-11)) u := RW.mkInt KX G (by k_is)
    have gNO_SLOT : ∃ u, mg "NO_SLOT" = some u ∧ L2.RelV (.int (-2)) u := RW.mkInt KX G (by k_is)
    have gOUT_OF_RANGE : ∃ u, mg "OUT_OF_RANGE" = some u ∧ L2.RelV (.int (-22)) u := RW.mkInt KX G (by k_is)
    have gIS_ZERO : ∃ u, mg "IS_ZERO" = some u ∧ L2.RelV (.int (-33)) u := RW.mkInt KX G (by k_is)
    have gNOT_FITTING : ∃ u, mg "NOT_FITTING" = some u ∧ L2.RelV (.int (-34)) u := RW.mkInt KX G (by k_is)
    have gTOO_LARGE : ∃ u, mg "TOO_LARGE" = some u ∧ L2.RelV (.int (-75)) u := RW.mkInt KX G (by k_is)
    have gSLOTS : ∃ u, mg "SLOTS" = some u ∧ L2.RelV (.int (4)) u := RW.mkInt KX G (by k_is)
    have gMOST_COEFFICIENTS : ∃ u, mg "MOST_COEFFICIENTS" = some u ∧ L2.RelV (.int (7)) u := RW.mkInt KX G (by k_is)
    have gMOST_ROOTS : ∃ u, mg "MOST_ROOTS" = some u ∧ L2.RelV (.int (6)) u := RW.mkInt KX G (by k_is)
    have gMOST_NUMERATOR : ∃ u, mg "MOST_NUMERATOR" = some u ∧ L2.RelV (.int (1000)) u := RW.mkInt KX G (by k_is)
    have gMOST_DENOMINATOR : ∃ u, mg "MOST_DENOMINATOR" = some u ∧ L2.RelV (.int (1000)) u := RW.mkInt KX G (by k_is)
    have gMOST_SEQUENCE : ∃ u, mg "MOST_SEQUENCE" = some u ∧ L2.RelV (.int (5)) u := RW.mkInt KX G (by k_is)
    have gMOST_BITS : ∃ u, mg "MOST_BITS" = some u ∧ L2.RelV (.int (30)) u := RW.mkInt KX G (by k_is)
    have gMOST_STORED : ∃ u, mg "MOST_STORED" = some u ∧ L2.RelV (.int (1000000000000000000000000000000)) u := RW.mkInt KX G (by k_is)
    have gCREATE : ∃ u, mg "CREATE" = some u ∧ L2.RelV (.int (0)) u := RW.mkInt KX G (by k_is)
    have gSET_POLYNOMIAL : ∃ u, mg "SET_POLYNOMIAL" = some u ∧ L2.RelV (.int (1)) u := RW.mkInt KX G (by k_is)
    have gSET_ROOTS : ∃ u, mg "SET_ROOTS" = some u ∧ L2.RelV (.int (2)) u := RW.mkInt KX G (by k_is)
    have gGET_POLYNOMIAL : ∃ u, mg "GET_POLYNOMIAL" = some u ∧ L2.RelV (.int (3)) u := RW.mkInt KX G (by k_is)
    have gIS_REAL_ROOTED : ∃ u, mg "IS_REAL_ROOTED" = some u ∧ L2.RelV (.int (4)) u := RW.mkInt KX G (by k_is)
    have gSHIFT_ROOTS : ∃ u, mg "SHIFT_ROOTS" = some u ∧ L2.RelV (.int (5)) u := RW.mkInt KX G (by k_is)
    have gSCALE_ROOTS : ∃ u, mg "SCALE_ROOTS" = some u ∧ L2.RelV (.int (6)) u := RW.mkInt KX G (by k_is)
    have gRECIPROCAL : ∃ u, mg "RECIPROCAL" = some u ∧ L2.RelV (.int (7)) u := RW.mkInt KX G (by k_is)
    have gDERIVATIVE : ∃ u, mg "DERIVATIVE" = some u ∧ L2.RelV (.int (8)) u := RW.mkInt KX G (by k_is)
    have gSUBTRACT_DERIVATIVE : ∃ u, mg "SUBTRACT_DERIVATIVE" = some u ∧ L2.RelV (.int (9)) u := RW.mkInt KX G (by k_is)
    have gAPPLY_MULTIPLIER : ∃ u, mg "APPLY_MULTIPLIER" = some u ∧ L2.RelV (.int (11)) u := RW.mkInt KX G (by k_is)
    have gSCHUR_SZEGO : ∃ u, mg "SCHUR_SZEGO" = some u ∧ L2.RelV (.int (12)) u := RW.mkInt KX G (by k_is)
    have gSCHUR_PRODUCT : ∃ u, mg "SCHUR_PRODUCT" = some u ∧ L2.RelV (.int (13)) u := RW.mkInt KX G (by k_is)
    have gHADAMARD_PRODUCT : ∃ u, mg "HADAMARD_PRODUCT" = some u ∧ L2.RelV (.int (14)) u := RW.mkInt KX G (by k_is)
    have gFREE_SUM : ∃ u, mg "FREE_SUM" = some u ∧ L2.RelV (.int (15)) u := RW.mkInt KX G (by k_is)
    have gMEAN : ∃ u, mg "MEAN" = some u ∧ L2.RelV (.int (16)) u := RW.mkInt KX G (by k_is)
    have gVARIANCE : ∃ u, mg "VARIANCE" = some u ∧ L2.RelV (.int (17)) u := RW.mkInt KX G (by k_is)
    have gGREATEST_ROOT : ∃ u, mg "GREATEST_ROOT" = some u ∧ L2.RelV (.int (18)) u := RW.mkInt KX G (by k_is)
    have gSMALLEST_ROOT : ∃ u, mg "SMALLEST_ROOT" = some u ∧ L2.RelV (.int (19)) u := RW.mkInt KX G (by k_is)
    have gSUMMARY : ∃ u, mg "SUMMARY" = some u ∧ L2.RelV (.int (21)) u := RW.mkInt KX G (by k_is)
    have gZERO := RW.mkTup (x := "ZERO") (xs := [.int 0, .int 1]) KX G (by k_is) (by k_is) (by decide) (by exact .cons ⟨_, rfl⟩ (.cons ⟨_, rfl⟩ (.nil)))
    have gONE := RW.mkTup (x := "ONE") (xs := [.int 1, .int 1]) KX G (by k_is) (by k_is) (by decide) (by exact .cons ⟨_, rfl⟩ (.cons ⟨_, rfl⟩ (.nil)))
    have gORIGIN := RW.mkTup (x := "ORIGIN") (xs := [.int 0, .int 0]) KX G (by k_is) (by k_is) (by decide) (by exact .cons ⟨_, rfl⟩ (.cons ⟨_, rfl⟩ (.nil)))
    have gCALL_SIZES := RW.mkTup (x := "CALL_SIZES") (xs := [.int 1, .int 4, .int 4, .int 2, .int 2, .int 5, .int 5, .int 3, .int 3, .int 5, .int 5, .int 4, .int 4, .int 4, .int 4, .int 4, .int 2, .int 2, .int 3, .int 3, .int 2, .int 1]) KX G (by k_is) (by k_is) (by decide) (by exact .cons ⟨_, rfl⟩ (.cons ⟨_, rfl⟩ (.cons ⟨_, rfl⟩ (.cons ⟨_, rfl⟩ (.cons ⟨_, rfl⟩ (.cons ⟨_, rfl⟩ (.cons ⟨_, rfl⟩ (.cons ⟨_, rfl⟩ (.cons ⟨_, rfl⟩ (.cons ⟨_, rfl⟩ (.cons ⟨_, rfl⟩ (.cons ⟨_, rfl⟩ (.cons ⟨_, rfl⟩ (.cons ⟨_, rfl⟩ (.cons ⟨_, rfl⟩ (.cons ⟨_, rfl⟩ (.cons ⟨_, rfl⟩ (.cons ⟨_, rfl⟩ (.cons ⟨_, rfl⟩ (.cons ⟨_, rfl⟩ (.cons ⟨_, rfl⟩ (.cons ⟨_, rfl⟩ (.nil)))))))))))))))))))))))
    obtain ⟨C, gC, cT, mkC, keC, d_k___init__, d_k_create, d_k_refusal, d_k_floor, d_k_get_polynomial, d_k_store, d_k_set_polynomial, d_k_set_roots, d_k_summary, d_k_pair_refusal⟩ := RW.mkKeeper KX G (by k_is) (by k_is) (by k_is) (by k_is) (by k_is) (by k_is) (by k_is) (by k_is) (by k_is) (by k_is) (by k_is) (by k_is) (by k_is) (by k_is) (by k_is) (by k_is) (by k_is) (by k_is) (by k_is) (by k_is) (by k_is) (by k_is) (by k_is) (by k_is) (by k_is) (by k_is) (by k_is) (by k_is) (by k_is) (by k_is) (by k_is) (by k_is) (by k_is) (by k_is) (by k_is) (by k_is) (by k_is) (by k_is) (by k_is) (by k_is) (by k_is) (by k_is) (by k_is) (by k_is) (by k_is) (by k_is) (by k_is) (by k_is) (by k_is) (by k_is) (by k_is) (by k_is) (by k_is) (by k_is) (by k_is) (by k_is) (by k_is) (by k_is) (by k_is)
    have d_is_slot := RW.mkDef KX G RW.b_is_slot (by k_is) (by k_is) (by k_is) (by k_is)
    have d_common_divisor := RW.mkDef KX G RW.b_common_divisor (by k_is) (by k_is) (by k_is) (by k_is)
    have d_lowest := RW.mkDef KX G RW.b_lowest (by k_is) (by k_is) (by k_is) (by k_is)
    have d_multiply := RW.mkDef KX G RW.b_multiply (by k_is) (by k_is) (by k_is) (by k_is)
    have d_whole := RW.mkDef KX G RW.b_whole (by k_is) (by k_is) (by k_is) (by k_is)
    have d_derivative_of := RW.mkDef KX G RW.b_derivative_of (by k_is) (by k_is) (by k_is) (by k_is)
    have d_divide := RW.mkDef KX G RW.b_divide (by k_is) (by k_is) (by k_is) (by k_is)
    have d_subtract := RW.mkDef KX G RW.b_subtract (by k_is) (by k_is) (by k_is) (by k_is)
    have d_division_step := RW.mkDef KX G RW.b_division_step (by k_is) (by k_is) (by k_is) (by k_is)
    have d_trimmed := RW.mkDef KX G RW.b_trimmed (by k_is) (by k_is) (by k_is) (by k_is)
    have d_divided := RW.mkDef KX G RW.b_divided (by k_is) (by k_is) (by k_is) (by k_is)
    have d_negative := RW.mkDef KX G RW.b_negative (by k_is) (by k_is) (by k_is) (by k_is)
    have d_negated := RW.mkDef KX G RW.b_negated (by k_is) (by k_is) (by k_is) (by k_is)
    have d_common_part := RW.mkDef KX G RW.b_common_part (by k_is) (by k_is) (by k_is) (by k_is)
    have d_simple_part := RW.mkDef KX G RW.b_simple_part (by k_is) (by k_is) (by k_is) (by k_is)
    have d_common_denominator := RW.mkDef KX G RW.b_common_denominator (by k_is) (by k_is) (by k_is) (by k_is)
    have d_whole_numbers := RW.mkDef KX G RW.b_whole_numbers (by k_is) (by k_is) (by k_is) (by k_is)
    have d_chain_of := RW.mkDef KX G RW.b_chain_of (by k_is) (by k_is) (by k_is) (by k_is)
    have d_bound_of := RW.mkDef KX G RW.b_bound_of (by k_is) (by k_is) (by k_is) (by k_is)
    have d_changes_in := RW.mkDef KX G RW.b_changes_in (by k_is) (by k_is) (by k_is) (by k_is)
    have d_value_at := RW.mkDef KX G RW.b_value_at (by k_is) (by k_is) (by k_is) (by k_is)
    have d_changes_at := RW.mkDef KX G RW.b_changes_at (by k_is) (by k_is) (by k_is) (by k_is)
    have d_number_below := RW.mkDef KX G RW.b_number_below (by k_is) (by k_is) (by k_is) (by k_is)
    have d_changes_below := RW.mkDef KX G RW.b_changes_below (by k_is) (by k_is) (by k_is) (by k_is)
    have d_is_root := RW.mkDef KX G RW.b_is_root (by k_is) (by k_is) (by k_is) (by k_is)
    have d_has_root_below := RW.mkDef KX G RW.b_has_root_below (by k_is) (by k_is) (by k_is) (by k_is)
    have d_changes_above := RW.mkDef KX G RW.b_changes_above (by k_is) (by k_is) (by k_is) (by k_is)
    have d_has_root_from := RW.mkDef KX G RW.b_has_root_from (by k_is) (by k_is) (by k_is) (by k_is)
    have d_is_reached := RW.mkDef KX G RW.b_is_reached (by k_is) (by k_is) (by k_is) (by k_is)
    have d_floor_of_root := RW.mkDef KX G RW.b_floor_of_root (by k_is) (by k_is) (by k_is) (by k_is)
    have d_root_count := RW.mkDef KX G RW.b_root_count (by k_is) (by k_is) (by k_is) (by k_is)
    have d_shown := RW.mkDef KX G RW.b_shown (by k_is) (by k_is) (by k_is) (by k_is)
    have d_is_storable := RW.mkDef KX G RW.b_is_storable (by k_is) (by k_is) (by k_is) (by k_is)
    have d_may_be_stored := RW.mkDef KX G RW.b_may_be_stored (by k_is) (by k_is) (by k_is) (by k_is)
    have d_is_numerator := RW.mkDef KX G RW.b_is_numerator (by k_is) (by k_is) (by k_is) (by k_is)
    have d_are_numerators := RW.mkDef KX G RW.b_are_numerators (by k_is) (by k_is) (by k_is) (by k_is)
    have d_is_denominator := RW.mkDef KX G RW.b_is_denominator (by k_is) (by k_is) (by k_is) (by k_is)
    have d_line_with_root := RW.mkDef KX G RW.b_line_with_root (by k_is) (by k_is) (by k_is) (by k_is)
    have d_add := RW.mkDef KX G RW.b_add (by k_is) (by k_is) (by k_is) (by k_is)
    have d_product_of := RW.mkDef KX G RW.b_product_of (by k_is) (by k_is) (by k_is) (by k_is)
    have d_coefficient_at := RW.mkDef KX G RW.b_coefficient_at (by k_is) (by k_is) (by k_is) (by k_is)
    have d_sum_of := RW.mkDef KX G RW.b_sum_of (by k_is) (by k_is) (by k_is) (by k_is)
    have d_difference_of := RW.mkDef KX G RW.b_difference_of (by k_is) (by k_is) (by k_is) (by k_is)
    have d_times_fraction := RW.mkDef KX G RW.b_times_fraction (by k_is) (by k_is) (by k_is) (by k_is)
    have d_less_derivative := RW.mkDef KX G RW.b_less_derivative (by k_is) (by k_is) (by k_is) (by k_is)
    have d_factorial := RW.mkDef KX G RW.b_factorial (by k_is) (by k_is) (by k_is) (by k_is)
    have d_multiplier := RW.mkDef KX G RW.b_multiplier (by k_is) (by k_is) (by k_is) (by k_is)
    have d_multiplied := RW.mkDef KX G RW.b_multiplied (by k_is) (by k_is) (by k_is) (by k_is)
    have d_degree_of := RW.mkDef KX G RW.b_degree_of (by k_is) (by k_is) (by k_is) (by k_is)
    have d_polar := RW.mkDef KX G RW.b_polar (by k_is) (by k_is) (by k_is) (by k_is)
    have d_power := RW.mkDef KX G RW.b_power (by k_is) (by k_is) (by k_is) (by k_is)
    have d_scaled := RW.mkDef KX G RW.b_scaled (by k_is) (by k_is) (by k_is) (by k_is)
    have d_shifted := RW.mkDef KX G RW.b_shifted (by k_is) (by k_is) (by k_is) (by k_is)
    have d_turned_round := RW.mkDef KX G RW.b_turned_round (by k_is) (by k_is) (by k_is) (by k_is)
    have d_changed := RW.mkDef KX G RW.b_changed (by k_is) (by k_is) (by k_is) (by k_is)
    have d_is_change_in_range := RW.mkDef KX G RW.b_is_change_in_range (by k_is) (by k_is) (by k_is) (by k_is)
    have d_change_answer := RW.mkDef KX G RW.b_change_answer (by k_is) (by k_is) (by k_is) (by k_is)
    have d_derivative_at_zero := RW.mkDef KX G RW.b_derivative_at_zero (by k_is) (by k_is) (by k_is) (by k_is)
    have d_free_sum_of := RW.mkDef KX G RW.b_free_sum_of (by k_is) (by k_is) (by k_is) (by k_is)
    have d_weighted := RW.mkDef KX G RW.b_weighted (by k_is) (by k_is) (by k_is) (by k_is)
    have d_hadamard_of := RW.mkDef KX G RW.b_hadamard_of (by k_is) (by k_is) (by k_is) (by k_is)
    have d_schur_of := RW.mkDef KX G RW.b_schur_of (by k_is) (by k_is) (by k_is) (by k_is)
    have d_binomial := RW.mkDef KX G RW.b_binomial (by k_is) (by k_is) (by k_is) (by k_is)
    have d_schur_szego_of := RW.mkDef KX G RW.b_schur_szego_of (by k_is) (by k_is) (by k_is) (by k_is)
    have d_joined := RW.mkDef KX G RW.b_joined (by k_is) (by k_is) (by k_is) (by k_is)
    have d_product_answer := RW.mkDef KX G RW.b_product_answer (by k_is) (by k_is) (by k_is) (by k_is)
    have d_has_no_negative_root := RW.mkDef KX G RW.b_has_no_negative_root (by k_is) (by k_is) (by k_is) (by k_is)
    have d_has_only_real_roots := RW.mkDef KX G RW.b_has_only_real_roots (by k_is) (by k_is) (by k_is) (by k_is)
    have d_symmetric_sum := RW.mkDef KX G RW.b_symmetric_sum (by k_is) (by k_is) (by k_is) (by k_is)
    have d_mean_of := RW.mkDef KX G RW.b_mean_of (by k_is) (by k_is) (by k_is) (by k_is)
    have d_truth := RW.mkDef KX G RW.b_truth (by k_is) (by k_is) (by k_is) (by k_is)
    have d_sum_of_squares := RW.mkDef KX G RW.b_sum_of_squares (by k_is) (by k_is) (by k_is) (by k_is)
    have d_variance_of := RW.mkDef KX G RW.b_variance_of (by k_is) (by k_is) (by k_is) (by k_is)
    have d_asked := RW.mkDef KX G RW.b_asked (by k_is) (by k_is) (by k_is) (by k_is)
    have d_question_answer := RW.mkDef KX G RW.b_question_answer (by k_is) (by k_is) (by k_is) (by k_is)
    have d_ready_answer := RW.mkDef KX G RW.b_ready_answer (by k_is) (by k_is) (by k_is) (by k_is)
    have d_answer := RW.mkDef KX G RW.b_answer (by k_is) (by k_is) (by k_is) (by k_is)
    have d_size_of_call := RW.mkDef KX G RW.b_size_of_call (by k_is) (by k_is) (by k_is) (by k_is)
    obtain ⟨fd, d_answers, hb⟩ := RW.mkEnd KX G hmg (by k_is) (by k_is) (by k_is)
    refine ⟨fd, hb, fun base _ _ ns0 => RW.all_ok (fun base ns => ?_) cT gC mkC keC d_k___init__ d_k_create d_is_slot d_k_refusal d_common_divisor d_lowest d_multiply d_whole d_derivative_of d_divide d_subtract d_division_step d_trimmed d_divided d_negative d_negated d_common_part d_simple_part d_common_denominator d_whole_numbers d_chain_of d_bound_of d_changes_in d_value_at d_changes_at d_number_below d_changes_below d_is_root d_has_root_below d_changes_above d_has_root_from d_is_reached d_floor_of_root d_root_count d_k_floor d_shown d_k_get_polynomial d_is_storable d_may_be_stored d_k_store d_is_numerator d_are_numerators d_is_denominator d_k_set_polynomial d_line_with_root d_add d_product_of d_k_set_roots d_k_summary d_coefficient_at d_sum_of d_difference_of d_times_fraction d_less_derivative d_factorial d_multiplier d_multiplied d_degree_of d_polar d_power d_scaled d_shifted d_turned_round d_changed d_is_change_in_range d_change_answer d_k_pair_refusal d_derivative_at_zero d_free_sum_of d_weighted d_hadamard_of d_schur_of d_binomial d_schur_szego_of d_joined d_product_answer d_has_no_negative_root d_has_only_real_roots d_symmetric_sum d_mean_of d_truth d_sum_of_squares d_variance_of d_asked d_question_answer d_ready_answer d_answer d_size_of_call d_answers base ns0⟩
    exact { seer := ns, tree := rfl, len := n_len, abs := n_abs, max := n_max, list := n_list, range := n_range, reversed := n_reversed, gNOT_CREATED := gNOT_CREATED, gNO_SLOT := gNO_SLOT, gOUT_OF_RANGE := gOUT_OF_RANGE, gIS_ZERO := gIS_ZERO, gNOT_FITTING := gNOT_FITTING, gTOO_LARGE := gTOO_LARGE, gSLOTS := gSLOTS, gMOST_COEFFICIENTS := gMOST_COEFFICIENTS, gMOST_ROOTS := gMOST_ROOTS, gMOST_NUMERATOR := gMOST_NUMERATOR, gMOST_DENOMINATOR := gMOST_DENOMINATOR, gMOST_SEQUENCE := gMOST_SEQUENCE, gMOST_BITS := gMOST_BITS, gMOST_STORED := gMOST_STORED, gCREATE := gCREATE, gSET_POLYNOMIAL := gSET_POLYNOMIAL, gSET_ROOTS := gSET_ROOTS, gGET_POLYNOMIAL := gGET_POLYNOMIAL, gIS_REAL_ROOTED := gIS_REAL_ROOTED, gSHIFT_ROOTS := gSHIFT_ROOTS, gSCALE_ROOTS := gSCALE_ROOTS, gRECIPROCAL := gRECIPROCAL, gDERIVATIVE := gDERIVATIVE, gSUBTRACT_DERIVATIVE := gSUBTRACT_DERIVATIVE, gAPPLY_MULTIPLIER := gAPPLY_MULTIPLIER, gSCHUR_SZEGO := gSCHUR_SZEGO, gSCHUR_PRODUCT := gSCHUR_PRODUCT, gHADAMARD_PRODUCT := gHADAMARD_PRODUCT, gFREE_SUM := gFREE_SUM, gMEAN := gMEAN, gVARIANCE := gVARIANCE, gGREATEST_ROOT := gGREATEST_ROOT, gSMALLEST_ROOT := gSMALLEST_ROOT, gSUMMARY := gSUMMARY, gZERO := gZERO, gONE := gONE, gORIGIN := gORIGIN, gCALL_SIZES := gCALL_SIZES }
  case S =>
    intro K K' sub H xs a hwi hask hx
    exact RW.request K K' sub H xs a hask hx
