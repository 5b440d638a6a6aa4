import PyProof.Rows.All
import Wide.All
import OpenK.AllK
import Wide.FinOn
import PyProof.EqAt
import PyProof.EqKinds
import PyProof.TupleCall
import KE.KTupSum
import KE.KSetDisp
import KE.GoesEnum
import HandS.ForMost
import HandS.TupSets
import HandS.SetBool
import HandS.TupMul
import HandS.TupAny
import HandS.ForExc
import KE.KExcSuper
import HandS.ExcSuper
import HandS.IsInst
import KE.KEqDeep
import HandS.Conv
import HandS.TryOnly
import HandS.Style
import HandS.SetIn
import PySem.Challenge.RW_burstapart_k81_whole_copies_behind_one_a
set_option Elab.async false
set_option linter.all false
set_option maxRecDepth 100000
set_option maxHeartbeats 4000000
namespace BA
/-! ### distinct values -/
section
variable {α : Type} [DecidableEq α]
def ins (acc : List α) (x : α) : List α := if x ∈ acc then acc else acc ++ [x]
def dd (l : List α) : List α := l.foldl ins []
theorem mem_ins {acc : List α} {x y : α} : y ∈ ins acc x ↔ y ∈ acc ∨ y = x := by
  unfold ins
  split
  · rename_i h
    exact ⟨.inl, fun q => q.elim id fun e => e ▸ h⟩
  · simp
theorem nodup_ins {acc : List α} {x : α} (h : acc.Nodup) : (ins acc x).Nodup := by
  unfold ins
  split
  · exact h
  · rename_i hx
    rw [List.nodup_append]
    refine ⟨h, by simp, ?_⟩
    intro a ha b hb e
    simp at hb
    subst hb
    subst e
    exact hx ha
theorem fold_mem : ∀ (l acc : List α) (y : α), y ∈ l.foldl ins acc ↔ y ∈ acc ∨ y ∈ l
  | [], acc, y => by simp
  | x :: l, acc, y => by
    rw [List.foldl_cons, fold_mem l, mem_ins, List.mem_cons]
    constructor
    · rintro ((h | h) | h)
      · exact .inl h
      · exact .inr (.inl h)
      · exact .inr (.inr h)
    · rintro (h | h | h)
      · exact .inl (.inl h)
      · exact .inl (.inr h)
      · exact .inr h
theorem fold_nodup : ∀ (l acc : List α), acc.Nodup → (l.foldl ins acc).Nodup
  | [], acc, h => h
  | x :: l, acc, h => fold_nodup l _ (nodup_ins h)
theorem mem_dd {l : List α} {y : α} : y ∈ dd l ↔ y ∈ l := by
  unfold dd; rw [fold_mem]; simp
theorem nodup_dd (l : List α) : (dd l).Nodup := fold_nodup l [] List.nodup_nil
theorem dd_snoc (l : List α) (x : α) : dd (l ++ [x]) = ins (dd l) x := by
  unfold dd; rw [List.foldl_append]; rfl
theorem dd_len_snoc (l : List α) (x : α) : (dd (l ++ [x])).length = if x ∈ l then (dd l).length else (dd l).length + 1 := by
  rw [dd_snoc]; unfold ins
  by_cases h : x ∈ l
  · rw [if_pos h, if_pos (mem_dd.2 h)]
  · rw [if_neg h, if_neg (fun z => h (mem_dd.1 z))]; simp
theorem fold_of_nodup : ∀ (l acc : List α), (acc ++ l).Nodup → l.foldl ins acc = acc ++ l
  | [], acc, _ => by simp
  | x :: l, acc, h => by
    have hx : x ∉ acc := fun z => by
      rw [List.nodup_append] at h
      exact h.2.2 x z x (by simp) rfl
    rw [List.foldl_cons]
    unfold ins
    rw [if_neg hx]
    have e := fold_of_nodup l (acc ++ [x]) (by simpa using h)
    unfold ins at e
    rw [e]; simp
theorem dd_of_nodup {l : List α} (h : l.Nodup) : dd l = l := by
  unfold dd; rw [fold_of_nodup l [] (by simpa using h)]; simp
theorem dd_one_iff {l : List α} : (dd l).length ≤ 1 ↔ ∀ x ∈ l, ∀ y ∈ l, x = y := by
  have nd := nodup_dd l
  constructor
  · intro h x hx y hy
    have hx' := mem_dd.2 hx
    have hy' := mem_dd.2 hy
    generalize dd l = m at h hx' hy'
    match m, h with
    | [], _ => simp at hx'
    | [a], _ => simp at hx' hy'; rw [hx', hy']
  · intro h
    have h' : ∀ x ∈ dd l, ∀ y ∈ dd l, x = y := fun x hx y hy => h x (mem_dd.1 hx) y (mem_dd.1 hy)
    generalize dd l = m at h' nd
    match m, nd with
    | [], _ => simp
    | [a], _ => simp
    | a :: b :: r, nd =>
      exfalso
      have e := h' a (by simp) b (by simp)
      subst e
      simp at nd
theorem dd_pos {l : List α} (h : l ≠ []) : 0 < (dd l).length := by
  cases l with
  | nil => exact absurd rfl h
  | cons a r => exact List.length_pos_of_mem (mem_dd.2 (List.mem_cons_self : a ∈ a :: r))
theorem dd_le (l : List α) : (dd l).length ≤ l.length := by
  suffices h : ∀ (l acc : List α), (l.foldl ins acc).length ≤ acc.length + l.length by
    have := h l []; unfold dd; simpa using this
  intro l
  induction l with
  | nil => intro acc; simp
  | cons x l ih =>
    intro acc
    rw [List.foldl_cons]
    have h1 := ih (ins acc x)
    have h2 : (ins acc x).length ≤ acc.length + 1 := by unfold ins; split <;> simp
    simp only [List.length_cons]; omega
end

/-! ### lists of numbers -/
theorem sum_perm {l m : List Int} (h : l.Perm m) : l.sum = m.sum := by
  induction h with
  | nil => rfl
  | cons x _ ih => simp only [List.sum_cons, ih]
  | swap x y l => simp only [List.sum_cons]; omega
  | trans _ _ a b => rw [a, b]
theorem len_le_of_sub : ∀ (l D : List Nat), l.Nodup → (∀ x ∈ l, x ∈ D) → l.length ≤ D.length
  | [], D, _, _ => Nat.zero_le _
  | x :: l, D, nd, h => by
    have hx : x ∈ D := h x (by simp)
    have h' : ∀ y ∈ l, y ∈ D.erase x := fun y hy => by
      have ne : y ≠ x := fun e => by
        rw [List.nodup_cons] at nd
        exact nd.1 (e ▸ hy)
      exact (List.mem_erase_of_ne ne).2 (h y (by simp [hy]))
    have ih := len_le_of_sub l (D.erase x) (List.nodup_cons.1 nd).2 h'
    rw [List.length_erase_of_mem hx] at ih
    have : 0 < D.length := List.length_pos_of_mem hx
    simp only [List.length_cons]; omega
theorem perm_of_sub : ∀ (l D : List Nat), l.Nodup → (∀ x ∈ l, x ∈ D) → D.length ≤ l.length → l.Perm D
  | [], D, _, _, h => by
    have : D = [] := List.eq_nil_of_length_eq_zero (by simpa using h)
    rw [this]
  | x :: l, D, nd, h, hl => by
    have hx : x ∈ D := h x (by simp)
    have h' : ∀ y ∈ l, y ∈ D.erase x := fun y hy => by
      have ne : y ≠ x := fun e => by
        rw [List.nodup_cons] at nd
        exact nd.1 (e ▸ hy)
      exact (List.mem_erase_of_ne ne).2 (h y (by simp [hy]))
    have hlen : (D.erase x).length ≤ l.length := by
      rw [List.length_erase_of_mem hx]; simp only [List.length_cons] at hl; omega
    exact ((perm_of_sub l (D.erase x) (List.nodup_cons.1 nd).2 h' hlen).cons x).trans (List.perm_cons_erase hx).symm
/-- an injective map of the numbers below n into them -/
theorem perm_map {n : Nat} (f : Nat → Nat) (hlt : ∀ i, i < n → f i < n) (inj : ∀ i j, i < n → j < n → f i = f j → i = j) : ((List.range n).map f).Perm (List.range n) := by
  refine perm_of_sub _ _ ?_ ?_ ?_
  · rw [List.nodup_iff_pairwise_ne, List.pairwise_map]
    refine (List.nodup_range (n := n)).imp_of_mem ?_
    intro a b ha hb ne e
    exact ne (inj a b (List.mem_range.1 ha) (List.mem_range.1 hb) e)
  · intro x hx
    obtain ⟨i, hi, rfl⟩ := List.mem_map.1 hx
    exact List.mem_range.2 (hlt i (List.mem_range.1 hi))
  · simp
theorem map_range_getD (t : List Int) : (List.range t.length).map (fun i => t.getD i 0) = t := by
  apply List.ext_getElem?
  intro i
  rw [List.getElem?_map]
  by_cases h : i < t.length
  · rw [List.getElem?_range h, List.getElem?_eq_getElem h]
    simp [List.getD, h]
  · rw [List.getElem?_eq_none (by simpa using h), List.getElem?_eq_none (by omega)]; rfl
theorem sum_map_add {α : Type} (l : List α) (f g : α → Int) : (l.map fun x => f x + g x).sum = (l.map f).sum + (l.map g).sum := by
  induction l with
  | nil => rfl
  | cons a l ih => simp only [List.map_cons, List.sum_cons, ih]; omega
theorem sum_map_sub {α : Type} (l : List α) (f g : α → Int) : (l.map fun x => f x - g x).sum = (l.map f).sum - (l.map g).sum := by
  induction l with
  | nil => rfl
  | cons a l ih => simp only [List.map_cons, List.sum_cons, ih]; omega
theorem sum_map_const {α : Type} (l : List α) (c : Int) : (l.map fun _ => c).sum = (l.length : Int) * c := by
  induction l with
  | nil => simp
  | cons a l ih =>
    simp only [List.map_cons, List.sum_cons, ih, List.length_cons]
    rw [Int.natCast_add, Int.add_mul]; omega
theorem sum_map_mul {α : Type} (l : List α) (f : α → Int) (c : Int) : (l.map fun x => c * f x).sum = c * (l.map f).sum := by
  induction l with
  | nil => simp
  | cons a l ih => simp only [List.map_cons, List.sum_cons, ih, Int.mul_add]
theorem sum_nonneg : ∀ (l : List Int), (∀ x ∈ l, 0 ≤ x) → 0 ≤ l.sum
  | [], _ => by simp
  | a :: l, h => by
    have h1 := h a (by simp)
    have h2 := sum_nonneg l fun x hx => h x (by simp [hx])
    simp only [List.sum_cons]; omega
theorem least {P : Nat → Prop} : ∀ n, P n → ∃ k, k ≤ n ∧ P k ∧ ∀ m, m < k → ¬ P m := by
  intro n
  induction n using Nat.strongRecOn with
  | ind n ih =>
    intro h
    by_cases hm : ∃ m, m < n ∧ P m
    · obtain ⟨m, hm, hp⟩ := hm
      obtain ⟨k, hk, r⟩ := ih m hm hp
      exact ⟨k, by omega, r⟩
    · exact ⟨n, Nat.le_refl _, h, fun m hlt hp => hm ⟨m, hlt, hp⟩⟩

/-! ### tables -/
def hold (t : List Int) (x : Int) : Int := t.getD (x % (t.length : Int)).toNat 0
def out (t : List Int) (x : Int) : Int := x + hold t x
def outN (t : List Int) : Nat → Int → Int
  | 0, x => x
  | n + 1, x => out t (outN t n x)
structure Tab (t : List Int) : Prop where
  pos : 0 < t.length
  le : t.length ≤ 7
  nn : ∀ h ∈ t, 0 ≤ h
  le60 : ∀ h ∈ t, h ≤ 60
  inj : ∀ i j : Nat, i < t.length → j < t.length → ((i : Int) + t.getD i 0) % (t.length : Int) = ((j : Int) + t.getD j 0) % (t.length : Int) → i = j
theorem hold_mod (t : List Int) (x : Int) : hold t (x % (t.length : Int)) = hold t x := by
  unfold hold; rw [Int.emod_emod_of_dvd _ (Int.dvd_refl _)]
theorem hold_congr {t : List Int} {x y : Int} (h : x % (t.length : Int) = y % (t.length : Int)) : hold t x = hold t y := by
  unfold hold; rw [h]
theorem hold_shift (t : List Int) (x m : Int) : hold t (x + (t.length : Int) * m) = hold t x := by
  apply hold_congr; rw [Int.add_mul_emod_self_left]
theorem out_shift (t : List Int) (x m : Int) : out t (x + (t.length : Int) * m) = out t x + (t.length : Int) * m := by
  unfold out; rw [hold_shift]; omega
theorem outN_shift (t : List Int) (n : Nat) (x m : Int) : outN t n (x + (t.length : Int) * m) = outN t n x + (t.length : Int) * m := by
  induction n with
  | zero => rfl
  | succ n ih => show out t _ = out t _ + _; rw [ih, out_shift]
theorem outN_add (t : List Int) (a b : Nat) (x : Int) : outN t (a + b) x = outN t a (outN t b x) := by
  induction a with
  | zero => rw [Nat.zero_add]; rfl
  | succ a ih => rw [Nat.succ_add]; show out t _ = out t _; rw [ih]
theorem outN_one (t : List Int) (x : Int) : outN t 1 x = out t x := rfl
theorem outN_succ' (t : List Int) (n : Nat) (x : Int) : outN t (n + 1) x = outN t n (out t x) := outN_add t n 1 x
theorem mod_split (x L : Int) : x = x % L + L * (x / L) := (Int.emod_add_mul_ediv x L).symm
theorem shift_of_mod {x y L : Int} (h : x % L = y % L) : ∃ m, x = y + L * m := by
  refine ⟨x / L - y / L, ?_⟩
  have a := mod_split x L
  have b := mod_split y L
  rw [Int.mul_sub]
  omega
theorem outN_congr {t : List Int} (n : Nat) {x y : Int} (h : x % (t.length : Int) = y % (t.length : Int)) : outN t n x % (t.length : Int) = outN t n y % (t.length : Int) := by
  obtain ⟨m, rfl⟩ := shift_of_mod h
  rw [outN_shift, Int.add_mul_emod_self_left]
theorem outN_diff {t : List Int} (n : Nat) {x y : Int} (h : x % (t.length : Int) = y % (t.length : Int)) : outN t n x - x = outN t n y - y := by
  obtain ⟨m, rfl⟩ := shift_of_mod h
  rw [outN_shift]; omega
theorem getD_mem {t : List Int} {i : Nat} (h : i < t.length) : t.getD i 0 ∈ t := by
  rw [List.getD_eq_getElem?_getD, List.getElem?_eq_getElem h]; exact List.getElem_mem h

section
variable {t : List Int} (T : Tab t)
include T
theorem Tab.posI : (0 : Int) < (t.length : Int) := by have := T.pos; omega
theorem Tab.mod_lt (x : Int) : (x % (t.length : Int)).toNat < t.length := by
  have h1 := Int.emod_lt_of_pos x T.posI
  have h2 := Int.emod_nonneg x (Int.ne_of_gt T.posI)
  omega
theorem Tab.mod_cast (x : Int) : (((x % (t.length : Int)).toNat : Nat) : Int) = x % (t.length : Int) := by
  have h2 := Int.emod_nonneg x (Int.ne_of_gt T.posI)
  omega
theorem Tab.hold_mem (x : Int) : hold t x ∈ t := getD_mem (T.mod_lt x)
theorem Tab.hold_nn (x : Int) : 0 ≤ hold t x := T.nn _ (T.hold_mem x)
theorem Tab.hold_60 (x : Int) : hold t x ≤ 60 := T.le60 _ (T.hold_mem x)
theorem Tab.out_inj {x y : Int} (h : out t x = out t y) : x = y := by
  have e : (x % (t.length : Int)).toNat = (y % (t.length : Int)).toNat := by
    apply T.inj _ _ (T.mod_lt x) (T.mod_lt y)
    rw [T.mod_cast, T.mod_cast]
    show (x % (t.length : Int) + hold t x) % (t.length : Int) = (y % (t.length : Int) + hold t y) % (t.length : Int)
    rw [Int.emod_add_emod, Int.emod_add_emod]
    show out t x % _ = out t y % _
    rw [h]
  have e2 : hold t x = hold t y := by unfold hold; rw [e]
  unfold out at h; omega
theorem Tab.outN_inj (n : Nat) : ∀ {x y : Int}, outN t n x = outN t n y → x = y := by
  induction n with
  | zero => intro x y h; exact h
  | succ n ih => intro x y h; exact ih (T.out_inj h)
theorem Tab.outN_inj_mod (n : Nat) {x y : Int} (h : outN t n x % (t.length : Int) = outN t n y % (t.length : Int)) : x % (t.length : Int) = y % (t.length : Int) := by
  obtain ⟨m, e⟩ := shift_of_mod h
  rw [← outN_shift] at e
  rw [T.outN_inj n e, Int.add_mul_emod_self_left]
theorem Tab.outN_ge (n : Nat) (x : Int) : x ≤ outN t n x := by
  induction n with
  | zero => exact Int.le_refl _
  | succ n ih => show x ≤ outN t n x + hold t _; have := T.hold_nn (outN t n x); omega
end

/-! ### where one is led -/
def itN (t : List Int) (n p : Nat) : Nat := (outN t n (p : Int) % (t.length : Int)).toNat
section
variable {t : List Int} (T : Tab t)
include T
theorem Tab.itN_lt (n p : Nat) : itN t n p < t.length := T.mod_lt _
theorem Tab.itN_cast (n p : Nat) : ((itN t n p : Nat) : Int) = outN t n (p : Int) % (t.length : Int) := T.mod_cast _
theorem Tab.place_mod {p : Nat} (h : p < t.length) : (p : Int) % (t.length : Int) = (p : Int) := Int.emod_eq_of_lt (by omega) (by omega)
theorem Tab.itN_zero {p : Nat} (h : p < t.length) : itN t 0 p = p := by
  have e := T.itN_cast 0 p
  have e2 : outN t 0 (p : Int) % (t.length : Int) = (p : Int) := T.place_mod h
  omega
theorem Tab.itN_eq_iff {n m p q : Nat} : itN t n p = itN t m q ↔ outN t n (p : Int) % (t.length : Int) = outN t m (q : Int) % (t.length : Int) := by
  have e := T.itN_cast n p
  have e2 := T.itN_cast m q
  omega
/-- the next place -/
theorem Tab.itN_next (n p : Nat) : ((itN t (n + 1) p : Nat) : Int) = out t ((itN t n p : Nat) : Int) % (t.length : Int) := by
  rw [T.itN_cast, T.itN_cast]
  show out t (outN t n p) % _ = _
  have h := outN_congr (t := t) 1 (x := outN t n (p : Int)) (y := outN t n (p : Int) % (t.length : Int)) (by rw [Int.emod_emod_of_dvd _ (Int.dvd_refl _)])
  exact h
theorem Tab.back (p : Nat) : ∃ k, 0 < k ∧ k ≤ t.length ∧ outN t k (p : Int) % (t.length : Int) = (p : Int) % (t.length : Int) := by
  by_cases h : ∃ i j : Nat, i < j ∧ j ≤ t.length ∧ itN t i p = itN t j p
  · obtain ⟨i, j, hij, hj, e⟩ := h
    refine ⟨j - i, by omega, by omega, ?_⟩
    have e' := T.itN_eq_iff.1 e
    have ej : j = i + (j - i) := by omega
    rw [ej, outN_add] at e'
    exact (T.outN_inj_mod i e').symm
  · exfalso
    have nd : ((List.range (t.length + 1)).map fun i => itN t i p).Nodup := by
      rw [List.nodup_iff_pairwise_ne, List.pairwise_map]
      refine (List.pairwise_lt_range (n := t.length + 1)).imp_of_mem ?_
      intro a b ha hb hlt e
      exact h ⟨a, b, hlt, by have := List.mem_range.1 hb; omega, e⟩
    have := len_le_of_sub _ (List.range t.length) nd (fun x hx => by
      obtain ⟨i, _, rfl⟩ := List.mem_map.1 hx
      exact List.mem_range.2 (T.itN_lt i p))
    simp at this
    omega
end
open Classical in
/-- the length of the circle of p -/
noncomputable def per (t : List Int) (p : Nat) : Nat :=
  if h : ∃ k, (0 < k ∧ outN t k (p : Int) % (t.length : Int) = (p : Int) % (t.length : Int)) ∧ ∀ m, m < k → ¬ (0 < m ∧ outN t m (p : Int) % (t.length : Int) = (p : Int) % (t.length : Int)) then choose h else 0
section
variable {t : List Int} (T : Tab t)
include T
theorem Tab.per_spec (p : Nat) : (0 < per t p ∧ outN t (per t p) (p : Int) % (t.length : Int) = (p : Int) % (t.length : Int)) ∧ (∀ m, m < per t p → ¬ (0 < m ∧ outN t m (p : Int) % (t.length : Int) = (p : Int) % (t.length : Int))) := by
  obtain ⟨k, h1, _, h2⟩ := T.back p
  obtain ⟨j, _, hj, hm⟩ := least (P := fun k => 0 < k ∧ outN t k (p : Int) % (t.length : Int) = (p : Int) % (t.length : Int)) k ⟨h1, h2⟩
  have h : ∃ k, (0 < k ∧ outN t k (p : Int) % (t.length : Int) = (p : Int) % (t.length : Int)) ∧ ∀ m, m < k → ¬ (0 < m ∧ outN t m (p : Int) % (t.length : Int) = (p : Int) % (t.length : Int)) := ⟨j, hj, hm⟩
  unfold per
  rw [dif_pos h]
  exact Classical.choose_spec h
theorem Tab.per_pos (p : Nat) : 0 < per t p := (T.per_spec p).1.1
theorem Tab.per_eq (p : Nat) : outN t (per t p) (p : Int) % (t.length : Int) = (p : Int) % (t.length : Int) := (T.per_spec p).1.2
theorem Tab.per_min (p : Nat) {m : Nat} (h0 : 0 < m) (h : m < per t p) : outN t m (p : Int) % (t.length : Int) ≠ (p : Int) % (t.length : Int) := fun e => (T.per_spec p).2 m h ⟨h0, e⟩
theorem Tab.per_le (p : Nat) : per t p ≤ t.length := by
  obtain ⟨k, h1, h2, h3⟩ := T.back p
  by_cases h : k < per t p
  · exact absurd h3 (T.per_min p h1 h)
  · omega
theorem Tab.per_dvd (p : Nat) : ∃ c : Nat, per t p * c = 420 ∧ 0 < c := by
  have h1 := T.per_pos p
  have h2 := T.per_le p
  have h3 := T.le
  have h : per t p = 1 ∨ per t p = 2 ∨ per t p = 3 ∨ per t p = 4 ∨ per t p = 5 ∨ per t p = 6 ∨ per t p = 7 := by omega
  rcases h with h | h | h | h | h | h | h <;> rw [h]
  · exact ⟨420, rfl, by decide⟩
  · exact ⟨210, rfl, by decide⟩
  · exact ⟨140, rfl, by decide⟩
  · exact ⟨105, rfl, by decide⟩
  · exact ⟨84, rfl, by decide⟩
  · exact ⟨70, rfl, by decide⟩
  · exact ⟨60, rfl, by decide⟩
end

/-! ### circles -/
noncomputable def circ (t : List Int) (p : Nat) : List Nat := (List.range (per t p)).map fun i => itN t i p
def Led (t : List Int) (p q : Nat) : Prop := ∃ n, outN t n (p : Int) % (t.length : Int) = (q : Int) % (t.length : Int)
section
variable {t : List Int} (T : Tab t)
include T
theorem Tab.circ_len (p : Nat) : (circ t p).length = per t p := by simp [circ]
theorem Tab.led_mem {p x : Nat} (h : Led t p x) (hx : x < t.length) : x ∈ circ t p := by
  obtain ⟨n, e⟩ := h
  induction n using Nat.strongRecOn with
  | ind n ih =>
    by_cases hn : n < per t p
    · refine List.mem_map.2 ⟨n, List.mem_range.2 hn, ?_⟩
      have a := T.itN_cast n p
      rw [e, T.place_mod hx] at a
      omega
    · refine ih (n - per t p) (by have := T.per_pos p; omega) ?_
      have en : n = (n - per t p) + per t p := by omega
      rw [en, outN_add] at e
      rw [← e]
      exact outN_congr _ (T.per_eq p).symm
theorem Tab.mem_lt {p x : Nat} (h : x ∈ circ t p) : x < t.length := by
  obtain ⟨i, _, rfl⟩ := List.mem_map.1 h
  exact T.itN_lt i p
theorem Tab.mem_led {p x : Nat} (h : x ∈ circ t p) : Led t p x := by
  have hx := T.mem_lt h
  obtain ⟨i, _, rfl⟩ := List.mem_map.1 h
  exact ⟨i, by rw [T.place_mod hx, T.itN_cast]⟩
omit T in
theorem Led.refl (t : List Int) (p : Nat) : Led t p p := ⟨0, rfl⟩
omit T in
theorem Led.trans {t : List Int} {p q r : Nat} (a : Led t p q) (b : Led t q r) : Led t p r := by
  obtain ⟨n, e⟩ := a
  obtain ⟨m, e2⟩ := b
  refine ⟨m + n, ?_⟩
  rw [outN_add, ← e2]
  exact outN_congr m e
theorem Tab.led_symm {p q : Nat} (h : Led t p q) : Led t q p := by
  obtain ⟨n, e⟩ := h
  -- led on by n more times over, one is back
  have key : ∀ c : Nat, outN t (c * per t p) (p : Int) % (t.length : Int) = (p : Int) % (t.length : Int) := by
    intro c
    induction c with
    | zero => rw [Nat.zero_mul]; rfl
    | succ c ih =>
      rw [Nat.succ_mul, outN_add, ← ih]
      exact outN_congr _ (T.per_eq p)
  have hp := T.per_pos p
  have hle : n ≤ n * per t p := Nat.le_mul_of_pos_right n hp
  refine ⟨n * per t p - n, ?_⟩
  rw [← key n]
  have en : n * per t p = (n * per t p - n) + n := by omega
  conv => rhs; rw [en]
  rw [outN_add]
  exact outN_congr _ e.symm
theorem Tab.self_mem {p : Nat} (h : p < t.length) : p ∈ circ t p := T.led_mem (Led.refl t p) h
theorem Tab.circ_nodup (p : Nat) : (circ t p).Nodup := by
  unfold circ
  rw [List.nodup_iff_pairwise_ne, List.pairwise_map]
  refine (List.pairwise_lt_range (n := per t p)).imp_of_mem ?_
  intro a b ha hb hlt e
  have hb' := List.mem_range.1 hb
  have e' := T.itN_eq_iff.1 e
  have eb : b = a + (b - a) := by omega
  rw [eb, outN_add] at e'
  exact T.per_min p (m := b - a) (by omega) (by omega) (T.outN_inj_mod a e').symm
/-- p is the least place of its circle -/
def _root_.BA.lead (t : List Int) (p : Nat) : Prop := ∀ y ∈ circ t p, p ≤ y
omit T in
noncomputable instance _root_.BA.leadDec (t : List Int) (p : Nat) : Decidable (lead t p) := List.decidableBAll _ _
noncomputable def _root_.BA.leads (t : List Int) : List Nat := (List.range t.length).filter fun p => decide (lead t p)
theorem Tab.leader {x : Nat} (hx : x < t.length) : ∃ m, m < t.length ∧ lead t m ∧ Led t m x := by
  obtain ⟨m, _, hm, hl⟩ := least (P := fun m => m ∈ circ t x) x (T.self_mem hx)
  have hmx := T.mem_led hm
  refine ⟨m, T.mem_lt hm, fun y hy => ?_, T.led_symm hmx⟩
  by_cases h : y < m
  · exact absurd (T.led_mem (hmx.trans (T.mem_led hy)) (T.mem_lt hy)) (hl y h)
  · omega
theorem Tab.lead_eq {p q x : Nat} (hp : lead t p) (hq : lead t q) (pl : p < t.length) (ql : q < t.length) (h1 : Led t p x) (h2 : Led t q x) : p = q := by
  have a := hp q (T.led_mem (h1.trans (T.led_symm h2)) ql)
  have b := hq p (T.led_mem (h2.trans (T.led_symm h1)) pl)
  omega
theorem Tab.gone_perm : ((leads t).flatMap (circ t)).Perm (List.range t.length) := by
  refine perm_of_sub _ _ ?_ ?_ ?_
  · rw [List.nodup_iff_pairwise_ne, List.pairwise_flatMap]
    refine ⟨fun a _ => List.nodup_iff_pairwise_ne.1 (T.circ_nodup a), ?_⟩
    unfold leads
    refine ((List.pairwise_lt_range (n := t.length)).filter _).imp_of_mem ?_
    intro p q hp hq hlt x hx y hy e
    subst e
    have hp' := List.mem_filter.1 hp
    have hq' := List.mem_filter.1 hq
    have := T.lead_eq (of_decide_eq_true hp'.2) (of_decide_eq_true hq'.2) (List.mem_range.1 hp'.1) (List.mem_range.1 hq'.1) (T.mem_led hx) (T.mem_led hy)
    omega
  · intro x hx
    obtain ⟨p, _, h⟩ := List.mem_flatMap.1 hx
    exact List.mem_range.2 (T.mem_lt h)
  · refine len_le_of_sub _ _ List.nodup_range ?_
    intro x hx
    have hx' := List.mem_range.1 hx
    obtain ⟨m, h1, h2, h3⟩ := T.leader hx'
    refine List.mem_flatMap.2 ⟨m, List.mem_filter.2 ⟨List.mem_range.2 h1, decide_eq_true h2⟩, T.led_mem h3 hx'⟩

/-! ### paces -/
end
noncomputable def tot (t : List Int) (p : Nat) : Int := ((circ t p).map fun x => t.getD x 0).sum
noncomputable def gg (t : List Int) (p : Nat) : Nat := Nat.gcd (tot t p).toNat (per t p)
noncomputable def pn (t : List Int) (p : Nat) : Int := tot t p / (gg t p : Int)
noncomputable def pd (t : List Int) (p : Nat) : Int := (per t p : Int) / (gg t p : Int)
section
variable {t : List Int} (T : Tab t)
include T
theorem Tab.tot_nn (p : Nat) : 0 ≤ tot t p := by
  refine sum_nonneg _ fun x hx => ?_
  obtain ⟨y, hy, rfl⟩ := List.mem_map.1 hx
  exact T.nn _ (getD_mem (T.mem_lt hy))
theorem Tab.gg_pos (p : Nat) : 0 < gg t p := Nat.gcd_pos_of_pos_right _ (T.per_pos p)
theorem Tab.pn_mul (p : Nat) : pn t p * (gg t p : Int) = tot t p := by
  have h : ((gg t p : Nat) : Int) ∣ tot t p := by
    have := Int.natCast_dvd_natCast.2 (Nat.gcd_dvd_left (tot t p).toNat (per t p))
    rwa [Int.toNat_of_nonneg (T.tot_nn p)] at this
  exact Int.ediv_mul_cancel h
theorem Tab.pd_mul (p : Nat) : pd t p * (gg t p : Int) = (per t p : Int) :=
  Int.ediv_mul_cancel (Int.natCast_dvd_natCast.2 (Nat.gcd_dvd_right (tot t p).toNat (per t p)))
theorem Tab.pd_pos (p : Nat) : 0 < pd t p := by
  have h := T.pd_mul p
  have h1 := T.per_pos p
  have h2 := T.gg_pos p
  by_cases hp : 0 < pd t p
  · exact hp
  · exfalso
    have : pd t p * (gg t p : Int) ≤ 0 := Int.mul_nonpos_of_nonpos_of_nonneg (by omega) (by omega)
    omega
theorem Tab.pd_le (p : Nat) : pd t p ≤ 7 := by
  have h := T.pd_mul p
  have h1 := T.per_le p
  have h2 := T.gg_pos p
  have h3 := T.le
  have h4 := T.pd_pos p
  have : pd t p * 1 ≤ pd t p * (gg t p : Int) := Int.mul_le_mul_of_nonneg_left (by omega) (by omega)
  omega
/-- the mean again -/
theorem Tab.pace_sum (p : Nat) : pn t p * (per t p : Int) / pd t p = tot t p := by
  rw [← T.pd_mul p, ← Int.mul_assoc, Int.mul_comm (pn t p) (pd t p), Int.mul_assoc, Int.mul_ediv_cancel_left _ (Int.ne_of_gt (T.pd_pos p)), T.pn_mul p]
theorem Tab.tot_sum : ((leads t).map (tot t)).sum = t.sum := by
  have h := sum_perm ((T.gone_perm).map fun x => t.getD x 0)
  rw [map_range_getD] at h
  rw [← h, List.map_flatMap]
  induction leads t with
  | nil => rfl
  | cons a l ih => simp only [List.map_cons, List.sum_cons, List.flatMap_cons, List.sum_append, ih]; rfl
theorem Tab.outN_sum (n p : Nat) : outN t n (p : Int) = (p : Int) + ((List.range n).map fun i => t.getD (itN t i p) 0).sum := by
  induction n with
  | zero => show (p : Int) = _; simp
  | succ n ih =>
    rw [List.range_succ, List.map_append, List.sum_append]
    show outN t n (p : Int) + hold t (outN t n (p : Int)) = _
    rw [show hold t (outN t n (p : Int)) = t.getD (itN t n p) 0 from rfl]
    rw [ih]
    simp only [List.map_cons, List.map_nil, List.sum_cons, List.sum_nil]
    omega
theorem Tab.outN_per (p : Nat) : outN t (per t p) (p : Int) = (p : Int) + tot t p := by
  rw [T.outN_sum]
  unfold tot circ
  rw [List.map_map]; rfl
theorem Tab.outN_mul (c p : Nat) : outN t (per t p * c) (p : Int) = (p : Int) + c * tot t p := by
  obtain ⟨m, hm⟩ := shift_of_mod (T.per_eq p)
  have hm2 := T.outN_per p
  have e : tot t p = (t.length : Int) * m := by omega
  induction c with
  | zero => show (p : Int) = _; simp
  | succ c ih =>
    have e2 : (p : Int) + c * tot t p = (p : Int) + (t.length : Int) * (c * m) := by
      rw [e, ← Int.mul_assoc, Int.mul_comm (c : Int), Int.mul_assoc]
    have e4 : ((c + 1 : Nat) : Int) * tot t p = (c : Int) * tot t p + tot t p := by rw [Int.natCast_add, Int.add_mul]; omega
    rw [Nat.mul_succ, Nat.add_comm, outN_add, ih, e2, outN_shift, hm2, e4]
    omega
/-- 420 copies hold all places of a circle equally long -/
theorem Tab.led_420 {p q : Nat} (h : Led t p q) : outN t 420 (q : Int) - q = outN t 420 (p : Int) - p := by
  obtain ⟨c, hc, _⟩ := T.per_dvd p
  obtain ⟨n, e⟩ := h
  have hp := T.outN_mul c p
  rw [hc] at hp
  obtain ⟨m, hm⟩ := shift_of_mod (T.per_eq p)
  have hm2 := T.outN_per p
  have et : tot t p = (t.length : Int) * m := by omega
  have ep : outN t 420 (p : Int) = (p : Int) + (t.length : Int) * (c * m) := by
    rw [hp, et, ← Int.mul_assoc, Int.mul_comm (c : Int), Int.mul_assoc]
  rw [outN_diff 420 e.symm]
  have e3 : outN t 420 (outN t n (p : Int)) = outN t n (outN t 420 (p : Int)) := by rw [← outN_add, ← outN_add, Nat.add_comm]
  rw [e3, ep, outN_shift]
  omega
theorem Tab.pace_420 {p q : Nat} (hn : pn t p = pn t q) (hd : pd t p = pd t q) : outN t 420 (q : Int) - q = outN t 420 (p : Int) - p := by
  obtain ⟨c, hc, _⟩ := T.per_dvd p
  obtain ⟨d, hd', _⟩ := T.per_dvd q
  have h1 := T.outN_mul c p
  have h2 := T.outN_mul d q
  rw [hc] at h1
  rw [hd'] at h2
  have key : (c : Int) * tot t p = (d : Int) * tot t q := by
    have a1 := T.pn_mul p
    have a2 := T.pn_mul q
    have b1 := T.pd_mul p
    have b2 := T.pd_mul q
    have c1 : (per t p : Int) * c = 420 := by rw [← Int.natCast_mul, hc]; rfl
    have c2 : (per t q : Int) * d = 420 := by rw [← Int.natCast_mul, hd']; rfl
    -- multiplied by pd
    have ne : pd t p ≠ 0 := Int.ne_of_gt (T.pd_pos p)
    apply Int.eq_of_mul_eq_mul_left ne
    have l : pd t p * ((c : Int) * tot t p) = pn t p * 420 := by
      rw [← a1, ← c1, ← b1]
      simp only [Int.mul_comm, Int.mul_left_comm]
    have r : pd t p * ((d : Int) * tot t q) = pn t p * 420 := by
      rw [hd, hn, ← a2, ← c2, ← b2]
      simp only [Int.mul_comm, Int.mul_left_comm]
    rw [l, r]
  omega

/-! ### straight -/
end
def AllEq (t : List Int) (c : Nat) : Prop := ∀ i j : Nat, i < t.length → j < t.length → outN t c (i : Int) - i = outN t c (j : Int) - j
section
variable {t : List Int} (T : Tab t)
include T
theorem Tab.all_420 (h : ∀ p ∈ leads t, ∀ q ∈ leads t, pn t p = pn t q ∧ pd t p = pd t q) : AllEq t 420 := by
  intro i j hi hj
  obtain ⟨m, m1, m2, m3⟩ := T.leader hi
  obtain ⟨k, k1, k2, k3⟩ := T.leader hj
  have hm : m ∈ leads t := List.mem_filter.2 ⟨List.mem_range.2 m1, decide_eq_true m2⟩
  have hk : k ∈ leads t := List.mem_filter.2 ⟨List.mem_range.2 k1, decide_eq_true k2⟩
  obtain ⟨e1, e2⟩ := h m hm k hk
  rw [T.led_420 m3, T.led_420 k3, T.pace_420 e1 e2]
theorem Tab.sum_turn (n : Nat) : ((List.range t.length).map fun i => hold t (outN t n ((i : Nat) : Int))).sum = t.sum := by
  have h := sum_perm ((perm_map (n := t.length) (itN t n) (fun i _ => T.itN_lt n i) (fun i j hi hj e => by
    have e' := T.outN_inj_mod n (T.itN_eq_iff.1 e)
    rw [T.place_mod hi, T.place_mod hj] at e'
    omega)).map fun x => t.getD x 0)
  rw [map_range_getD, List.map_map] at h
  exact h
theorem Tab.sum_outN (c : Nat) : ((List.range t.length).map fun i => outN t c ((i : Nat) : Int) - i).sum = c * t.sum := by
  induction c with
  | zero =>
    rw [show (fun i : Nat => outN t 0 (i : Int) - i) = fun _ => (0 : Int) from funext fun i => Int.sub_self _, sum_map_const]; simp
  | succ c ih =>
    rw [show (fun i : Nat => outN t (c + 1) (i : Int) - i) = fun i : Nat => (outN t c (i : Int) - i) + hold t (outN t c (i : Int)) from funext fun i => by
      show outN t c (i : Int) + hold t _ - i = _; omega]
    rw [sum_map_add, ih, T.sum_turn, Int.natCast_add, Int.add_mul]; omega
theorem Tab.dvd_sum : ∃ z, t.sum = (t.length : Int) * z := by
  have h := sum_perm ((perm_map (n := t.length) (itN t 1) (fun i _ => T.itN_lt 1 i) (fun i j hi hj e => by
    have e' := T.outN_inj_mod 1 (T.itN_eq_iff.1 e)
    rw [T.place_mod hi, T.place_mod hj] at e'
    omega)).map fun x : Nat => (x : Int))
  rw [List.map_map] at h
  have h2 := T.sum_outN 1
  refine ⟨((List.range t.length).map fun i => outN t 1 ((i : Nat) : Int) / (t.length : Int)).sum, ?_⟩
  have e : ((List.range t.length).map fun i => outN t 1 ((i : Nat) : Int) - i).sum = (t.length : Int) * ((List.range t.length).map fun i => outN t 1 ((i : Nat) : Int) / (t.length : Int)).sum := by
    rw [sum_map_sub, ← h, ← sum_map_mul, ← sum_map_sub]
    congr 1
    apply List.map_congr_left
    intro i _
    show outN t 1 (i : Int) - ((itN t 1 i : Nat) : Int) = _
    rw [T.itN_cast]
    have := mod_split (outN t 1 (i : Int)) (t.length : Int)
    omega
  rw [e] at h2
  omega
end
def heldI (t : List Int) : Int := t.sum / (t.length : Int)
section
variable {t : List Int} (T : Tab t)
include T
theorem Tab.held_mul : heldI t * (t.length : Int) = t.sum := by
  obtain ⟨z, h⟩ := T.dvd_sum
  unfold heldI
  rw [h, Int.mul_ediv_cancel_left _ (Int.ne_of_gt T.posI), Int.mul_comm]
theorem Tab.eq_held {c : Nat} (h : AllEq t c) {i : Nat} (hi : i < t.length) : outN t c (i : Int) - i = c * heldI t := by
  have hs := T.sum_outN c
  have e : ((List.range t.length).map fun j => outN t c ((j : Nat) : Int) - j) = (List.range t.length).map fun _ => outN t c (i : Int) - i :=
    List.map_congr_left fun j hj => h j i (List.mem_range.1 hj) hi
  rw [e, sum_map_const, List.length_range, ← T.held_mul] at hs
  have ne : (t.length : Int) ≠ 0 := Int.ne_of_gt T.posI
  apply Int.eq_of_mul_eq_mul_left ne
  rw [hs, ← Int.mul_assoc, Int.mul_comm]

/-! ### chained -/
end
/-- d parts that are the same -/
def Rep (l : List Int) (d : Nat) : Prop := l.length % d = 0 ∧ (List.replicate (l.length / d) (l.take d)).flatten = l
structure Wh (t : List Int) (i : Nat) (w : List Int) : Prop where
  pos : 0 < w.length
  dvd : ∃ c, t.length = w.length * c
  eq : ∀ x : Int, out w x = outN t i x
theorem Wh.one {t : List Int} (T : Tab t) : Wh t 1 t := ⟨T.pos, ⟨1, by simp⟩, fun _ => rfl⟩
def rawN (t : List Int) (i : Nat) : List Int := (List.range t.length).map fun x => outN t i ((x : Nat) : Int) - x
theorem rawN_len (t : List Int) (i : Nat) : (rawN t i).length = t.length := by simp [rawN]
theorem rep_getD {l s : List Int} {k : Nat} (h : (List.replicate k s).flatten = l) (hs : 0 < s.length) : ∀ i, i < l.length → l.getD i 0 = s.getD (i % s.length) 0 := by
  subst h
  induction k with
  | zero => intro i hi; simp at hi
  | succ k ih =>
    intro i hi
    rw [List.replicate_succ, List.flatten_cons] at hi ⊢
    by_cases h : i < s.length
    · rw [Nat.mod_eq_of_lt h, List.getD_eq_getElem?_getD, List.getElem?_append_left h, ← List.getD_eq_getElem?_getD]
    · have h' : s.length ≤ i := by omega
      rw [List.getD_eq_getElem?_getD, List.getElem?_append_right h', ← List.getD_eq_getElem?_getD, ih (i - s.length) (by rw [List.length_append] at hi; omega), Nat.mod_eq_sub_mod h']
theorem Wh.next {t w : List Int} (T : Tab t) {i d : Nat} (hd : 0 < d) (hdl : d ≤ t.length) (R : Rep (rawN t i) d) : Wh t i ((rawN t i).take d) := by
  have hl := rawN_len t i
  have ls : ((rawN t i).take d).length = d := by rw [List.length_take, hl]; omega
  have hm : t.length % d = 0 := by have := R.1; rwa [hl] at this
  refine ⟨by omega, ⟨t.length / d, by rw [ls]; exact (Nat.mul_div_cancel' (Nat.dvd_of_mod_eq_zero hm)).symm⟩, fun x => ?_⟩
  have g := rep_getD R.2 (by omega) (x % (t.length : Int)).toNat (by rw [hl]; exact T.mod_lt x)
  have e1 : (rawN t i).getD (x % (t.length : Int)).toNat 0 = outN t i x - x := by
    have hlt := T.mod_lt x
    rw [List.getD_eq_getElem?_getD]
    unfold rawN
    rw [List.getElem?_map, List.getElem?_range hlt]
    show outN t i (((x % (t.length : Int)).toNat : Nat) : Int) - _ = _
    rw [T.mod_cast]
    exact outN_diff i (by rw [Int.emod_emod_of_dvd _ (Int.dvd_refl _)])
  have e2 : hold ((rawN t i).take d) x = ((rawN t i).take d).getD ((x % (t.length : Int)).toNat % ((rawN t i).take d).length) 0 := by
    unfold hold
    congr 1
    rw [ls]
    have hdvd : (d : Int) ∣ (t.length : Int) := Int.natCast_dvd_natCast.2 (Nat.dvd_of_mod_eq_zero hm)
    have a : x % (d : Int) = (x % (t.length : Int)) % (d : Int) := (Int.emod_emod_of_dvd x hdvd).symm
    rw [a]
    have b := T.mod_cast x
    conv => lhs; rw [← b]
    rw [← Int.natCast_emod, Int.toNat_natCast]
  show x + hold _ x = _
  rw [e2, ← g, e1]
  omega
theorem Wh.tab {t w : List Int} (T : Tab t) {i : Nat} (W : Wh t i w) (h60 : ∀ h ∈ w, h ≤ 60) : Tab w := by
  obtain ⟨c, hc⟩ := W.dvd
  have hw : w.length ≤ t.length := by
    have hp := T.pos
    have : c ≠ 0 := fun e => by subst e; rw [Nat.mul_zero] at hc; omega
    rw [hc]; exact Nat.le_mul_of_pos_right _ (Nat.pos_of_ne_zero this)
  have hp := W.pos
  have hold_at : ∀ i : Nat, i < w.length → hold w (i : Int) = w.getD i 0 := fun i hi => by
    unfold hold
    rw [Int.emod_eq_of_lt (by omega) (by omega), Int.toNat_natCast]
  refine ⟨hp, Nat.le_trans hw T.le, fun h hh => ?_, h60, fun a b ha hb e => ?_⟩
  · obtain ⟨n, hn, rfl⟩ := List.getElem_of_mem hh
    have e := W.eq (n : Int)
    have g := T.outN_ge i (n : Int)
    have : hold w (n : Int) = w[n] := by rw [hold_at n hn, List.getD_eq_getElem?_getD, List.getElem?_eq_getElem hn]; rfl
    unfold out at e
    omega
  · obtain ⟨m, hm⟩ := shift_of_mod e
    rw [← hold_at a ha, ← hold_at b hb] at hm
    have hm' : out w (a : Int) = out w ((b : Int) + (w.length : Int) * m) := by rw [out_shift]; exact hm
    rw [W.eq, W.eq] at hm'
    have e2 := T.outN_inj i hm'
    have e3 : (a : Int) % (w.length : Int) = (b : Int) % (w.length : Int) := by rw [e2, Int.add_mul_emod_self_left]
    rw [Int.emod_eq_of_lt (by omega) (by omega), Int.emod_eq_of_lt (by omega) (by omega)] at e3
    omega
/-- all equally long: one hold -/
theorem rep_one {t : List Int} (T : Tab t) {c : Nat} (h : AllEq t c) : Rep (rawN t c) 1 ∧ (rawN t c).take 1 = [c * heldI t] := by
  have e : rawN t c = List.replicate t.length (c * heldI t) := by
    apply List.eq_replicate_iff.2
    refine ⟨rawN_len t c, fun b hb => ?_⟩
    obtain ⟨i, hi, rfl⟩ := List.mem_map.1 hb
    exact T.eq_held h (List.mem_range.1 hi)
  have hp := T.pos
  have e1 : (rawN t c).take 1 = [c * heldI t] := by
    rw [e, List.take_replicate]
    have : min 1 t.length = 1 := by omega
    rw [this]; rfl
  refine ⟨⟨Nat.mod_one _, ?_⟩, e1⟩
  rw [e1, Nat.div_one, rawN_len, e]
  generalize t.length = n
  induction n with
  | zero => rfl
  | succ n ih => rw [List.replicate_succ, List.flatten_cons, ih, List.replicate_succ]; rfl
/-- a table out of places drawn -/
theorem tab_of {t : List Int} (vs : List Nat) (h0 : 0 < t.length) (h7 : t.length ≤ 7) (hb : ∀ h ∈ t, 0 ≤ h ∧ h ≤ 60) (hl : vs.length = t.length) (nd : vs.Nodup)
    (he : ∀ i, i < t.length → ((i : Int) + t.getD i 0) % (t.length : Int) = ((vs.getD i 0 : Nat) : Int)) : Tab t := by
  refine ⟨h0, h7, fun h x => (hb h x).1, fun h x => (hb h x).2, fun i j hi hj e => ?_⟩
  rw [he i hi, he j hj] at e
  have e' : vs.getD i 0 = vs.getD j 0 := by omega
  rw [List.getD_eq_getElem?_getD, List.getD_eq_getElem?_getD, List.getElem?_eq_getElem (by omega), List.getElem?_eq_getElem (by omega)] at e'
  have e2 : vs[i]'(by omega) = vs[j]'(by omega) := e'
  by_cases hij : i < j
  · exact absurd e2 (List.pairwise_iff_getElem.1 (List.nodup_iff_pairwise_ne.1 nd) i j (by omega) (by omega) hij)
  · by_cases hji : j < i
    · exact absurd e2.symm (List.pairwise_iff_getElem.1 (List.nodup_iff_pairwise_ne.1 nd) j i (by omega) (by omega) hji)
    · omega
end BA
namespace BA
theorem nodup_one_iff {α : Type} {m l : List α} (nd : m.Nodup) (h : ∀ y, y ∈ m ↔ y ∈ l) : m.length ≤ 1 ↔ ∀ x ∈ l, ∀ y ∈ l, x = y := by
  constructor
  · intro hl x hx y hy
    have hx' := (h x).2 hx
    have hy' := (h y).2 hy
    match m, hl with
    | [], _ => simp at hx'
    | [a], _ => simp at hx' hy'; rw [hx', hy']
  · intro hall
    match m, nd with
    | [], _ => simp
    | [a], _ => simp
    | a :: b :: r, nd =>
      exfalso
      have e := hall a ((h a).1 (by simp)) b ((h b).1 (by simp))
      subst e
      simp at nd
end BA

namespace BaR
open PySem PySem.Spec PyProof.Rows L2
/-! ### walks of a tuple of ints -/
section
variable {prog : Program} {w : World} {A : Around} {E : Value → Shared → Prop} {s : Shared} {l : Addr} {xs : Array (Int × Tok)}
theorem iter_intTup {Q : Value → Shared → Prop} (hl : s.heap.IsTuple l (intItems xs))
    (h : ∀ s₂ : Shared, s₂ = { s with heap := s.heap.push { cls := .type "tuple_iterator", data := .fields #[.ref l, .int 0 0] } } →
      (s₂.heap.IsTupleIter s.heap.objs.size l 0 ∧ s₂.heap.IsTuple l (intItems xs)) → (∀ b ∈ [s.heap.objs.size, l], b < s₂.heap.objs.size) → l ≠ s.heap.objs.size → Q (.ref s.heap.objs.size) s₂) :
    wpAny (model prog w) A (pyIter (.ref l)) Q E s := by
  have hlt : l < s.heap.objs.size := by obtain ⟨_, e, _⟩ := hl; exact Heap.lt_size e
  refine wpAny_pyIter_tuple hl (h _ rfl ⟨⟨_, Heap.get?_push_size _ rfl, rfl, rfl⟩, hl.at fun o e => Heap.get?_push_of_some _ e⟩ (fun b hb => ?_) (Nat.ne_of_lt hlt))
  show b < (s.heap.push _).objs.size
  rw [Heap.size_push]
  rcases List.mem_cons.mp hb with rfl | hb
  · exact Nat.lt_succ_self _
  · rcases List.mem_cons.mp hb with rfl | hb
    · exact Nat.lt_succ_of_lt hlt
    · cases hb
theorem old_keptT {h' : Heap} (hk : ∀ b o, b ∉ [s.heap.objs.size] → (s.heap.push { cls := .type "tuple_iterator", data := .fields #[.ref l, .int 0 0] }).get? b = some o → h'.get? b = some o) :
    ∀ b o, s.heap.get? b = some o → h'.get? b = some o := fun b o e => by
  refine hk b o (fun hm => ?_) (Heap.get?_push_of_some _ e)
  rcases List.mem_cons.mp hm with e1 | hm
  · exact absurd (e1 ▸ Heap.lt_size e) (Nat.lt_irrefl _)
  · cases hm
theorem max_intTup {Q : Value → Shared → Prop} (hh : A.handled = none) (hl : s.heap.IsTuple l (intItems xs)) (hne : 0 < xs.size)
    (h : ∀ v h' tk, (intItems xs)[argBest (fun i j => decide (numAt xs i > numAt xs j)) (xs.size - 1)]? = some v → (∀ b o, s.heap.get? b = some o → h'.get? b = some o) → Q v { s with heap := h', toks := tk }) :
    wpAny (model prog w) A (call (.builtin "max") [.ref l]) Q E s := by
  refine call_max_walk (iter_intTup hl fun s₂ e st hfp hlI => ?_)
  subst e
  refine ⟨_, _, _, _, _, _, _, rfl, Walks.tuple (A := A.in1) hh _ l hlI (intItems xs), st, hfp, by simpa [intItems] using hne, CmpOf.ints_gt (numAt xs) (fun _ _ => intItems_at), fun v h' tk hP hk => ?_⟩
  exact h v h' tk (by simpa [intItems] using hP) (old_keptT hk)
theorem min_intTup {Q : Value → Shared → Prop} (hh : A.handled = none) (hl : s.heap.IsTuple l (intItems xs)) (hne : 0 < xs.size)
    (h : ∀ v h' tk, (intItems xs)[argBest (fun i j => decide (numAt xs i < numAt xs j)) (xs.size - 1)]? = some v → (∀ b o, s.heap.get? b = some o → h'.get? b = some o) → Q v { s with heap := h', toks := tk }) :
    wpAny (model prog w) A (call (.builtin "min") [.ref l]) Q E s := by
  refine call_min_walk (iter_intTup hl fun s₂ e st hfp hlI => ?_)
  subst e
  refine ⟨_, _, _, _, _, _, _, rfl, Walks.tuple (A := A.in1) hh _ l hlI (intItems xs), st, hfp, by simpa [intItems] using hne, CmpOf.ints_lt (numAt xs) (fun _ _ => intItems_at), fun v h' tk hP hk => ?_⟩
  exact h v h' tk (by simpa [intItems] using hP) (old_keptT hk)
end
section
variable {prog : Program} {w : World} {A : Around} {E : Value → Shared → Prop} {s : Shared} {l : Addr} {its : List Value} {ns : List Int} {Q : Value → Shared → Prop}
theorem sumT_raw (hh : A.handled = none) (hl : s.heap.IsTuple l its.toArray) (hi : IntsAre its ns)
    (h : ∀ h' tk t', (∀ b o, s.heap.get? b = some o → h'.get? b = some o) → Q (.int ns.sum t') { s with heap := h', toks := tk }) : wpAny (model prog w) A (call (.builtin "sum") [.ref l]) Q E s := by
  obtain ⟨xs, e⟩ := hi.allInts.items
  have hn : numsOf (intItems xs).toList = ns := by rw [← e]; exact hi.numsOf
  rw [nums_intItems] at hn
  rw [e] at hl
  refine PySem.W.ktm_sumG hh hl fun h' tk t' hk => ?_
  have := h h' tk t' hk
  rw [preSum_eq, List.take_of_length_le (by simp), hn]; exact this
theorem maxT_raw (hh : A.handled = none) (hl : s.heap.IsTuple l its.toArray) (hi : IntsAre its ns) (hne : 0 < ns.length)
    (h : ∀ h' tk M t', (∀ b o, s.heap.get? b = some o → h'.get? b = some o) → M ∈ ns → (∀ a, a ∈ ns → a ≤ M) → Q (.int M t') { s with heap := h', toks := tk }) : wpAny (model prog w) A (call (.builtin "max") [.ref l]) Q E s := by
  obtain ⟨xs, e⟩ := hi.allInts.items
  have hn : numsOf (intItems xs).toList = ns := by rw [← e]; exact hi.numsOf
  rw [nums_intItems] at hn
  subst hn
  rw [e] at hl
  have hsz : 0 < xs.size := by simpa using hne
  refine max_intTup hh hl hsz fun v h' tk hv hk => ?_
  obtain ⟨t, rfl⟩ := intItems_at hv
  obtain ⟨h1, h2⟩ := argBest_gt (numAt xs) (xs.size - 1)
  refine h h' tk _ t hk ?_ fun a ha => ?_
  · rw [numAt_eq]; exact PySem.getD_mem (by rw [List.length_map, Array.length_toList]; omega)
  · obtain ⟨j, hj, rfl⟩ := mem_getD ha
    rw [List.length_map, Array.length_toList] at hj
    rw [← numAt_eq]; exact h2 j (by omega)
theorem minT_raw (hh : A.handled = none) (hl : s.heap.IsTuple l its.toArray) (hi : IntsAre its ns) (hne : 0 < ns.length)
    (h : ∀ h' tk M t', (∀ b o, s.heap.get? b = some o → h'.get? b = some o) → M ∈ ns → (∀ a, a ∈ ns → M ≤ a) → Q (.int M t') { s with heap := h', toks := tk }) : wpAny (model prog w) A (call (.builtin "min") [.ref l]) Q E s := by
  obtain ⟨xs, e⟩ := hi.allInts.items
  have hn : numsOf (intItems xs).toList = ns := by rw [← e]; exact hi.numsOf
  rw [nums_intItems] at hn
  subst hn
  rw [e] at hl
  have hsz : 0 < xs.size := by simpa using hne
  refine min_intTup hh hl hsz fun v h' tk hv hk => ?_
  obtain ⟨t, rfl⟩ := intItems_at hv
  obtain ⟨h1, h2⟩ := argBest_lt (numAt xs) (xs.size - 1)
  refine h h' tk _ t hk ?_ fun a ha => ?_
  · rw [numAt_eq]; exact PySem.getD_mem (by rw [List.length_map, Array.length_toList]; omega)
  · obtain ⟨j, hj, rfl⟩ := mem_getD ha
    rw [List.length_map, Array.length_toList] at hj
    rw [← numAt_eq]; exact h2 j (by omega)
end
section
variable {X : Cx}
def rSumT (K : PySem.W.Frag) : List V → Hp → VK → Prop := fun vs H Q => ∃ (a : Addr) (ns : List Int), vs = [V.ref a] ∧ SqT K H a (ns.map V.int) ∧ Q (.int ns.sum) H
def rMaxT (K : PySem.W.Frag) : List V → Hp → VK → Prop := fun vs H Q => ∃ (a : Addr) (ns : List Int), vs = [V.ref a] ∧ SqT K H a (ns.map V.int) ∧ 0 < ns.length ∧ ∀ m, m ∈ ns → (∀ y, y ∈ ns → y ≤ m) → Q (.int m) H
def rMinT (K : PySem.W.Frag) : List V → Hp → VK → Prop := fun vs H Q => ∃ (a : Addr) (ns : List Int), vs = [V.ref a] ∧ SqT K H a (ns.map V.int) ∧ 0 < ns.length ∧ ∀ m, m ∈ ns → (∀ y, y ∈ ns → m ≤ y) → Q (.int m) H
theorem cr_sumT (hc : X.calm = true) : CallR X (.builtin "sum") (rSumT X.K) := by
  intro pins s σ H vs us Q I r h
  obtain ⟨a, ns, rfl, hs, q⟩ := h
  obtain ⟨its, rv, hl, _⟩ := I.tuple hs
  rw [Vals.ref1 r]
  exact sumT_raw (I.ok.hd hc) hl rv.ints fun h' tk t' hk => ⟨.int _, H, I.kept hk, ⟨_, rfl⟩, q⟩
theorem cr_maxT (hc : X.calm = true) : CallR X (.builtin "max") (rMaxT X.K) := by
  intro pins s σ H vs us Q I r h
  obtain ⟨a, ns, rfl, hs, hne, q⟩ := h
  obtain ⟨its, rv, hl, _⟩ := I.tuple hs
  rw [Vals.ref1 r]
  exact maxT_raw (I.ok.hd hc) hl rv.ints hne fun h' tk m t' hk h1 h2 => ⟨.int _, H, I.kept hk, ⟨_, rfl⟩, q m h1 h2⟩
theorem cr_minT (hc : X.calm = true) : CallR X (.builtin "min") (rMinT X.K) := by
  intro pins s σ H vs us Q I r h
  obtain ⟨a, ns, rfl, hs, hne, q⟩ := h
  obtain ⟨its, rv, hl, _⟩ := I.tuple hs
  rw [Vals.ref1 r]
  exact minT_raw (I.ok.hd hc) hl rv.ints hne fun h' tk m t' hk h1 h2 => ⟨.int _, H, I.kept hk, ⟨_, rfl⟩, q m h1 h2⟩

/-! ### sets of ints as tracked things: HO.set S n -/
theorem setI_get {pins : List (Addr × Obj)} {σ : L2.St} {H : Hp} {s : Shared} {a : Addr} {S : Int → Bool} {n : Nat} (I : Inv X pins σ H s) (ha : H a = some (.set S n)) : s.heap.SetOf (intKind X.prog X.w) a S n := I.hok a _ ha
theorem fun_of_len {xs : List V} {us : List Value} {a : Addr} (r : Vals [V.ref a] us) : us = [Value.ref a] := Vals.ref1 r
/-- len of a set of ints -/
theorem cr_lenI : CallR X (.builtin "len") (fun xs H Q => ∃ (a : Addr) (S : Int → Bool) (n : Nat), xs = [.ref a] ∧ H a = some (.set S n) ∧ Q (.int n) H) := by
  intro pins s σ H xs us Q I r h
  obtain ⟨a, S, n, rfl, ha, q⟩ := h
  rw [Vals.ref1 r]
  obtain ⟨o, es, ep, t, ho, hex, hd, _, _, hb, hf, hn⟩ := setI_get I ha
  have hb' : (es.size : Int) < 2 ^ 63 := by
    have h4 : scanBound = 4096 := rfl
    rw [h4] at hb; omega
  exact call_len_set ho hex hd hf hb' ⟨.int n, H, I.tok _, ⟨_, by rw [hn]⟩, q⟩
/-- len of a set of tuples of ints -/
theorem cr_lenT : CallR X (.builtin "len") (fun xs H Q => ∃ (a : Addr) (L : List (Addr × List Int)), xs = [.ref a] ∧ H a = some (SetTO X.prog X.w a L) ∧ (∀ p ∈ L, SqT X.K H p.1 (p.2.map V.int)) ∧ ((L.map (·.2)).Nodup → Q (.int L.length) H)) := by
  intro pins s σ H xs us Q I r h
  obtain ⟨a, L, rfl, ha, ht, q⟩ := h
  rw [Vals.ref1 r]
  have T0 : SetT0 X.prog X.w s.heap a L := (I.hok a _ ha).1
  obtain ⟨es, ep, t, R⟩ := T0.full fun p hp => I.isT (ht p hp)
  obtain ⟨o, ho, hex, hd⟩ := R.ob
  have hsz := R.size
  have hfew := R.few
  exact call_len_set ho hex hd R.fits (by rw [hsz]; omega) ⟨.int L.length, H, I.tok _, ⟨_, by rw [hsz]⟩, q R.nd⟩
/-- set.add of an int -/
theorem addI_ok {pins : List (Addr × Obj)} {σ : L2.St} {H : Hp} {s : Shared} {E : Value → Shared → Prop} {D : Addr} {S : Int → Bool} {n : Nat} {c : Int} {tk : Tok} {Q : Value → Shared → Prop} (I : Inv X pins σ H s) (hD : H D = some (.set S n)) (room : n + 1 < scanBound)
    (h : ∀ s', Inv X pins σ (upd H D (.set (fun j => S j || decide (j = c)) (if S c = true then n else n + 1))) s' → Q .none s') : wpAny (model X.prog X.w) X.A (call (.builtin "set.add") [.ref D, .int c tk]) Q E s := by
  have R := setI_get I hD
  refine call_set_add (knd := intKind X.prog X.w) (k := c) (intKind_is X.prog X.w c tk) rfl R room fun h' sb new => ?_
  have he : ∃ u, h'.get? D = some u := by
    obtain ⟨o, _, _, _, ho, _⟩ := new
    exact ⟨o, ho⟩
  exact h _ (I.write (e := D) (t' := s.toks + 1) (by rw [hD]; trivial) (.inl rfl) (fun b u hb hu => (sb.2 b hb).trans hu) he new)
theorem in1_units {A : Around} (h : A.units + 64 < cLine) : A.in1.units < cLine := by
  have e : A.in1.units ≤ A.units + 1 := by first | exact Nat.le_refl _ | exact Nat.le_succ _ | (show A.units ≤ _; omega) | (simp [Around.in1, Around.units]; omega)
  omega
/-- set.add of a tuple of ints -/
theorem addT_ok {pins : List (Addr × Obj)} {σ : L2.St} {H : Hp} {s : Shared} {E : Value → Shared → Prop} {D T : Addr} {L : List (Addr × List Int)} {k : List Int} {Q : Value → Shared → Prop} (I : Inv X pins σ H s) (hu : X.A.units + 64 < cLine) (hD : H D = some (SetTO X.prog X.w D L)) (hT : SqT X.K H T (k.map V.int))
    (ht : ∀ p ∈ L, SqT X.K H p.1 (p.2.map V.int)) (room : L.length + 1 < 64)
    (h : ∀ s' L', (k ∈ L.map (·.2) → L' = L) → (k ∉ L.map (·.2) → L'.Perm ((T, k) :: L)) → Inv X pins σ (upd H D (SetTO X.prog X.w D L')) s' → Q .none s') : wpAny (model X.prog X.w) X.A (call (.builtin "set.add") [.ref D, .ref T]) Q E s := by
  have T0 : SetT0 X.prog X.w s.heap D L := (I.hok D _ hD).1
  obtain ⟨es, ep, t, R⟩ := T0.full fun p hp => I.isT (ht p hp)
  obtain ⟨o, ho, hex, hd⟩ := R.ob
  have hty : s.TypeIs (.ref D) "set" := ⟨o, ho, hex.1⟩
  have hx := I.isT hT
  refine wpAny_call_entry PySem.F.slot_set_add hty PySem.F.entry_set_add ?_ (PySem.F.args_set_add_2 _ _)
  unfold Builtin.«set.add» Builtin.Frozenset.oneOther
  simp only [List.isEmpty_nil, bind_assoc]
  unfold Builtin.Frozenset.addrOf setAdd
  refine wpAny_bind (wpAny_pure ?_)
  try dsimp only
  refine wpAny_bind (wpAny_pure ?_)
  try dsimp only
  refine wpAny_bind ?_
  refine wpAny_holding ?_
  refine wpAny_bind (wpAny_pyHash_tuple (in1_units hu) hx ?_)
  refine add_at (A := X.A.in1) (s := { s with toks := s.toks + (k.length + 1) }) (R.keep (fun o e => e) R.tup) hx (in1_units hu) room fun b h' L' es' ep' t' sb R2 c1 c2 => ?_
  show wpAny _ _ (ret Value.none) _ _ _
  have he : ∃ u, h'.get? D = some u := by
    obtain ⟨o, ho, _⟩ := R2.ob
    exact ⟨o, ho⟩
  exact wpAny_pure ⟨_, rfl, h _ L' c1 c2 (I.write (e := D) (t' := s.toks + (k.length + 1)) (by rw [hD]; trivial) (.inl rfl) (fun b u hb hu => (sb.2 b hb).trans hu) he (setTO_new R2.t0))⟩
end
end BaR

/-! ### sets filled by a comprehension, whatever is put in -/
namespace BaR
open PySem PySem.Spec PyProof.Rows L2
abbrev emptySet (w : World) : Obj := { cls := .type "set", dict := none, data := .set #[] 0 (.fresh 0 0 (!w.params.followText "set-order")) }
/-- mk: the new set as a tracked thing; add: what putting a value in asks -/
structure Fill (X : Cx) (mk : Addr → HO) (add : Addr → V → Hp → (Hp → Prop) → Prop) : Prop where
  begins : ∀ (H : Hp) (h : Heap) (D : Addr), h.get? D = some (emptySet X.w) → ObjOk X.prog X.w (upd H D (mk D)) h D (mk D)
  puts : ∀ (Y : Cx) (pins : List (Addr × Obj)) (σ : L2.St) (H : Hp) (s : Shared) (D : Addr) (y : V) (z : Value) (Nx : Hp → Prop) (E : Value → Shared → Prop) (Q : Value → Shared → Prop), Y.prog = X.prog → Y.w = X.w → Y.K = X.K → Y.A = X.A →
    Inv Y pins σ H s → RelV y z → add D y H Nx → (∀ s' H', Inv Y pins σ H' s' → Nx H' → Q .none s') → wpAny (model Y.prog Y.w) Y.A (call (.builtin "set.add") [.ref D, z]) Q E s
/-- the turns of a comprehension: an invariant by the turn and a measure; what a kept value asks is add -/
def Turns (J : It) (g : TG) (tt : TT) (te : TE) (vs : List Nat) (σ : L2.St) (H0 : Hp) (put : V → Hp → (Hp → Prop) → Prop) (Qd : Hp → Prop) : Prop :=
  ∃ W : Nat → Nat → Hp → Prop, (∃ m, W 0 m H0) ∧ ∀ i m H, W i m H → (J.stop i H ∧ Qd H) ∨
    (J.go i H ∧ ∃ Nx : Hp → Prop, (∀ H', Nx H' → ∃ m', m' < m ∧ W (i + 1) m' H') ∧ ∀ x H', J.yld i H x H' → g x (wipe σ vs) H' fun σ2 H2 => wipe σ2 vs = wipe σ vs ∧
      tt σ2 H2 fun b H3 => if b = true then te σ2 H3 fun y H4 => put y H4 Nx else Nx H3)
def tFill (mk : Addr → HO) (add : Addr → V → Hp → (Hp → Prop) → Prop) (wi : TI) (g : TG) (tt : TT) (te : TE) (vs : List Nat) : TE := fun σ H Q => wi σ H fun J H1 => ∀ D, H1 D = none →
  Turns J g tt te vs σ (upd H1 D (mk D)) (add D) fun H' => Q (.ref D) H'
section
variable {X : Cx}
theorem pe_fill {mk : Addr → HO} {add : Addr → V → Hp → (Hp → Prop) → Prop} {elt tg iter : Expr} {ifs : List Expr} {scope : Scope} {own : List (PySem.Str × Nat)} {pos : Pos} {wi : TI} {g : TG} {tt : TT} {te : TE} (F : Fill X mk add) (hc : X.calm = true) (hN : X.N.Nodup) (hi : PI X tg iter wi) (ok : BlkOk X.N X.env.scope scope own)
    (hg : ∀ s H C cl fp, PG (X.blk s H scope (compEnvC scope cl C X.env) fp) tg g)
    (ht : ∀ s H C cl fp, PTs (X.blk s H scope (compEnvC scope cl C X.env) fp) ifs tt)
    (he : ∀ s H C cl fp, PE (X.blk s H scope (compEnvC scope cl C X.env) fp) elt te) (hs : ∀ x, foldedSetIterable iter X.env x = pure x := by intro _; rfl) :
    PE X (.SetComp elt [⟨tg, iter, ifs, 0⟩] scope pos) (tFill mk add wi g tt te (own.map (·.2))) := by
  refine ⟨fun pins s σ H Q I h => ?_⟩
  rw [PpSet.eval_SetComp]
  have cellsThere : ∀ y ∈ scope.names, y.2 = .free → ∃ c, X.env.cells.lookup y.1 = some c := fun y hy e => (ok.free y hy e).elim (fun k => I.ok.has _ (.inl k)) fun k => I.ok.has _ (.inr k)
  refine wpAny_comprehension_free rfl hs (closure_ok cellsThere) ok.kind (fun y hy e => (ok.uniq y hy).trans (congrArg some e)) (thn (hi.run pins s σ H _ I h) fun _ _ hx => thn hx fun _ t ht0 => ?_)
  obtain ⟨it, fp, tn, J, G, rfl, I2, T, begun, free2, q⟩ := ht0
  refine PpSet.newSet_ok (newEnv_comp ?_)
  have Dfree : G t.heap.objs.size = none := I2.hok.fresh (Nat.le_refl _)
  obtain ⟨W, ⟨m0, w0⟩, turn⟩ := q _ Dfree
  have fpLow : ∀ b ∈ fp, b < t.heap.objs.size := fun b hb => let ⟨_, e, _⟩ := T.obj _ _ begun b hb; Heap.lt_size e
  have old : ∀ b o, t.heap.get? b = some o → (t.heap.push (emptySet X.w)).get? b = some o := fun b o e => Heap.get?_push_of_some _ e
  have I3 : Inv X pins σ (upd G t.heap.objs.size (mk t.heap.objs.size)) { t with heap := t.heap.push (emptySet X.w), toks := t.toks } :=
    I2.laid old (Nat.le_refl _) (F.begins _ _ _ (Heap.get?_push_size _ rfl))
  have size3 : (t.heap.push (emptySet X.w)).objs.size = t.heap.objs.size + 1 := Heap.size_push ..
  -- names for what the block starts with
  generalize eD : t.heap.objs.size = D at *
  generalize eG : upd G D (mk D) = G3 at *
  generalize es : ({ t with heap := t.heap.push (emptySet X.w) } : Shared) = u at *
  have hu : u.heap = t.heap.push (emptySet X.w) := by rw [← es]
  have fpOk3 : ∀ b ∈ fp, FpOk X pins G3 b ∧ b < u.heap.objs.size := fun b hb => by
    refine ⟨⟨?_, (free2 b hb).2⟩, by rw [hu, size3]; exact Nat.lt_succ_of_lt (fpLow b hb)⟩
    rw [← eG, upd_ne (Nat.ne_of_lt (fpLow b hb))]
    exact (free2 b hb).1
  have tn3 : tn 0 u.heap := T.keep _ _ _ begun fun b _ o e => by rw [hu]; exact old b o e
  have I4 := block_start I3 ok hN fpOk3
  have gG := hg u G3 u.heap.objs.size (cellsFrom (u.heap.objs.size + 1) scope.names (cloFrom X.env.cells scope.names [])) fp
  have gT := ht u G3 u.heap.objs.size (cellsFrom (u.heap.objs.size + 1) scope.names (cloFrom X.env.cells scope.names [])) fp
  have gE := he u G3 u.heap.objs.size (cellsFrom (u.heap.objs.size + 1) scope.names (cloFrom X.env.cells scope.names [])) fp
  show codeAny _ _ (.compStart _ 0 (.ref it) (.ref D) (compEnvC scope (cellsFrom (u.heap.objs.size + 1) scope.names (cloFrom X.env.cells scope.names [])) u.heap.objs.size X.env)) (compPost (model X.prog X.w) X.A X.xe none (EP X pins σ Q) (.ref D) u.heap.objs.size) { u with heap := pushCells (u.heap.push { cls := .type "dict", data := .dict #[] }) scope.names }
  generalize eB : compEnvC scope (cellsFrom (u.heap.objs.size + 1) scope.names (cloFrom X.env.cells scope.names [])) u.heap.objs.size X.env = B at *
  have BL : B.locals = u.heap.objs.size := by rw [← eB]; rfl
  generalize ev : ({ u with heap := pushCells (u.heap.push { cls := .type "dict", data := .dict #[] }) scope.names } : Shared) = v at *
  have tn4 : tn 0 v.heap := T.keep _ _ _ tn3 fun b _ o e => by rw [← ev]; exact pushCells_keeps _ _ _ _ (Heap.get?_push_of_some _ e)
  have apart : ∀ {ρ : L2.St} {H' : Hp} {s' : Shared}, Inv (X.blk u G3 scope B fp) [] ρ H' s' → (∀ b ∈ fp, H' b = none) → ∀ b ∈ fp, FpOk (X.blk u G3 scope B fp) [] H' b := fun {ρ H' s'} K n b hb =>
    ⟨n b hb, (K.ok.exf b hb).1, K.ok.exfs b hb, .inl hb, fun x c e => (K.ok.exf b hb).2 x c e, fun p hp => (List.not_mem_nil (List.mem_append.mp hp |>.elim id id)).elim⟩
  suffices loop : codeAny (model X.prog X.w) X.A (.compLoop (.SetComp elt [⟨tg, iter, ifs, 0⟩] scope pos) 0 (.ref it) (.ref D) B) (compPost (model X.prog X.w) X.A X.xe none (EP X pins σ Q) (.ref D) u.heap.objs.size) v from
    PpSet.codeAny_compStart_set loop (T.self X.A 0 _ _ _ tn4 loop)
  refine PpSet.compLoopS_any (fun n s' => ∃ i H', Inv (X.blk u G3 scope B fp) [] (wipe σ (own.map (·.2))) H' s' ∧ tn i s'.heap ∧ (∀ b ∈ fp, H' b = none) ∧ W i n H') ?_ m0 ⟨0, G3, I4, tn4, fun b hb => (fpOk3 b hb).1.1, w0⟩
  rintro n s5 ⟨i, H5, I5, t5, n5, w5⟩
  rcases turn i n H5 w5 with ⟨stop, won⟩ | ⟨go, Nx, hNx, step⟩
  · refine thnF (T.done (X.blk u G3 scope B fp) rfl rfl rfl hc i [] s5 _ H5 (fun _ _ => False) I5 (apart I5 n5) t5 stop) fun r s6 ⟨er, I6⟩ => ?_
    subst er
    have I7 : Inv X pins σ H5 s6 := I3.call' (ch := fp) I6.os I6.base I6.hok I6.bare fun b hb => let f := (fpOk3 b hb).1; ⟨f.2.2.2.1, f.2.1, f.2.2.2.2.1, f.2.2.2.2.2⟩
    have clear : H5 u.heap.objs.size = none := by rw [← BL]; exact I6.free
    obtain ⟨m, ns, _⟩ := I6.loc
    have ns' : s6.heap.Ns u.heap.objs.size m := by rw [← BL]; exact ns
    obtain ⟨f0, f1, f2, f3, f4, f5⟩ := I3.fpOk (Nat.le_refl _) clear
    exact ⟨m, ns', fun h'' sb => ⟨.ref D, H5, I7.turned (t' := s6.toks) (fun b o hb e => (sb.2 b hb).trans e) f0 f1 f3 f4 f5, rfl, won⟩⟩
  · refine thnF (T.item (X.blk u G3 scope B fp) rfl rfl rfl hc i [] s5 _ H5 (fun _ _ => False) I5 (apart I5 n5) t5 go) fun r s6 ⟨z, er, h6⟩ => ?_
    subst er
    refine thnF h6 fun _ s7 ⟨x, H7, I7, r7, y7, t7, n7⟩ => ?_
    refine thnF (gG.run _ s7 _ H7 x z _ (I7.pinned (apart I7 n7) (T.obj _ _ t7)) r7 (step x H7 y7)) fun _ s8 ⟨ρ, H8, I8, wr, q8⟩ => ?_
    refine thnF (gT.run _ s8 ρ H8 _ I8 q8) fun b s9 ⟨H9, I9, q9⟩ => ?_
    have again : ∀ s' H', Inv (X.blk u G3 scope B fp) ([] ++ pinsAt fp s7.heap) ρ H' s' → Nx H' → ∃ m, m < n ∧ ∃ i H', Inv (X.blk u G3 scope B fp) [] (wipe σ (own.map (·.2))) H' s' ∧ tn i s'.heap ∧ (∀ b ∈ fp, H' b = none) ∧ W i m H' := fun s' H' K nx => by
      obtain ⟨m', lt, w'⟩ := hNx H' nx
      have stands : ∀ b ∈ fp, ∀ o, s7.heap.get? b = some o → s'.heap.get? b = some o ∧ H' b = none := fun b hb o e => let z := K.pin (b, o) (List.mem_append_right _ (List.mem_append_right _ (mem_pinsAt hb e))); ⟨z.1, z.2.1⟩
      refine ⟨m', lt, i + 1, H', (K.unpinned (pins := [])).weak (by rw [← wr, wipe_length]) (fun j v e => (wipe_some (by rw [← wr] at e; exact e)).1), T.keep _ _ _ t7 fun b hb o e => (stands b hb o e).1, fun b hb => ?_, w'⟩
      obtain ⟨o, e, _⟩ := T.obj _ _ t7 b hb
      exact (stands b hb o e).2
    cases b with
    | false => exact again _ _ I9 q9
    | true =>
      refine thnF (gE.run _ s9 ρ H9 _ I9 q9) fun zz s10 ⟨yv, H10, I10, r10, ad⟩ => ?_
      exact F.puts (X.blk u G3 scope B fp) _ ρ H10 s10 D yv zz Nx _ _ rfl rfl rfl rfl I10 r10 ad fun s' H' K nx => again s' H' K nx
end
end BaR

namespace BaR
open PySem PySem.Spec PyProof.Rows L2
/-! ### a set of ints by what was put in -/
def stI (l : List Int) : HO := .set (fun k => decide (k ∈ l)) (BA.dd l).length
theorem stI_add (l : List Int) (c : Int) : HO.set (fun j => decide (j ∈ l) || decide (j = c)) (if decide (c ∈ l) = true then (BA.dd l).length else (BA.dd l).length + 1) = stI (l ++ [c]) := by
  unfold stI
  rw [BA.dd_len_snoc]
  have e : (fun j => decide (j ∈ l) || decide (j = c)) = fun k => decide (k ∈ l ++ [c]) := by
    funext j
    rw [Bool.eq_iff_iff]; simp
  rw [e]
  by_cases h : c ∈ l
  · rw [if_pos (decide_eq_true h), if_pos h]
  · rw [if_neg (by simpa using h), if_neg h]
def addI : Addr → V → Hp → (Hp → Prop) → Prop := fun D y H Nx => ∃ (c : Int) (l : List Int), y = .int c ∧ H D = some (stI l) ∧ l.length < 1000 ∧ Nx (upd H D (stI (l ++ [c])))
def addT (K : PySem.W.Frag) (P : Program) (w : World) : Addr → V → Hp → (Hp → Prop) → Prop := fun D y H Nx => ∃ (T : Addr) (k : List Int) (L : List (Addr × List Int)), y = .ref T ∧ SqT K H T (k.map V.int) ∧ H D = some (SetTO P w D L) ∧
  (∀ p ∈ L, SqT K H p.1 (p.2.map V.int)) ∧ L.length + 1 < 64 ∧ ∀ L', (k ∈ L.map (·.2) → L' = L) → (k ∉ L.map (·.2) → L'.Perm ((T, k) :: L)) → Nx (upd H D (SetTO P w D L'))
section
variable {X : Cx}
theorem fillI : Fill X (fun _ => stI []) addI where
  begins := fun H h D ho => ⟨_, #[], 0, _, ho, ⟨rfl, rfl, rfl⟩, rfl, (fun e he => by simp at he), (fun k => by simp), (by decide), (by rfl), rfl⟩
  puts := by
    intro Y pins σ H s D y z Nx E Q e1 e2 e3 e4 I r ⟨c, l, ey, hD, hl, nx⟩ fin
    subst ey
    obtain ⟨tk, rfl⟩ := r
    have hr : (BA.dd l).length + 1 < scanBound := by
      have h4 : scanBound = 4096 := rfl
      have := BA.dd_le l
      omega
    refine addI_ok I (S := fun k => decide (k ∈ l)) (n := (BA.dd l).length) hD hr fun s' J => fin s' _ J ?_
    rw [stI_add]
    exact nx
theorem fillT (hu : X.A.units + 64 < cLine) : Fill X (fun D => SetTO X.prog X.w D []) (addT X.K X.prog X.w) where
  begins := fun H h D ho => setTO_new (setTR_fresh (P := X.prog) (w := X.w) ho).t0
  puts := by
    intro Y pins σ H s D y z Nx E Q e1 e2 e3 e4 I r ⟨T, k, L, ey, hT, hD, ht, room, nx⟩ fin
    subst ey
    cases r
    rw [← e1, ← e2] at hD nx
    rw [← e3] at hT ht
    exact addT_ok I (by rw [e4]; exact hu) hD hT ht room fun s' L' c1 c2 J => fin s' _ J (nx L' c1 c2)
/-- set(xs), xs a list of ints -/
theorem step_is_ins (acc : List Int) (x : Int) : step_dedup acc x = BA.ins acc x := by
  unfold step_dedup BA.ins
  by_cases h : x ∈ acc
  · rw [if_pos h, if_pos (show acc.any (· == x) = true from List.any_eq_true.2 ⟨x, h, beq_self_eq_true x⟩)]
  · rw [if_neg h, if_neg]
    intro z
    obtain ⟨y, hy, e⟩ := List.any_eq_true.1 z
    exact h (eq_of_beq e ▸ hy)
theorem firstMet_dd (ns : List Int) : firstMet (fun i => ns.getD i 0) ns.length = BA.dd ns := by
  unfold firstMet BA.dd
  rw [BA.map_range_getD, show (step_dedup : List Int → Int → List Int) = BA.ins from funext fun a => funext fun b => step_is_ins a b]
theorem cr_setI (hc : X.calm = true) : CallR X (.type "set") (fun xs H Q => ∃ (l : Addr) (ns : List Int), xs = [.ref l] ∧ SqL X.K H l (ns.map V.int) ∧ ns.length < 1000 ∧ ∀ a, H a = none → Q (.ref a) (upd H a (stI ns))) := by
  intro pins s σ H xs us Q I r h
  obtain ⟨l, ns, rfl, hl, hf, q⟩ := h
  rw [Vals.ref1 r]
  obtain ⟨its, rv, pl, hz⟩ := I.list hl
  have hlen : its.toArray.size = ns.length := by rw [List.size_toArray, ← rv.length, List.length_map]
  refine call_set_list (I.ok.hd hc) pl.isList (ns := ns) (by simpa using rv.ints) (by have h4 : scanBound = 4096 := rfl; omega) fun h' tk hS hk => ?_
  rw [hlen, firstMet_dd] at hS
  have he : (fun k' => (BA.dd ns).any (· == k')) = fun k => decide (k ∈ ns) := by
    funext k
    by_cases h : k ∈ ns
    · rw [decide_eq_true h]
      exact List.any_eq_true.2 ⟨k, BA.mem_dd.2 h, beq_self_eq_true k⟩
    · rw [decide_eq_false h]
      cases e : (BA.dd ns).any (· == k) with
      | false => rfl
      | true =>
        obtain ⟨y, hy, e2⟩ := List.any_eq_true.1 e
        exact absurd (BA.mem_dd.1 (eq_of_beq e2 ▸ hy)) h
  rw [he] at hS
  have keep : ∀ b o, s.heap.get? b = some o → h'.get? b = some o := fun b o e => hk b o (Heap.lt_size e) e
  exact ⟨.ref s.heap.objs.size, _, I.laid (t' := tk) (o := stI ns) keep (Nat.le_refl _) hS, rfl, q _ (I.hok.fresh (Nat.le_refl _))⟩

/-! ### {e} -/
def tSet1 (te : TE) : TE := fun σ H Q => ∀ D, H D = none → te σ (upd H D (stI [])) fun y H1 => ∃ c, y = .int c ∧ H1 D = some (stI []) ∧ Q (.ref D) (upd H1 D (stI [c]))
theorem pe_set1 {e : Expr} {te : TE} {pos : Pos} (hcd : PySem.W.kdsCode X.K X.env.code = true) (he : PE X e te) (hp : [e].all PySem.W.kdsPlain = true := by rfl) : PE X (.Set [e] 0 pos) (tSet1 te) := by
  refine ⟨fun pins s σ H Q I h => ?_⟩
  rw [arm_eval_Set]
  refine wpAny_bind (wpAny_standAt ?_)
  refine wpAny_bind (PySem.W.kds_main I.kIn hcd fun b => ?_)
  rw [PySem.W.kds_star [e] hp, List.map_map]
  refine PySem.W.kds_core (ts := (evalEach [e] X.env).map fun t => do let v ← t; standAt pos; pure v) rfl rfl (by rw [List.length_map, PySem.W.kds_len]; show 1 ≤ 30; decide) (by rw [List.map_map]; try rfl) fun led => ?_
  refine PySem.W.kds_all pos [e] _ _ ?_
  have Dn : H s.heap.objs.size = none := I.hok.fresh (Nat.le_refl _)
  have I1 : Inv X pins σ (upd H s.heap.objs.size (stI [])) { s with heap := s.heap.push { cls := .type "set", dict := none, data := .set #[] 0 (.fresh 0 0 led) }, toks := s.toks } :=
    I.laid (fun b o q => Heap.get?_push_of_some _ q) (Nat.le_refl _) ⟨_, #[], 0, _, Heap.get?_push_size _ rfl, ⟨rfl, rfl, rfl⟩, rfl, (fun e he => by simp at he), (fun k => by simp), (by decide), (by rfl), rfl⟩
  show wpAny _ _ (eval e X.env) _ _ _
  refine thn (he.run pins _ σ _ _ I1 (h _ Dn)) fun v s1 ⟨y, H1, I2, r, c, ey, hD, q⟩ => ?_
  subst ey
  obtain ⟨tk, rfl⟩ := r
  refine PySem.W.kds_fill_cons ?_
  have R := setI_get (S := fun k => decide (k ∈ ([] : List Int))) (n := 0) I2 hD
  unfold setAdd
  refine wpAny_holding (wpAny_bind ((intKind X.prog X.w).pyHash (intKind_is X.prog X.w c tk) ?_))
  refine wpAny_setAddHashed_of (s := { s1 with toks := s1.toks + 1 }) (intKind_is X.prog X.w c tk) rfl R (by decide) fun h' sb new => ?_
  refine PySem.W.kds_fill_nil rfl ?_
  have he : ∃ u, h'.get? s.heap.objs.size = some u := by
    obtain ⟨o, _, _, _, ho, _⟩ := new
    exact ⟨o, ho⟩
  have J := I2.write (e := s.heap.objs.size) (t' := s1.toks + 1) (o := HO.set (fun j => decide (j ∈ ([] : List Int)) || decide (j = c)) (if decide (c ∈ ([] : List Int)) = true then 0 else 0 + 1)) (by rw [hD]; trivial) (.inl rfl) (fun b u hb hu => (sb.2 b hb).trans hu) he new
  have e2 : HO.set (fun j => decide (j ∈ ([] : List Int)) || decide (j = c)) (if decide (c ∈ ([] : List Int)) = true then 0 else 0 + 1) = stI [c] := stI_add [] c
  rw [e2] at J
  exact ⟨.ref s.heap.objs.size, _, J, rfl, q⟩

/-! ### two sets of one int each, alike -/
theorem entry_set_ne : entryFor table "set.__ne__" = some Builtin.«frozenset.__ne__» :=
  entryFor_alias (id' := "frozenset.__ne__") (by kernel_rfl) rfl (by decide +kernel) (by kernel_rfl)
theorem one_elem {P : Program} {w : World} {S : Int → Bool} {es : Array (Int × Value)} (hel : ElemsOf (intKind P w) es.toList) (hm : ∀ k, S k = true ↔ ∃ e ∈ es.toList, (intKind P w).is k e.2 = true) (hn : es.size = 1) {k : Int} (hk : S k = true) :
    ∃ tk, es.toList = [((intKind P w).hash k, Value.int k tk)] := by
  have hl : es.toList.length = 1 := by rw [Array.length_toList]; exact hn
  obtain ⟨e, he⟩ := List.length_eq_one_iff.mp hl
  obtain ⟨e', he', hi⟩ := (hm k).1 hk
  rw [he] at he' hel
  have ee := List.mem_singleton.1 he'
  subst ee
  obtain ⟨⟨k', h1, h2⟩, _⟩ := hel e' (List.mem_singleton.2 rfl)
  obtain ⟨h3, v⟩ := e'
  have ek := (intKind P w).inj v k k' hi h1
  subst ek
  obtain ⟨tk, ev⟩ := Value.isInt_shape (k := k) (v := v) hi
  refine ⟨tk, ?_⟩
  rw [he]
  have h2' : h3 = (intKind P w).hash k := h2
  have ev' : v = Value.int k tk := ev
  rw [h2', ev']
theorem sub_set_froz : isSubtype (.type "set") (.type "frozenset") = pure false := by rw [isSubtype_type]; kernel_rfl
/-- both hold k alone: they do not differ -/
def rNe1 : R2 := fun x y H Q => ∃ (a b : Addr) (S S' : Int → Bool) (k : Int), x = .ref a ∧ y = .ref b ∧ H a = some (.set S 1) ∧ H b = some (.set S' 1) ∧ S k = true ∧ S' k = true ∧ Q (.bl false) H
theorem quiet_int {A : Around} {E : Value → Shared → Prop} {P : Program} {w : World} {s : Shared} {k : Int} {tk : Tok} {Q : Bool → Shared → Prop} (h : Q true s) : wpAny (model P w) A (Builtin.Frozenset.quietEq (.int k tk)) Q E s := wpAny_pure h
theorem op_ne1 (hu : X.A.units + 64 < cLine) : OpR X (compareOp .NotEq) rNe1 := by
  intro pins s σ H x y v u Q I rx ry h
  obtain ⟨a, b, S, S', k, rfl, rfl, ha, hb, h1, h2, q⟩ := h
  cases rx
  cases ry
  have Ra := setI_get I ha
  have Rb := setI_get I hb
  obtain ⟨oa, ea, epa, ta, hoa, hexa, hda, hela, hma, hba, hfa, hna⟩ := id Ra
  obtain ⟨ob, eb, epb, tb, hob, hexb, hdb, helb, hmb, hbb, hfb, hnb⟩ := id Rb
  obtain ⟨ka, la⟩ := one_elem hela hma hna h1
  obtain ⟨kb, lb⟩ := one_elem helb hmb hnb h2
  have Ta : s.TypeIs (.ref a) "set" := ⟨oa, hoa, hexa.1⟩
  have Tb : s.TypeIs (.ref b) "set" := ⟨ob, hob, hexb.1⟩
  show wpAny _ _ (richCompare .NotEq (.ref a) (.ref b)) _ _ _
  refine wpAny_richCompare_same_room Ta Tb PySem.F.slot_set_ne ?_ (by omega)
  refine wpAny_call_entry PySem.F.slot_set_ne Ta entry_set_ne ?_ (PySem.F.args_set_ne_2 _ _)
  have fin : ∃ v', Fin.done (.ret (Value.bool false)) = Fin.done (.ret v') ∧ v' ≠ Value.notImplemented ∧ EP X pins σ Q v' s := ⟨.bool false, rfl, (fun z => nomatch z), .bl false, H, I, rfl, q⟩
  show wpAny _ _ (Builtin.Frozenset.slot1 "__ne__" ⟨[.ref a, .ref b], []⟩ >>= _) _ _ _
  refine wpAny_bind (wpAny_of_eq (a := (Value.ref a, Value.ref b)) rfl ?_)
  refine wpAny_bind ?_
  unfold Builtin.Frozenset.isAnySet orM
  refine wpAny_bind (wpAny_isInstance Tb sub_set_self ?_)
  show wpAny _ _ (pure true) _ _ _
  refine wpAny_pure ?_
  rw [if_neg (by decide)]
  show wpAny _ _ (Builtin.Frozenset.addrOf (.ref a) >>= _) _ _ _
  unfold Builtin.Frozenset.addrOf
  refine wpAny_bind (wpAny_pure ?_)
  refine wpAny_bind (wpAny_pure ?_)
  unfold Builtin.Frozenset.sizeOf
  refine wpAny_bind (wpAny_bind (wpAny_setEntries_of hoa hda hfa (wpAny_pure ?_)))
  refine wpAny_bind (wpAny_bind (wpAny_setEntries_of hob hdb hfb (wpAny_pure ?_)))
  rw [hna, hnb]
  refine wpAny_bind ?_
  rw [if_neg (by decide)]
  unfold andM
  refine wpAny_bind (wpAny_bind (wpAny_isInstance Ta sub_set_froz ?_))
  show wpAny _ _ (pure false) _ _ _
  refine wpAny_pure ?_
  rw [if_neg (by decide)]
  show wpAny _ _ (Builtin.Frozenset.subsetOf _ a b) _ _ _
  unfold Builtin.Frozenset.subsetOf Builtin.Frozenset.sizeOf
  refine wpAny_bind (wpAny_bind (wpAny_setEntries_of hoa hda hfa (wpAny_pure ?_)))
  refine wpAny_bind (wpAny_bind (wpAny_setEntries_of hob hdb hfb (wpAny_pure ?_)))
  rw [hna, hnb, if_neg (by decide)]
  refine wpAny_bind (wpAny_setEpoch_of hoa hda hfa ?_)
  unfold Builtin.Frozenset.walkUnseen
  refine wpAny_bind (wpAny_bind (wpAny_setEntries_of hoa hda hfa ?_))
  refine wpAny_bind (wpAny_setEntries_of hob hdb hfb ?_)
  rw [la, lb]
  simp only [List.cons_append, List.nil_append, List.forIn_cons, List.forIn_nil]
  have qe : ∀ (k : Int) (t : Tok), Builtin.Frozenset.quietEq (.int k t) = pure true := fun _ _ => rfl
  simp only [qe, pure_bind, Bool.not_true, Bool.false_eq_true, if_false]
  refine wpAny_pure ?_
  simp only [List.forIn_cons, List.forIn_nil, bind_assoc]
  refine wpAny_bind (wpAny_holding ?_)
  refine wpAny_setFind_of (knd := intKind X.prog X.w) (k := k) (intKind_is X.prog X.w k ka) rfl Rb fun r hr => ?_
  rw [h2] at hr
  have hn : ¬ r.isNone = true := by cases r <;> simp at hr ⊢
  rw [if_neg hn]
  unfold Builtin.Frozenset.unchanged
  simp only [bind_assoc]
  refine wpAny_bind (wpAny_setEpoch_of hoa hda hfa ?_)
  simp only [bne_self_eq_false, Bool.false_eq_true, if_false, pure_bind]
  refine wpAny_pure ?_
  show wpAny _ _ (ret (Value.bool (!true))) _ _ _
  exact wpAny_pure fin
end
end BaR

namespace BaR
open PySem PySem.Spec PyProof.Rows L2
/-! ### enumerate(t), t a tuple -/
/-- enumerate over what begins as B tells, without a start -/
theorem enum_of {v : Value} {o : Obj} {G : Heap → Prop} (B : Begins v o G) :
    Meets (Builtin.«enumerate.__new__» ⟨[.type "enumerate", v], []⟩) (fun _ R s => G s.heap ∧
      R (.ok (.ret (.ref (s.heap.push o).objs.size))) { s with heap := (s.heap.push o).push { cls := .type "enumerate", data := .fields #[.none, .bool false, .ref s.heap.objs.size, rawInt 0, .none, .none] } }) :=
  .of_wp fun prog w A R s h => by
    obtain ⟨hp, gs, dr, tk, os⟩ := s
    obtain ⟨h1, h⟩ := h
    have sb := sub_enumerate
    have it1 : ∀ {A' : Around} {E : Value → Shared → Prop} {Q : Value → Shared → Prop}, Q (.ref hp.objs.size) ⟨hp.push o, gs, dr, tk, os⟩ → wpAny (model prog w) A' (pyIter v) Q E ⟨hp, gs, dr, tk, os⟩ := fun q => B.iter prog w _ _ ⟨hp, gs, dr, tk, os⟩ _ h1 q
    wp_walk using it1
    refine wpAny_stack_any fun st => wpAny_pure ?_
    split
    · rename_i c _ _ _ _ _
      cases (c == Value.type "enumerate") <;> (wp_walk using it1; exact ⟨_, rfl, h⟩)
    · wp_walk using it1
      exact ⟨_, rfl, h⟩
def IteT (K : PySem.W.Frag) (a : Addr) : It :=
  ⟨fun i H => ∃ (xs : List V) (x : V), SqT K H a xs ∧ xs[i]? = some x, fun i H v H' => ∃ T x, v = .ref T ∧ H T = none ∧ H' = upd H T (.tup [.int (i : Nat), x]) ∧ ∀ xs, SqT K H a xs → xs[i]? = some x, fun i H => ∃ xs : List V, SqT K H a xs ∧ xs.length = i⟩
theorem turn_enumT {P : Program} {w : World} {K : PySem.W.Frag} {elts : List Expr} {kk : Nat} {tpos : Pos} (a e it : Addr) :
    Turn P w K (.Tuple elts kk tpos) (IteT K a) [e, it] e (fun i h => (∃ old, IsEnum h e it ((i : Nat) : Int) old) ∧ h.IsTupleIter it a i ∧ e ≠ it) where
  mem := List.mem_cons_self ..
  obj := by
    rintro i h ⟨⟨old, he⟩, ⟨o, ho, hc, hd⟩, _⟩ b hb
    rcases List.mem_cons.1 hb with rfl | hb
    · exact ⟨_, he, fun v q => nomatch q⟩
    · rw [List.mem_singleton.1 hb]
      exact ⟨o, ho, fun v q => by rw [hd] at q; cases q⟩
  keep := by
    rintro i h h' ⟨⟨old, he⟩, hi, hne⟩ k
    exact ⟨⟨old, k e (by simp) _ he⟩, hi.at fun o q => k it (by simp) o q, hne⟩
  item := by
    intro X hP hw hK hc i pins s σ H E I hf st hg
    subst hP hw hK
    obtain ⟨⟨old, he⟩, hit, hne⟩ := st
    obtain ⟨xs, x, hq, hx⟩ := hg
    obtain ⟨its, rv, p, hz⟩ := I.tuple hq
    obtain ⟨u, hu, ru⟩ := rv.get hx
    have eLow : e < s.heap.objs.size := Heap.lt_size he
    have iLow : it < s.heap.objs.size := by obtain ⟨_, q, _⟩ := hit; exact Heap.lt_size q
    have aIt : a ≠ it := fun z => by
      obtain ⟨o1, q1, c1, _⟩ := id p
      obtain ⟨o2, q2, c2, _⟩ := id hit
      rw [z, q2] at q1; cases q1
      rw [c2] at c1; exact absurd (Value.type.inj c1) (by decide)
    have eA : e ≠ a := fun z => by
      obtain ⟨o1, q1, c1, _⟩ := id p
      have q2 := he
      unfold IsEnum at q2
      rw [z, q1] at q2; cases q2
      exact absurd (Value.type.inj c1) (by decide)
    have hlt : i < its.toArray.size := by
      rw [List.size_toArray]
      exact (List.getElem?_eq_some_iff.1 hu).1
    refine wpAny_pyNext_enum_itemD (Draws.tuple (prog := X.prog) (w := X.w) (A := X.A.in1) (I.ok.hd hc) it a aIt its.toArray) he ⟨hit, p⟩ hlt hne (by simp [hne, eA]) fun y h' tk hy out' st' hT hsz hk => ?_
    have ey : y = u := by
      have q : its[i]? = some y := by simpa using hy
      rw [hu] at q
      exact (Option.some.inj q).symm
    subst ey
    refine ⟨_, rfl, wpAny_letOwnedTupleGo_enum (s := { s with heap := h', toks := tk + 1 }) out' fun h'' he' sb => ?_⟩
    have hT2 : h''.get? s.heap.objs.size = some { cls := .type "tuple", data := .seq #[.int i tk, y] } := (sb.2 _ (Nat.ne_of_gt eLow)).trans hT
    have fresh := I.hok.fresh (Nat.le_refl s.heap.objs.size)
    have J := I.turnedNew (t' := tk + 1) (T := s.heap.objs.size) (ob := .tup [.int (i : Nat), x]) (ch := [e, it]) (h' := h'')
      (fun b ob hb q => (sb.2 b fun z => hb (by simp [z])).trans (hk b ob (fun z => hb (by simp [z])) (fun z => hb (by simp [z])) q)) hf (Nat.le_refl _)
      ⟨by show 2 ≤ sizeLine; decide, [.int i tk, y], .cons ⟨_, rfl⟩ (.cons ru .nil), ⟨_, hT2, rfl, _, rfl⟩⟩
    refine ⟨.ref s.heap.objs.size, _, J, rfl, ⟨_, x, rfl, fresh, rfl, fun ys hy => by rw [I.tuple_inj hy hq]; exact hx⟩, ⟨⟨y, ?_⟩, st'.1.at fun o q => (sb.2 it (Ne.symm hne)).trans q, hne⟩, fun b hb => ?_⟩
    · have e1 : ((i + 1 : Nat) : Int) = (i : Int) + 1 := by omega
      rw [e1]
      exact he'
    · have low : b < s.heap.objs.size := by
        rcases List.mem_cons.1 hb with rfl | hb
        · exact eLow
        · rw [List.mem_singleton.1 hb]; exact iLow
      rw [upd_ne (Nat.ne_of_lt low)]
      exact (hf b hb).1
  done := by
    intro X hP hw hK hc i pins s σ H E I hf st hg
    subst hP hw hK
    obtain ⟨⟨old, he⟩, hit, hne⟩ := st
    obtain ⟨xs, hq, hx⟩ := hg
    obtain ⟨its, rv, p, hz⟩ := I.tuple hq
    have aIt : a ≠ it := fun z => by
      obtain ⟨o1, q1, c1, _⟩ := id p
      obtain ⟨o2, q2, c2, _⟩ := id hit
      rw [z, q2] at q1; cases q1
      rw [c2] at c1; exact absurd (Value.type.inj c1) (by decide)
    have hl := rv.length
    obtain ⟨f0, f1, f2, f3, f4, f5⟩ := hf it (by simp)
    have hn : its.toArray.size = i := by rw [List.size_toArray]; omega
    refine wpAny_pyNext_enum_endD (Draws.tuple (prog := X.prog) (w := X.w) (A := X.A.in1) (I.ok.hd hc) it a aIt its.toArray) he ⟨by rw [hn]; exact hit, p⟩ fun h' eb => ⟨rfl, I.turned (t' := s.toks) (fun b o hb q => eb b o hb q) f0 f1 f3 f4 f5⟩
  self := fun A i s Q E st h => let ⟨⟨_, he⟩, _⟩ := st; wpAny_pyIter_enum he h
def iEnumT (K : PySem.W.Frag) (ta : TA) : TI := fun σ H R => ta σ H fun vs H1 => ∃ a xs, vs = [.ref a] ∧ SqT K H1 a xs ∧ R (IteT K a) H1
theorem pi_enumT {X : Cx} {e : Expr} {ta : TA} {p pos tpos : Pos} {elts : List Expr} {kk : Nat} (hg : Gl X "enumerate") (hm : X.mg "enumerate" = none) (ha : PA X [e] ta) (hs : starEach [e] X.env = [(false, eval e X.env)] := by rfl) :
    PI X (.Tuple elts kk tpos) (.Call (.Name "enumerate" p) [e] [] pos) (iEnumT X.K ta) := by
  refine ⟨fun pins s σ H R I h => ?_⟩
  refine Call_ (ld_blt I hg hm boot_enumerate (PyProof.Rows.callWith_type1 (thn (ha.run pos pins s σ H _ I h) fun us t ⟨vs, G, I1, r1, a, xs, ex, hq, q⟩ => ?_) hs rfl))
  subst ex
  rw [Vals.ref1 r1]
  obtain ⟨its, rv, ip, hz⟩ := I1.tuple hq
  have B := begins_tuple a its.toArray
  refine callType_new PySem.F.called_enumerate (by decide) (PySem.F.typeCall_enumerate_1 _) (PySem.F.newCall_enumerate_1 _) (fun obj => PySem.F.args_object_init_2 obj _) PySem.F.entry_enumerate_new (enum_of B) ⟨ip, ?_⟩
  generalize eo : ({ cls := .type "tuple_iterator", data := .fields #[.ref a, .int 0 0] } : Obj) = o
  have z1 : (t.heap.push o).objs.size = t.heap.objs.size + 1 := Heap.size_push ..
  have fr : o.isFreed = false := by rw [← eo]; rfl
  show _ ∧ _
  rw [z1]
  have en : IsEnum ((t.heap.push o).push { cls := .type "enumerate", data := .fields #[.none, .bool false, .ref t.heap.objs.size, rawInt 0, .none, .none] }) (t.heap.objs.size + 1) t.heap.objs.size 0 .none := by
    have y := Heap.get?_push_size (t.heap.push o) (o := { cls := .type "enumerate", data := .fields #[.none, .bool false, .ref t.heap.objs.size, rawInt 0, .none, .none] }) rfl
    rw [z1] at y
    exact y
  refine ⟨⟨_, en, rfl⟩, wpAny_pyIter_enum en ?_⟩
  have kept : ∀ b ob, t.heap.get? b = some ob → ((t.heap.push o).push { cls := .type "enumerate", data := .fields #[.none, .bool false, .ref t.heap.objs.size, rawInt 0, .none, .none] }).get? b = some ob := fun b ob x => Heap.get?_push_of_some _ (Heap.get?_push_of_some _ x)
  refine ⟨t.heap.objs.size + 1, [t.heap.objs.size + 1, t.heap.objs.size], _, _, G, rfl, I1.kept (t' := t.toks) kept, turn_enumT a (t.heap.objs.size + 1) t.heap.objs.size, ⟨⟨.none, en⟩, ⟨_, Heap.get?_push_of_some _ (Heap.get?_push_size _ fr), by rw [← eo], by rw [← eo]; rfl⟩, Nat.succ_ne_self _⟩, fun b hb => ?_, q⟩
  have hle : t.heap.objs.size ≤ b := by
    rcases List.mem_cons.1 hb with rfl | hb
    · exact Nat.le_succ _
    · rw [List.mem_singleton.1 hb]; exact Nat.le_refl _
  exact I1.fpOk hle (I1.hok.fresh hle)

/-! ### t * 1 -/
theorem tup_mul1 (l : Addr) (items : Array Value) (n : Nat) (dd : Option Addr) (sl : Array (Option Value)) (u : Tok) :
    Meets (Builtin.«tuple.__mul__» ⟨[.ref l, .int 1 u], []⟩) (fun _ R s => s.heap.get? l = some { cls := .type "tuple", dict := dd, data := .seq items n, slots := sl } ∧ R (.ok (.ret (.ref l))) s) :=
  .of_wp fun prog w A R s h => by
    obtain ⟨hp, gs, dr, tk, os⟩ := s
    obtain ⟨hl, h⟩ := h
    have f1 := AutoSeq1.idx_int
    have c0 : (decide ((1 : Int) < -(2 ^ 63)) || decide ((1 : Int) ≥ 2 ^ 63)) = false := by decide
    have c1 : (items.isEmpty || (1 : Int) == 1) = true := by simp
    wp_walk using wpAny_loadPart' hl
    exact ⟨_, rfl, h⟩
def rRep1 (K : PySem.W.Frag) : R2 := fun x y H Q => ∃ l xs, x = .ref l ∧ y = .int 1 ∧ SqT K H l xs ∧ Q (.ref l) H
theorem op_rep1 {X : Cx} : OpR X (binaryOp .Mult) (rRep1 X.K) := by
  intro pins s σ H x y v u Q I rx ry h
  obtain ⟨l, xs, rfl, rfl, hT, q⟩ := h
  cases rx
  obtain ⟨t, rfl⟩ := ry
  obtain ⟨its, r, ⟨⟨cls, dd, data, sl⟩, ho, hc, n, hd⟩, hs⟩ := I.tuple hT
  simp only at hc hd
  subst hc hd
  exact wpAny_binaryOp_repeat_ref (T := "tuple") (U := "int") (by decide) ⟨_, ho, rfl⟩ (fun s' => typeIs_int s' 1 t) noFill_tuple_mul PySem.F.fills_int_mul PySem.F.slot_int_rmul repeat_tuple PySem.F.slot_int_index.lookup
    (call_meets PySem.F.slot_int_rmul (typeIs_int s 1 t) PySem.F.entry_int_rmul (PySem.F.args_int_rmul_2 _ _) (int_rmul_tuple 1 t l its.toArray n dd sl)
      ⟨ho, rfl, ⟨_, ho, rfl⟩, call_meets PySem.F.slot_tuple_mul ⟨_, ho, rfl⟩ PySem.F.entry_tuple_mul (PySem.F.args_tuple_mul_2 _ _) (tup_mul1 l its.toArray n dd sl t) ⟨ho, .ref l, H, I, rfl, q⟩⟩)
/-- t * k for a tuple that isn't empty, k from 1 on: the parts one behind the other -/
def rRepK (K : PySem.W.Frag) : R2 := fun x y H Q => ∃ (l : Addr) (k : Int) (xs : List V), x = .ref l ∧ y = .int k ∧ SqT K H l xs ∧ xs ≠ [] ∧ 1 ≤ k ∧ k ≤ 1000 ∧ xs.length ≤ 1000 ∧ ∀ (p : Addr) (H' : Hp), Same H H' → SqT K H' p (List.replicate k.toNat xs).flatten → Q (.ref p) H'
theorem op_repK {X : Cx} : OpR X (binaryOp .Mult) (rRepK X.K) := by
  intro pins s σ H x y v u Q I rx ry h
  obtain ⟨l, k, xs, rfl, rfl, hT, hne, h1, h2, h3, q⟩ := h
  by_cases hk : k = 1
  · subst hk
    exact op_rep1 pins s σ H _ _ v u Q I rx ry ⟨l, xs, rfl, rfl, hT, q l H (Same.refl H) (by simpa using hT)⟩
  · exact op_repT pins s σ H _ _ v u Q I rx ry ⟨l, k, xs, rfl, rfl, hT, hne, by omega, h2, h3, fun p hp => q p _ (fun b o e => by rw [upd_ne (ne_of_none e hp)]; exact e) (SqT.of upd_same)⟩
theorem _root_.L2.Same.tupK {K : PySem.W.Frag} {H H' : Hp} {a : Addr} {xs : List V} (e : Same H H') (h : SqT K H a xs) : SqT K H' a xs := by
  rcases h with (h | ⟨o, h⟩) | h
  · exact .inl (.inl (e _ _ h))
  · exact .inl (.inr ⟨o, e _ _ h⟩)
  · exact .inr h
theorem _root_.L2.Same.newN {H : Hp} {p : Addr} {o : HO} (hp : H p = none) : Same H (upd H p o) := fun b u e => by rw [upd_ne (ne_of_none e hp)]; exact e
theorem _root_.L2.Same.addN {H H1 : Hp} {p : Addr} {o : HO} (s : Same H H1) (hp : H1 p = none) : Same H (upd H1 p o) := s.trans (L2.Same.newN hp)
theorem _root_.L2.Same.putN {H H' : Hp} {p : Addr} {o : HO} (s : Same H H') (hp : H p = none) : Same H (upd H' p o) := fun b u e => by rw [upd_ne (ne_of_none e hp)]; exact s _ _ e

/-! ### comprehensions, over anything: n turns, an invariant by the turn -/
section
variable {J : It} {g : TG} {tt : TT} {te : TE} {vs : List Nat} {σ : L2.St} {H0 : Hp} {put : V → Hp → (Hp → Prop) → Prop} {Qd : Hp → Prop}
theorem turns_by (n : Nat) (Pv : Nat → Hp → Prop) (h0 : Pv 0 H0) (hd : ∀ H, Pv n H → J.stop n H ∧ Qd H)
    (hs : ∀ i H, i < n → Pv i H → J.go i H ∧ ∀ x H', J.yld i H x H' → g x (wipe σ vs) H' fun σ2 H2 => wipe σ2 vs = wipe σ vs ∧ tt σ2 H2 fun b H3 => if b = true then te σ2 H3 fun y H4 => put y H4 (Pv (i + 1)) else Pv (i + 1) H3) :
    Turns J g tt te vs σ H0 put Qd := by
  refine ⟨fun i m H => m = n - i ∧ i ≤ n ∧ Pv i H, ⟨n, rfl, Nat.zero_le _, h0⟩, ?_⟩
  rintro i m H ⟨rfl, hi, p⟩
  rcases Nat.lt_or_ge i n with lt | ge
  · obtain ⟨a, b⟩ := hs i H lt p
    exact .inr ⟨a, Pv (i + 1), fun H' q => ⟨n - (i + 1), by omega, rfl, lt, q⟩, b⟩
  · have e : i = n := by omega
    subst e
    exact .inl (hd H p)
end
/-- the list comprehension, told by Turns -/
def putL : Addr → V → Hp → (Hp → Prop) → Prop := fun D y H Nx => ∃ acc, H D = some (.lst acc) ∧ acc.length < sizeLine ∧ Nx (upd H D (.lst (acc ++ [y])))
def tLC (wi : TI) (g : TG) (tt : TT) (te : TE) (vs : List Nat) : TE := fun σ H Q => wi σ H fun J H1 => ∀ D, H1 D = none → Turns J g tt te vs σ (upd H1 D (.lst [])) (putL D) fun H' => Q (.ref D) H'
theorem pe_LC {X : Cx} {elt tg iter : Expr} {ifs : List Expr} {scope : Scope} {own : List (PySem.Str × Nat)} {pos : Pos} {wi : TI} {g : TG} {tt : TT} {te : TE} (hc : X.calm = true) (hN : X.N.Nodup) (hi : PI X tg iter wi) (ok : BlkOk X.N X.env.scope scope own)
    (hg : ∀ s H C cl fp, PG (X.blk s H scope (compEnvC scope cl C X.env) fp) tg g) (ht : ∀ s H C cl fp, PTs (X.blk s H scope (compEnvC scope cl C X.env) fp) ifs tt) (he : ∀ s H C cl fp, PE (X.blk s H scope (compEnvC scope cl C X.env) fp) elt te)
    (hs : ∀ x, foldedSetIterable iter X.env x = pure x := by intro _; rfl) : PE X (.ListComp elt [⟨tg, iter, ifs, 0⟩] scope pos) (tLC wi g tt te (own.map (·.2))) :=
  pe_lc hc hN hi ok hg ht he hs
theorem ps_LC {X : Cx} {i : Nat} {y : Str} {py : Pos} {elt tg iter : Expr} {ifs : List Expr} {scope : Scope} {own : List (PySem.Str × Nat)} {pos spos : Pos} {wi : TI} {g : TG} {tt : TT} {te : TE} (hc : X.calm = true) (hN : X.N.Nodup) (hy : X.N[i]? = some y) (hyl : X.env.scope.names.lookup y = some .local)
    (hsw : swapsWith (.ListComp elt [⟨tg, iter, ifs, 0⟩] scope pos) (some (.Name y py)) spos.line X.env = pure true) (hi : PI X tg iter wi) (ok : BlkOk X.N X.env.scope scope own)
    (hg : ∀ s H C cl fp, PG (X.blk s H scope (compEnvC scope cl C X.env) fp) tg g) (ht : ∀ s H C cl fp, PTs (X.blk s H scope (compEnvC scope cl C X.env) fp) ifs tt) (he : ∀ s H C cl fp, PE (X.blk s H scope (compEnvC scope cl C X.env) fp) elt te)
    (hs : ∀ x, foldedSetIterable iter X.env x = pure x := by intro _; rfl) : PS X (.Assign [.Name y py] (.ListComp elt [⟨tg, iter, ifs, 0⟩] scope pos) spos) (tAsg (tLC wi g tt te (own.map (·.2))) (gName i)) :=
  ps_setLc hc hN hy hyl hsw hi ok hg ht he hs
end BaR

/-! ### rules with the written part named, for use within comprehensions -/
namespace BaR
open PySem PySem.Spec PyProof.Rows L2
def rLenS (K : PySem.W.Frag) : List V → Hp → VK → Prop := fun xs H Q => ∃ p ys, xs = [V.ref p] ∧ (SqL K H p ys ∨ SqT K H p ys) ∧ Q (.int ys.length) H
def rSetI (K : PySem.W.Frag) : List V → Hp → VK → Prop := fun xs H Q => ∃ (l : Addr) (ns : List Int), xs = [.ref l] ∧ SqL K H l (ns.map V.int) ∧ ns.length < 1000 ∧ ∀ a, H a = none → Q (.ref a) (upd H a (stI ns))
def rLenI : List V → Hp → VK → Prop := fun xs H Q => ∃ (a : Addr) (S : Int → Bool) (n : Nat), xs = [.ref a] ∧ H a = some (.set S n) ∧ Q (.int n) H
theorem ck_len (K : PySem.W.Frag) {X : Cx} (e : X.K = K := by rfl) : CallR X (.builtin "len") (rLenS K) := by
  subst e
  exact call_len_seq
theorem ck_setI (K : PySem.W.Frag) {X : Cx} (hc : X.calm = true) (e : X.K = K := by rfl) : CallR X (.type "set") (rSetI K) := by
  subst e
  exact cr_setI hc
theorem ck_lenI {X : Cx} : CallR X (.builtin "len") rLenI := cr_lenI
theorem ck_minT (K : PySem.W.Frag) {X : Cx} (hc : X.calm = true) (e : X.K = K := by rfl) : CallR X (.builtin "min") (rMinT K) := by
  subst e
  exact cr_minT hc
theorem ixk_tup (K : PySem.W.Frag) {X : Cx} (e : X.K = K := by rfl) : IxR X (rIxT K) := by
  subst e
  exact ix_tup
/-- two names for the two items of a tuple, within a comprehension -/
def gTup2 (K : PySem.W.Frag) (i j : Nat) : TG := fun v σ H Q => ∃ (a : Addr) (x y : V), v = .ref a ∧ SqT K H a [x, y] ∧ Q ((σ.set i (some x)).set j (some y)) H
theorem pg_tup2 (K : PySem.W.Frag) {X : Cx} {i j : Nat} {x y : Str} {p1 p2 pos : Pos} {k : Nat} (hc : X.calm = true) (hN : X.N.Nodup) (hi : X.N[i]? = some x) (hj : X.N[j]? = some y) (hx : Loc X.env.scope x) (hy : Loc X.env.scope y)
    (e : X.K = K := by rfl) (fx : X.fn x = true ∨ X.env.scope.names.lookup x = some .local := by first | exact .inl rfl | exact .inr rfl) (fy : X.fn y = true ∨ X.env.scope.names.lookup y = some .local := by first | exact .inl rfl | exact .inr rfl) :
    PG X (.Tuple [.Name x p1, .Name y p2] k pos) (gTup2 K i j) := by
  subst e
  have h := pg_tup (pos := pos) (k := k) hc (pgs_cons (pg_name (i := i) (pos := p1) hN hi hx fx) (pgs_cons (pg_name (i := j) (pos := p2) hN hj hy fy) pgs_nil)) (by rfl) (by rfl)
  refine ⟨fun pins s σ H v u Q I r ⟨a, x', y', ev, ht, q⟩ => h.run pins s σ H v u Q I r ?_⟩
  exact ⟨a, _, ev, ht, rfl, _, _, rfl, _, _, rfl, rfl, q⟩
end BaR

namespace BaR
open PySem L2
/-! ### the text by places -/
def top (i : Nat) : Stmt := PySem.Challenge.pw_burstapart_k81_whole_copies_behind_one_a.main.body.getD i (.Pass ⟨0, 0, 0, 0⟩)
abbrev sTmInit : Stmt := inClass (top 4) 0
abbrev sIsInteger : Stmt := top 8
abbrev sIsBetween : Stmt := top 9
abbrev sIsOnto : Stmt := top 10
abbrev sIsTable : Stmt := top 11
abbrev sNeedTable : Stmt := top 12
abbrev sNeedInteger : Stmt := top 13
abbrev sHoldOf : Stmt := top 14
abbrev sOutOf : Stmt := top 15
abbrev sHeldOf : Stmt := top 16
abbrev sShortened : Stmt := top 17
abbrev sOutAt : Stmt := top 18
abbrev sHeld : Stmt := top 19
abbrev sCommonOf : Stmt := top 21
abbrev sChained : Stmt := top 22
abbrev sCircleFrom : Stmt := top 23
abbrev sPaceOf : Stmt := top 24
abbrev sCircles : Stmt := top 25
abbrev sStraight : Stmt := top 26
abbrev sCell : Stmt := top 28
abbrev sPen : Stmt := top 29
abbrev sDraw : Stmt := top 30
abbrev sTable : Stmt := top 31
abbrev sSums : Stmt := top 32
abbrev sChRight : Stmt := top 33
abbrev sRight : Stmt := top 34
abbrev sLaw : Stmt := top 35
end BaR

/-! ### TooMany(amount, limit): a class over an own class over Exception; its __init__ says super().__init__(a text), then two stores -/
namespace BaX
open PySem PySem.W PySem.Calls PyProof.Rows PySem.HandSPX PySem.ESX
abbrev tmTail (B : Addr) : List Value := .ref B :: exTail
theorem tail_of (B : Addr) (X : String) : (tmTail B).contains (.type X) = exTail.contains (.type X) := by
  show ((Value.type X == Value.ref B) || exTail.contains (.type X)) = _
  rfl
section
open Builtin Builtin.ObjectAttr
variable {prog : Program} {w : World} {A : Around} {E : Value → Shared → Prop} {R : Result → Shared → Prop} {hp : Heap} {g : Array GenState} {d : Drawn} {t : Nat} {os : OsState}
/-- object.__setattr__ on such an instance: to its own dict -/
theorem osa2 {K : W.Frag} {name : Str} {tk : Tok} {v : Value} {x C B : Addr} {ox : Obj} {od : Option Obj} {cd : ClassData}
    (X : K.In hp) (I : W.InstAt hp x ox C od) (hcd : W.clsIn K C = some cd) (hm : cd.mro = .ref C :: tmTail B) (ha : W.findIn K (.ref C) name = some none)
    (hq : wpAny (model prog w) A.in1 (storeInOwnDict (.ref x) (.ref C) (.str name tk) name v false)
      (fun fin s' => match fin with | .done f => R (.ok f) s' | .again c' => c'.quiet = true ∧ codeAny (model prog w) A c' R s') (fun e s' => R (.error e) s') ⟨hp, g, d, t, os⟩) :
    codeAny (model prog w) A (.call (.builtin "object.__setattr__") ⟨[.ref x, .str name tk, v], []⟩) R ⟨hp, g, d, t, os⟩ := by
  have SF := PySem.F.store_object
  have hob : cd.mro.contains (.type "object") = true := by rw [hm]; rfl
  have sub : W.Looks (model prog w) hp (isInstance (.ref x) (.type "object")) true := I.type.andThen (W.looks_mroIn X (by
    unfold W.mroIn
    rw [hcd, Option.bind_some, if_neg (by rw [hm]; exact Bool.false_ne_true), hob]))
  refine codeAny_call_builtin SF.slot.plain SF.entry (@W.check_slot (model prog w) _ _ ⟨hp, g, d, t, os⟩ "object.__setattr__" "object" "__setattr__" (.ref x) [.str name tk, v] [] _ SF.kind SF.split sub (SF.args (.ref x) (.str name tk) v) ?_)
  have m1 : W.Looks (model prog w) hp (mroOf (.ref C)) cd.mro := (W.looks_clsIn X hcd).andThen .now
  have m2 : W.Looks (model prog w) hp (storeTaker? none) none := .now
  rw [W.osa_eq, refuse_eq]
  refine wpAny_bind (wpAny_bind (I.type.at (wpAny_bind (m1.at ?_))))
  rw [show refuseLoop (.ref x) "__setattr__" cd.mro = pure () by
    rw [hm, refuseLoop_ref, refuseLoop_ref]
    exact PySem.F.store_Exception.passes _]
  exact wpAny_pure (wpAny_bind (I.type.at (wpAny_bind ((W.looks_findIn X ha).at (wpAny_bind (m2.at hq))))))
/-- the first store: a dict comes -/
theorem osa2_new {K : W.Frag} {name : Str} {tk : Tok} {v : Value} {x C B : Addr} {fv : Array Value} {cd : ClassData}
    (X : K.In hp) (hx : hp.get? x = some { cls := .ref C, data := .fields fv }) (hcd : W.clsIn K C = some cd) (hm : cd.mro = .ref C :: tmTail B) (hh : cd.hasDict = true) (ha : W.findIn K (.ref C) name = some none)
    (hq : ∀ h' tk' dx, (∀ b o, b ≠ x → hp.get? b = some o → h'.get? b = some o) → hp.objs.size ≤ dx → dx ≠ x → h'.get? x = some { cls := .ref C, dict := some dx, data := .fields fv } → h'.Ns1 dx (fun y => if y = name then some v else none) → R (.ok (.ret .none)) ⟨h', g, d, tk', os⟩) :
    codeAny (model prog w) A (.call (.builtin "object.__setattr__") ⟨[.ref x, .str name tk, v], []⟩) R ⟨hp, g, d, t, os⟩ := by
  have I : W.InstAt hp x { cls := .ref C, data := .fields fv } C none := ⟨hx, rfl, rfl, trivial⟩
  have low : x ≠ hp.objs.size := Nat.ne_of_lt (Heap.lt_size hx)
  refine osa2 X I hcd hm ha ?_
  have cl : W.Looks (model prog w) hp (classData C) cd := W.looks_clsIn X hcd
  obtain ⟨nm, bs, mro, ns, qn, hd, sn, sb, ab, col, del⟩ := cd
  dsimp only at hh
  subst hh
  unfold storeInOwnDict ownDictForStores
  repeat (first | with_reducible refine HandSPX.store_in_new ?_ ?_ | with_reducible refine wpAny_loadPart_at hx ?_ | with_reducible refine cl.at ?_ | wp_step)
  · exact ⟨_, #[], _, (Heap.get?_update_ne _ _ _ _ low.symm).trans (Heap.get?_push_at rfl rfl), rfl, fun e he => absurd he (by simp), fun _ => rfl⟩
  · intro h' tk' hn' hs
    have hx1 : (hp.push { cls := .type "dict", data := .dict #[] }).get? x = some { cls := .ref C, data := .fields fv } := Heap.get?_push_of_some _ hx
    refine hq h' tk' hp.objs.size (fun b o hb ho => ?_) (Nat.le_refl _) low.symm ?_ hn'
    · exact (hs.2 b (Nat.ne_of_lt (Heap.lt_size ho))).trans ((Heap.get?_update_ne _ _ _ _ hb).trans (Heap.get?_push_of_some _ ho))
    · exact (hs.2 x low).trans (Heap.get?_update_self _ hx1 rfl)
/-- a further store -/
theorem osa2_old {K : W.Frag} {name : Str} {tk : Tok} {v : Value} {x C B dx : Addr} {fv : Array Value} {cd : ClassData} {m0 : Str → Option Value} {nl : List Str}
    (X : K.In hp) (hx : hp.get? x = some { cls := .ref C, dict := some dx, data := .fields fv }) (hns : hp.Ns1 dx m0) (hw : Within m0 nl) (hz : nl.length ≤ 1000) (hcd : W.clsIn K C = some cd) (hm : cd.mro = .ref C :: tmTail B) (hh : cd.hasDict = true)
    (ha : W.findIn K (.ref C) name = some none) (hq : ∀ h' tk', (∀ b o, b ≠ dx → hp.get? b = some o → h'.get? b = some o) → R (.ok (.ret .none)) ⟨h', g, d, tk', os⟩) :
    codeAny (model prog w) A (.call (.builtin "object.__setattr__") ⟨[.ref x, .str name tk, v], []⟩) R ⟨hp, g, d, t, os⟩ := by
  obtain ⟨oD, esD, epD, hoD, hdD, _⟩ := hns.count hw
  have I : W.InstAt hp x { cls := .ref C, dict := some dx, data := .fields fv } C (some oD) := ⟨hx, rfl, rfl, hoD⟩
  refine osa2 X I hcd hm ha ?_
  have cl : W.Looks (model prog w) hp (classData C) cd := W.looks_clsIn X hcd
  obtain ⟨nm, bs, mro, ns, qn, hd, sn, sb, ab, col, del⟩ := cd
  dsimp only at hh
  subst hh
  unfold storeInOwnDict ownDictForStores
  repeat (first | with_reducible refine store_in_old hns hw hz ?_ | with_reducible refine wpAny_loadPart_at hx ?_ | with_reducible refine cl.at ?_ | wp_step)
  intro h' tk' hn' hs
  exact hq h' tk' fun b o hb ho => (hs.2 b hb).trans ho
end
/-! ### the class, as the top has left it -/
structure TmTxt (P : Program) (K : Frag) (mg : Str → Option Value) (C : Addr) : Prop where
  gC : mg "TooMany" = some (.ref C)
  cls : ∃ (B : Addr) (nm q : Str) (N : Addr) (bs : List Value) (sn : List Str) (sub : List Value) (ab : Bool) (col : Option Bool) (dd : Option Addr) (k0 k1 k2 k3 k5 : Option Value), K.lookup C = some (excClassObj nm q C N bs (tmTail B) true sn sub ab col dd k0 k1 k2 k3 k5 "Exception.__new__") ∧
    alongIn K "__init__" (tmTail B) = some (some (.builtin "Exception.__init__"))
  sa : findIn K (.ref C) "__setattr__" = some (some (.builtin "object.__setattr__"))
  n1 : findIn K (.ref C) "amount" = some none
  n2 : findIn K (.ref C) "limit" = some none
  opq : nsIn K cStatics "thirdparty.any" = some none
  slf : subIn K (.ref C) (.ref C) = some true
  exB : subIn K (.ref C) (.type "Exception") = some true
  exC : subIn K (.ref C) (.type "BaseException") = some true
  tyC : typeIn K (.ref C) = some (.type "type")
  kC : keepIn K (.ref C) = true
  isC : isClsIn K C = true
  sup : mg "super" = none
  str : mg "str" = none
  top : (P.main.scope.names.lookup ("super" : Str)).isSome = false
  fn : ∃ (fI cc cda : Addr) (oc : Value) (od : Option Addr) (doc pm : Value) (an : Option Addr) (ct : Value) (osl : Array (Option Value)) (ccl : Value) (cdd : Option Addr) (vs : Array Value) (ccs : Array (Option Value)) (file : Str) (tf : Tok) (cl : Value) (cld : Option Addr) (csl : Array (Option Value)),
    findIn K (.ref C) "__init__" = some (some (.ref fI)) ∧ typeIn K (.ref fI) = some (.type "function") ∧
    K.lookup fI = some ⟨oc, od, .func (ksFn "__init__" "TooMany.__init__" (L2.defArgs BaR.sTmInit) (L2.defBody BaR.sTmInit) (L2.defScope BaR.sTmInit) .none .none doc pm an (.ref cda) ct cc), osl⟩ ∧ codeIn K (.ref cda) "TooMany.__init__" = true ∧
    K.lookup cda = some ⟨ccl, cdd, .fields vs, ccs⟩ ∧ vs[2]? = some (.str file tf) ∧ ((P.main.file : Str) == file) = true ∧ K.lookup cc = some ⟨cl, cld, .cell (some (.ref C)), csl⟩
section
variable {prog : Program} {w : World} {A : Around} {E : Value → Shared → Prop} {R : Result → Shared → Prop} {s : Shared} {K : Frag} {mg mb : Str → Option Value} {C : Addr}
theorem tm_init (T : TmTxt prog K mg C) {fI x t0 : Addr} {a b : Int} {ta tb : Tok} (hfI : findIn K (.ref C) "__init__" = some (some (.ref fI))) (X : K.In s.heap) (hlim : s.heap.NoLimit) (G : s.heap.Ns mainGlobals mg) (Bn : s.heap.Ns builtinsNs mb) (hb : ∀ y : Str, y ≠ "__name__" → mb y = bootBuiltins y)
    (hx : s.heap.get? x = some (excO C t0)) (hnx : K.lookup x = none) (hroom : A.depth < recursionLimit) (za : a.natAbs.log2 < 1920) (zb : b.natAbs.log2 < 1920)
    (hq : ∀ h' tk dx t1, (∀ c o, c ≠ x → s.heap.get? c = some o → h'.get? c = some o) → h'.get? x = some { cls := .ref C, dict := some dx, data := .fields #[.ref t1, .none, .none, .none, .bool false, .none] } → R (.ok (.ret .none)) { s with heap := h', toks := tk }) :
    codeAny (model prog w) A (.call (.ref fI) ⟨[.ref x, .int a ta, .int b tb], []⟩) R s := by
  obtain ⟨fI', cc, cda, oc, od, doc, pm, an, ct, osl, ccl, cdd, vs, ccs, file, tf, cl, cld, csl, f1, f2, f3, f4, f5, f6, f7, f8⟩ := T.fn
  have ef : fI' = fI := by
    rw [hfI] at f1
    cases f1
    rfl
  subst ef
  obtain ⟨B, nm, q, N, bs, sn, sub, ab, col, dd, k0, k1, k2, k3, k5, hC, hal⟩ := T.cls
  refine ks_codeAny_call_defAt (fd := ksFn "__init__" "TooMany.__init__" (L2.defArgs BaR.sTmInit) (L2.defBody BaR.sTmInit) (L2.defScope BaR.sTmInit) .none .none doc pm an (.ref cda) ct cc) (body := L2.defBody BaR.sTmInit) (binds := [("self", .ref x), ("amount", .int a ta), ("limit", .int b tb)]) hroom (X _ _ f3) rfl hlim (codeRec_of X f4) rfl (BindsTo.of_eq rfl) (show ∀ y ∈ (L2.defScope BaR.sTmInit).names, y.2 ≠ .cell by decide +kernel) (locs rfl) (fun h1 hns k1' => ?_) rfl rfl rfl
  obtain ⟨hp, gs, dr, tk, os⟩ := s
  have X1 : K.In h1 := X.keeps k1'
  have hcl : clsIn K C = some { name := nm, bases := bs, mro := .ref C :: tmTail B, ns := N, qualname := q, hasDict := true, slotNames := sn, subclasses := sub, abstract := ab, collection := col, hasDel := false } := by unfold clsIn; rw [hC] <;> rfl
  have hx1 := k1' _ _ hx
  have xC : x ≠ C := fun z => by
    rw [z, hC] at hnx
    cases hnx
  show PySem.wpAt _ (A.deeper (ksEnv "TooMany.__init__" (L2.defScope BaR.sTmInit) hp.objs.size fI' (.ref cda) cc)) (.func _ (ksEnv "TooMany.__init__" (L2.defScope BaR.sTmInit) hp.objs.size fI' (.ref cda) cc)) (execs _ (ksEnv "TooMany.__init__" (L2.defScope BaR.sTmInit) hp.objs.size fI' (.ref cda) cc)) _ _ _
  have I1 : W.InstAt h1 x (excO C t0) C none := ⟨hx1, rfl, rfl, trivial⟩
  have bsup : bootBuiltins "super" = some (.type "super") := by first | boot_by_name | rfl | kernel_rfl
  have bstr : bootBuiltins "str" = some (.type "str") := by first | boot_by_name | rfl | kernel_rfl
  refine ks_wpAt_execs_cons (ks_wpAt_Expr_any (ks_wpAt_MethodCall (ks_wpAt_super_base (env := ksEnv "TooMany.__init__" (L2.defScope BaR.sTmInit) hp.objs.size fI' (.ref cda) cc) rfl rfl (by decide) rfl (X1 _ _ f3) rfl rfl rfl (X1 _ _ f5) rfl f6 f7 T.top ?_)))
  refine ks_loadName_global rfl rfl (loadGlobal_builtin (G.keeps k1') T.sup (Bn.keeps k1') ((hb _ (by decide)).trans bsup) ⟨rfl, ?_⟩)
  refine wpAny_loadName_free rfl rfl rfl ⟨_, X1 _ _ f8, rfl⟩ ?_
  refine wpAny_loadName_local rfl rfl hns rfl ?_
  refine ks_wpAny_isType_cls (X1 _ _ hC) rfl ⟨rfl, ?_⟩
  refine ks_wpAny_call_super (X1 _ _ hC) rfl hx1 rfl (fun c z => nomatch z) (looks_subIn X1 T.slf) (fun h2 so k2 => ?_)
  have X2 : K.In h2 := X1.keeps k2
  have hx2 := k2 _ _ hx1
  have I2 : W.InstAt h2 x (excO C t0) C none := ⟨hx2, rfl, rfl, trivial⟩
  refine getMethod_super (l₀ := .ref C :: tmTail B) (l := tmTail B) so (looks_opaque X2 T.opq) (fun A Q E s k q => wpAny_bind ((looks_clsIn X2 hcl) A _ E s k (wpAny_pure q))) (drop_own C _) X2 hal xC (by decide) (I2.type.andThen (looks_subIn X2 T.exB)) ?_
  have k3 : ∀ b o, h2.get? b = some o → (h2.push (bw x)).get? b = some o := fun b o e => Heap.get?_push_of_some _ e
  have hu : (h2.push (bw x)).get? h2.objs.size = some (bw x) := Heap.get?_push_size _ rfl
  have k13 : ∀ b o, hp.get? b = some o → (h2.push (bw x)).get? b = some o := fun b o e => k3 _ _ (k2 _ _ (k1' _ _ e))
  generalize h2.push (bw x) = h3 at k3 hu k13 ⊢
  generalize h2.objs.size = u at hu ⊢
  have ns3 : h3.Ns hp.objs.size (fun y => ([(("self" : Str), Value.ref x), ("amount", .int a ta), ("limit", .int b tb)] : List (Str × Value)).reverse.lookup y) := hns.keeps fun b o e => k3 _ _ (k2 _ _ e)
  refine callWith_bound (x := x) ?_
  refine args_cons ?_ rfl
  have ev : ∀ {A' : Around} {E' : Value → Shared → Prop} (y : Str) (p1 p2 p3 : Pos) (n : Int) (tn : Tok) (tk' : Nat) (Q : Value → Shared → Prop), (y == ("__debug__" : Str)) = false → (L2.defScope BaR.sTmInit).names.lookup y = some .local →
      ([(("self" : Str), Value.ref x), ("amount", .int a ta), ("limit", .int b tb)] : List (Str × Value)).reverse.lookup y = some (.int n tn) → n.natAbs.log2 < 1920 → (∀ tk2, Q (.str (toString n) tk2) ⟨h3, gs, dr, tk2 + 1, os⟩) →
      wpAny (model prog w) A' (eval (.Call (.Name "str" p1) [.Name y p2] [] p3) (ksEnv "TooMany.__init__" (L2.defScope BaR.sTmInit) hp.objs.size fI' (.ref cda) cc)) Q E' ⟨h3, gs, dr, tk', os⟩ := fun y p1 p2 p3 n tn tk' Q hd hl hv hz q =>
    Call_ (Calls.Name_function_global rfl rfl (loadGlobal_builtin (G.keeps k13) T.str (Bn.keeps k13) ((hb _ (by decide)).trans bstr)
      (callWith_type1 (args_cons (wpAny_Name (wpAny_loadName_local rfl hl ns3 hv (args_nil (PySem.P.str_of_int hz (q _)))) hd) rfl) rfl rfl)) (by decide))
  have la := int_text_len_1921 za
  have lb := int_text_len_1921 zb
  have app : ∀ y z : Str, (y ++ z).length = y.length + z.length := fun y z => by
    show (y.cps ++ z.cps).size = _
    rw [Array.size_append]; rfl
  refine wpAny_BinOp (wpAny_BinOp (ev "amount" _ _ _ a ta _ _ (by decide) (by decide +kernel) rfl za fun tk2 => Calls.Constant_str ?_))
  refine PyProof.Rows.add_str (fun t' tk3 => ?_) (by rw [sizeLine_eq]; have : (PySem.Str.ofString " of at most ").length = 12 := by decide +kernel
                                                     omega)
  refine ev "limit" _ _ _ b tb _ _ (by decide) (by decide +kernel) rfl zb fun tk4 => ?_
  refine PyProof.Rows.add_str (fun t' tk5 => ?_) (by rw [sizeLine_eq, app]; have : (PySem.Str.ofString " of at most ").length = 12 := by decide +kernel
                                                     omega)
  refine args_nil ⟨hu, ?_⟩
  refine call_bw (C := C) (k3 _ _ (k2 _ _ (X1 _ _ hC))) (k3 _ _ hx2) hu (by show 1 ≤ sizeLine; rw [sizeLine_eq]; decide) fun h4 t1 k4 hx4 => ?_
  refine PySem.wpAt_of_wpAny ?_
  have xl : x < hp.objs.size := Heap.lt_size hx
  have X4 : K.In h4 := fun c o e => k4 c o (fun z => by rw [z, hnx] at e; cases e) (k3 _ _ (X2 c o e))
  have ns4 : h4.Ns hp.objs.size (fun y => ([(("self" : Str), Value.ref x), ("amount", .int a ta), ("limit", .int b tb)] : List (Str × Value)).reverse.lookup y) := by
    obtain ⟨oL, es, ep, hL, r⟩ := ns3
    exact ⟨oL, es, ep, k4 _ _ (Nat.ne_of_gt xl) hL, r⟩
  -- self.amount = amount
  refine wpAny_execs_cons (plainObj_wpAny_Assign_Attribute ?_)
  refine wpAny_Name (wpAny_loadName_local (v := .int a ta) rfl rfl ns4 rfl ?_) (by decide)
  refine wpAny_Name (wpAny_loadName_local (v := .ref x) rfl rfl ns4 rfl ?_) (by decide)
  refine set_plain X4 (ox := excO C t1) (od := none) ⟨hx4, rfl, rfl, trivial⟩ T.sa ?_
  refine osa2_new X4 hx4 hcl rfl rfl T.n1 (fun h5 tk6 dx k5' dge dn hx5 hn5 => ?_)
  have X5 : K.In h5 := fun c o e => k5' c o (fun z => by rw [z, hnx] at e; cases e) (X4 c o e)
  have ns5 : h5.Ns hp.objs.size (fun y => ([(("self" : Str), Value.ref x), ("amount", .int a ta), ("limit", .int b tb)] : List (Str × Value)).reverse.lookup y) := by
    obtain ⟨oL, es, ep, hL, r⟩ := ns4
    exact ⟨oL, es, ep, k5' _ _ (Nat.ne_of_gt xl) hL, r⟩
  -- self.limit = limit
  show wpAny _ _ (execs _ _) _ _ _
  refine wpAny_execs_cons (plainObj_wpAny_Assign_Attribute ?_)
  refine wpAny_Name (wpAny_loadName_local (v := .int b tb) rfl rfl ns5 rfl ?_) (by decide)
  refine wpAny_Name (wpAny_loadName_local (v := .ref x) rfl rfl ns5 rfl ?_) (by decide)
  have wi : Within (fun y => if y = ("amount" : Str) then some (Value.int a ta) else none) ["amount"] := fun y hy => by
    by_cases e : y = ("amount" : Str)
    · rw [e]; exact List.mem_cons_self ..
    · exact absurd (if_neg e) hy
  obtain ⟨oD, _, _, hoD, _, _⟩ := hn5.count wi
  refine set_plain X5 (ox := { cls := .ref C, dict := some dx, data := .fields #[.ref t1, .none, .none, .none, .bool false, .none] }) (od := some oD) ⟨hx5, rfl, rfl, hoD⟩ T.sa ?_
  have dnew : ∀ c o, hp.get? c = some o → c ≠ dx := fun c o e z => by
    by_cases hcx : c = x
    · exact dn (z.symm.trans hcx)
    · have low := Heap.lt_size (k4 c o hcx (k13 c o e))
      rw [z] at low
      exact absurd low (Nat.not_lt.mpr dge)
  refine osa2_old X5 hx5 hn5 wi (by decide) hcl rfl rfl T.n2 fun h6 tk7 k6 => ?_
  show wpAny _ _ (execs _ _) _ _ _
  refine wpAny_execs_nil (hq h6 _ dx t1 (fun c o hc e => k6 c o (dnew c o e) (k5' c o hc (k4 c o hc (k13 c o e)))) (k6 _ _ (Ne.symm dn) hx5))
/-- TooMany(a, b): an exception of the class, new; what stood stands -/
theorem tm_made (T : TmTxt prog K mg C) {a b : Int} {ta tb : Tok} (X : K.In s.heap) (hlim : s.heap.NoLimit) (G : s.heap.Ns mainGlobals mg) (Bn : s.heap.Ns builtinsNs mb) (hb : ∀ y : Str, y ≠ "__name__" → mb y = bootBuiltins y)
    (hroom : A.depth + 1 < recursionLimit) (za : a.natAbs.log2 < 1920) (zb : b.natAbs.log2 < 1920)
    (hq : ∀ h' tk e dx t1, (∀ c o, s.heap.get? c = some o → h'.get? c = some o) → s.heap.objs.size ≤ e → h'.get? e = some { cls := .ref C, dict := some dx, data := .fields #[.ref t1, .none, .none, .none, .bool false, .none] } → R (.ok (.ret (.ref e))) { s with heap := h', toks := tk }) :
    codeAny (model prog w) A (.call (.ref C) ⟨[.int a ta, .int b tb], []⟩) R s := by
  obtain ⟨fI, _, _, _, _, _, _, _, _, _, _, _, _, _, _, _, _, _, _, f1, f2, _⟩ := id T.fn
  obtain ⟨B, nm, q, N, bs, sn, sub, ab, col, dd, k0, k1, k2, k3, k5, hC, hal⟩ := T.cls
  obtain ⟨hp, g, dr, tk, os⟩ := s
  have k : ∀ c o, hp.get? c = some o → ((hp.push (kdv_tup [.int a ta, .int b tb])).push (excO C hp.objs.size)).get? c = some o := fun c o e => Heap.get?_push_of_some _ (Heap.get?_push_of_some _ e)
  have at1 : ((hp.push (kdv_tup [.int a ta, .int b tb])).push (excO C hp.objs.size)).get? (hp.objs.size + 1) = some (excO C hp.objs.size) := by heap_get
  have notK : K.lookup (hp.objs.size + 1) = none := by
    cases e : K.lookup (hp.objs.size + 1) with
    | none => rfl
    | some o => exact absurd (Nat.lt_of_succ_lt (Heap.lt_size (show hp.get? (hp.objs.size + 1) = some o from X _ _ e))) (Nat.lt_irrefl _)
  refine call_own PySem.F.excBase_Exception (fun Y => tail_of B Y) (X _ _ hC) (looks_findIn X f1) (fun self => bind_fn X self f2) (by show 2 ≤ sizeLine; rw [sizeLine_eq]; decide) ?_
  refine tm_init (s := ⟨(hp.push (kdv_tup [.int a ta, .int b tb])).push (excO C hp.objs.size), g, dr, tk, os⟩) T f1 (X.keeps k) (hlim.keeps k) (G.keeps k) (Bn.keeps k) hb at1 notK hroom za zb fun h' tk' dx t1 keep hx => ?_
  exact ⟨rfl, hq h' tk' (hp.objs.size + 1) dx t1 (fun c o e => keep c o (Nat.ne_of_lt (Nat.lt_succ_of_lt (Heap.lt_size e))) (k c o e)) (Nat.le_succ _) hx⟩
end
end BaX
namespace BaR
open PySem PySem.Spec PyProof.Rows L2
section
variable {X : Cx} {C : Addr}
/-- TooMany(e1, e2), raised: which dict it has is left open -/
def tMkTm (C : Addr) (ta : TA) : L2.St → Hp → XK → Prop := fun σ H Q => ta σ H fun vs H1 => ∃ a b : Int, vs = [.int a, .int b] ∧ a.natAbs.log2 < 1920 ∧ b.natAbs.log2 < 1920 ∧ ∀ d, Q (.ref C) d H1
theorem pmk_tm {e1 e2 : Expr} {ta : TA} {p pos : Pos} {k : Nat} (T : BaX.TmTxt X.prog X.K X.mg C) (hr : Room k X.A) (ha : PA X [e1, e2] ta) (hg : Gl X "TooMany" := by rfl)
    (he : starEach [e1, e2] X.env = (false, eval e1 X.env) :: starEach [e2] X.env := by rfl) (hpl : (backTo pos (starEach [e2] X.env)).any (·.1) = false := by rfl) :
    PMk X (.Call (.Name "TooMany" p) [e1, e2] [] pos) (tMkTm C ta) := by
  intro pins s σ H Q I h
  refine wpAny_Call_Name_kw (ld_glob I hg T.gC ?_)
  refine PySem.W.callWith_K (h₀ := X.base) I.ok.mod.kin T.kC (thn (ha.run pos pins s σ H _ I h) fun us s1 ⟨vs, H1, I1, r1, a, b, ev, za, zb, q⟩ => ⟨I1.kIn, ?_⟩) he hpl
  subst ev
  obtain ⟨u1, us1, rfl⟩ : ∃ u1 us1, us = u1 :: us1 := by cases r1; exact ⟨_, _, rfl⟩
  cases r1 with
  | cons ra rr =>
    cases rr with
    | cons rb rn =>
      cases rn
      obtain ⟨t1, rfl⟩ := ra
      obtain ⟨t2, rfl⟩ := rb
      obtain ⟨mb, bn, hb⟩ := I1.mod.blt
      refine wpAny_call (BaX.tm_made T I1.kIn I1.nolimit (I1.mod.glob.keeps I1.bk) (bn.keeps I1.bk) hb (by have := hr.dp; omega) za zb fun h' tk e dx t3 keep new hx => ?_)
      refine ⟨e, _, _, s1, H1, .ref C, some dx, rfl, I1, keep, ?_, hx, ⟨rfl, rfl⟩, rfl, rfl, I1.hok.fresh new, rfl, I1.bare, raises_own T.exC T.tyC, q _⟩
      exact Heap.get?_none_of_le new
end
end BaR

namespace BaR
open PySem PySem.Spec PyProof.Rows L2 BA
/-! ### what the top leaves, by def -/
structure Df (K : PySem.W.Frag) (mg : Str → Option Value) (x : Str) (st : Stmt) (ps : List Str) (f : Addr) (fd : FuncData) : Prop where
  F : Fun K x x st f fd
  b : Binds K fd ps []
  g : mg x = some (.ref f)
/-- the built-in names that stand for themselves, and the two numbers -/
structure Bl (mg : Str → Option Value) : Prop where
  len : mg "len" = none
  isi : mg "isinstance" = none
  int : mg "int" = none
  bool : mg "bool" = none
  tuple : mg "tuple" = none
  all : mg "all" = none
  enum : mg "enumerate" = none
  sum : mg "sum" = none
  range : mg "range" = none
  max : mg "max" = none
  min : mg "min" = none
  list : mg "list" = none
  sorted : mg "sorted" = none
  set : mg "set" = none
  long : ∃ t, mg "LONGEST" = some (.int 24 t)
  great : ∃ t, mg "GREATEST_HOLD" = some (.int 60 t)
/-- at a a tuple of the ints t -/
def Ints (K : PySem.W.Frag) (H : Hp) (a : Addr) (t : List Int) : Prop := SqT K H a (t.map V.int)
theorem _root_.L2.Same.ints {K : PySem.W.Frag} {H H' : Hp} {a : Addr} {t : List Int} (s : Same H H') (h : Ints K H a t) : Ints K H' a t := s.tupK h
theorem tyx_tup {K : PySem.W.Frag} {H : Hp} {a : Addr} {xs : List V} (h : SqT K H a xs) : TyX K H (.ref a) (.type "tuple") := by
  rcases h with (h | ⟨o, h⟩) | ⟨o, its, n, h, c, _⟩
  · exact .base (.tup h)
  · exact .fTuple h
  · exact .kTuple h c

/-! ### the promises -/
def spIsInteger : Sp := fun vs H Q _ => ∃ n : Int, vs = [.int n] ∧ Q (.bl true) H
def spIsBetween : Sp := fun vs H Q _ => ∃ n lo hi : Int, vs = [.int n, .int lo, .int hi] ∧ lo ≤ n ∧ n ≤ hi ∧ Q (.bl true) H
/-- a table is handed in: True (or nothing, v) comes back, and what stood stands -/
def spYes (K : PySem.W.Frag) (v : V) : Sp := fun vs H Q _ => ∃ (a : Addr) (t : List Int), vs = [.ref a] ∧ Ints K H a t ∧ Tab t ∧ ∀ H', Same H H' → Q v H'
def spNeedInteger : Sp := fun vs H Q _ => ∃ n : Int, vs = [.int n] ∧ Q .non H
def spHoldOf (K : PySem.W.Frag) : Sp := fun vs H Q _ => ∃ (a : Addr) (t : List Int) (x : Int), vs = [.ref a, .int x] ∧ Ints K H a t ∧ Tab t ∧ Q (.int (hold t x)) H
def spOutOf (K : PySem.W.Frag) : Sp := fun vs H Q _ => ∃ (a : Addr) (t : List Int) (x : Int), vs = [.ref a, .int x] ∧ Ints K H a t ∧ Tab t ∧ Q (.int (out t x)) H
def spHeldOf (K : PySem.W.Frag) : Sp := fun vs H Q _ => ∃ (a : Addr) (t : List Int), vs = [.ref a] ∧ Ints K H a t ∧ Tab t ∧ Q (.int (heldI t)) H
def spOutAt (K : PySem.W.Frag) : Sp := fun vs H Q _ => ∃ (a : Addr) (t : List Int) (x : Int), vs = [.ref a, .int x] ∧ Ints K H a t ∧ Tab t ∧ ∀ H', Same H H' → Q (.int (out t x)) H'
def spHeld (K : PySem.W.Frag) : Sp := fun vs H Q _ => ∃ (a : Addr) (t : List Int), vs = [.ref a] ∧ Ints K H a t ∧ Tab t ∧ ∀ H', Same H H' → Q (.int (heldI t)) H'
def spShortened (K : PySem.W.Frag) : Sp := fun vs H Q _ => ∃ (a : Addr) (l : List Int), vs = [.ref a] ∧ Ints K H a l ∧ 0 < l.length ∧ l.length ≤ 24 ∧
  ∀ (d : Nat) (p : Addr) (H' : Hp), Same H H' → 0 < d → d ≤ l.length → Rep l d → (∀ e, 0 < e → e < d → ¬ Rep l e) → Ints K H' p (l.take d) → Q (.ref p) H'
section
variable {P : Program} {w : World} {K : PySem.W.Frag} {mg : Str → Option Value} {base : Heap}
/-! ### is_integer, is_between -/
theorem scIsInteger : FnScope ["thing"] ["thing"] (defScope sIsInteger) := ⟨rfl, rfl, rfl, by decide +kernel, rfl, by decide +kernel, by decide +kernel⟩
theorem ok_isInteger {f : Addr} {fd : FuncData} (F : Fun K "is_integer" "is_integer" sIsInteger f fd) (T : Bl mg) : FnOk P w K mg base CX0 1 f fd ["thing"] spIsInteger := by
  refine F.ok scIsInteger (fun vs H Q E h => ?_) (fun cdv A outer s H vs Q E hr h => ?_)
  · obtain ⟨n, rfl, _⟩ := h
    rfl
  · obtain ⟨n, rfl, q⟩ := h
    refine ⟨_, pss_one (ps_ret (pe_and (pe_callB call_isi (by rfl) T.isi boot_isinstance (pa_cons (pv 0) (pa_cons (pe_bltn (v := .ty "int") (by rfl) T.int (by decide +kernel) rfl) pa_nil)))
      (pe_one (pe_not (pe_callB call_isi (by rfl) T.isi boot_isinstance (pa_cons (pv 0) (pa_cons (pe_bltn (v := .ty "bool") (by rfl) T.bool (by decide +kernel) rfl) pa_nil))))))), ?_⟩
    refine ⟨_, rfl, .int n, .ty "int", .type "int", .type "int", true, rfl, .ty "int", .base (.int n), by rfl, true, rfl, ?_⟩
    refine iteT ⟨_, rfl, .int n, .ty "bool", .type "int", .type "bool", false, rfl, .ty "bool", .base (.int n), kit_ty (by decide +kernel), false, rfl, q⟩
theorem scIsBetween : FnScope ["thing", "low", "high"] ["thing", "low", "high"] (defScope sIsBetween) := ⟨rfl, rfl, rfl, by decide +kernel, rfl, by decide +kernel, by decide +kernel⟩
theorem ok_isBetween {f f1 : Addr} {fd fd1 : FuncData} (F : Fun K "is_between" "is_between" sIsBetween f fd) (D1 : Df K mg "is_integer" sIsInteger ["thing"] f1 fd1) (T : Bl mg) : FnOk P w K mg base CX0 2 f fd ["thing", "low", "high"] spIsBetween := by
  have G1 : FnOk P w K mg base CX0 1 f1 fd1 ["thing"] spIsInteger := ok_isInteger D1.F T
  refine F.ok scIsBetween (fun vs H Q E h => ?_) (fun cdv A outer s H vs Q E hr h => ?_)
  · obtain ⟨n, lo, hi, rfl, _⟩ := h
    rfl
  · obtain ⟨n, lo, hi, rfl, h1, h2, q⟩ := h
    refine ⟨_, pss_one (ps_ret (pe_and (pe_call G1 hr rfl D1.g D1.F.kp D1.b .nil pass0 (pa_cons (pv 0) pa_nil)) (pe_one (pe_chain op_le op_le (pv 1) (pv 0) (pv 2))))), ?_⟩
    refine ⟨_, rfl, n, rfl, true, rfl, iteT ⟨_, rfl, _, rfl, lo, n, rfl, rfl, _, rfl, ?_⟩⟩
    rw [if_pos (decide_eq_true h1)]
    refine ⟨_, rfl, n, hi, rfl, rfl, ?_⟩
    show Q (.bl (decide (n ≤ hi))) H
    rw [decide_eq_true h2]
    exact q
/-! ### is_onto -/
theorem scIsOnto : FnScope ["holds", "place", "hold"] ["holds"] (defScope sIsOnto) := ⟨rfl, rfl, rfl, by decide +kernel, rfl, by decide +kernel, by decide +kernel⟩
theorem onto_len {t : List Int} (T : Tab t) : (dd ((List.range t.length).map fun j : Nat => ((j : Int) + t.getD j 0) % (t.length : Int))).length = t.length := by
  rw [dd_of_nodup]
  · simp
  · rw [List.nodup_iff_pairwise_ne, List.pairwise_map]
    refine (List.nodup_range (n := t.length)).imp_of_mem ?_
    intro a b ha hb ne e
    exact ne (T.inj a b (List.mem_range.1 ha) (List.mem_range.1 hb) e)
theorem range_snoc {α : Type} (f : Nat → α) (i : Nat) : (List.range i).map f ++ [f i] = (List.range (i + 1)).map f := by
  rw [List.range_succ, List.map_append]; rfl
theorem at_int {t : List Int} {i : Nat} (h : i < t.length) : (t.map V.int)[i]? = some (.int (t.getD i 0)) := by
  rw [List.getElem?_map, List.getElem?_eq_getElem h, List.getD_eq_getElem?_getD, List.getElem?_eq_getElem h]; rfl
theorem yesT {A B : Hp → Prop} {σ : L2.St} {H : Hp} (h : A H) : tYes σ H fun b H3 => if b = true then A H3 else B H3 := by
  show (if true = true then A H else B H)
  rw [if_pos rfl]; exact h
theorem ok_isOnto {f : Addr} {fd : FuncData} (F : Fun K "is_onto" "is_onto" sIsOnto f fd) (T : Bl mg) : FnOk P w K mg base CX0 1 f fd ["holds"] (spYes K (.bl true)) := by
  refine F.ok scIsOnto (fun vs H Q E h => ?_) (fun cdv A outer s H vs Q E hr h => ?_)
  · obtain ⟨a, t, rfl, _⟩ := h
    rfl
  · obtain ⟨a, t, rfl, hI, hT, q⟩ := h
    refine ⟨_, pss_one (ps_ret (pe_cmpR op_eq (pe_callB cr_lenI (by rfl) T.len PySem.boot_len (pa_cons (pe_fill (own := [("place", 1), ("hold", 2)]) fillI rfl scIsOnto.nd (pi_enumT (by rfl) T.enum (pa_cons (pv 0) pa_nil))
      (blkOk_by (N := ["holds", "place", "hold"]) (sc := defScope sIsOnto) (by decide +kernel))
      (fun _ _ _ _ _ => pg_tup2 K (i := 1) (j := 2) rfl scIsOnto.nd rfl rfl (Or.inl rfl) (Or.inl rfl))
      (fun _ _ _ _ _ => pts_nil)
      (fun _ _ _ _ _ => pe_op op_mod (pe_op op_add (pv 1) (pv 2)) (pe_callB (ck_len K) (by rfl) T.len PySem.boot_len (pa_cons (pv 0) pa_nil)))) pa_nil))
      (pe_callB call_len_seq (by rfl) T.len PySem.boot_len (pa_cons (pv 0) pa_nil)) (nomark _))), ?_⟩
    refine ⟨_, rfl, a, t.map V.int, rfl, hI, fun D hD => turns_by t.length (fun i H' => Same H H' ∧ H' D = some (stI ((List.range i).map fun j : Nat => ((j : Int) + t.getD j 0) % (t.length : Int)))) ⟨Same.newN hD, upd_same⟩ ?_ ?_⟩
    · rintro H1 ⟨s1, e1⟩
      refine ⟨⟨_, s1.ints hI, by simp⟩, D, _, _, rfl, e1, _, rfl, a, _, rfl, .inr (s1.ints hI), ?_⟩
      refine ⟨rfl, ?_⟩
      rw [onto_len hT, List.length_map]
      show Q (.bl (decide (V.int (t.length : Nat) = V.int (t.length : Nat)))) H1
      rw [decide_eq_true rfl]
      exact q _ s1
    · rintro i H1 hi ⟨s1, e1⟩
      refine ⟨⟨_, _, s1.ints hI, at_int hi⟩, ?_⟩
      rintro v H2 ⟨Tp, x, rfl, hTp, rfl, hx⟩
      have hx' := (hx _ (s1.ints hI)).symm.trans (at_int hi)
      cases hx'
      have s2 : Same H (upd H1 Tp (.tup [.int (i : Nat), .int (t.getD i 0)])) := s1.addN hTp
      refine ⟨Tp, _, _, rfl, SqT.of upd_same, rfl, ?_⟩
      have hD2 : Tp ≠ D := fun z => by rw [z, e1] at hTp; cases hTp
      refine yesT ⟨_, rfl, _, rfl, _, _, rfl, rfl, _, rfl, a, _, rfl, .inr (s2.ints hI), _, _, rfl, rfl, ?_, _, _, rfl, (upd_ne hD2.symm).trans e1, ?_, s2.putN hD, ?_⟩
      · rw [List.length_map]; exact hT.posI
      · rw [List.length_map, List.length_range]; have := hT.le; omega
      · rw [upd_same, List.length_map, range_snoc]
end
end BaR

namespace BaR
open PySem PySem.Spec PyProof.Rows L2 BA
theorem dpAll_ints {K : PySem.W.Frag} {H : Hp} : ∀ l : List Int, DpAll K H (l.map V.int) (l.map PyData.int)
  | [] => .nil
  | i :: l => .cons (.int i) (dpAll_ints l)
theorem shaped_tup_ints (l : List Int) : SeqAt.shaped (.tuple (l.map PyData.int)) = true := by
  have h := PySem.W.ke_shaped_ints l
  have e : SeqAt.shaped (.tuple (l.map PyData.int)) = SeqAt.shaped (.list (l.map PyData.int)) := by
    simp only [SeqAt.shaped, PyData.canLay0, PyData.depth]; rfl
  rw [e]; exact h
theorem eqv_tup_ints (l m : List Int) : PyData.eqv (.tuple (l.map PyData.int)) (.tuple (m.map PyData.int)) = decide (l = m) := by
  simp only [PyData.eqv]
  exact PySem.W.ked_eqvAll l m
theorem eqv_lst_ints (l m : List Int) : PyData.eqv (.list (l.map PyData.int)) (.list (m.map PyData.int)) = decide (l = m) := by
  simp only [PyData.eqv]
  exact PySem.W.ked_eqvAll l m
/-- two tuples of ints: alike just where their ints are -/
theorem eqT_ints {K : PySem.W.Frag} {H : Hp} {a b : Addr} {l m : List Int} {Q : VK} (ha : Ints K H a l) (hb : Ints K H b m) (q : Q (.bl (decide (l = m))) H) : rEqD K (.ref a) (.ref b) H Q :=
  ⟨_, _, .tup ha (dpAll_ints l), .tup hb (dpAll_ints m), shaped_tup_ints l, shaped_tup_ints m, by rw [eqv_tup_ints]; exact q⟩
theorem neL_ints {K : PySem.W.Frag} {H : Hp} {a b : Addr} {l m : List Int} {Q : VK} (ha : SqL K H a (l.map V.int)) (hb : SqL K H b (m.map V.int)) (q : Q (.bl (!decide (l = m))) H) : rNeD K (.ref a) (.ref b) H Q :=
  ⟨_, _, .lst ha (dpAll_ints l), .lst hb (dpAll_ints m), PySem.W.ke_shaped_ints l, PySem.W.ke_shaped_ints m, by rw [eqv_lst_ints]; exact q⟩

section
variable {P : Program} {w : World} {K : PySem.W.Frag} {mg : Str → Option Value} {base : Heap}
theorem getD_mem {t : List Int} {i : Nat} (hi : i < t.length) : t.getD i 0 ∈ t := by
  rw [List.getD_eq_getElem?_getD, List.getElem?_eq_getElem hi]; exact List.getElem_mem hi
/-! ### is_table, need_table, need_integer -/
theorem scIsTable : FnScope ["thing", "hold"] ["thing"] (defScope sIsTable) := ⟨rfl, rfl, rfl, by decide +kernel, rfl, by decide +kernel, by decide +kernel⟩
theorem ok_isTable {f f1 f2 f3 : Addr} {fd fd1 fd2 fd3 : FuncData} (F : Fun K "is_table" "is_table" sIsTable f fd) (D1 : Df K mg "is_integer" sIsInteger ["thing"] f1 fd1) (D2 : Df K mg "is_between" sIsBetween ["thing", "low", "high"] f2 fd2)
    (D3 : Df K mg "is_onto" sIsOnto ["holds"] f3 fd3) (T : Bl mg) : FnOk P w K mg base CX0 3 f fd ["thing"] (spYes K (.bl true)) := by
  have G2 : FnOk P w K mg base CX0 2 f2 fd2 ["thing", "low", "high"] spIsBetween := ok_isBetween D2.F D1 T
  have G3 : FnOk P w K mg base CX0 1 f3 fd3 ["holds"] (spYes K (.bl true)) := ok_isOnto D3.F T
  obtain ⟨tl, long⟩ := T.long
  obtain ⟨tg, great⟩ := T.great
  refine F.ok scIsTable (fun vs H Q E h => ?_) (fun cdv A outer s H vs Q E hr h => ?_)
  · obtain ⟨a, t, rfl, _⟩ := h
    rfl
  · obtain ⟨a, t, rfl, hI, hT, q⟩ := h
    refine ⟨_, pss_cons (ps_if (PW.pt (pw_or (pt_not (pt_val (pe_callB call_isi (by rfl) T.isi boot_isinstance (pa_cons (pv 0) (pa_cons (pe_bltn (v := .ty "tuple") (by rfl) T.tuple (by decide +kernel) rfl) pa_nil)))))
        (pw_or1 (pt_not (pt_chain op_le op_le pe_int (pe_callB call_len_seq (by rfl) T.len PySem.boot_len (pa_cons (pv 0) pa_nil)) (pe_glob (v := .int 24) rfl long ⟨_, rfl⟩))))))
        (pss_one (ps_ret pe_bl)) pss_nil)
      (pss_one (ps_ret (pe_and (pe_callB (cr_all rfl) (by rfl) T.all (by decide +kernel) (pa_cons
          (pe_lc (own := [("hold", 1)]) (g := gName 1) (tt := tYes) rfl scIsTable.nd (pi_tup (pv 0)) (blkOk_by (N := ["thing", "hold"]) (sc := defScope sIsTable) (by decide +kernel))
            (fun _ _ _ _ _ => pg_name (i := 1) scIsTable.nd rfl (Or.inl rfl)) (fun _ _ _ _ _ => pts_nil)
            (fun _ _ _ _ _ => pe_call G2 (hr.mono (by decide)) rfl D2.g D2.F.kp D2.b .nil pass0 (pa_cons (pv 1) (pa_cons pe_int (pa_cons (pe_glob (v := .int 60) rfl great ⟨_, rfl⟩) pa_nil))))) pa_nil))
        (pe_one (pe_call G3 (hr.mono (by decide)) rfl D3.g D3.F.kp D3.b .nil pass0 (pa_cons (pv 0) pa_nil)))))), ?_⟩
    refine ⟨_, rfl, .ref a, .ty "tuple", .type "tuple", .type "tuple", true, rfl, .ty "tuple", tyx_tup hI, by rfl, true, rfl, ?_⟩
    refine iteF ?_
    refine ⟨_, rfl, a, t.map V.int, rfl, .inr hI, 1, _, rfl, rfl, true, ?_, ?_⟩
    · have h := hT.posI
      rw [List.length_map]
      exact congrArg V.bl (decide_eq_true (by omega))
    refine iteT ⟨_, _, rfl, rfl, _, rfl, ?_⟩
    have h24 : decide (((t.map V.int).length : Int) ≤ 24) = true := by
      have h := hT.le
      rw [List.length_map, decide_eq_true (by omega)]
    rw [h24]
    refine iteF ?_
    refine ⟨_, rfl, a, rfl, ⟨_, hI⟩, fun D hD => lc_tup (K := K) (a := a) (xs := t.map V.int) (fun i H' => Same H H' ∧ H' D = some (.lst ((List.replicate i true).map V.bl))) ⟨Same.newN hD, upd_same⟩ ?_ ?_ ?_⟩
    · exact fun i H' _ p => p.1.ints hI
    · rintro i x H' hx ⟨s1, e1⟩
      have hi : i < t.length := by have := (List.getElem?_eq_some_iff.1 hx).1; simpa using this
      rw [at_int hi] at hx
      cases hx
      refine ⟨rfl, ?_⟩
      refine yesT ⟨_, rfl, _, 0, 60, rfl, hT.nn _ (getD_mem hi), hT.le60 _ (getD_mem hi), _, e1, ?_, s1.putN hD, ?_⟩
      · rw [List.length_map, List.length_replicate]
        have := hT.le
        show i < sizeLine
        have : (24 : Nat) < sizeLine := by decide
        omega
      · rw [upd_same, List.replicate_succ', List.map_append]; rfl
    · rintro H1 ⟨s1, e1⟩
      refine ⟨D, _, rfl, SqL.of e1, _, rfl, ?_⟩
      have ha : (List.replicate (t.map V.int).length true).all id = true := by
        rw [List.all_eq_true]; intro x hx; rw [(List.mem_replicate.1 hx).2]; rfl
      rw [ha]
      exact iteT ⟨_, rfl, a, t, rfl, s1.ints hI, hT, fun H2 s2 => q _ (s1.trans s2)⟩
end
end BaR

namespace BaR
open PySem PySem.Spec PyProof.Rows L2 BA
def De (K : PySem.W.Frag) (mg : Str → Option Value) (x : Str) (st : Stmt) (ps : List Str) : Prop := ∃ f fd, Df K mg x st ps f fd
/-- all that the top leaves -/
structure Tx (P : Program) (K : PySem.W.Frag) (mg : Str → Option Value) : Prop where
  bl : Bl mg
  tm : ∃ C, BaX.TmTxt P K mg C
  isInteger : De K mg "is_integer" sIsInteger ["thing"]
  isBetween : De K mg "is_between" sIsBetween ["thing", "low", "high"]
  isOnto : De K mg "is_onto" sIsOnto ["holds"]
  isTable : De K mg "is_table" sIsTable ["thing"]
  needTable : De K mg "need_table" sNeedTable ["table"]
  needInteger : De K mg "need_integer" sNeedInteger ["number"]
  holdOf : De K mg "hold_of" sHoldOf ["table", "thing"]
  outOf : De K mg "out_of" sOutOf ["table", "thing"]
  heldOf : De K mg "held_of" sHeldOf ["table"]
  shortened : De K mg "shortened" sShortened ["holds"]
  outAt : De K mg "out_at" sOutAt ["table", "thing"]
  held : De K mg "held" sHeld ["table"]
  commonOf : De K mg "common_of" sCommonOf ["one", "other"]
  chained : De K mg "chained" sChained ["one", "other"]
  circleFrom : De K mg "circle_from" sCircleFrom ["table", "place"]
  paceOf : De K mg "pace_of" sPaceOf ["table", "places"]
  circles : De K mg "circles" sCircles ["table"]
  straight : De K mg "straight" sStraight ["table"]
  cell : De K mg "_law_cell" sCell ["_law_script", "_law_k"]
  pen : De K mg "_law_pen" sPen ["_law_cell_here"]
  draw : De K mg "_law_draw" sDraw ["_law_pen_here", "_law_upto"]
  table : De K mg "_law_table" sTable ["_law_pen_here", "_law_most", "_law_times"]
  sums : De K mg "_law_sums" sSums ["_law_table_here", "_law_copies"]
  chRight : De K mg "_law_chained_right" sChRight ["_law_table_here", "_law_copies"]
  right : De K mg "_law_right" sRight ["_law_table_here"]
theorem hold_at {t : List Int} (T : Tab t) (x : Int) : atI (t.map V.int) (x % (t.length : Int)) = some (.int (hold t x)) := by
  have h := T.mod_lt x
  have e := T.mod_cast x
  rw [← e]
  refine atI_nat ?_
  exact at_int h
section
variable {P : Program} {w : World} {K : PySem.W.Frag} {mg : Str → Option Value} {base : Heap}
theorem scNeedTable : FnScope ["table"] ["table"] (defScope sNeedTable) := ⟨rfl, rfl, rfl, by decide +kernel, rfl, by decide +kernel, by decide +kernel⟩
theorem ok_needTable {f : Addr} {fd : FuncData} (F : Fun K "need_table" "need_table" sNeedTable f fd) (T : Tx P K mg) : FnOk P w K mg base CX0 4 f fd ["table"] (spYes K .non) := by
  obtain ⟨f1, fd1, D1⟩ := T.isInteger
  obtain ⟨f2, fd2, D2⟩ := T.isBetween
  obtain ⟨f3, fd3, D3⟩ := T.isOnto
  obtain ⟨f4, fd4, D4⟩ := T.isTable
  have G4 : FnOk P w K mg base CX0 3 f4 fd4 ["thing"] (spYes K (.bl true)) := ok_isTable D4.F D1 D2 D3 T.bl
  refine F.ok scNeedTable (fun vs H Q E h => ?_) (fun cdv A outer s H vs Q E hr h => ?_)
  · obtain ⟨a, t, rfl, _⟩ := h
    rfl
  · obtain ⟨a, t, rfl, hI, hT, q⟩ := h
    refine ⟨_, pss_one (ps_if (pt_not (pt_val (pe_call G4 hr rfl D4.g D4.F.kp D4.b .nil pass0 (pa_cons (pv 0) pa_nil)))) (pss_one ps_never) pss_nil), ?_⟩
    exact ⟨_, rfl, a, t, rfl, hI, hT, fun H' s' => ⟨true, rfl, iteF (q H' s')⟩⟩
theorem scNeedInteger : FnScope ["number"] ["number"] (defScope sNeedInteger) := ⟨rfl, rfl, rfl, by decide +kernel, rfl, by decide +kernel, by decide +kernel⟩
theorem ok_needInteger {f : Addr} {fd : FuncData} (F : Fun K "need_integer" "need_integer" sNeedInteger f fd) (T : Tx P K mg) : FnOk P w K mg base CX0 2 f fd ["number"] spNeedInteger := by
  obtain ⟨f1, fd1, D1⟩ := T.isInteger
  have G1 : FnOk P w K mg base CX0 1 f1 fd1 ["thing"] spIsInteger := ok_isInteger D1.F T.bl
  refine F.ok scNeedInteger (fun vs H Q E h => ?_) (fun cdv A outer s H vs Q E hr h => ?_)
  · obtain ⟨n, rfl, _⟩ := h
    rfl
  · obtain ⟨n, rfl, q⟩ := h
    refine ⟨_, pss_one (ps_if (pt_not (pt_val (pe_call G1 hr rfl D1.g D1.F.kp D1.b .nil pass0 (pa_cons (pv 0) pa_nil)))) (pss_one ps_never) pss_nil), ?_⟩
    exact ⟨_, rfl, n, rfl, true, rfl, iteF q⟩
/-! ### hold_of, out_of, held_of -/
theorem scHoldOf : FnScope ["table", "thing"] ["table", "thing"] (defScope sHoldOf) := ⟨rfl, rfl, rfl, by decide +kernel, rfl, by decide +kernel, by decide +kernel⟩
theorem ok_holdOf {f : Addr} {fd : FuncData} (F : Fun K "hold_of" "hold_of" sHoldOf f fd) (T : Tx P K mg) : FnOk P w K mg base CX0 1 f fd ["table", "thing"] (spHoldOf K) := by
  refine F.ok scHoldOf (fun vs H Q E h => ?_) (fun cdv A outer s H vs Q E hr h => ?_)
  · obtain ⟨a, t, x, rfl, _⟩ := h
    rfl
  · obtain ⟨a, t, x, rfl, hI, hT, q⟩ := h
    refine ⟨_, pss_one (ps_ret (pe_ix ix_tup (pv 0) (pe_op op_mod (pv 1) (pe_callB call_len_seq (by rfl) T.bl.len PySem.boot_len (pa_cons (pv 0) pa_nil))) (fun _ _ => rfl))), ?_⟩
    refine ⟨_, rfl, _, rfl, _, rfl, a, _, rfl, .inr hI, _, _, rfl, rfl, ?_, a, t.map V.int, _, _, rfl, rfl, hI, ?_, q⟩
    · rw [List.length_map]; exact hT.posI
    · rw [List.length_map]; exact hold_at hT x
theorem scOutOf : FnScope ["table", "thing"] ["table", "thing"] (defScope sOutOf) := ⟨rfl, rfl, rfl, by decide +kernel, rfl, by decide +kernel, by decide +kernel⟩
theorem ok_outOf {f : Addr} {fd : FuncData} (F : Fun K "out_of" "out_of" sOutOf f fd) (T : Tx P K mg) : FnOk P w K mg base CX0 2 f fd ["table", "thing"] (spOutOf K) := by
  obtain ⟨f1, fd1, D1⟩ := T.holdOf
  have G1 : FnOk P w K mg base CX0 1 f1 fd1 ["table", "thing"] (spHoldOf K) := ok_holdOf D1.F T
  refine F.ok scOutOf (fun vs H Q E h => ?_) (fun cdv A outer s H vs Q E hr h => ?_)
  · obtain ⟨a, t, x, rfl, _⟩ := h
    rfl
  · obtain ⟨a, t, x, rfl, hI, hT, q⟩ := h
    refine ⟨_, pss_one (ps_ret (pe_op op_add (pv 1) (pe_call G1 hr rfl D1.g D1.F.kp D1.b .nil pass0 (pa_cons (pv 0) (pa_cons (pv 1) pa_nil))))), ?_⟩
    exact ⟨_, rfl, _, rfl, _, rfl, a, t, x, rfl, hI, hT, _, _, rfl, rfl, q⟩
theorem scHeldOf : FnScope ["table"] ["table"] (defScope sHeldOf) := ⟨rfl, rfl, rfl, by decide +kernel, rfl, by decide +kernel, by decide +kernel⟩
theorem ok_heldOf {f : Addr} {fd : FuncData} (F : Fun K "held_of" "held_of" sHeldOf f fd) (T : Tx P K mg) : FnOk P w K mg base CX0 1 f fd ["table"] (spHeldOf K) := by
  refine F.ok scHeldOf (fun vs H Q E h => ?_) (fun cdv A outer s H vs Q E hr h => ?_)
  · obtain ⟨a, t, rfl, _⟩ := h
    rfl
  · obtain ⟨a, t, rfl, hI, hT, q⟩ := h
    refine ⟨_, pss_one (ps_ret (pe_op op_fdiv (pe_callB (cr_sumT rfl) (by rfl) T.bl.sum (by decide +kernel) (pa_cons (pv 0) pa_nil)) (pe_callB call_len_seq (by rfl) T.bl.len PySem.boot_len (pa_cons (pv 0) pa_nil)))), ?_⟩
    refine ⟨_, rfl, a, t, rfl, hI, _, rfl, a, _, rfl, .inr hI, _, _, rfl, rfl, ?_, ?_⟩
    · have h := hT.posI
      have h' := hT.le
      rw [List.length_map]
      exact ⟨h, by omega⟩
    · rw [List.length_map]; exact q
/-! ### out_at, held -/
theorem scOutAt : FnScope ["table", "thing"] ["table", "thing"] (defScope sOutAt) := ⟨rfl, rfl, rfl, by decide +kernel, rfl, by decide +kernel, by decide +kernel⟩
theorem ok_outAt {f : Addr} {fd : FuncData} (F : Fun K "out_at" "out_at" sOutAt f fd) (T : Tx P K mg) : FnOk P w K mg base CX0 5 f fd ["table", "thing"] (spOutAt K) := by
  obtain ⟨f1, fd1, D1⟩ := T.needTable
  obtain ⟨f2, fd2, D2⟩ := T.needInteger
  obtain ⟨f3, fd3, D3⟩ := T.outOf
  have G1 : FnOk P w K mg base CX0 4 f1 fd1 ["table"] (spYes K .non) := ok_needTable D1.F T
  have G2 : FnOk P w K mg base CX0 2 f2 fd2 ["number"] spNeedInteger := ok_needInteger D2.F T
  have G3 : FnOk P w K mg base CX0 2 f3 fd3 ["table", "thing"] (spOutOf K) := ok_outOf D3.F T
  refine F.ok scOutAt (fun vs H Q E h => ?_) (fun cdv A outer s H vs Q E hr h => ?_)
  · obtain ⟨a, t, x, rfl, _⟩ := h
    rfl
  · obtain ⟨a, t, x, rfl, hI, hT, q⟩ := h
    refine ⟨_, pss_cons (ps_expr (pe_call G1 hr rfl D1.g D1.F.kp D1.b .nil pass0 (pa_cons (pv 0) pa_nil)))
      (pss_cons (ps_expr (pe_call G2 (hr.mono (by decide)) rfl D2.g D2.F.kp D2.b .nil pass0 (pa_cons (pv 1) pa_nil)))
      (pss_one (ps_ret (pe_call G3 (hr.mono (by decide)) rfl D3.g D3.F.kp D3.b .nil pass0 (pa_cons (pv 0) (pa_cons (pv 1) pa_nil)))))), ?_⟩
    exact ⟨_, rfl, a, t, rfl, hI, hT, fun H' s' => ⟨_, rfl, x, rfl, _, rfl, _, rfl, a, t, x, rfl, s'.ints hI, hT, q H' s'⟩⟩
theorem scHeld : FnScope ["table"] ["table"] (defScope sHeld) := ⟨rfl, rfl, rfl, by decide +kernel, rfl, by decide +kernel, by decide +kernel⟩
theorem ok_held {f : Addr} {fd : FuncData} (F : Fun K "held" "held" sHeld f fd) (T : Tx P K mg) : FnOk P w K mg base CX0 5 f fd ["table"] (spHeld K) := by
  obtain ⟨f1, fd1, D1⟩ := T.needTable
  obtain ⟨f3, fd3, D3⟩ := T.heldOf
  have G1 : FnOk P w K mg base CX0 4 f1 fd1 ["table"] (spYes K .non) := ok_needTable D1.F T
  have G3 : FnOk P w K mg base CX0 1 f3 fd3 ["table"] (spHeldOf K) := ok_heldOf D3.F T
  refine F.ok scHeld (fun vs H Q E h => ?_) (fun cdv A outer s H vs Q E hr h => ?_)
  · obtain ⟨a, t, rfl, _⟩ := h
    rfl
  · obtain ⟨a, t, rfl, hI, hT, q⟩ := h
    refine ⟨_, pss_cons (ps_expr (pe_call G1 hr rfl D1.g D1.F.kp D1.b .nil pass0 (pa_cons (pv 0) pa_nil)))
      (pss_one (ps_ret (pe_call G3 (hr.mono (by decide)) rfl D3.g D3.F.kp D3.b .nil pass0 (pa_cons (pv 0) pa_nil)))), ?_⟩
    exact ⟨_, rfl, a, t, rfl, hI, hT, fun H' s' => ⟨_, rfl, a, t, rfl, s'.ints hI, hT, q H' s'⟩⟩
/-! ### shortened -/
theorem cut_take (xs : List V) (d : Nat) (h : d ≤ xs.length) : cutV xs none (some (d : Int)) = xs.take d := by
  unfold cutV
  rw [HT.sIx_none, HT.sIx_nat, List.drop_zero, Nat.sub_zero, Nat.min_eq_left h]
theorem scShortened : FnScope ["holds", "length"] ["holds"] (defScope sShortened) := ⟨rfl, rfl, rfl, by decide +kernel, rfl, by decide +kernel, by decide +kernel⟩
/-- holds[:d], told for any d up to its length -/
theorem slA_of {K : PySem.W.Frag} {H : Hp} {a : Addr} {l : List Int} {d : Nat} {Q : VK} (hI : Ints K H a l) (hd : d ≤ l.length) (q : ∀ p H', Same H H' → Ints K H' p (l.take d) → Q (.ref p) H') : rSlA K (.ref a) none (some (d : Int)) H Q := by
  refine ⟨a, _, rfl, hI, fun h => ?_, fun h p hp => ?_⟩
  · refine q a H (Same.refl H) ?_
    have h2 := h.2
    rw [HT.sIx_nat, List.length_map] at h2
    have : d = l.length := by omega
    rw [this, List.take_length]; exact hI
  · refine q p _ (Same.newN hp) ?_
    rw [cut_take _ _ (by rw [List.length_map]; exact hd), ← List.map_take]
    exact SqT.of upd_same
theorem ok_shortened {f : Addr} {fd : FuncData} (F : Fun K "shortened" "shortened" sShortened f fd) (T : Tx P K mg) : FnOk P w K mg base CX0 1 f fd ["holds"] (spShortened K) := by
  refine F.ok scShortened (fun vs H Q E h => ?_) (fun cdv A outer s H vs Q E hr h => ?_)
  · obtain ⟨a, l, rfl, _⟩ := h
    rfl
  · obtain ⟨a, l, rfl, hI, h0, h24, q⟩ := h
    refine ⟨_, pss_one (ps_for PassesOwn.never rfl (pi_range2 (by rfl) T.bl.range (pa_cons pe_int (pa_cons (pe_op op_add (pe_callB call_len_seq (by rfl) T.bl.len PySem.boot_len (pa_cons (pv 0) pa_nil)) pe_int) pa_nil))) (pg_name (i := 1) scShortened.nd rfl (Or.inl rfl))
      (pss_one (ps_if (PW.pt (pw_and (pt_cmpR op_eq (pe_op op_mod (pe_callB call_len_seq (by rfl) T.bl.len PySem.boot_len (pa_cons (pv 0) pa_nil)) (pv 1)) pe_int (nomark _))
          (pw_and1 (pt_cmpR (op_eqD hr.units) (pe_op op_repK (pe_slice sl_tupA (pv 0) po_none (po_some (pv 1))) (pe_op op_fdiv (pe_callB call_len_seq (by rfl) T.bl.len PySem.boot_len (pa_cons (pv 0) pa_nil)) (pv 1))) (pv 0) (nomark _)))))
        (pss_one (ps_ret (pe_slice sl_tupA (pv 0) po_none (po_some (pv 1))))) pss_nil))), ?_⟩
    have el : (((l.map V.int).length : Int) + 1 - 1).toNat = l.length := by rw [List.length_map]; omega
    refine ⟨_, rfl, a, _, rfl, .inr hI, _, _, rfl, rfl, 1, _, rfl, ?_, ?_⟩
    · rw [List.length_map]; omega
    rw [el]
    refine for_range (lo := 1) (n := l.length) (fun i σ H' => (∃ v, σ = [some (.ref a), v]) ∧ Same H H' ∧ ∀ e, 0 < e → e ≤ i → ¬ Rep l e) ⟨⟨_, rfl⟩, Same.refl H, fun e h1 h2 => by omega⟩ ?_ ?_
    · rintro i σ H1 hi ⟨⟨v, rfl⟩, s1, hn⟩
      have e1 : (1 : Int) + (i : Nat) = ((i + 1 : Nat) : Int) := by omega
      rw [e1]
      refine ⟨_, rfl, a, _, rfl, .inr (s1.ints hI), _, rfl, _, _, rfl, rfl, (by omega), rfl, _, rfl, ?_⟩
      have no : ∀ e, ¬ Rep l (i + 1) → 0 < e → e ≤ i + 1 → ¬ Rep l e := fun e hr h1 h2 => by
        rcases Nat.lt_or_ge i e with hlt | hge
        · have : e = i + 1 := by omega
          rw [this]; exact hr
        · exact hn e h1 hge
      by_cases hm : l.length % (i + 1) = 0
      · have hm' : decide (V.int (((l.map V.int).length : Int) % ((i + 1 : Nat) : Int)) = V.int 0) = true := by
          rw [List.length_map]
          refine decide_eq_true (congrArg V.int ?_)
          omega
        rw [hm']
        have hdv : (((l.map V.int).length : Int) / ((i + 1 : Nat) : Int)) = ((l.length / (i + 1) : Nat) : Int) := by rw [List.length_map]; omega
        have hk1 : 1 ≤ l.length / (i + 1) := (Nat.le_div_iff_mul_le (by omega)).2 (by omega)
        have hk2 : l.length / (i + 1) ≤ l.length := Nat.div_le_self _ _
        refine iteT ⟨_, rfl, _, rfl, _, rfl, slA_of (s1.ints hI) (by omega) fun p H2 s2 hp => ⟨_, rfl, a, _, rfl, .inr ((s1.trans s2).ints hI), _, rfl, _, _, rfl, rfl, ⟨by omega, by omega⟩, p, _, _, rfl, rfl, hp, ?_, ?_, ?_, ?_, fun r H3 s3 hr3 => ⟨_, rfl, ?_⟩⟩⟩
        · intro z
          have := congrArg List.length z
          rw [List.length_map, List.length_take, List.length_nil] at this
          omega
        · rw [hdv]; omega
        · rw [hdv]; omega
        · rw [List.length_map, List.length_take]; omega
        · have hr4 : Ints K H3 r ((List.replicate (l.length / (i + 1)) (l.take (i + 1))).flatten) := by
            unfold Ints
            rw [List.map_flatten, List.map_replicate]
            rw [hdv, Int.toNat_natCast] at hr3
            exact hr3
          refine eqT_ints hr4 (((s1.trans s2).trans s3).ints hI) ⟨_, rfl, ?_⟩
          by_cases he : (List.replicate (l.length / (i + 1)) (l.take (i + 1))).flatten = l
          · rw [decide_eq_true he]
            refine iteT ⟨_, rfl, _, rfl, _, rfl, slA_of (((s1.trans s2).trans s3).ints hI) (by omega) fun p4 H4 s4 hp4 => ?_⟩
            exact q (i + 1) p4 H4 (((s1.trans s2).trans s3).trans s4) (by omega) (by omega) ⟨hm, he⟩ (fun e h1 h2 => hn e h1 (by omega)) hp4
          · rw [decide_eq_false he]
            exact iteF ⟨⟨_, rfl⟩, (s1.trans s2).trans s3, fun e => no e (fun R => he R.2)⟩
      · have hm' : decide (V.int (((l.map V.int).length : Int) % ((i + 1 : Nat) : Int)) = V.int 0) = false := by
          rw [List.length_map]
          refine decide_eq_false fun z => hm ?_
          have z' := V.int.inj z
          omega
        rw [hm']
        exact iteF (iteF ⟨⟨_, rfl⟩, s1, fun e => no e (fun R => hm R.1)⟩)
    · rintro σ H1 ⟨_, s1, hn⟩
      exact (hn l.length h0 (Nat.le_refl _) ⟨Nat.mod_self _, by rw [Nat.div_self h0, List.take_length]; simp⟩).elim
end
end BaR

namespace BaR
open PySem PySem.Spec PyProof.Rows L2 BA
def spCommonOf : Sp := fun vs H Q _ => ∃ a b : Nat, vs = [.int (a : Int), .int (b : Int)] ∧ Q (.int ((Nat.gcd a b : Nat) : Int)) H
def spChained (K : PySem.W.Frag) (C : Addr) : Sp := fun vs H Q E => ∃ (a b : Addr) (v t : List Int) (i : Nat), vs = [.ref a, .ref b] ∧ Ints K H a v ∧ Tab v ∧ Ints K H b t ∧ Tab t ∧ Wh t i v ∧ i ≤ 1000 ∧ (∀ d H', Same H H' → E (.ref C) d H') ∧
  ∀ (p : Addr) (H' : Hp) (v' : List Int), Same H H' → Ints K H' p v' → Tab v' → Wh t (i + 1) v' → (AllEq t (i + 1) → v' = [((i + 1 : Nat) : Int) * heldI t]) → Q (.ref p) H'
theorem outN_le {t : List Int} (T : Tab t) (n : Nat) (x : Int) : outN t n x ≤ x + 60 * n := by
  induction n with
  | zero => show x ≤ _; omega
  | succ n ih =>
    have h := T.hold_60 (outN t n x)
    show outN t n x + hold t (outN t n x) ≤ _
    omega
theorem log_small {a : Int} (h0 : 0 ≤ a) (h : a ≤ 100000) : a.natAbs.log2 < 1920 := by
  by_cases z : a.natAbs = 0
  · rw [z]; decide
  · rw [Nat.log2_lt z]
    have h1 : a.natAbs < 2 ^ 20 := by omega
    exact Nat.lt_of_lt_of_le h1 (Nat.pow_le_pow_right (by decide) (by decide))
section
variable {P : Program} {w : World} {K : PySem.W.Frag} {mg : Str → Option Value} {base : Heap}
theorem scCommonOf : FnScope ["one", "other"] ["one", "other"] (defScope sCommonOf) := ⟨rfl, rfl, rfl, by decide +kernel, rfl, by decide +kernel, by decide +kernel⟩
theorem ok_commonOf {f : Addr} {fd : FuncData} (F : Fun K "common_of" "common_of" sCommonOf f fd) (T : Tx P K mg) : FnOk P w K mg base CX0 1 f fd ["one", "other"] spCommonOf := by
  refine F.ok scCommonOf (fun vs H Q E h => ?_) (fun cdv A outer s H vs Q E hr h => ?_)
  · obtain ⟨a, b, rfl, _⟩ := h
    rfl
  · obtain ⟨a, b, rfl, q⟩ := h
    refine ⟨_, pss_cons (ps_while PassesOwn.never (pt_cmpR op_gt (pv 1) pe_int (nomark _))
      (pss_one (ps_par (i := 0) (j := 1) (by rfl) scCommonOf.nd rfl rfl (by decide) rfl rfl (pa_cons (pv 1) (pa_cons (pe_op op_mod (pv 0) (pv 1)) pa_nil)) (by rfl))))
      (pss_one (ps_ret (pv 0))), ?_⟩
    refine ⟨fun m σ H' => ∃ x y : Nat, y = m ∧ σ = [some (.int (x : Int)), some (.int (y : Int))] ∧ H = H' ∧ Nat.gcd x y = Nat.gcd a b, ⟨b, a, b, rfl, rfl, rfl, rfl⟩, ?_⟩
    rintro _ _ _ ⟨x, y, rfl, rfl, rfl, e⟩
    refine ⟨_, rfl, _, _, rfl, rfl, _, rfl, ?_⟩
    refine ite2 (fun hc => ?_) (fun hc => ?_)
    · have hy : (y : Int) > 0 := of_decide_eq_true hc
      refine ⟨fun σ' H' => ∃ x' y' : Nat, y' < y ∧ σ' = [some (.int (x' : Int)), some (.int (y' : Int))] ∧ H = H' ∧ Nat.gcd x' y' = Nat.gcd a b, ?_, ?_⟩
      · rintro σ' H' ⟨x', y', hl, e1, e2, e3⟩
        exact ⟨y', hl, x', y', rfl, e1, e2, e3⟩
      · refine ⟨_, rfl, _, rfl, _, rfl, _, _, rfl, rfl, hy, _, _, rfl, y, x % y, Nat.mod_lt _ (by omega), rfl, rfl, ?_⟩
        rw [← e, Nat.gcd_comm x y, Nat.gcd_rec y x, Nat.gcd_comm]
    · have hy : ¬ (y : Int) > 0 := fun z => hc (decide_eq_true z)
      have h0 : y = 0 := by omega
      rw [h0, Nat.gcd_zero_right] at e
      refine ⟨_, rfl, ?_⟩
      rw [e]; exact q
theorem scChained : FnScope ["one", "other", "length", "holds", "thing"] ["one", "other"] (defScope sChained) := ⟨rfl, rfl, rfl, by decide +kernel, rfl, by decide +kernel, by decide +kernel⟩
theorem ok_chained {f C : Addr} {fd : FuncData} (F : Fun K "chained" "chained" sChained f fd) (T : Tx P K mg) (TM : BaX.TmTxt P K mg C) : FnOk P w K mg base (CX P w) 5 f fd ["one", "other"] (spChained K C) := by
  obtain ⟨f1, fd1, D1⟩ := T.needTable
  obtain ⟨f2, fd2, D2⟩ := T.commonOf
  obtain ⟨f3, fd3, D3⟩ := T.outOf
  obtain ⟨f4, fd4, D4⟩ := T.shortened
  have G1 : FnOk P w K mg base CX0 4 f1 fd1 ["table"] (spYes K .non) := ok_needTable D1.F T
  have G2 : FnOk P w K mg base CX0 1 f2 fd2 ["one", "other"] spCommonOf := ok_commonOf D2.F T
  have G3 : FnOk P w K mg base CX0 2 f3 fd3 ["table", "thing"] (spOutOf K) := ok_outOf D3.F T
  have G4 : FnOk P w K mg base CX0 1 f4 fd4 ["holds"] (spShortened K) := ok_shortened D4.F T
  obtain ⟨tl, long⟩ := T.bl.long
  obtain ⟨tg, great⟩ := T.bl.great
  refine F.okX scChained (fun vs H Q E h => ?_) (fun cdv A outer s H vs Q E hr h => ?_)
  · obtain ⟨a, b, v, t, i, rfl, _⟩ := h
    rfl
  · obtain ⟨a, b, v, t, i, rfl, hIv, hTv, hIt, hTt, hW, hi, qE, q⟩ := h
    refine ⟨_, pss_cons (ps_expr (pe_call G1 hr rfl D1.g D1.F.kp D1.b .nil pass0 (pa_cons (pv 0) pa_nil)))
      (pss_cons (ps_expr (pe_call G1 hr rfl D1.g D1.F.kp D1.b .nil pass0 (pa_cons (pv 1) pa_nil)))
      (pss_cons (ps_set (i := 2) scChained.nd rfl (Or.inl rfl) (pe_op op_fdiv (pe_op op_mul (pe_callB call_len_seq (by rfl) T.bl.len PySem.boot_len (pa_cons (pv 0) pa_nil)) (pe_callB call_len_seq (by rfl) T.bl.len PySem.boot_len (pa_cons (pv 1) pa_nil)))
        (pe_call G2 (hr.mono (by decide)) rfl D2.g D2.F.kp D2.b .nil pass0 (pa_cons (pe_callB call_len_seq (by rfl) T.bl.len PySem.boot_len (pa_cons (pv 0) pa_nil)) (pa_cons (pe_callB call_len_seq (by rfl) T.bl.len PySem.boot_len (pa_cons (pv 1) pa_nil)) pa_nil)))))
      (pss_cons (ps_set (i := 3) scChained.nd rfl (Or.inl rfl) (pe_call G4 (hr.mono (by decide)) rfl D4.g D4.F.kp D4.b .nil pass0 (pa_cons (pe_callTy call_tuple_of (by rfl) T.bl.tuple (by decide +kernel) (pa_cons
          (pe_lc (own := [("thing", 4)]) (g := gName 4) (tt := tYes) rfl scChained.nd (pi_range1 (by rfl) T.bl.range (pa_cons (pv 2) pa_nil)) (blkOk_by (N := ["one", "other", "length", "holds", "thing"]) (sc := defScope sChained) (by decide +kernel))
            (fun _ _ _ _ _ => pg_name (i := 4) scChained.nd rfl (Or.inl rfl)) (fun _ _ _ _ _ => pts_nil)
            (fun _ _ _ _ _ => pe_op op_sub (pe_call G3 (hr.mono (by decide)) rfl D3.g D3.F.kp D3.b .nil pass0 (pa_cons (pv 1) (pa_cons (pe_call G3 (hr.mono (by decide)) rfl D3.g D3.F.kp D3.b .nil pass0 (pa_cons (pv 0) (pa_cons (pv 4) pa_nil))) pa_nil))) (pv 4))) pa_nil)) pa_nil)))
      (pss_cons (ps_if (pt_cmpR op_gt (pe_callB call_len_seq (by rfl) T.bl.len PySem.boot_len (pa_cons (pv 3) pa_nil)) (pe_glob (v := .int 24) rfl long ⟨_, rfl⟩) (nomark _)) (pss_one ps_never) pss_nil)
      (pss_cons (ps_if (pt_cmpR op_gt (pe_callB (cr_maxT rfl) (by rfl) T.bl.max (by decide +kernel) (pa_cons (pv 3) pa_nil)) (pe_glob (v := .int 60) rfl great ⟨_, rfl⟩) (nomark _))
          (pss_one (ps_raise rfl (takes_of rfl rfl rfl rfl) (pmk_tm TM hr (pa_cons (pe_callB (cr_maxT rfl) (by rfl) T.bl.max (by decide +kernel) (pa_cons (pv 3) pa_nil)) (pa_cons (pe_glob (v := .int 60) rfl great ⟨_, rfl⟩) pa_nil))))) pss_nil)
      (pss_one (ps_ret (pv 3)))))))), ?_⟩
    refine ⟨_, rfl, a, v, rfl, hIv, hTv, fun H1 s1 => ⟨_, rfl, b, t, rfl, s1.ints hIt, hTt, fun H2 s2 => ?_⟩⟩
    have s12 := s1.trans s2
    have lv := List.length_map (as := v) V.int
    have lt := List.length_map (as := t) V.int
    have hv0 := hTv.pos
    have ht0 := hTt.pos
    have hv7 := hTv.le
    have ht7 := hTt.le
    obtain ⟨c, hc⟩ := hW.dvd
    have hg : Nat.gcd (v.map V.int).length (t.map V.int).length = v.length := by rw [lv, lt, hc]; exact Nat.gcd_eq_left ⟨c, rfl⟩
    have hlen : (((v.map V.int).length : Int) * ((t.map V.int).length : Int)) / ((Nat.gcd (v.map V.int).length (t.map V.int).length : Nat) : Int) = (t.length : Int) := by
      rw [hg, lv, lt, Int.mul_ediv_cancel_left _ (by omega)]
    refine ⟨_, rfl, a, _, rfl, .inr (s12.ints hIv), _, rfl, b, _, rfl, .inr (s12.ints hIt), _, _, rfl, rfl, .inl ⟨by omega, by omega⟩, _, rfl, a, _, rfl, .inr (s12.ints hIv), _, rfl, b, _, rfl, .inr (s12.ints hIt), _, _, rfl, _, _, rfl, rfl, ?_, ?_⟩
    · rw [hg]; exact ⟨by omega, by omega⟩
    dsimp only
    rw [hlen]
    refine ⟨_, rfl, _, rfl, ?_, ?_, fun D hD => lc_range (lo := 0) (n := t.length) (fun k H' => Same H2 H' ∧ H' D = some (.lst (((List.range k).map fun x : Nat => outN t (i + 1) (x : Int) - x).map V.int))) ⟨Same.newN hD, upd_same⟩ ?_ ?_⟩
    · omega
    · omega
    · rintro k H3 hk ⟨s3, e3⟩
      have s4 := s12.trans s3
      refine ⟨rfl, ?_⟩
      refine yesT ⟨_, rfl, _, rfl, _, rfl, a, v, _, rfl, s4.ints hIv, hTv, b, t, _, rfl, s4.ints hIt, hTt, _, rfl, _, _, rfl, rfl, _, e3, ?_, s3.putN hD, ?_⟩
      · rw [List.length_map, List.length_map, List.length_range]
        have : (7 : Nat) < sizeLine := by decide
        omega
      · rw [upd_same, List.range_succ, List.map_append, List.map_append, Int.zero_add, hW.eq]
        rfl
    · rintro H3 ⟨s3, e3⟩
      refine ⟨D, _, rfl, .inl ⟨SqL.of e3, fun l hl => ?_⟩⟩
      refine ⟨l, rawN t (i + 1), rfl, SqT.of upd_same, by rw [rawN_len]; exact ht0, by rw [rawN_len]; omega, fun d p H4 s4 hd0 hd1 hR hmin hp => ?_⟩
      rw [rawN_len] at hd1
      have s5 : Same H H4 := (s12.trans (s3.addN hl)).trans s4
      have lw : ((rawN t (i + 1)).take d).length = d := by rw [List.length_take, rawN_len]; omega
      have hWn := Wh.next (w := []) hTt hd0 hd1 hR
      refine ⟨_, rfl, p, _, rfl, .inr hp, _, _, rfl, rfl, _, rfl, ?_⟩
      have h24 : decide ((((rawN t (i + 1)).take d).map V.int).length > (24 : Int)) = false := by
        rw [List.length_map, lw]
        exact decide_eq_false (by omega)
      rw [h24]
      refine iteF ⟨_, rfl, p, _, rfl, hp, by omega, fun m hm hmax => ⟨_, _, rfl, rfl, _, rfl, ite2 (fun hc => ?_) (fun hc => ?_)⟩⟩
      · refine ⟨_, rfl, p, _, rfl, hp, by omega, fun m' hm' hmax' => ⟨_, _, rfl, ?_, by decide +kernel, fun d => qE d _ s5⟩⟩
        obtain ⟨x, hx, rfl⟩ := List.mem_map.1 (List.mem_of_mem_take hm')
        have h1 := outN_le hTt (i + 1) (x : Int)
        have h2 := hTt.outN_ge (i + 1) (x : Int)
        exact log_small (by omega) (by omega)
      · have hle : m ≤ 60 := by
          have hn : ¬ (60 : Int) < m := fun z => hc (decide_eq_true z)
          omega
        refine ⟨_, rfl, q p _ _ s5 hp (Wh.tab hTt hWn fun h hh => Int.le_trans (hmax h hh) hle) hWn fun hall => ?_⟩
        obtain ⟨r1, r2⟩ := rep_one hTt hall
        have : d = 1 := by
          by_cases h : 1 < d
          · exact absurd r1 (hmin 1 (by decide) h)
          · omega
        rw [this, r2]
end
end BaR

namespace BaR
open PySem PySem.Spec PyProof.Rows L2 BA
/-- the places of a circle, as the program's numbers -/
noncomputable def cI (t : List Int) (p : Nat) : List Int := (circ t p).map fun n : Nat => (n : Int)
def spCircleFrom (K : PySem.W.Frag) : Sp := fun vs H Q _ => ∃ (a : Addr) (t : List Int) (p : Nat), vs = [.ref a, .int (p : Int)] ∧ Ints K H a t ∧ Tab t ∧ p < t.length ∧ ∀ (q : Addr) (H' : Hp), Same H H' → Ints K H' q (cI t p) → Q (.ref q) H'
def spPaceOf (K : PySem.W.Frag) : Sp := fun vs H Q _ => ∃ (a b : Addr) (t : List Int) (p : Nat), vs = [.ref a, .ref b] ∧ Ints K H a t ∧ Tab t ∧ p < t.length ∧ Ints K H b (cI t p) ∧ ∀ (q : Addr) (H' : Hp), Same H H' → Ints K H' q [pn t p, pd t p] → Q (.ref q) H'
section
variable {P : Program} {w : World} {K : PySem.W.Frag} {mg : Str → Option Value} {base : Heap}
theorem scCircleFrom : FnScope ["table", "place", "places"] ["table", "place"] (defScope sCircleFrom) := ⟨rfl, rfl, rfl, by decide +kernel, rfl, by decide +kernel, by decide +kernel⟩
theorem itI_last (t : List Int) (p k : Nat) : atI (((List.range (k + 1)).map fun n => ((itN t n p : Nat) : Int)).map V.int) (-1) = some (.int ((itN t k p : Nat) : Int)) := by
  rw [List.range_succ, List.map_append, List.map_append]
  exact atI_last _ _
theorem cI_eq (t : List Int) (p : Nat) : cI t p = (List.range (per t p)).map fun n => ((itN t n p : Nat) : Int) := by
  unfold cI circ
  rw [List.map_map]; rfl
theorem ok_circleFrom {f : Addr} {fd : FuncData} (F : Fun K "circle_from" "circle_from" sCircleFrom f fd) (T : Tx P K mg) : FnOk P w K mg base CX0 3 f fd ["table", "place"] (spCircleFrom K) := by
  obtain ⟨f3, fd3, D3⟩ := T.outOf
  have G3 : FnOk P w K mg base CX0 2 f3 fd3 ["table", "thing"] (spOutOf K) := ok_outOf D3.F T
  refine F.ok scCircleFrom (fun vs H Q E h => ?_) (fun cdv A outer s H vs Q E hr h => ?_)
  · obtain ⟨a, t, p, rfl, _⟩ := h
    rfl
  · obtain ⟨a, t, p, rfl, hI, hT, hp, q⟩ := h
    refine ⟨_, pss_cons (ps_set (i := 2) scCircleFrom.nd rfl (Or.inl rfl) (pe_lst (pa_cons (pv 1) pa_nil)))
      (pss_cons (ps_while PassesOwn.never (pt_cmpR op_ne (pe_op op_mod (pe_call G3 hr rfl D3.g D3.F.kp D3.b .nil pass0 (pa_cons (pv 0) (pa_cons (pe_ix ix_list (pv 2) (pe_un un_neg pe_int) (fun _ _ => rfl)) pa_nil)))
          (pe_callB call_len_seq (by rfl) T.bl.len PySem.boot_len (pa_cons (pv 0) pa_nil))) (pv 1) (nomark _))
        (pss_one (ps_expr (pe_bm PySem.F.plainAttrs_list PySem.F.slot_list_append PySem.F.type_list_append mt_append (pv 2)
          (pa_cons (pe_op op_mod (pe_call G3 hr rfl D3.g D3.F.kp D3.b .nil pass0 (pa_cons (pv 0) (pa_cons (pe_ix ix_list (pv 2) (pe_un un_neg pe_int) (fun _ _ => rfl)) pa_nil)))
            (pe_callB call_len_seq (by rfl) T.bl.len PySem.boot_len (pa_cons (pv 0) pa_nil))) pa_nil)))))
      (pss_one (ps_ret (pe_callTy call_tuple_of (by rfl) T.bl.tuple (by decide +kernel) (pa_cons (pv 2) pa_nil))))), ?_⟩
    have lt := List.length_map (as := t) V.int
    have ht7 := hT.le
    have hper := hT.per_le p
    refine ⟨_, rfl, by show 1 ≤ sizeLine; decide, fun D hD => ?_⟩
    refine ⟨fun m σ H' => ∃ k, k < per t p ∧ m = per t p - k ∧ σ = [some (.ref a), some (.int (p : Int)), some (.ref D)] ∧ Same H H' ∧ H' D = some (.lst (((List.range (k + 1)).map fun n => ((itN t n p : Nat) : Int)).map V.int)), ⟨_, 0, hT.per_pos p, rfl, rfl, Same.newN hD, ?_⟩, ?_⟩
    · rw [upd_same]
      show _ = some (HO.lst [V.int ((itN t 0 p : Nat) : Int)])
      rw [hT.itN_zero hp]
    rintro m σ H1 ⟨k, hk, rfl, rfl, s1, e1⟩
    have hn := hT.itN_next k p
    refine ⟨_, rfl, _, rfl, _, rfl, D, _, _, _, rfl, rfl, SqL.of e1, itI_last t p k, a, t, _, rfl, s1.ints hI, hT, _, rfl, a, _, rfl, .inr (s1.ints hI), _, _, rfl, rfl, ?_, _, rfl, rfl, _, rfl, ?_⟩
    · rw [lt]; exact hT.posI
    have hmod : ∀ x : Nat, x < t.length → ((x : Int) % (t.length : Int)) = (x : Int) := fun x hx => Int.emod_eq_of_lt (by omega) (by omega)
    by_cases hlt : k + 1 < per t p
    · have e2 : (!decide (V.int (out t ((itN t k p : Nat) : Int) % ((t.map V.int).length : Int)) = V.int (p : Int))) = true := by
        rw [lt, ← hn]
        have h1 := hT.per_min p (m := k + 1) (by omega) hlt
        rw [← hT.itN_cast, hmod p hp] at h1
        rw [decide_eq_false fun z => h1 (V.int.inj z)]; rfl
      dsimp only
      rw [e2]
      refine iteT ⟨fun σ' H' => σ' = [some (.ref a), some (.int (p : Int)), some (.ref D)] ∧ Same H H' ∧ H' D = some (.lst (((List.range (k + 1 + 1)).map fun n => ((itN t n p : Nat) : Int)).map V.int)), ?_, ?_⟩
      · rintro σ' H' ⟨r1, r2, r3⟩
        exact ⟨per t p - (k + 1), by omega, k + 1, hlt, rfl, r1, r2, r3⟩
      · refine ⟨_, rfl, .inl ⟨rfl, _, SqL.of e1⟩, _, rfl, _, rfl, _, rfl, D, _, _, _, rfl, rfl, SqL.of e1, itI_last t p k, a, t, _, rfl, s1.ints hI, hT, _, rfl, a, _, rfl, .inr (s1.ints hI), _, _, rfl, rfl, ?_, D, _, _, rfl, rfl, e1, ?_, rfl, s1.putN hD, ?_⟩
        · rw [lt]; exact hT.posI
        · rw [List.length_map, List.length_map, List.length_range]
          have : (9 : Nat) < sizeLine := by decide
          omega
        · rw [upd_same, lt]; dsimp only; rw [← hn, List.range_succ (n := k + 1), List.map_append, List.map_append]; rfl
    · have hk1 : k + 1 = per t p := by omega
      have e2 : (!decide (V.int (out t ((itN t k p : Nat) : Int) % ((t.map V.int).length : Int)) = V.int (p : Int))) = false := by
        rw [lt, ← hn, hk1, hT.itN_cast, hT.per_eq, hmod p hp, decide_eq_true rfl]; rfl
      dsimp only
      rw [e2]
      refine iteF ⟨_, rfl, D, _, rfl, .inl ⟨SqL.of e1, fun l hl => q l _ (s1.addN hl) ?_⟩⟩
      rw [hk1, cI_eq]
      exact SqT.of upd_same
theorem scPaceOf : FnScope ["table", "places", "total", "common", "place"] ["table", "places"] (defScope sPaceOf) := ⟨rfl, rfl, rfl, by decide +kernel, rfl, by decide +kernel, by decide +kernel⟩
theorem ok_paceOf {f : Addr} {fd : FuncData} (F : Fun K "pace_of" "pace_of" sPaceOf f fd) (T : Tx P K mg) : FnOk P w K mg base CX0 2 f fd ["table", "places"] (spPaceOf K) := by
  obtain ⟨f2, fd2, D2⟩ := T.commonOf
  have G2 : FnOk P w K mg base CX0 1 f2 fd2 ["one", "other"] spCommonOf := ok_commonOf D2.F T
  refine F.ok scPaceOf (fun vs H Q E h => ?_) (fun cdv A outer s H vs Q E hr h => ?_)
  · obtain ⟨a, b, t, p, rfl, _⟩ := h
    rfl
  · obtain ⟨a, b, t, p, rfl, hI, hT, hp, hC, q⟩ := h
    refine ⟨_, pss_cons (ps_set (i := 2) scPaceOf.nd rfl (Or.inl rfl) (pe_callB (cr_sum rfl) (by rfl) T.bl.sum (by decide +kernel) (pa_cons
          (pe_lc (own := [("place", 4)]) (g := gName 4) (tt := tYes) rfl scPaceOf.nd (pi_tup (pv 1)) (blkOk_by (N := ["table", "places", "total", "common", "place"]) (sc := defScope sPaceOf) (by decide +kernel))
            (fun _ _ _ _ _ => pg_name (i := 4) scPaceOf.nd rfl (Or.inl rfl)) (fun _ _ _ _ _ => pts_nil)
            (fun _ _ _ _ _ => pe_ix (ixk_tup K) (pv 0) (pv 4) (fun _ _ => rfl))) pa_nil)))
      (pss_cons (ps_set (i := 3) scPaceOf.nd rfl (Or.inl rfl) (pe_call G2 hr rfl D2.g D2.F.kp D2.b .nil pass0 (pa_cons (pv 2) (pa_cons (pe_callB call_len_seq (by rfl) T.bl.len PySem.boot_len (pa_cons (pv 1) pa_nil)) pa_nil))))
      (pss_one (ps_ret (pe_tup (pa_cons (pe_op op_fdiv (pv 2) (pv 3)) (pa_cons (pe_op op_fdiv (pe_callB call_len_seq (by rfl) T.bl.len PySem.boot_len (pa_cons (pv 1) pa_nil)) (pv 3)) pa_nil)))))), ?_⟩
    have lc : ((cI t p).map V.int).length = per t p := by rw [List.length_map]; unfold cI; rw [List.length_map, hT.circ_len]
    have ht7 := hT.le
    have hper := hT.per_le p
    have lcc : (circ t p).length = per t p := hT.circ_len p
    refine ⟨_, rfl, b, rfl, ⟨_, hC⟩, fun D hD => lc_tup (K := K) (a := b) (xs := (cI t p).map V.int) (fun k H' => Same H H' ∧ H' D = some (.lst ((((circ t p).take k).map fun x => t.getD x 0).map V.int))) ⟨Same.newN hD, upd_same⟩ ?_ ?_ ?_⟩
    · exact fun i H' _ s1 => s1.1.ints hC
    · rintro k x H1 hx ⟨s1, e1⟩
      have hk : k < (circ t p).length := by have := (List.getElem?_eq_some_iff.1 hx).1; rw [lc] at this; omega
      have hx2 : x = .int (((circ t p)[k] : Nat) : Int) := by
        unfold cI at hx
        rw [List.getElem?_map, List.getElem?_map, List.getElem?_eq_getElem hk] at hx
        exact (Option.some.inj hx).symm
      subst hx2
      have hkt := hT.mem_lt (List.getElem_mem hk)
      refine ⟨rfl, ?_⟩
      refine yesT ⟨_, rfl, _, rfl, a, _, _, _, rfl, rfl, s1.ints hI, atI_nat (at_int hkt), _, e1, ?_, s1.putN hD, ?_⟩
      · rw [List.length_map, List.length_map, List.length_take]
        have : (7 : Nat) < sizeLine := by decide
        omega
      · rw [upd_same, List.take_succ_eq_append_getElem hk, List.map_append, List.map_append]; rfl
    · rintro H1 ⟨s1, e1⟩
      rw [lc, ← lcc, List.take_length] at e1
      refine ⟨D, _, rfl, SqL.of e1, ?_⟩
      have et : ((circ t p).map fun x => t.getD x 0).sum = tot t p := rfl
      have eT : tot t p = (((tot t p).toNat : Nat) : Int) := (Int.toNat_of_nonneg (hT.tot_nn p)).symm
      rw [et]
      refine ⟨_, rfl, _, rfl, b, _, rfl, .inr (s1.ints hC), (tot t p).toNat, per t p, ?_, ?_⟩
      · rw [← eT, lc]; rfl
      have hg := hT.gg_pos p
      have hgl : gg t p ≤ per t p := Nat.le_of_dvd (hT.per_pos p) (Nat.gcd_dvd_right _ _)
      refine ⟨_, rfl, _, rfl, _, _, rfl, rfl, ?_, _, rfl, b, _, rfl, .inr (s1.ints hC), _, rfl, _, _, rfl, rfl, ?_, ?_, fun r hr' => q r _ (s1.addN hr') ?_⟩
      · exact ⟨by show (0 : Int) < ((gg t p : Nat) : Int); omega, by show ((gg t p : Nat) : Int) < _; omega⟩
      · exact ⟨by show (0 : Int) < ((gg t p : Nat) : Int); omega, by show ((gg t p : Nat) : Int) < _; omega⟩
      · show 2 ≤ sizeLine; decide
      · rw [lc]
        exact SqT.of upd_same
end
end BaR

namespace BaR
open PySem PySem.Spec PyProof.Rows L2 BA
theorem SqT_put {K : PySem.W.Frag} {H : Hp} {a D : Addr} {xs l : List V} {o : HO} (h : SqT K H a xs) (e : H D = some (.lst l)) : SqT K (upd H D o) a xs := by
  rcases h with (h | ⟨o', h⟩) | h
  · exact .inl (.inl (by rw [upd_ne (fun z => by rw [z, e] at h; cases h)]; exact h))
  · exact .inl (.inr ⟨o', by rw [upd_ne (fun z => by rw [z, e] at h; cases h)]; exact h⟩)
  · exact .inr h
/-- a row: the places and the pace of p's circle -/
def Row (K : PySem.W.Frag) (H : Hp) (t : List Int) (r : Addr × Nat) : Prop := ∃ B C : Addr, SqT K H r.1 [.ref B, .ref C] ∧ Ints K H B (cI t r.2) ∧ Ints K H C [pn t r.2, pd t r.2]
theorem Row.same {K : PySem.W.Frag} {H H' : Hp} {t : List Int} {r : Addr × Nat} (h : Row K H t r) (s : Same H H') : Row K H' t r :=
  let ⟨B, C, h1, h2, h3⟩ := h; ⟨B, C, s.tupK h1, s.tupK h2, s.tupK h3⟩
theorem Row.put {K : PySem.W.Frag} {H : Hp} {D : Addr} {l : List V} {o : HO} {t : List Int} {r : Addr × Nat} (h : Row K H t r) (e : H D = some (.lst l)) : Row K (upd H D o) t r :=
  let ⟨B, C, h1, h2, h3⟩ := h; ⟨B, C, SqT_put h1 e, SqT_put h2 e, SqT_put h3 e⟩
def spCircles (K : PySem.W.Frag) : Sp := fun vs H Q _ => ∃ (a : Addr) (t : List Int), vs = [.ref a] ∧ Ints K H a t ∧ Tab t ∧ ∀ (q : Addr) (H' : Hp) (L : List (Addr × Nat)), Same H H' → L.map (·.2) = leads t → SqT K H' q (L.map fun r => V.ref r.1) → (∀ r ∈ L, Row K H' t r) → Q (.ref q) H'
theorem lead_min {t : List Int} (T : Tab t) {p : Nat} (hp : p < t.length) {m : Int} (hm : m ∈ cI t p) (hmin : ∀ y, y ∈ cI t p → m ≤ y) : decide (V.int m = V.int (p : Int)) = decide (lead t p) := by
  obtain ⟨x, hx, rfl⟩ := List.mem_map.1 hm
  refine decide_eq_decide.2 ⟨fun z => ?_, fun z => ?_⟩
  · intro y hy
    have h1 := hmin _ (List.mem_map.2 ⟨y, hy, rfl⟩)
    have h2 := V.int.inj z
    omega
  · have h1 := z x hx
    have h2 := hmin _ (List.mem_map.2 ⟨p, T.self_mem hp, rfl⟩)
    exact congrArg V.int (by omega)
section
variable {P : Program} {w : World} {K : PySem.W.Frag} {mg : Str → Option Value} {base : Heap}
theorem scCircles : FnScope ["table", "rows", "place", "places"] ["table"] (defScope sCircles) := ⟨rfl, rfl, rfl, by decide +kernel, rfl, by decide +kernel, by decide +kernel⟩
theorem ok_circles {f : Addr} {fd : FuncData} (F : Fun K "circles" "circles" sCircles f fd) (T : Tx P K mg) : FnOk P w K mg base CX0 5 f fd ["table"] (spCircles K) := by
  obtain ⟨f1, fd1, D1⟩ := T.needTable
  obtain ⟨f2, fd2, D2⟩ := T.circleFrom
  obtain ⟨f3, fd3, D3⟩ := T.paceOf
  have G1 : FnOk P w K mg base CX0 4 f1 fd1 ["table"] (spYes K .non) := ok_needTable D1.F T
  have G2 : FnOk P w K mg base CX0 3 f2 fd2 ["table", "place"] (spCircleFrom K) := ok_circleFrom D2.F T
  have G3 : FnOk P w K mg base CX0 2 f3 fd3 ["table", "places"] (spPaceOf K) := ok_paceOf D3.F T
  refine F.ok scCircles (fun vs H Q E h => ?_) (fun cdv A outer s H vs Q E hr h => ?_)
  · obtain ⟨a, t, rfl, _⟩ := h
    rfl
  · obtain ⟨a, t, rfl, hI, hT, q⟩ := h
    refine ⟨_, pss_cons (ps_expr (pe_call G1 hr rfl D1.g D1.F.kp D1.b .nil pass0 (pa_cons (pv 0) pa_nil)))
      (pss_cons (ps_setLc (i := 1) (own := [("place", 2)]) (g := gName 2) (tt := tYes) rfl scCircles.nd rfl rfl (sw_true rfl rfl rfl (by decide +kernel))
          (pi_range1 (by rfl) T.bl.range (pa_cons (pe_callB call_len_seq (by rfl) T.bl.len PySem.boot_len (pa_cons (pv 0) pa_nil)) pa_nil)) (blkOk_by (N := ["table", "rows", "place", "places"]) (sc := defScope sCircles) (by decide +kernel))
          (fun _ _ _ _ _ => pg_name (i := 2) scCircles.nd rfl (Or.inl rfl)) (fun _ _ _ _ _ => pts_nil)
          (fun _ _ _ _ _ => pe_call G2 (hr.mono (by decide)) rfl D2.g D2.F.kp D2.b .nil pass0 (pa_cons (pv 0) (pa_cons (pv 2) pa_nil))))
      (pss_one (ps_ret (pe_callTy call_tuple_of (by rfl) T.bl.tuple (by decide +kernel) (pa_cons
        (pe_LC (own := [("place", 2), ("places", 3)]) rfl scCircles.nd (pi_enum (by rfl) T.bl.enum (pa_cons (pv 1) pa_nil)) (blkOk_by (N := ["table", "rows", "place", "places"]) (sc := defScope sCircles) (by decide +kernel))
          (fun _ _ _ _ _ => pg_tup2 K (i := 2) (j := 3) rfl scCircles.nd rfl rfl (Or.inl rfl) (Or.inl rfl))
          (fun _ _ _ _ _ => pts_one (pt_cmpR op_eq (pe_callB (ck_minT K rfl) (by rfl) T.bl.min (by decide +kernel) (pa_cons (pv 3) pa_nil)) (pv 2) (nomark _)))
          (fun _ _ _ _ _ => pe_tup (pa_cons (pv 3) (pa_cons (pe_call G3 (hr.mono (by decide)) rfl D3.g D3.F.kp D3.b .nil pass0 (pa_cons (pv 0) (pa_cons (pv 3) pa_nil))) pa_nil)))) pa_nil))))), ?_⟩
    have lt := List.length_map (as := t) V.int
    have ht7 := hT.le
    refine ⟨_, rfl, a, t, rfl, hI, hT, fun H1 s1 => ?_⟩
    refine ⟨_, rfl, a, _, rfl, .inr (s1.ints hI), _, rfl, ?_, ?_, fun D hD => ?_⟩
    · rw [lt]; omega
    · rw [lt]; omega
    rw [lt]
    refine lc_range (lo := 0) (n := t.length) (fun k H' => Same H1 H' ∧ ∃ As : List Addr, As.length = k ∧ H' D = some (.lst (As.map V.ref)) ∧ ∀ j A, As[j]? = some A → Ints K H' A (cI t j)) ⟨Same.newN hD, [], rfl, upd_same, fun j A h => by simp at h⟩ ?_ ?_
    · rintro k H2 hk ⟨s2, As, hAl, e2, hAs⟩
      refine ⟨rfl, ?_⟩
      refine yesT ⟨_, rfl, _, rfl, a, t, k, ?_, (s1.trans s2).ints hI, hT, hk, fun p H3 s3 hp => ⟨_, s3 _ _ e2, ?_, (s2.trans s3).putN hD, As ++ [p], ?_, ?_, ?_⟩⟩
      · rw [Int.zero_add]; rfl
      · rw [List.length_map]
        have : (7 : Nat) < sizeLine := by decide
        omega
      · rw [List.length_append, hAl]; rfl
      · rw [upd_same, List.map_append]; rfl
      · intro j A hj
        rcases Nat.lt_or_ge j As.length with hlt | hge
        · rw [List.getElem?_append_left hlt] at hj
          exact SqT_put (s3.ints (hAs j A hj)) (s3 _ _ e2)
        · have hj2 : j < (As ++ [p]).length := (List.getElem?_eq_some_iff.1 hj).1
          rw [List.length_append] at hj2
          have : j = As.length := by simp at hj2; omega
          subst this
          rw [List.getElem?_append_right (Nat.le_refl _), Nat.sub_self] at hj
          cases hj
          rw [hAl]
          exact SqT_put hp (s3 _ _ e2)
    · rintro H2 ⟨s2, As, hAl, e2, hAs⟩
      have s02 := s1.trans s2
      refine ⟨_, rfl, D, _, rfl, SqL.of e2, fun D2 hD2 => ?_⟩
      refine turns_by t.length (fun k H' => Same H2 H' ∧ ∃ L : List (Addr × Nat), L.map (·.2) = (List.range k).filter (fun p => decide (lead t p)) ∧ H' D2 = some (.lst (L.map fun r => V.ref r.1)) ∧ ∀ r ∈ L, Row K H' t r) ⟨Same.newN hD2, [], rfl, upd_same, fun r h => by cases h⟩ ?_ ?_
      · rintro H3 ⟨s3, L, hL1, e3, hL2⟩
        refine ⟨⟨_, SqL.of (s3 _ _ e2), by rw [List.length_map, hAl]; exact Nat.le_refl _⟩, D2, _, rfl, .inl ⟨SqL.of e3, fun l hl => q l _ L (s02.trans (s3.addN hl)) hL1 (SqT.of upd_same) fun r hr' => (hL2 r hr').same (Same.newN hl)⟩⟩
      · rintro k H3 hk ⟨s3, L, hL1, e3, hL2⟩
        have hkA : k < As.length := by omega
        have hgetA : (As.map V.ref)[k]? = some (V.ref As[k]) := by rw [List.getElem?_map, List.getElem?_eq_getElem hkA]; rfl
        refine ⟨⟨_, _, SqL.of (s3 _ _ e2), hgetA⟩, ?_⟩
        rintro v H4 ⟨Tp, x, rfl, hTp, rfl, hx⟩
        have hx' := (hx _ (SqL.of (s3 _ _ e2))).symm.trans hgetA
        cases hx'
        have s4 : Same H3 (upd H3 Tp (.tup [.int (k : Nat), V.ref As[k]])) := Same.newN hTp
        have s24 := s3.trans s4
        have s04 := s02.trans s24
        have hC : Ints K _ As[k] (cI t k) := s24.ints (hAs k _ (List.getElem?_eq_getElem hkA))
        refine ⟨Tp, _, _, rfl, SqT.of upd_same, rfl, ?_⟩
        have hlen : 0 < (cI t k).length := by unfold cI; rw [List.length_map, hT.circ_len]; exact hT.per_pos k
        refine ⟨_, rfl, As[k], cI t k, rfl, hC, hlen, fun m hm hmin => ⟨_, rfl, rfl, _, rfl, ?_⟩⟩
        have hld := lead_min hT hk hm hmin
        have hLl : L.length ≤ k := by
          have h1 := congrArg List.length hL1
          rw [List.length_map] at h1
          have h2 := List.length_filter_le (fun p => decide (lead t p)) (List.range k)
          rw [List.length_range] at h2
          omega
        have hfs : ∀ b : Bool, decide (lead t k) = b → (List.range (k + 1)).filter (fun p => decide (lead t p)) = (List.range k).filter (fun p => decide (lead t p)) ++ (if b = true then [k] else []) := by
          intro b hb
          rw [List.range_succ, List.filter_append]
          congr 1
          cases b with
          | true => rw [List.filter_cons, hb]; rfl
          | false => rw [List.filter_cons, hb]; rfl
        dsimp only
        rw [hld]
        by_cases hl : lead t k
        · rw [decide_eq_true hl]
          refine iteT ⟨_, rfl, _, rfl, _, rfl, a, As[k], t, k, rfl, s04.ints hI, hT, hk, hC, fun p5 H5 s5 hp5 => ⟨by show 2 ≤ sizeLine; decide, fun tq htq => ?_⟩⟩
          have s6 : Same H5 (upd H5 tq (.tup [.ref As[k], .ref p5])) := Same.newN htq
          have e6 := s6 _ _ (s5 _ _ (s4 _ _ e3))
          refine ⟨_, e6, ?_, ((s24.trans s5).trans s6).putN hD2, L ++ [(tq, k)], ?_, ?_, ?_⟩
          · rw [List.length_map]
            have : (7 : Nat) < sizeLine := by decide
            omega
          · rw [List.map_append, hL1, hfs true (decide_eq_true hl)]; rfl
          · rw [upd_same, List.map_append]; rfl
          · intro r hr'
            rcases List.mem_append.1 hr' with h | h
            · exact ((hL2 r h).same ((s4.trans s5).trans s6)).put e6
            · rw [List.mem_singleton.1 h]
              exact Row.put ⟨As[k], p5, SqT.of upd_same, s6.ints (s5.ints hC), s6.ints hp5⟩ e6
        · rw [decide_eq_false hl]
          refine iteF ⟨s24, L, ?_, s4 _ _ e3, fun r hr' => (hL2 r hr').same s4⟩
          rw [hL1, hfs false (decide_eq_false hl)]
          exact (List.append_nil _).symm
end
end BaR

namespace BaR
open PySem PySem.Spec PyProof.Rows L2 BA
/-- all paces alike -/
def Alike (t : List Int) : Prop := ∀ p ∈ leads t, ∀ q ∈ leads t, pn t p = pn t q ∧ pd t p = pd t q
/-- what straight tells -/
def StrV (t : List Int) (v : V) : Prop := (v = .non ∧ ¬ Alike t) ∨ ∃ c : Nat, v = .int (c : Int) ∧ Alike t ∧ 1 ≤ c ∧ c ≤ 420 ∧ AllEq t c ∧ ∀ e, 1 ≤ e → e < c → ¬ AllEq t e
def spStraight (K : PySem.W.Frag) : Sp := fun vs H Q _ => ∃ (a : Addr) (t : List Int), vs = [.ref a] ∧ Ints K H a t ∧ Tab t ∧ ∀ v H', Same H H' → StrV t v → Q v H'
theorem alike_iff {t : List Int} {l : List (List Int)} (h : l = (leads t).map fun p => [pn t p, pd t p]) : (∀ x ∈ l, ∀ y ∈ l, x = y) ↔ Alike t := by
  subst h
  constructor
  · intro h p hp q hq
    have e := h _ (List.mem_map.2 ⟨p, hp, rfl⟩) _ (List.mem_map.2 ⟨q, hq, rfl⟩)
    injection e with e1 e2
    injection e2 with e3 e4
    exact ⟨e1, e3⟩
  · intro h x hx y hy
    obtain ⟨p, hp, rfl⟩ := List.mem_map.1 hx
    obtain ⟨q, hq, rfl⟩ := List.mem_map.1 hy
    obtain ⟨e1, e2⟩ := h p hp q hq
    rw [e1, e2]
theorem alleq_iff {t : List Int} {c : Nat} : (dd ((List.range t.length).map fun x : Nat => outN t c (x : Int) - x)).length ≤ 1 ↔ AllEq t c := by
  rw [dd_one_iff]
  constructor
  · intro h i j hi hj
    exact h _ (List.mem_map.2 ⟨i, List.mem_range.2 hi, rfl⟩) _ (List.mem_map.2 ⟨j, List.mem_range.2 hj, rfl⟩)
  · intro h x hx y hy
    obtain ⟨i, hi, rfl⟩ := List.mem_map.1 hx
    obtain ⟨j, hj, rfl⟩ := List.mem_map.1 hy
    exact h i j (List.mem_range.1 hi) (List.mem_range.1 hj)
theorem leads_len {t : List Int} (T : Tab t) : (leads t).length ≤ 7 := by
  unfold leads
  have h := List.length_filter_le (fun p => decide (lead t p)) (List.range t.length)
  rw [List.length_range] at h
  have := T.le
  omega
section
variable {P : Program} {w : World} {K : PySem.W.Frag} {mg : Str → Option Value} {base : Heap}
theorem scStraight : FnScope ["table", "copies", "outs", "places", "pace", "thing", "out"] ["table"] (defScope sStraight) := ⟨rfl, rfl, rfl, by decide +kernel, rfl, by decide +kernel, by decide +kernel⟩
theorem ok_straight {f : Addr} {fd : FuncData} (F : Fun K "straight" "straight" sStraight f fd) (T : Tx P K mg) : FnOk P w K mg base CX0 6 f fd ["table"] (spStraight K) := by
  obtain ⟨f1, fd1, D1⟩ := T.circles
  obtain ⟨f3, fd3, D3⟩ := T.outOf
  have G1 : FnOk P w K mg base CX0 5 f1 fd1 ["table"] (spCircles K) := ok_circles D1.F T
  have G3 : FnOk P w K mg base CX0 2 f3 fd3 ["table", "thing"] (spOutOf K) := ok_outOf D3.F T
  refine F.ok scStraight (fun vs H Q E h => ?_) (fun cdv A outer s H vs Q E hr h => ?_)
  · obtain ⟨a, t, rfl, _⟩ := h
    rfl
  · obtain ⟨a, t, rfl, hI, hT, q0⟩ := h
    have qn : ¬ Alike t → ∀ H', Same H H' → Q .non H' := fun n H' s => q0 _ H' s (.inl ⟨rfl, n⟩)
    have qc : Alike t → ∀ (c : Nat) H', Same H H' → 1 ≤ c → c ≤ 420 → AllEq t c → (∀ e, 1 ≤ e → e < c → ¬ AllEq t e) → Q (.int (c : Int)) H' := fun al c H' s h1 h2 h3 h4 => q0 _ H' s (.inr ⟨c, rfl, al, h1, h2, h3, h4⟩)
    refine ⟨_, pss_cons (ps_if (pt_cmpR op_gt (pe_callB cr_lenT (by rfl) T.bl.len PySem.boot_len (pa_cons (pe_fill (own := [("places", 3), ("pace", 4)]) (fillT hr.units) rfl scStraight.nd
            (pi_tup (pe_call G1 hr rfl D1.g D1.F.kp D1.b .nil pass0 (pa_cons (pv 0) pa_nil)))
            (blkOk_by (N := ["table", "copies", "outs", "places", "pace", "thing", "out"]) (sc := defScope sStraight) (by decide +kernel))
            (fun _ _ _ _ _ => pg_tup2 K (i := 3) (j := 4) rfl scStraight.nd rfl rfl (Or.inl rfl) (Or.inl rfl))
            (fun _ _ _ _ _ => pts_nil)
            (fun _ _ _ _ _ => pv 4)) pa_nil)) pe_int (nomark _))
        (pss_one (ps_ret pe_non)) pss_nil)
      (pss_cons (ps_par (i := 1) (j := 2) (by rfl) scStraight.nd rfl rfl (by decide) rfl rfl (pa_cons pe_int (pa_cons
          (pe_lc (own := [("thing", 5)]) (g := gName 5) (tt := tYes) rfl scStraight.nd (pi_range1 (by rfl) T.bl.range (pa_cons (pe_callB call_len_seq (by rfl) T.bl.len PySem.boot_len (pa_cons (pv 0) pa_nil)) pa_nil))
            (blkOk_by (N := ["table", "copies", "outs", "places", "pace", "thing", "out"]) (sc := defScope sStraight) (by decide +kernel))
            (fun _ _ _ _ _ => pg_name (i := 5) scStraight.nd rfl (Or.inl rfl)) (fun _ _ _ _ _ => pts_nil)
            (fun _ _ _ _ _ => pe_call G3 (hr.mono (by decide)) rfl D3.g D3.F.kp D3.b .nil pass0 (pa_cons (pv 0) (pa_cons (pv 5) pa_nil)))) pa_nil)) (by rfl))
      (pss_cons (ps_while PassesOwn.never (pt_cmpR op_gt (pe_callB cr_lenI (by rfl) T.bl.len PySem.boot_len (pa_cons (pe_fill (own := [("thing", 5), ("out", 6)]) fillI rfl scStraight.nd
            (pi_enum (by rfl) T.bl.enum (pa_cons (pv 2) pa_nil))
            (blkOk_by (N := ["table", "copies", "outs", "places", "pace", "thing", "out"]) (sc := defScope sStraight) (by decide +kernel))
            (fun _ _ _ _ _ => pg_tup2 K (i := 5) (j := 6) rfl scStraight.nd rfl rfl (Or.inl rfl) (Or.inl rfl))
            (fun _ _ _ _ _ => pts_nil)
            (fun _ _ _ _ _ => pe_op op_sub (pv 6) (pv 5))) pa_nil)) pe_int (nomark _))
          (pss_one (ps_par (i := 1) (j := 2) (by rfl) scStraight.nd rfl rfl (by decide) rfl rfl (pa_cons (pe_op op_add (pv 1) pe_int) (pa_cons
            (pe_lc (own := [("out", 6)]) (g := gName 6) (tt := tYes) rfl scStraight.nd (pi_list (pv 2))
              (blkOk_by (N := ["table", "copies", "outs", "places", "pace", "thing", "out"]) (sc := defScope sStraight) (by decide +kernel))
              (fun _ _ _ _ _ => pg_name (i := 6) scStraight.nd rfl (Or.inl rfl)) (fun _ _ _ _ _ => pts_nil)
              (fun _ _ _ _ _ => pe_call G3 (hr.mono (by decide)) rfl D3.g D3.F.kp D3.b .nil pass0 (pa_cons (pv 0) (pa_cons (pv 6) pa_nil)))) pa_nil)) (by rfl))))
      (pss_one (ps_ret (pv 1))))), ?_⟩
    have lt := List.length_map (as := t) V.int
    have ht7 := hT.le
    refine ⟨_, rfl, a, t, rfl, hI, hT, fun q H1 L s1 hL hq hR => ?_⟩
    have hLl : L.length ≤ 7 := by
      have h1 := congrArg List.length hL
      rw [List.length_map] at h1
      have := leads_len hT
      omega
    refine ⟨q, rfl, ⟨_, hq⟩, fun D hD => turns_by L.length (fun i H' => Same H1 H' ∧ ∃ S : List (Addr × List Int), H' D = some (SetTO P w D S) ∧ (∀ p ∈ S, SqT K H1 p.1 (p.2.map V.int)) ∧ (∀ y, y ∈ S.map (·.2) ↔ y ∈ ((L.take i).map fun r => [pn t r.2, pd t r.2])) ∧ S.length ≤ i) ⟨Same.newN hD, [], upd_same, fun p h => (by cases h), fun y => ⟨fun h => (by cases h), fun h => (by cases h)⟩, Nat.le_refl _⟩ ?_ ?_⟩
    · rintro H2 ⟨s2, S, e2, hS1, hS2, hS3⟩
      refine ⟨⟨_, s2.tupK hq, by rw [List.length_map]; exact Nat.le_refl _⟩, D, S, rfl, e2, fun p hp => s2.tupK (hS1 p hp), fun nd => ⟨_, _, rfl, rfl, _, rfl, ?_⟩⟩
      rw [List.take_length] at hS2
      have hl : (L.map fun r => [pn t r.2, pd t r.2]) = (leads t).map fun p => [pn t p, pd t p] := by rw [← hL, List.map_map]; rfl
      have hone := nodup_one_iff nd hS2
      rw [List.length_map, alike_iff hl] at hone
      refine ite2 (fun hc => ?_) (fun hc => ?_)
      · have hc' : (S.length : Int) > 1 := of_decide_eq_true hc
        exact qn (fun z => by have := hone.2 z; omega) H2 (s1.trans s2)
      have hc' : ¬ (S.length : Int) > 1 := fun z => hc (decide_eq_true z)
      have hAl : Alike t := hone.1 (by omega)
      have s02 := s1.trans s2
      refine ⟨_, rfl, a, _, rfl, .inr (s02.ints hI), _, rfl, ?_, ?_, fun D2 hD2 => ?_⟩
      · rw [lt]; omega
      · rw [lt]; omega
      rw [lt]
      refine lc_range (lo := 0) (n := t.length) (fun k H' => Same H2 H' ∧ H' D2 = some (.lst (((List.range k).map fun x : Nat => outN t 1 (x : Int)).map V.int))) ⟨Same.newN hD2, upd_same⟩ ?_ ?_
      · rintro k H3 hk ⟨s3, e3⟩
        refine ⟨rfl, ?_⟩
        refine yesT ⟨_, rfl, _, rfl, a, t, _, rfl, (s02.trans s3).ints hI, hT, _, e3, ?_, s3.putN hD2, ?_⟩
        · rw [List.length_map, List.length_map, List.length_range]
          have : (7 : Nat) < sizeLine := by decide
          omega
        · rw [upd_same, List.range_succ, List.map_append, List.map_append, Int.zero_add]; rfl
      · rintro H3 ⟨s3, e3⟩
        refine ⟨_, _, rfl, fun m σ H' => ∃ (c : Nat) (Ds : Addr), m = 420 - c ∧ 1 ≤ c ∧ c ≤ 420 ∧ (∀ e, 1 ≤ e → e < c → ¬ AllEq t e) ∧ σ = [some (.ref a), some (.int (c : Int)), some (.ref Ds), none, none, none, none] ∧ Same H H' ∧ H' Ds = some (.lst (((List.range t.length).map fun x : Nat => outN t c (x : Int)).map V.int)),
          ⟨_, 1, D2, rfl, by decide, by decide, fun e h1 h2 => by omega, rfl, s02.trans s3, e3⟩, ?_⟩
        rintro m σ H4 ⟨c, Ds, rfl, hc1, hc2, hcn, rfl, s4, e4⟩
        have hgo : ∀ k : Nat, k < t.length → (((List.range t.length).map fun x : Nat => outN t c (x : Int)).map V.int)[k]? = some (.int (outN t c (k : Int))) := fun k hk => by
          rw [List.getElem?_map, List.getElem?_map, List.getElem?_range hk]; rfl
        have hgl : (((List.range t.length).map fun x : Nat => outN t c (x : Int)).map V.int).length = t.length := by rw [List.length_map, List.length_map, List.length_range]
        refine ⟨_, rfl, Ds, _, rfl, SqL.of e4, fun D5 hD5 => turns_by t.length (fun i H' => Same H4 H' ∧ H' D5 = some (stI ((List.range i).map fun x : Nat => outN t c (x : Int) - x))) ⟨Same.newN hD5, upd_same⟩ ?_ ?_⟩
        · rintro H5 ⟨s5, e5⟩
          refine ⟨⟨_, SqL.of (s5 _ _ e4), by rw [hgl]; exact Nat.le_refl _⟩, D5, _, _, rfl, e5, _, _, rfl, rfl, _, rfl, ?_⟩
          have hiff := alleq_iff (t := t) (c := c)
          generalize (dd ((List.range t.length).map fun x : Nat => outN t c (x : Int) - x)).length = n at hiff
          refine ite2 (fun hc => ?_) (fun hc => ?_)
          · have hc' : (n : Int) > 1 := of_decide_eq_true hc
            have hne : ¬ AllEq t c := fun z => by have := hiff.2 z; omega
            have hc4 : c ≠ 420 := fun z => hne (by rw [z]; exact hT.all_420 hAl)
            refine ⟨fun σ' H' => ∃ Ds' : Addr, σ' = [some (.ref a), some (.int ((c + 1 : Nat) : Int)), some (.ref Ds'), none, none, none, none] ∧ Same H H' ∧ H' Ds' = some (.lst (((List.range t.length).map fun x : Nat => outN t (c + 1) (x : Int)).map V.int)), ?_, ?_⟩
            · rintro σ' H' ⟨Ds', r1, r2, r3⟩
              refine ⟨420 - (c + 1), by omega, c + 1, Ds', rfl, by omega, by omega, fun e h1 h2 => ?_, r1, r2, r3⟩
              by_cases h : e = c
              · rw [h]; exact hne
              · exact hcn e h1 (by omega)
            · refine ⟨_, rfl, _, _, rfl, rfl, _, rfl, Ds, rfl, ⟨_, SqL.of (s5 _ _ e4)⟩, fun D6 hD6 => lc_list (K := K) (a := Ds) (xs := ((List.range t.length).map fun x : Nat => outN t c (x : Int)).map V.int) (fun k H' => Same H5 H' ∧ H' D6 = some (.lst (((List.range k).map fun x : Nat => outN t (c + 1) (x : Int)).map V.int))) ⟨Same.newN hD6, upd_same⟩ ?_ ?_ ?_⟩
              · exact fun k H' _ p => SqL.of (p.1 _ _ (s5 _ _ e4))
              · rintro k x H6 hx ⟨s6, e6⟩
                have hk : k < t.length := by have := (List.getElem?_eq_some_iff.1 hx).1; rw [hgl] at this; exact this
                rw [hgo k hk] at hx
                cases hx
                refine ⟨rfl, ?_⟩
                refine yesT ⟨_, rfl, _, rfl, a, t, _, rfl, ((s4.trans s5).trans s6).ints hI, hT, _, e6, ?_, s6.putN hD6, ?_⟩
                · rw [List.length_map, List.length_map, List.length_range]
                  have : (7 : Nat) < sizeLine := by decide
                  omega
                · rw [upd_same, List.range_succ, List.map_append, List.map_append]; rfl
              · rintro H6 ⟨s6, e6⟩
                rw [hgl] at e6
                exact ⟨_, _, rfl, D6, rfl, (s4.trans s5).trans s6, e6⟩
          · have hc' : ¬ (n : Int) > 1 := fun z => hc (decide_eq_true z)
            exact ⟨_, rfl, qc hAl c H5 (s4.trans s5) hc1 hc2 (hiff.1 (by omega)) hcn⟩
        · rintro i H5 hi ⟨s5, e5⟩
          refine ⟨⟨_, _, SqL.of (s5 _ _ e4), hgo i hi⟩, ?_⟩
          rintro v H6 ⟨Tp, x, rfl, hTp, rfl, hx⟩
          have hx' := (hx _ (SqL.of (s5 _ _ e4))).symm.trans (hgo i hi)
          cases hx'
          have s6 := s5.addN (o := .tup [.int (i : Nat), .int (outN t c (i : Int))]) hTp
          have hD2 : Tp ≠ D5 := fun z => by rw [z, e5] at hTp; cases hTp
          refine ⟨Tp, _, _, rfl, SqT.of upd_same, rfl, ?_⟩
          refine yesT ⟨_, rfl, _, rfl, _, _, rfl, rfl, _, _, rfl, (upd_ne hD2.symm).trans e5, ?_, s6.putN hD5, ?_⟩
          · rw [List.length_map, List.length_range]; omega
          · rw [upd_same, List.range_succ, List.map_append]; rfl
    · rintro i H2 hi ⟨s2, S, e2, hS1, hS2, hS3⟩
      have hgq : (L.map fun r => V.ref r.1)[i]? = some (.ref (L[i].1)) := by rw [List.getElem?_map, List.getElem?_eq_getElem hi]; rfl
      refine ⟨⟨_, _, s2.tupK hq, hgq⟩, ?_⟩
      rintro v H3 ⟨rfl, hx⟩
      have hx' := (hx _ (s2.tupK hq)).symm.trans hgq
      cases hx'
      obtain ⟨B, C, hB, hC1, hC2⟩ := hR L[i] (List.getElem_mem hi)
      refine ⟨_, _, _, rfl, s2.tupK hB, rfl, ?_⟩
      refine yesT ⟨_, rfl, C, [pn t L[i].2, pd t L[i].2], S, rfl, s2.ints hC2, e2, fun p hp => s2.tupK (hS1 p hp), by omega, fun S' h1 h2 => ⟨s2.putN hD, S', upd_same, ?_, ?_, ?_⟩⟩
      all_goals by_cases hk : [pn t L[i].2, pd t L[i].2] ∈ S.map (·.2)
      · rw [h1 hk]; exact hS1
      · intro p hp
        rcases List.mem_cons.1 ((h2 hk).mem_iff.1 hp) with h | h
        · rw [h]; exact hC2
        · exact hS1 p h
      · intro y
        rw [h1 hk, hS2, List.take_succ_eq_append_getElem hi, List.map_append, List.mem_append]
        refine ⟨.inl, fun h => h.elim id fun h => ?_⟩
        rw [List.mem_singleton.1 h]; exact (hS2 _).1 hk
      · intro y
        rw [((h2 hk).map (·.2)).mem_iff, List.take_succ_eq_append_getElem hi, List.map_append, List.mem_append, ← hS2]
        rw [List.map_cons, List.mem_cons, List.map_cons, List.map_nil, List.mem_singleton, Or.comm]
      · rw [h1 hk]; omega
      · rw [(h2 hk).length_eq, List.length_cons]; omega
end
end BaR

namespace BaR
open PySem PySem.Spec PyProof.Rows L2 BA
/-- the pen: three numbers, from which is drawn -/
def PenAt (H : Hp) (p : Addr) : Prop := ∃ x y z : Int, H p = some (.lst [.int x, .int y, .int z]) ∧ 0 ≤ y ∧ y < 2 ^ 31
/-- all but p stands -/
def SameBut (p : Addr) (H H' : Hp) : Prop := ∀ b u, b ≠ p → H b = some u → H' b = some u
def spCell (K : PySem.W.Frag) : Sp := fun vs H Q _ => ∃ (a : Addr) (ns : List Int) (k : Nat), vs = [.ref a, .int (k : Int)] ∧ SqL K H a (ns.map V.int) ∧ ∀ n, Q (.int n) H
def spPen : Sp := fun vs H Q _ => ∃ n : Int, vs = [.int n] ∧ ∀ p H', Same H H' → PenAt H' p → H p = none → Q (.ref p) H'
def spDraw : Sp := fun vs H Q _ => ∃ (p : Addr) (u : Int), vs = [.ref p, .int u] ∧ PenAt H p ∧ 0 < u ∧ u < 1000 ∧ ∀ v H', 0 ≤ v → v < u → SameBut p H H' → PenAt H' p → Q (.int v) H'
section
variable {P : Program} {w : World} {K : PySem.W.Frag} {mg : Str → Option Value} {base : Heap}
theorem scCell : FnScope ["_law_script", "_law_k"] ["_law_script", "_law_k"] (defScope sCell) := ⟨rfl, rfl, rfl, by decide +kernel, rfl, by decide +kernel, by decide +kernel⟩
theorem ok_cell {f : Addr} {fd : FuncData} (F : Fun K "_law_cell" "_law_cell" sCell f fd) (T : Tx P K mg) : FnOk P w K mg base CX0 1 f fd ["_law_script", "_law_k"] (spCell K) := by
  refine F.ok scCell (fun vs H Q E h => ?_) (fun cdv A outer s H vs Q E hr h => ?_)
  · obtain ⟨a, ns, k, rfl, _⟩ := h
    rfl
  · obtain ⟨a, ns, k, rfl, hS, q⟩ := h
    refine ⟨_, pss_cons (ps_if (pt_cmpR op_lt (pv 1) (pe_callB call_len_seq (by rfl) T.bl.len PySem.boot_len (pa_cons (pv 0) pa_nil)) (nomark _)) (pss_one (ps_ret (pe_ix ix_list (pv 0) (pv 1) (fun _ _ => rfl)))) pss_nil)
      (pss_one (ps_ret pe_int)), ?_⟩
    refine ⟨_, rfl, _, rfl, a, _, rfl, .inl hS, _, _, rfl, rfl, _, rfl, ite2 (fun hc => ?_) (fun hc => q 0)⟩
    have hc' : (k : Int) < ((ns.map V.int).length : Int) := of_decide_eq_true hc
    rw [List.length_map] at hc'
    exact ⟨_, rfl, _, rfl, a, _, _, _, rfl, rfl, hS, atI_nat (at_int (by omega)), q _⟩
theorem scPen : FnScope ["_law_cell_here"] ["_law_cell_here"] (defScope sPen) := ⟨rfl, rfl, rfl, by decide +kernel, rfl, by decide +kernel, by decide +kernel⟩
theorem ok_pen {f : Addr} {fd : FuncData} (F : Fun K "_law_pen" "_law_pen" sPen f fd) (T : Tx P K mg) : FnOk P w K mg base CX0 1 f fd ["_law_cell_here"] spPen := by
  refine F.ok scPen (fun vs H Q E h => ?_) (fun cdv A outer s H vs Q E hr h => ?_)
  · obtain ⟨n, rfl, _⟩ := h
    rfl
  · obtain ⟨n, rfl, q⟩ := h
    refine ⟨_, pss_one (ps_ret (pe_lst (pa_cons (pe_callB (call_max2 rfl) (by rfl) T.bl.max (by decide +kernel) (pa_cons pe_int (pa_cons (pe_op op_sub (pv 0) (pe_op op_pow pe_int pe_int)) pa_nil)))
      (pa_cons (pe_op op_add (pe_op op_mod (pv 0) pe_int) pe_int) (pa_cons pe_int pa_nil))))), ?_⟩
    refine ⟨_, rfl, _, _, rfl, rfl, ⟨by decide, by decide, by decide⟩, _, _, rfl, rfl, _, _, rfl, _, rfl, _, _, rfl, rfl, (by show (0 : Int) < 2147483629; decide), _, _, rfl, rfl, by show 3 ≤ sizeLine; decide, fun l hl => ?_⟩
    refine q l _ (Same.newN hl) ⟨_, _, _, upd_same, ?_, ?_⟩ hl
    · have := Int.emod_nonneg n (show (2147483629 : Int) ≠ 0 by decide)
      omega
    · have := Int.emod_lt_of_pos n (show (0 : Int) < 2147483629 by decide)
      omega
theorem scDraw : FnScope ["_law_pen_here", "_law_upto", "_law_found", "_law_stirred"] ["_law_pen_here", "_law_upto"] (defScope sDraw) := ⟨rfl, rfl, rfl, by decide +kernel, rfl, by decide +kernel, by decide +kernel⟩
theorem ok_draw {f : Addr} {fd : FuncData} (F : Fun K "_law_draw" "_law_draw" sDraw f fd) (T : Tx P K mg) : FnOk P w K mg base CX0 1 f fd ["_law_pen_here", "_law_upto"] spDraw := by
  refine F.ok scDraw (fun vs H Q E h => ?_) (fun cdv A outer s H vs Q E hr h => ?_)
  · obtain ⟨p, u, rfl, _⟩ := h
    rfl
  · obtain ⟨p, u, rfl, ⟨x, y, z, hp, hy0, hy1⟩, hu0, hu1, q⟩ := h
    refine ⟨_, pss_cons (ps_if (pt_cmpR op_gt (pe_ix ix_list (pv 0) pe_int (fun _ _ => rfl)) pe_int (nomark _))
        (pss_cons (ps_set (i := 2) scDraw.nd rfl (Or.inl rfl) (pe_op op_mod (pe_ix ix_list (pv 0) pe_int (fun _ _ => rfl)) (pv 1)))
        (pss_cons (ps_asg (pe_op op_fdiv (pe_ix ix_list (pv 0) pe_int (fun _ _ => rfl)) (pv 1)) (pg_sub (pv 0) pe_int set_list))
        (pss_one (ps_ret (pv 2))))) pss_nil)
      (pss_cons (ps_asg (pe_op op_add (pe_ix ix_list (pv 0) pe_int (fun _ _ => rfl)) pe_int) (pg_sub (pv 0) pe_int set_list))
      (pss_cons (ps_asg (pe_op op_mod (pe_op op_add (pe_op op_add (pe_op op_mul (pe_ix ix_list (pv 0) pe_int (fun _ _ => rfl)) pe_int) (pe_op op_mul pe_int (pe_ix ix_list (pv 0) pe_int (fun _ _ => rfl)))) pe_int) pe_int) (pg_sub (pv 0) pe_int set_list))
      (pss_cons (ps_set (i := 3) scDraw.nd rfl (Or.inl rfl) (pe_op op_mod (pe_op op_add (pe_op op_add (pe_op op_mul (pe_ix ix_list (pv 0) pe_int (fun _ _ => rfl)) (pe_ix ix_list (pv 0) pe_int (fun _ _ => rfl))) (pe_op op_mul pe_int (pe_ix ix_list (pv 0) pe_int (fun _ _ => rfl)))) pe_int) pe_int))
      (pss_cons (ps_set (i := 3) scDraw.nd rfl (Or.inl rfl) (pe_op op_mod (pe_op op_add (pe_op op_mul (pv 3) (pv 3)) (pe_op op_mul pe_int (pv 3))) pe_int))
      (pss_one (ps_ret (pe_op op_mod (pe_op op_fdiv (pv 3) pe_int) (pv 1)))))))), ?_⟩
    refine ⟨_, rfl, p, _, _, _, rfl, rfl, SqL.of hp, atI_nat (j := 0) rfl, _, _, rfl, rfl, _, rfl, ite2 (fun hc => ?_) (fun hc => ?_)⟩
    · refine ⟨_, rfl, p, _, _, _, rfl, rfl, SqL.of hp, atI_nat (j := 0) rfl, _, rfl, _, _, rfl, rfl, hu0, ?_⟩
      refine ⟨_, rfl, p, _, _, _, rfl, rfl, SqL.of hp, atI_nat (j := 0) rfl, _, rfl, _, _, rfl, rfl, ⟨hu0, by omega⟩, _, rfl, p, _, _, 0, rfl, rfl, hp, rfl, ?_⟩
      exact ⟨_, rfl, q _ _ (Int.emod_nonneg _ (by omega)) (Int.emod_lt_of_pos _ hu0) (fun b v hb e => by rw [upd_ne hb]; exact e) ⟨_, y, z, upd_same, hy0, hy1⟩⟩
    · refine ⟨_, rfl, p, _, _, _, rfl, rfl, SqL.of hp, atI_nat (j := 2) rfl, _, _, rfl, rfl, _, rfl, p, _, _, 2, rfl, rfl, hp, rfl, ?_⟩
      generalize e1 : upd H p _ = H1
      have k1 : H1 p = some (.lst [.int x, .int y, .int (z + 1)]) := by rw [← e1]; exact upd_same
      have b1 : SameBut p H H1 := fun b v hb e => by rw [← e1, upd_ne hb]; exact e
      refine ⟨_, rfl, p, _, _, _, rfl, rfl, SqL.of k1, atI_nat (j := 1) rfl, _, _, rfl, rfl, .inl ⟨by omega, by omega⟩, _, rfl, p, _, _, _, rfl, rfl, SqL.of k1, atI_nat (j := 2) rfl, _, _, rfl, rfl, .inl ⟨by decide, by decide⟩, _, _, rfl, rfl, _, _, rfl, rfl, _, _, rfl, rfl, (by show (0 : Int) < 2147483647; decide), _, rfl, p, _, _, 1, rfl, rfl, k1, rfl, ?_⟩
      generalize e2 : upd H1 p _ = H2
      have k2 : ∃ y', H2 p = some (.lst [.int x, .int y', .int (z + 1)]) ∧ 0 ≤ y' ∧ y' < 2 ^ 31 := ⟨_, by rw [← e2]; exact upd_same, Int.emod_nonneg _ (by decide), Int.lt_trans (Int.emod_lt_of_pos _ (by decide)) (by decide)⟩
      have b2 : SameBut p H H2 := fun b v hb e => by rw [← e2, upd_ne hb]; exact b1 b v hb e
      obtain ⟨y', k2, h0, h1⟩ := k2
      refine ⟨_, rfl, p, _, _, _, rfl, rfl, SqL.of k2, atI_nat (j := 1) rfl, _, rfl, p, _, _, _, rfl, rfl, SqL.of k2, atI_nat (j := 1) rfl, _, _, rfl, rfl, .inl ⟨by omega, by omega⟩, _, rfl, p, _, _, _, rfl, rfl, SqL.of k2, atI_nat (j := 1) rfl, _, _, rfl, rfl, .inl ⟨by decide, by decide⟩, _, _, rfl, rfl, _, _, rfl, rfl, _, _, rfl, rfl, (by show (0 : Int) < 2147483629; decide), ?_⟩
      refine ⟨_, rfl, _, rfl, _, _, rfl, rfl, .inl ⟨Int.lt_of_lt_of_le (by decide) (Int.emod_nonneg _ (by decide)), Int.lt_trans (Int.emod_lt_of_pos _ (by decide)) (by decide)⟩, _, rfl, _, _, rfl, rfl, .inl ⟨by decide, by decide⟩, _, _, rfl, rfl, _, _, rfl, rfl, (by show (0 : Int) < 2147483587; decide), ?_⟩
      refine ⟨_, rfl, _, _, rfl, rfl, ⟨by decide, by decide⟩, _, rfl, _, _, rfl, rfl, hu0, ?_⟩
      exact q _ _ (Int.emod_nonneg _ (by omega)) (Int.emod_lt_of_pos _ hu0) b2 ⟨_, y', _, k2, h0, h1⟩
end
end BaR

namespace BaR
open PySem PySem.Spec PyProof.Rows L2 BA
theorem SameBut.refl {p : Addr} (H : Hp) : SameBut p H H := fun _ _ _ e => e
theorem SameBut.trans {p : Addr} {H H1 H2 : Hp} (a : SameBut p H H1) (b : SameBut p H1 H2) : SameBut p H H2 := fun x u hx e => b x u hx (a x u hx e)
theorem SameBut.of {p : Addr} {H H1 : Hp} (a : Same H H1) : SameBut p H H1 := fun x u _ e => a x u e
theorem SameBut.put {p A : Addr} {H H' : Hp} {o : HO} (s : SameBut p H H') (h : H A = none) : SameBut p H (upd H' A o) := fun b u hb e => by rw [upd_ne (ne_of_none e h)]; exact s b u hb e
theorem PenAt.put {p A : Addr} {H : Hp} {o : HO} (h : PenAt H p) (ne : A ≠ p) : PenAt (upd H A o) p := let ⟨x, y, z, e, r⟩ := h; ⟨x, y, z, by rw [upd_ne ne.symm]; exact e, r⟩
def spTable (K : PySem.W.Frag) : Sp := fun vs H Q _ => ∃ (p : Addr) (m u : Int), vs = [.ref p, .int m, .int u] ∧ PenAt H p ∧ 1 ≤ m ∧ m ≤ 7 ∧ 0 ≤ u ∧ u ≤ 100 ∧ ∀ (q : Addr) (H' : Hp) (t : List Int), SameBut p H H' → PenAt H' p → Tab t → Ints K H' q t → Q (.ref q) H'
theorem place_eq {i x n : Nat} (hx : x < n) (d : Int) : ((i : Int) + ((((x : Int) - (i : Int)) % (n : Int)) + (n : Int) * d)) % (n : Int) = (x : Int) := by
  rw [← Int.add_assoc, Int.add_mul_emod_self_left, Int.add_emod, Int.emod_emod_of_dvd _ (Int.dvd_refl _), ← Int.add_emod]
  have e : (i : Int) + ((x : Int) - (i : Int)) = (x : Int) := by omega
  rw [e]
  exact Int.emod_eq_of_lt (by omega) (by omega)
theorem perm_erase {α : Type} : ∀ (l : List α) (k : Nat) (h : k < l.length), (l[k] :: l.eraseIdx k).Perm l
  | [], k, h => by cases h
  | a :: l, 0, h => List.Perm.refl _
  | a :: l, k + 1, h => (List.Perm.swap _ _ _).trans ((perm_erase l k (Nat.lt_of_succ_lt_succ h)).cons a)
theorem map_erase {α β : Type} (f : α → β) : ∀ (l : List α) (k : Nat), (l.map f).eraseIdx k = (l.eraseIdx k).map f
  | [], k => by simp
  | a :: l, 0 => rfl
  | a :: l, k + 1 => congrArg (f a :: ·) (map_erase f l k)
section
variable {P : Program} {w : World} {K : PySem.W.Frag} {mg : Str → Option Value} {base : Heap}
theorem scTable : FnScope ["_law_pen_here", "_law_most", "_law_times", "_law_length", "_law_holds", "_law_left", "_law_place", "_law_hold", "_law_more"] ["_law_pen_here", "_law_most", "_law_times"] (defScope sTable) := ⟨rfl, rfl, rfl, by decide +kernel, rfl, by decide +kernel, by decide +kernel⟩
theorem ok_table {f : Addr} {fd : FuncData} (F : Fun K "_law_table" "_law_table" sTable f fd) (T : Tx P K mg) : FnOk P w K mg base CX0 2 f fd ["_law_pen_here", "_law_most", "_law_times"] (spTable K) := by
  obtain ⟨f1, fd1, D1⟩ := T.draw
  have G1 : FnOk P w K mg base CX0 1 f1 fd1 ["_law_pen_here", "_law_upto"] spDraw := ok_draw D1.F T
  refine F.ok scTable (fun vs H Q E h => ?_) (fun cdv A outer s H vs Q E hr h => ?_)
  · obtain ⟨p, m, u, rfl, _⟩ := h
    rfl
  · obtain ⟨p, m, u, rfl, hp, hm0, hm1, hu0, hu1, q⟩ := h
    refine ⟨_, pss_cons (ps_par (i := 3) (j := 4) (by rfl) scTable.nd rfl rfl (by decide) rfl rfl (pa_cons (pe_op op_add pe_int (pe_call G1 hr rfl D1.g D1.F.kp D1.b .nil pass0 (pa_cons (pv 0) (pa_cons (pv 1) pa_nil)))) (pa_cons (pe_lst pa_nil) pa_nil)) (by rfl))
      (pss_cons (ps_set (i := 5) scTable.nd rfl (Or.inl rfl) (pe_listRg rfl (by rfl) T.bl.list (prg_1 (by rfl) T.bl.range (pv 3))))
      (pss_cons (ps_for PassesOwn.never rfl (pi_range1 (by rfl) T.bl.range (pa_cons (pv 3) pa_nil)) (pg_name (i := 6) scTable.nd rfl (Or.inl rfl))
        (pss_cons (ps_set (i := 7) scTable.nd rfl (Or.inl rfl) (pe_op op_mod (pe_op op_sub (pe_bm PySem.F.plainAttrs_list PySem.F.slot_list_pop PySem.F.type_list_pop mt_popAt (pv 5)
            (pa_cons (pe_call G1 hr rfl D1.g D1.F.kp D1.b .nil pass0 (pa_cons (pv 0) (pa_cons (pe_callB call_len_seq (by rfl) T.bl.len PySem.boot_len (pa_cons (pv 5) pa_nil)) pa_nil))) pa_nil)) (pv 6)) (pv 3)))
        (pss_cons (ps_set (i := 8) scTable.nd rfl (Or.inl rfl) (pe_op op_add (pv 7) (pe_op op_mul (pv 3) (pe_call G1 hr rfl D1.g D1.F.kp D1.b .nil pass0 (pa_cons (pv 0) (pa_cons (pe_op op_add (pv 2) pe_int) pa_nil))))))
        (pss_one (ps_expr (pe_bm PySem.F.plainAttrs_list PySem.F.slot_list_append PySem.F.type_list_append mt_append (pv 4) (pa_cons (pe_ifExp (pt_cmpR op_lt (pv 8) pe_int (nomark _)) (pv 8) (pv 7)) pa_nil)))))))
      (pss_one (ps_ret (pe_callTy call_tuple_of (by rfl) T.bl.tuple (by decide +kernel) (pa_cons (pv 4) pa_nil)))))), ?_⟩
    refine ⟨_, rfl, _, rfl, p, m, rfl, hp, by omega, by omega, fun v H1 hv0 hv1 b1 p1 => ⟨_, _, rfl, rfl, by show 0 ≤ sizeLine; decide, fun A hA => ⟨_, _, rfl, _, rfl, _, rfl, RgOk.of_le (by decide) (by omega) (by decide) (by omega), fun B hB => ?_⟩⟩⟩
    refine ⟨_, rfl, _, rfl, ?_, ?_, ?_⟩
    · omega
    · omega
    have hn : ∃ n : Nat, 1 + v = (n : Int) ∧ 1 ≤ n ∧ n ≤ 7 := ⟨(1 + v).toNat, by omega, by omega, by omega⟩
    obtain ⟨n, hn, hn1, hn7⟩ := hn
    rw [hn]
    have hA0 : H A = none := by
      cases e : H A with
      | none => rfl
      | some o =>
        by_cases hAp : A = p
        · obtain ⟨x, y, z, e2, _⟩ := p1
          rw [hAp, e2] at hA; cases hA
        · rw [b1 A o hAp e] at hA; cases hA
    have hAp : A ≠ p := fun z => by
      obtain ⟨x, y, z', e2, _⟩ := p1
      rw [z, e2] at hA; cases hA
    have hBA : B ≠ A := fun z => by rw [z, upd_same] at hB; cases hB
    rw [upd_ne hBA] at hB
    have hBp : B ≠ p := fun z => by
      obtain ⟨x, y, z', e2, _⟩ := p1
      rw [z, e2] at hB; cases hB
    have hB0 : H B = none := by
      cases e : H B with
      | none => rfl
      | some o => rw [b1 B o hBp e] at hB; cases hB
    refine for_range (lo := 0) (n := n) (fun i σ H' => ∃ (v6 v7 v8 : Option V) (hs : List Int) (ws lf : List Nat), σ = [some (.ref p), some (.int m), some (.int u), some (.int (n : Int)), some (.ref A), some (.ref B), v6, v7, v8] ∧ SameBut p H H' ∧ PenAt H' p ∧
      hs.length = i ∧ ws.length = i ∧ (ws ++ lf).Perm (List.range n) ∧ H' A = some (.lst (hs.map V.int)) ∧ H' B = some (.lst (lf.map fun x : Nat => V.int (x : Int))) ∧ (∀ h ∈ hs, 0 ≤ h ∧ h ≤ 60) ∧
      ∀ j, j < i → ((j : Int) + hs.getD j 0) % (n : Int) = ((ws.getD j 0 : Nat) : Int)) ?_ ?_ ?_
    · refine ⟨none, none, none, [], [], List.range n, (by show [some (V.ref p), some (V.int m), some (V.int u), some (V.int (1 + v)), some (V.ref A), some (V.ref B), none, none, none] = _; rw [hn]), (b1.put hA0).put hB0, (p1.put hAp).put hBp, rfl, rfl, List.Perm.refl _, ?_, ?_, (by intro h hh; cases hh), fun j hj => (by omega)⟩
      · rw [upd_ne hBA.symm]; exact upd_same
      · rw [upd_same]
        unfold rgV
        have e : ((n : Int) - 0).toNat = n := by omega
        rw [e]
        have e2 : (fun i : Nat => V.int (0 + (i : Int))) = fun x : Nat => V.int (x : Int) := funext fun i => by rw [Int.zero_add]
        rw [e2]
    · rintro i σ H2 hi ⟨v6, v7, v8, hs, ws, lf, rfl, b2, p2, hl1, hl2, hperm, eA, eB, hb, hmod⟩
      have hlf : lf.length = n - i := by
        have := hperm.length_eq
        rw [List.length_append, List.length_range] at this
        omega
      refine ⟨_, rfl, .inl ⟨rfl, _, SqL.of eB⟩, _, rfl, _, rfl, B, _, rfl, .inl (SqL.of eB), p, _, rfl, p2, ?_, ?_, fun v H3 hv0' hv1' b3 p3 => ?_⟩
      · rw [List.length_map]; omega
      · rw [List.length_map]; omega
      rw [List.length_map] at hv1'
      have hk : v.toNat < lf.length := by omega
      have eA3 := b3 A _ hAp eA
      have eB3 := b3 B _ hBp eB
      have hxn : lf[v.toNat] < n := by
        have h1 : lf[v.toNat] ∈ ws ++ lf := List.mem_append_right _ (List.getElem_mem hk)
        exact List.mem_range.1 (hperm.mem_iff.1 h1)
      refine ⟨B, _, v, v.toNat, V.int (lf[v.toNat] : Int), rfl, rfl, eB3, by omega, by omega, ?_, ?_, _, rfl, _, _, rfl, rfl, _, rfl, _, _, rfl, rfl, (by omega), ?_⟩
      · exact PyProof.Rows.seqIndex_at hv0' (by rw [List.length_map]; omega)
      · rw [List.getElem?_map, List.getElem?_eq_getElem hk]; rfl
      have p4 : PenAt (upd H3 B (.lst ((lf.map fun x : Nat => V.int (x : Int)).eraseIdx v.toNat))) p := p3.put hBp
      refine ⟨_, rfl, _, rfl, _, rfl, _, rfl, _, _, rfl, rfl, p, _, rfl, p4, by omega, by omega, fun d H5 hd0 hd1 b5 p5 => ⟨_, _, rfl, rfl, .inl ⟨by omega, by omega⟩, _, _, rfl, rfl, ?_⟩⟩
      have eA5 := b5 A _ hAp ((upd_ne hBA.symm).trans eA3)
      have eB5 := b5 B _ hBp upd_same
      have hz0 := Int.emod_nonneg ((lf[v.toNat] : Int) - (0 + (i : Int))) (show (n : Int) ≠ 0 by omega)
      have hz1 := Int.emod_lt_of_pos ((lf[v.toNat] : Int) - (0 + (i : Int))) (show (0 : Int) < (n : Int) by omega)
      have hpl := place_eq (i := i) hxn
      have fin : ∀ a : Int, 0 ≤ a → a ≤ 60 → ((i : Int) + a) % (n : Int) = (lf[v.toNat] : Int) → ∀ w7 w8 : Option V,
          ∃ (v6 v7 v8 : Option V) (hs' : List Int) (ws' lf' : List Nat), [some (.ref p), some (.int m), some (.int u), some (.int (n : Int)), some (.ref A), some (.ref B), some (V.int (0 + (i : Int))), w7, w8] = [some (.ref p), some (.int m), some (.int u), some (.int (n : Int)), some (.ref A), some (.ref B), v6, v7, v8] ∧ SameBut p H (upd H5 A (.lst (hs.map V.int ++ [V.int a]))) ∧ PenAt (upd H5 A (.lst (hs.map V.int ++ [V.int a]))) p ∧
            hs'.length = i + 1 ∧ ws'.length = i + 1 ∧ (ws' ++ lf').Perm (List.range n) ∧ (upd H5 A (.lst (hs.map V.int ++ [V.int a]))) A = some (.lst (hs'.map V.int)) ∧ (upd H5 A (.lst (hs.map V.int ++ [V.int a]))) B = some (.lst (lf'.map fun x : Nat => V.int (x : Int))) ∧ (∀ h ∈ hs', 0 ≤ h ∧ h ≤ 60) ∧
            ∀ j, j < i + 1 → ((j : Int) + hs'.getD j 0) % (n : Int) = ((ws'.getD j 0 : Nat) : Int) := by
        intro a ha0 ha1 ham w7 w8
        have hx1 : (ws ++ [lf[v.toNat]]) ++ lf.eraseIdx v.toNat = ws ++ (lf[v.toNat] :: lf.eraseIdx v.toNat) := by rw [List.append_assoc]; rfl
        refine ⟨_, w7, w8, hs ++ [a], ws ++ [lf[v.toNat]], lf.eraseIdx v.toNat, rfl, (((b2.trans b3).put hB0).trans b5).put hA0, p5.put hAp, by rw [List.length_append, hl1]; rfl, by rw [List.length_append, hl2]; rfl, ?_, ?_, ?_, ?_, ?_⟩
        · rw [hx1]
          exact (List.Perm.append_left ws (perm_erase lf _ hk)).trans hperm
        · rw [upd_same, List.map_append]; rfl
        · rw [upd_ne hBA, eB5, map_erase]
        · intro h hh
          rcases List.mem_append.1 hh with h' | h'
          · exact hb h h'
          · rw [List.mem_singleton.1 h']; exact ⟨ha0, ha1⟩
        · intro j hj
          rcases Nat.lt_or_ge j i with hlt | hge
          · rw [List.getD_eq_getElem?_getD, List.getElem?_append_left (by omega), ← List.getD_eq_getElem?_getD, List.getD_eq_getElem?_getD (l := ws ++ _), List.getElem?_append_left (by omega), ← List.getD_eq_getElem?_getD]
            exact hmod j hlt
          · have : j = i := by omega
            subst this
            rw [List.getD_eq_getElem?_getD, List.getElem?_append_right (by omega), hl1, Nat.sub_self, List.getD_eq_getElem?_getD, List.getElem?_append_right (by omega), hl2, Nat.sub_self]
            exact ham
      rw [Int.zero_add] at hz0 hz1
      refine ⟨_, rfl, .inl ⟨rfl, _, SqL.of eA5⟩, _, rfl, _, _, rfl, rfl, _, rfl, ite2 (fun hc => ?_) (fun hc => ?_)⟩
      · have hc' := of_decide_eq_true hc
        refine ⟨_, rfl, A, _, _, rfl, rfl, eA5, ?_, fin _ ?_ ?_ ?_ _ _⟩
        · rw [List.length_map]
          have : (7 : Nat) < sizeLine := by decide
          omega
        all_goals rw [Int.zero_add]
        · have := Int.mul_nonneg (show (0 : Int) ≤ (n : Int) by omega) hd0
          omega
        · have hc2 : ((lf[v.toNat] : Int) - (0 + (i : Int))) % (n : Int) + (n : Int) * d < 61 := hc'
          rw [Int.zero_add] at hc2
          omega
        · exact hpl d
      · refine ⟨_, rfl, A, _, _, rfl, rfl, eA5, ?_, fin _ ?_ ?_ ?_ _ _⟩
        · rw [List.length_map]
          have : (7 : Nat) < sizeLine := by decide
          omega
        all_goals rw [Int.zero_add]
        · exact hz0
        · omega
        · have h0 := hpl 0
          rw [Int.mul_zero, Int.add_zero] at h0
          exact h0
    · rintro σ H2 ⟨v6, v7, v8, hs, ws, lf, rfl, b2, p2, hl1, hl2, hperm, eA, eB, hb, hmod⟩
      refine ⟨_, rfl, A, _, rfl, .inl ⟨SqL.of eA, fun l hl => q l _ hs (b2.trans (SameBut.of (Same.newN hl))) (p2.put fun z => ?_) (tab_of ws (by omega) (by omega) hb (by omega) ?_ ?_) (SqT.of upd_same)⟩⟩
      · obtain ⟨x, y, z', e2, _⟩ := p2
        rw [z, e2] at hl; cases hl
      · exact (List.nodup_append.1 (hperm.nodup_iff.2 List.nodup_range)).1
      · rw [hl1]; exact hmod
end
end BaR

namespace BaR
open PySem PySem.Spec PyProof.Rows L2 BA
theorem exm_self {K : PySem.W.Frag} {S : Addr} (h1 : PySem.W.subIn K (.ref S) (.type "BaseException") = some true) (h2 : PySem.W.isClsIn K S = true) (h3 : PySem.W.typeIn K (.ref S) = some (.type "type")) (h4 : PySem.W.subIn K (.ref S) (.ref S) = some true) :
    PySem.W.exmOne K (.ref S) (.ref S) = some true := by
  have e1 : (PySem.W.subIn K (.ref S) (.type "BaseException") == some true) = true := by rw [h1] <;> rfl
  have e2 : ((PySem.W.clsIn K S).isSome && PySem.W.typeIn K (.ref S) == some (.type "type")) = true := by
    have h2' : (PySem.W.clsIn K S).isSome = true := h2
    rw [h2', h3] <;> rfl
  show (if (PySem.W.subIn K (.ref S) (.type "BaseException") == some true) = true then (if ((PySem.W.clsIn K S).isSome && PySem.W.typeIn K (.ref S) == some (.type "type")) = true then PySem.W.subIn K (.ref S) (.ref S) else none) else none) = some true
  rw [if_pos e1, if_pos e2]
  exact h4
def spSums (K : PySem.W.Frag) : Sp := fun vs H Q _ => ∃ (a : Addr) (t : List Int) (c : Nat), vs = [.ref a, .int (c : Int)] ∧ Ints K H a t ∧ Tab t ∧ c ≤ 1000 ∧ ∀ D H', Same H H' → H' D = some (.lst ((rawN t c).map V.int)) → Q (.ref D) H'
def spChR (K : PySem.W.Frag) : Sp := fun vs H Q _ => ∃ (a : Addr) (t : List Int) (c : Nat), vs = [.ref a, .int (c : Int)] ∧ Ints K H a t ∧ Tab t ∧ 1 ≤ c ∧ c ≤ 420 ∧ AllEq t c ∧ ∀ H', Same H H' → Q (.bl true) H'
section
variable {P : Program} {w : World} {K : PySem.W.Frag} {mg : Str → Option Value} {base : Heap}
theorem scSums : FnScope ["_law_table_here", "_law_copies", "_law_found", "_law_thing", "_law_tick", "_law_turn"] ["_law_table_here", "_law_copies"] (defScope sSums) := ⟨rfl, rfl, rfl, by decide +kernel, rfl, by decide +kernel, by decide +kernel⟩
theorem ok_sums {f : Addr} {fd : FuncData} (F : Fun K "_law_sums" "_law_sums" sSums f fd) (T : Tx P K mg) : FnOk P w K mg base CX0 6 f fd ["_law_table_here", "_law_copies"] (spSums K) := by
  obtain ⟨f1, fd1, D1⟩ := T.outAt
  have G1 : FnOk P w K mg base CX0 5 f1 fd1 ["table", "thing"] (spOutAt K) := ok_outAt D1.F T
  refine F.ok scSums (fun vs H Q E h => ?_) (fun cdv A outer s H vs Q E hr h => ?_)
  · obtain ⟨a, t, c, rfl, _⟩ := h
    rfl
  · obtain ⟨a, t, c, rfl, hI, hT, hc, q⟩ := h
    refine ⟨_, pss_cons (ps_set (i := 2) scSums.nd rfl (Or.inl rfl) (pe_lst pa_nil))
      (pss_cons (ps_for PassesOwn.never rfl (pi_range1 (by rfl) T.bl.range (pa_cons (pe_callB call_len_seq (by rfl) T.bl.len PySem.boot_len (pa_cons (pv 0) pa_nil)) pa_nil)) (pg_name (i := 3) scSums.nd rfl (Or.inl rfl))
        (pss_cons (ps_set (i := 4) scSums.nd rfl (Or.inl rfl) (pv 3))
        (pss_cons (ps_for PassesOwn.never rfl (pi_range1 (by rfl) T.bl.range (pa_cons (pv 1) pa_nil)) (pg_name (i := 5) scSums.nd rfl (Or.inl rfl))
          (pss_one (ps_set (i := 4) scSums.nd rfl (Or.inl rfl) (pe_call G1 hr rfl D1.g D1.F.kp D1.b .nil pass0 (pa_cons (pv 0) (pa_cons (pv 4) pa_nil))))))
        (pss_one (ps_expr (pe_bm PySem.F.plainAttrs_list PySem.F.slot_list_append PySem.F.type_list_append mt_append (pv 2) (pa_cons (pe_op op_sub (pv 4) (pv 3)) pa_nil)))))))
      (pss_one (ps_ret (pv 2)))), ?_⟩
    have lt := List.length_map (as := t) V.int
    have ht7 := hT.le
    refine ⟨by show 0 ≤ sizeLine; decide, fun D hD => ⟨_, rfl, a, _, rfl, .inr ((Same.newN hD).ints hI), _, rfl, ?_, ?_, ?_⟩⟩
    · rw [lt]; omega
    · rw [lt]; omega
    rw [lt]
    refine for_range (lo := 0) (n := t.length) (fun i σ H' => (∃ v3 v4 v5, σ = [some (.ref a), some (.int (c : Int)), some (.ref D), v3, v4, v5]) ∧ Same H H' ∧ H' D = some (.lst (((List.range i).map fun x : Nat => outN t c (x : Int) - x).map V.int))) ⟨⟨_, _, _, rfl⟩, Same.newN hD, upd_same⟩ ?_ ?_
    · rintro i σ H1 hi ⟨⟨v3, v4, v5, rfl⟩, s1, e1⟩
      refine ⟨_, rfl, ?_⟩
      refine ⟨_, rfl, _, rfl, by omega, by omega, ?_⟩
      refine for_range (lo := 0) (n := c) (fun j σ H' => (∃ v5, σ = [some (.ref a), some (.int (c : Int)), some (.ref D), some (.int (0 + (i : Int))), some (.int (outN t j (0 + (i : Int)))), v5]) ∧ Same H H' ∧ H' D = some (.lst (((List.range i).map fun x : Nat => outN t c (x : Int) - x).map V.int))) ⟨⟨_, rfl⟩, s1, e1⟩ ?_ ?_
      · rintro j σ H2 hj ⟨⟨v5, rfl⟩, s2, e2⟩
        exact ⟨_, rfl, _, rfl, a, t, _, rfl, s2.ints hI, hT, fun H3 s3 => ⟨⟨_, rfl⟩, s2.trans s3, s3 _ _ e2⟩⟩
      · rintro σ H2 ⟨⟨v5, rfl⟩, s2, e2⟩
        refine ⟨_, rfl, .inl ⟨rfl, _, SqL.of e2⟩, _, rfl, _, rfl, _, _, rfl, rfl, D, _, _, rfl, rfl, e2, ?_, ⟨_, _, _, rfl⟩, s2.putN hD, ?_⟩
        · rw [List.length_map, List.length_map, List.length_range]
          have : (7 : Nat) < sizeLine := by decide
          omega
        · rw [upd_same, List.range_succ, List.map_append, List.map_append, Int.zero_add]; rfl
    · rintro σ H1 ⟨⟨v3, v4, v5, rfl⟩, s1, e1⟩
      exact ⟨_, rfl, q D H1 s1 e1⟩
theorem scChR : FnScope ["_law_table_here", "_law_copies", "_law_whole", "_law_turn"] ["_law_table_here", "_law_copies"] (defScope sChRight) := ⟨rfl, rfl, rfl, by decide +kernel, rfl, by decide +kernel, by decide +kernel⟩
theorem ok_chR {f : Addr} {fd : FuncData} (F : Fun K "_law_chained_right" "_law_chained_right" sChRight f fd) (T : Tx P K mg) : FnOk P w K mg base CX0 6 f fd ["_law_table_here", "_law_copies"] (spChR K) := by
  obtain ⟨C, TM⟩ := T.tm
  obtain ⟨f1, fd1, D1⟩ := T.chained
  obtain ⟨f2, fd2, D2⟩ := T.held
  have G1 : FnOk P w K mg base (L2.CX P w) 5 f1 fd1 ["one", "other"] (spChained K C) := ok_chained D1.F T TM
  have G2 : FnOk P w K mg base CX0 5 f2 fd2 ["table"] (spHeld K) := ok_held D2.F T
  have eC : PySem.W.exmOne K (.ref C) (.ref C) = some true := exm_self TM.exC TM.isC TM.tyC TM.slf
  refine F.ok scChR (fun vs H Q E h => ?_) (fun cdv A outer s H vs Q E hr h => ?_)
  · obtain ⟨a, t, c, rfl, _⟩ := h
    rfl
  · obtain ⟨a, t, c, rfl, hI, hT, hc1, hc2, hall, q⟩ := h
    refine ⟨_, pss_cons (ps_set (i := 2) scChR.nd rfl (Or.inl rfl) (pv 0))
      (pss_cons (ps_for PassesOwn.never rfl (pi_range1 (by rfl) T.bl.range (pa_cons (pe_op op_sub (pv 1) pe_int) pa_nil)) (pg_name (i := 3) scChR.nd rfl (Or.inl rfl))
        (pss_one (ps_try_only (tb := fun W => tAsg (tCallS (spChained K C) (WE W) (tCons (tVar 2) (tCons (tVar 0) tNil))) (gName 2)) (ts := fun _ _ _ => tRet (tC (.bl true))) (Wout := fun _ _ _ _ => False) rfl rfl ⟨rfl, by decide, Or.inl TM.gC⟩ takes0
          (fun W pn xe tk _ => pss_one (ps_set (i := 2) scChR.nd rfl (Or.inl rfl) (pe_callS G1 hr rfl D1.g D1.F.kp D1.b (fun σ => passAt tk σ) (by exact (pa_cons (pv 2) (pa_cons (pv 0) pa_nil))))))
          (fun _ _ _ _ _ _ _ => pss_one (ps_ret pe_bl)))))
      (pss_one (ps_ret (pe_or (pe_cmpR op_eq (pv 1) pe_int (nomark _)) (pe_one (pe_cmpR (op_eqD hr.units) (pv 2) (pe_tup (pa_cons (pe_op op_mul (pv 1) (pe_call G2 hr rfl D2.g D2.F.kp D2.b .nil pass0 (pa_cons (pv 0) pa_nil))) pa_nil)) (nomark _))))))), ?_⟩
    refine ⟨_, rfl, _, rfl, _, _, rfl, rfl, _, rfl, ?_, ?_, ?_⟩
    · omega
    · omega
    have en : ((c : Int) - 1).toNat = c - 1 := by omega
    rw [en]
    refine for_range (lo := 0) (n := c - 1) (g := gName 3) (tb := fun D σ H => tAsg (tCallS (spChained K C) (WE (wOnly K (.ref C) (fun _ _ _ => tRet (tC (.bl true))) (fun _ _ _ _ => False) D)) (tCons (tVar 2) (tCons (tVar 0) tNil))) (gName 2) D σ H) (fun i σ H' => ∃ (V0 : Addr) (v : List Int) (v3 : Option V), σ = [some (.ref a), some (.int (c : Int)), some (.ref V0), v3] ∧ Same H H' ∧ Ints K H' V0 v ∧ Tab v ∧ Wh t (i + 1) v ∧ (AllEq t (i + 1) → i = 0 ∨ v = [((i + 1 : Nat) : Int) * heldI t])) ⟨a, t, none, rfl, Same.refl H, hI, hT, Wh.one hT, fun _ => .inl rfl⟩ ?_ ?_
    · rintro i σ H1 hi ⟨V0, v, v3, rfl, s1, hv, hTv, hW, hA⟩
      refine ⟨_, rfl, _, rfl, V0, a, v, t, i + 1, rfl, hv, hTv, s1.ints hI, hT, hW, by omega, fun d H2 s2 => ⟨true, eC, fun _ _ _ => q _ (s1.trans s2), fun z => nomatch z⟩, fun p H2 v' s2 hp hTv' hW' hA' => ?_⟩
      exact ⟨p, v', _, rfl, s1.trans s2, hp, hTv', hW', fun z => .inr (hA' z)⟩
    · rintro σ H1 ⟨V0, v, v3, rfl, s1, hv, hTv, hW, hA⟩
      have ec : c - 1 + 1 = c := by omega
      rw [ec] at hA hW
      refine ⟨_, rfl, rfl, _, rfl, ?_⟩
      by_cases h1 : c = 1
      · rw [decide_eq_true (congrArg V.int (show (c : Int) = 1 by omega))]
        exact iteT (q H1 s1)
      · rw [decide_eq_false fun z => h1 (by have := V.int.inj z; omega)]
        have hv2 : v = [(c : Int) * heldI t] := (hA hall).elim (fun z => by omega) id
        refine iteF ⟨_, rfl, _, rfl, _, rfl, a, t, rfl, s1.ints hI, hT, fun H2 s2 => ⟨_, _, rfl, rfl, .inl ⟨by omega, by omega⟩, by show 1 ≤ sizeLine; decide, fun T1 hT1 => ?_⟩⟩
        refine eqT_ints (l := v) (m := [(c : Int) * heldI t]) ((s2.addN hT1).ints hv) (SqT.of upd_same) ?_
        rw [decide_eq_true hv2]
        exact q _ ((s1.trans s2).addN hT1)
end
end BaR

namespace BaR
open PySem PySem.Spec PyProof.Rows L2 BA
theorem gone_len {t : List Int} (T : Tab t) (p : Nat) : (cI t p).length ≤ 7 := by
  unfold cI
  rw [List.length_map, T.circ_len]
  exact Nat.le_trans (T.per_le p) T.le
/-- sorted, what has gone is range(len(table)) -/
theorem sorted_gone {t : List Int} (T : Tab t) {ns g : List Int} (hg : g = (leads t).flatMap (cI t)) (h : ns.Perm g) (hs : ns.Pairwise (· ≤ ·)) : ns = (List.range t.length).map fun x : Nat => (x : Int) := by
  have e : g = ((leads t).flatMap (circ t)).map fun x : Nat => (x : Int) := by
    rw [hg, List.map_flatMap]; rfl
  have p : ns.Perm ((List.range t.length).map fun x : Nat => (x : Int)) := h.trans (by rw [e]; exact T.gone_perm.map _)
  refine List.Perm.eq_of_pairwise (fun _ _ _ _ a b => Int.le_antisymm a b) hs ?_ p
  rw [List.pairwise_map]
  exact (List.pairwise_lt_range (n := t.length)).imp fun h => by omega
theorem rgV_int (n : Nat) : rgV 0 (n : Int) = ((List.range n).map fun x : Nat => (x : Int)).map V.int := by
  unfold rgV
  have e : ((n : Int) - 0).toNat = n := by omega
  rw [e, List.map_map]
  exact List.map_congr_left fun i _ => by show V.int (0 + (i : Int)) = V.int (i : Int); rw [Int.zero_add]
theorem Same_none {H H' : Hp} {D : Addr} (s : Same H H') (h : H' D = none) : H D = none := by
  cases e : H D with
  | none => rfl
  | some o => rw [s D o e] at h; cases h
def spRight (K : PySem.W.Frag) : Sp := fun vs H Q _ => ∃ (a : Addr) (t : List Int), vs = [.ref a] ∧ Ints K H a t ∧ Tab t ∧ ∀ H', Same H H' → Q (.bl true) H'
section
variable {P : Program} {w : World} {K : PySem.W.Frag} {mg : Str → Option Value} {base : Heap}
/-- a def by its body, its code object told -/
theorem okC {x qual : Str} {st : Stmt} {f : Addr} {fd : FuncData} {N ps : List Str} {k : Nat} {sp : Sp} (F : Fun K x qual st f fd) (S : FnScope N ps (defScope st)) (len : ∀ vs H Q E, sp vs H Q E → vs.length = ps.length)
    (hbody : ∀ (cdv : Value) (A : Around) (outer : List Env) (s : Shared) (H : Hp) (vs : List V) (Q : VK) (E : XK), PySem.W.kdsCode K cdv = true → Room k (A.deeper (envOfC qual (defScope st) s.heap.objs.size f cdv)) → sp vs H Q E →
      ∃ t, PSs (cxOf CX0 P w K mg base N qual (defScope st) f cdv A outer s H E).nox (defBody st) t ∧ t { nx := fun _ H' => Q .non H', rt := Q } (L2.start N vs) H) : FnOk P w K mg base CX0 (k + 1) f fd ps sp := by
  obtain ⟨oc, od, kV, doc, pm, an, cdv, ct, osl, rfl, lk, hcd⟩ := F.ex
  refine fn_of lk hcd S len fun A outer s H vs Q E hr hsp => ?_
  obtain ⟨t, h, q⟩ := hbody cdv A outer s H vs Q E (kdsCode_of hcd) hr hsp
  exact ⟨t, h.nox, q⟩
theorem scRight : FnScope ["_law_table_here", "_law_rows", "_law_copies", "_law_gone", "_law_places", "_law_pace", "_law_less"] ["_law_table_here"] (defScope sRight) := ⟨rfl, rfl, rfl, by decide +kernel, rfl, by decide +kernel, by decide +kernel⟩
theorem ok_right {f : Addr} {fd : FuncData} (F : Fun K "_law_right" "_law_right" sRight f fd) (T : Tx P K mg) : FnOk P w K mg base CX0 7 f fd ["_law_table_here"] (spRight K) := by
  obtain ⟨f1, fd1, D1⟩ := T.circles
  obtain ⟨f2, fd2, D2⟩ := T.straight
  obtain ⟨f3, fd3, D3⟩ := T.held
  obtain ⟨f4, fd4, D4⟩ := T.sums
  obtain ⟨f5, fd5, D5⟩ := T.chRight
  have G1 : FnOk P w K mg base CX0 5 f1 fd1 ["table"] (spCircles K) := ok_circles D1.F T
  have G2 : FnOk P w K mg base CX0 6 f2 fd2 ["table"] (spStraight K) := ok_straight D2.F T
  have G3 : FnOk P w K mg base CX0 5 f3 fd3 ["table"] (spHeld K) := ok_held D3.F T
  have G4 : FnOk P w K mg base CX0 6 f4 fd4 ["_law_table_here", "_law_copies"] (spSums K) := ok_sums D4.F T
  have G5 : FnOk P w K mg base CX0 6 f5 fd5 ["_law_table_here", "_law_copies"] (spChR K) := ok_chR D5.F T
  refine okC F scRight (fun vs H Q E h => ?_) (fun cdv A outer s H vs Q E hcd hr h => ?_)
  · obtain ⟨a, t, rfl, _⟩ := h
    rfl
  · obtain ⟨a, t, rfl, hI, hT, q⟩ := h
    refine ⟨_, pss_cons (ps_par3 (i := 1) (j := 2) (l := 3) (by rfl) scRight.nd rfl rfl rfl (by decide) (by decide) (by decide) rfl rfl rfl
        (pa_cons (pe_call G1 (hr.mono (by decide)) rfl D1.g D1.F.kp D1.b .nil pass0 (pa_cons (pv 0) pa_nil)) (pa_cons (pe_call G2 hr rfl D2.g D2.F.kp D2.b .nil pass0 (pa_cons (pv 0) pa_nil)) (pa_cons (pe_lst pa_nil) pa_nil))) (by rfl))
      (pss_cons (ps_for PassesOwn.never rfl (pi_tup (pv 1)) (pg_tup2 K (i := 4) (j := 5) rfl scRight.nd rfl rfl (Or.inl rfl) (Or.inl rfl))
        (pss_one (ps_set (i := 3) scRight.nd rfl (Or.inl rfl) (pe_op op_cat (pv 3) (pe_callTy call_list_of (by rfl) T.bl.list (by decide +kernel) (pa_cons (pv 4) pa_nil))))))
      (pss_cons (ps_if (pt_cmpR (op_neD hr.units) (pe_callB cr_sorted (by rfl) T.bl.sorted (by decide +kernel) (pa_cons (pv 3) pa_nil))
          (pe_listRg rfl (by rfl) T.bl.list (prg_1 (by rfl) T.bl.range (pe_callB call_len_seq (by rfl) T.bl.len PySem.boot_len (pa_cons (pv 0) pa_nil)))) (nomark _)) (pss_one (ps_ret pe_bl)) pss_nil)
      (pss_cons (ps_if (pt_cmpR op_ne (pe_callB (cr_sum rfl) (by rfl) T.bl.sum (by decide +kernel) (pa_cons
            (pe_LC (own := [("_law_places", 4), ("_law_pace", 5)]) rfl scRight.nd (pi_tup (pv 1))
              (blkOk_by (N := ["_law_table_here", "_law_rows", "_law_copies", "_law_gone", "_law_places", "_law_pace", "_law_less"]) (sc := defScope sRight) (by decide +kernel))
              (fun _ _ _ _ _ => pg_tup2 K (i := 4) (j := 5) rfl scRight.nd rfl rfl (Or.inl rfl) (Or.inl rfl)) (fun _ _ _ _ _ => pts_nil)
              (fun _ _ _ _ _ => pe_op op_fdiv (pe_op op_mul (pe_ix (ixk_tup K) (pv 5) pe_int (fun _ _ => rfl)) (pe_callB (ck_len K) (by rfl) T.bl.len PySem.boot_len (pa_cons (pv 4) pa_nil))) (pe_ix (ixk_tup K) (pv 5) pe_int (fun _ _ => rfl)))) pa_nil))
          (pe_op op_mul (pe_call G3 (hr.mono (by decide)) rfl D3.g D3.F.kp D3.b .nil pass0 (pa_cons (pv 0) pa_nil)) (pe_callB call_len_seq (by rfl) T.bl.len PySem.boot_len (pa_cons (pv 0) pa_nil))) (nomark _)) (pss_one (ps_ret pe_bl)) pss_nil)
      (pss_cons (ps_if (pt_cmpR op_gt (pe_callB cr_lenT (by rfl) T.bl.len PySem.boot_len (pa_cons (pe_callTy (cr_setOfT rfl hr.units) (by rfl) T.bl.set (by decide +kernel) (pa_cons
            (pe_LC (own := [("_law_places", 4), ("_law_pace", 5)]) rfl scRight.nd (pi_tup (pv 1))
              (blkOk_by (N := ["_law_table_here", "_law_rows", "_law_copies", "_law_gone", "_law_places", "_law_pace", "_law_less"]) (sc := defScope sRight) (by decide +kernel))
              (fun _ _ _ _ _ => pg_tup2 K (i := 4) (j := 5) rfl scRight.nd rfl rfl (Or.inl rfl) (Or.inl rfl)) (fun _ _ _ _ _ => pts_nil)
              (fun _ _ _ _ _ => pv 5)) pa_nil)) pa_nil)) pe_int (nomark _))
          (pss_one (ps_ret (pe_cmpR op_isN (pv 2) pe_non (nomark _)))) pss_nil)
      (pss_cons (ps_if (PW.pt (pw_or (pt_cmpR op_isN (pv 2) pe_non (nomark _)) (pw_or1 (pt_not (pt_chain op_le op_le pe_int (pv 2) pe_int))))) (pss_one (ps_ret pe_bl)) pss_nil)
      (pss_cons (ps_if (pt_cmpR (op_neD hr.units)
          (pe_lc (own := [("_law_less", 6)]) (g := gName 6) rfl scRight.nd (pi_range2 (by rfl) T.bl.range (pa_cons pe_int (pa_cons (pv 2) pa_nil)))
              (blkOk_by (N := ["_law_table_here", "_law_rows", "_law_copies", "_law_gone", "_law_places", "_law_pace", "_law_less"]) (sc := defScope sRight) (by decide +kernel))
              (fun _ _ _ _ _ => pg_name (i := 6) scRight.nd rfl (Or.inl rfl))
              (fun _ _ _ _ _ => pts_one (pt_cmpR op_eq (pe_callB ck_lenI (by rfl) T.bl.len PySem.boot_len (pa_cons (pe_callTy (ck_setI K rfl) (by rfl) T.bl.set (by decide +kernel) (pa_cons
                (pe_call G4 hr rfl D4.g D4.F.kp D4.b .nil pass0 (pa_cons (pv 0) (pa_cons (pv 6) pa_nil))) pa_nil)) pa_nil)) pe_int (nomark _)))
              (fun _ _ _ _ _ => pv 6))
          (pe_lst pa_nil) (nomark _)) (pss_one (ps_ret pe_bl)) pss_nil)
      (pss_cons (ps_if (pt_cmpR (op_ne1 hr.units) (pe_callTy (cr_setI rfl) (by rfl) T.bl.set (by decide +kernel) (pa_cons (pe_call G4 hr rfl D4.g D4.F.kp D4.b .nil pass0 (pa_cons (pv 0) (pa_cons (pv 2) pa_nil))) pa_nil))
          (pe_set1 hcd (pe_op op_mul (pv 2) (pe_call G3 (hr.mono (by decide)) rfl D3.g D3.F.kp D3.b .nil pass0 (pa_cons (pv 0) pa_nil)))) (nomark _)) (pss_one (ps_ret pe_bl)) pss_nil)
      (pss_one (ps_ret (pe_call G5 hr rfl D5.g D5.F.kp D5.b .nil pass0 (pa_cons (pv 0) (pa_cons (pv 2) pa_nil)))))))))))), ?_⟩
    have lt := List.length_map (as := t) V.int
    have ht7 := hT.le
    refine ⟨_, rfl, a, t, rfl, hI, hT, fun R H1 L s1 hL hR hRow => ⟨_, rfl, a, t, rfl, s1.ints hI, hT, fun v H2 s2 hv => ⟨by show 0 ≤ sizeLine; decide, fun G hG => ⟨_, _, _, rfl, ?_⟩⟩⟩⟩
    have hLl : L.length ≤ 7 := by
      have h1 := congrArg List.length hL
      rw [List.length_map] at h1
      have := leads_len hT
      omega
    have hRow2 : ∀ r ∈ L, Row K H2 t r := fun r hr' => (hRow r hr').same s2
    have hR2 := s2.tupK hR
    have s02 := s1.trans s2
    have hgr : ∀ i, (h : i < L.length) → (L.map fun r => V.ref r.1)[i]? = some (.ref (L[i].1)) := fun i h => by rw [List.getElem?_map, List.getElem?_eq_getElem h]; rfl
    refine ⟨_, rfl, R, rfl, ⟨_, (Same.newN hG).tupK hR2⟩, for_tup (K := K) (a := R) (xs := L.map fun r => V.ref r.1) (fun i σ H' => (∃ (Gi : Addr) (v4 v5 : Option V) (g : List Int), σ = [some (.ref a), some (.ref R), some v, some (.ref Gi), v4, v5, none] ∧ H' Gi = some (.lst (g.map V.int)) ∧ g = (L.take i).flatMap (fun r => cI t r.2) ∧ g.length ≤ 7 * i) ∧ Same H2 H')
      ⟨⟨G, none, none, [], rfl, upd_same, rfl, Nat.le_refl _⟩, Same.newN hG⟩ ?_ ?_ ?_⟩
    · exact fun i σ H' _ p => p.2.tupK hR2
    · rintro i x σ H3 hx ⟨⟨Gi, v4, v5, g, rfl, eG, hg, hgl⟩, s3⟩
      have hi : i < L.length := by have := (List.getElem?_eq_some_iff.1 hx).1; rwa [List.length_map] at this
      rw [hgr i hi] at hx
      cases hx
      obtain ⟨B, C, hB, hC1, hC2⟩ := hRow2 L[i] (List.getElem_mem hi)
      have hC3 := s3.ints hC1
      refine ⟨_, _, _, rfl, s3.tupK hB, ?_⟩
      refine ⟨_, rfl, _, rfl, B, _, rfl, .inr hC3, fun l hl => ⟨Gi, l, _, _, rfl, rfl, (Same.newN hl) _ _ eG, upd_same, ?_, fun D hD => ⟨⟨D, _, _, g ++ cI t L[i].2, rfl, ?_, ?_, ?_⟩, (s3.addN hl).addN hD⟩⟩⟩
      · have h1 := gone_len hT L[i].2
        rw [List.length_map, List.length_map]
        have : (100 : Nat) < sizeLine := by decide
        omega
      · rw [upd_same, List.map_append]
      · rw [List.take_succ_eq_append_getElem hi, List.flatMap_append, hg, List.flatMap_singleton]
      · have h1 := gone_len hT L[i].2
        rw [List.length_append]; omega
    · rintro σ H3 ⟨⟨Gi, v4, v5, g, rfl, eG, hg, hgl⟩, s3⟩
      rw [List.length_map] at hg hgl
      rw [List.take_length] at hg
      have hg2 : g = (leads t).flatMap (cI t) := by rw [hg, ← hL, List.flatMap_map]
      have s03 := s02.trans s3
      refine ⟨_, rfl, Gi, g, rfl, SqL.of eG, by omega, fun ns p hperm hris hp => ⟨_, rfl, a, _, rfl, .inr ((s03.addN hp).ints hI), _, rfl, RgOk.of_le (by decide) (by omega) (by decide) (by omega), fun q1 hq1 => ?_⟩⟩
      have hns := sorted_gone hT hg2 hperm hris
      refine neL_ints (l := ns) (m := (List.range t.length).map fun x : Nat => (x : Int)) (SqL.of ((Same.newN hq1) _ _ upd_same)) (SqL.of ?_) ⟨_, rfl, ?_⟩
      · rw [upd_same, lt, rgV_int]
      rw [decide_eq_true hns]
      have s4 : Same H2 (upd (upd H3 p (.lst (ns.map V.int))) q1 (.lst (rgV 0 ((t.map V.int).length : Int)))) := (s3.addN hp).addN hq1
      generalize upd (upd H3 p (HO.lst (ns.map V.int))) q1 (HO.lst (rgV 0 ((t.map V.int).length : Int))) = H4 at s4 ⊢
      have s04 := s02.trans s4
      have hR4 := s4.tupK hR2
      have hRow4 : ∀ r ∈ L, Row K H4 t r := fun r hr' => (hRow2 r hr').same s4
      refine iteF ⟨_, rfl, R, rfl, ⟨_, hR4⟩, fun D hD => turns_by L.length (fun i H' => Same H4 H' ∧ H' D = some (.lst (((L.take i).map fun r => tot t r.2).map V.int))) ⟨Same.newN hD, upd_same⟩ ?_ ?_⟩
      · rintro H5 ⟨s5, e5⟩
        rw [List.take_length] at e5
        have hsum : (L.map fun r => tot t r.2).sum = heldI t * (t.length : Int) := by
          have e : (L.map fun r => tot t r.2) = (leads t).map (tot t) := by rw [← hL, List.map_map]; rfl
          rw [e, hT.tot_sum, hT.held_mul]
        have s05 := s04.trans s5
        refine ⟨⟨_, s5.tupK hR4, by rw [List.length_map]; exact Nat.le_refl _⟩, D, _, rfl, SqL.of e5, _, rfl, a, t, rfl, s05.ints hI, hT, fun H6 s6 => ⟨_, rfl, a, _, rfl, .inr ((s05.trans s6).ints hI), _, _, rfl, rfl, .inr ⟨by omega, by omega⟩, rfl, _, rfl, ?_⟩⟩
        have e6 : (!decide (V.int ((L.map fun r => tot t r.2).sum) = V.int (heldI t * ((t.map V.int).length : Int)))) = false := by
          rw [hsum, lt, decide_eq_true rfl]; rfl
        dsimp only
        rw [e6]
        have s46 := s5.trans s6
        have s06 := s05.trans s6
        have hR6 := s46.tupK hR4
        refine iteF ⟨_, rfl, R, rfl, ⟨_, hR6⟩, fun D2 hD2 => turns_by L.length (fun i H' => Same H6 H' ∧ ∃ ks : List (Addr × List Int), ks.length = i ∧ H' D2 = some (.lst (ks.map fun p => V.ref p.1)) ∧ (∀ p ∈ ks, SqT K H6 p.1 (p.2.map V.int)) ∧ ks.map (·.2) = (L.take i).map fun r => [pn t r.2, pd t r.2]) ⟨Same.newN hD2, [], rfl, upd_same, fun p hp => (by cases hp), rfl⟩ ?_ ?_⟩
        · rintro H7 ⟨s7, ks, hk1, e7, hk2, hk3⟩
          rw [List.take_length] at hk3
          refine ⟨⟨_, s7.tupK hR6, by rw [List.length_map]; exact Nat.le_refl _⟩, D2, ks, rfl, SqL.of e7, fun p hp => s7.tupK (hk2 p hp), by omega, fun S L' hS h1 h2 => ?_⟩
          refine ⟨S, L', rfl, upd_same, fun p hp => (s7.addN hS).tupK (hk2 p (h1 p hp)), fun nd => ⟨_, _, rfl, rfl, _, rfl, ?_⟩⟩
          have hmem : ∀ y, y ∈ L'.map (·.2) ↔ y ∈ L.map fun r => [pn t r.2, pd t r.2] := fun y => by
            rw [← hk3]
            constructor
            · intro h
              obtain ⟨p, hp, rfl⟩ := List.mem_map.1 h
              exact List.mem_map.2 ⟨p, h1 p hp, rfl⟩
            · intro h
              obtain ⟨p, hp, rfl⟩ := List.mem_map.1 h
              exact h2 p hp
          have hl : (L.map fun r => [pn t r.2, pd t r.2]) = (leads t).map fun p => [pn t p, pd t p] := by rw [← hL, List.map_map]; rfl
          have hone := nodup_one_iff nd hmem
          rw [List.length_map, alike_iff hl] at hone
          have s08 := (s06.trans s7).addN (o := SetTO P w S L') hS
          refine ite2 (fun hc => ?_) (fun hc => ?_)
          · have hc' : (L'.length : Int) > 1 := of_decide_eq_true hc
            have hn : v = .non := by
              rcases hv with h | ⟨c, _, hal, _⟩
              · exact h.1
              · have := hone.2 hal; omega
            subst hn
            exact ⟨_, rfl, rfl, q _ s08⟩
          have hc' : ¬ (L'.length : Int) > 1 := fun z => hc (decide_eq_true z)
          have hal : Alike t := hone.1 (by omega)
          have hvc : ∃ c : Nat, v = .int (c : Int) ∧ 1 ≤ c ∧ c ≤ 420 ∧ AllEq t c ∧ ∀ e, 1 ≤ e → e < c → ¬ AllEq t e := by
            rcases hv with h | ⟨c, r1, _, r2⟩
            · exact absurd hal h.2
            · exact ⟨c, r1, r2⟩
          obtain ⟨c, rfl, hc1, hc2, hce, hcn⟩ := hvc
          refine ⟨_, rfl, rfl, _, rfl, iteF ?_⟩
          refine ⟨_, rfl, 1, _, rfl, rfl, true, congrArg V.bl (decide_eq_true (by omega)), iteT ⟨_, 840, rfl, rfl, true, congrArg V.bl (decide_eq_true (by omega)), iteF ?_⟩⟩
          refine ⟨_, rfl, 1, _, rfl, by omega, fun D3 hD3 => ?_⟩
          have en : ((c : Int) - 1).toNat = c - 1 := by omega
          rw [en]
          refine lc_range (lo := 1) (n := c - 1) (fun k H' => Same (upd H7 S (SetTO P w S L')) H' ∧ H' D3 = some (.lst [])) ⟨Same.newN hD3, upd_same⟩ ?_ ?_
          · rintro k H9 hk ⟨s9, e9⟩
            have e1 : (1 : Int) + (k : Int) = ((1 + k : Nat) : Int) := by omega
            rw [e1]
            refine ⟨rfl, ?_⟩
            refine ⟨_, rfl, _, rfl, a, t, 1 + k, rfl, (s08.trans s9).ints hI, hT, by omega, fun D4 H10 s10 e10 => ⟨D4, _, rfl, SqL.of e10, by rw [rawN_len]; omega, fun S4 hS4 => ⟨S4, _, _, rfl, upd_same, rfl, _, rfl, ?_⟩⟩⟩
            have hne : ¬ AllEq t (1 + k) := hcn (1 + k) (by omega) (by omega)
            have hiff := alleq_iff (t := t) (c := 1 + k)
            have ed : decide (V.int (((dd (rawN t (1 + k))).length : Nat) : Int) = V.int 1) = false := by
              refine decide_eq_false fun z => hne (hiff.1 ?_)
              have z' := V.int.inj z
              show (dd (rawN t (1 + k))).length ≤ 1
              omega
            rw [ed]
            have hS34 : D3 ≠ S4 := fun z => by
              have e := s10 _ _ e9
              rw [z] at e
              rw [e] at hS4
              cases hS4
            exact iteF ⟨(s9.trans s10).addN hS4, (upd_ne hS34).trans (s10 _ _ e9)⟩
          · rintro H9 ⟨s9, e9⟩
            refine ⟨by show 0 ≤ sizeLine; decide, fun l hl => neL_ints (l := []) (m := []) (SqL.of ((Same.newN hl) _ _ e9)) (SqL.of upd_same) ⟨_, rfl, ?_⟩⟩
            rw [decide_eq_true rfl]
            have s10 := (s08.trans s9).addN (o := .lst []) hl
            generalize upd H9 l (HO.lst []) = H10 at s10 ⊢
            refine iteF ⟨_, rfl, _, rfl, a, t, c, rfl, s10.ints hI, hT, by omega, fun D4 H11 s11 e11 => ⟨D4, _, rfl, SqL.of e11, by rw [rawN_len]; omega, fun S4 hS4 => fun D5 hD5 => ?_⟩⟩
            have s12 := ((s10.trans s11).addN (o := stI (rawN t c)) hS4).addN (o := stI []) hD5
            have hD45 : S4 ≠ D5 := fun z => by rw [z, upd_same] at hD5; cases hD5
            refine ⟨_, rfl, _, rfl, a, t, rfl, s12.ints hI, hT, fun H13 s13 => ⟨_, _, rfl, rfl, .inl ⟨by omega, by omega⟩, _, rfl, s13 _ _ upd_same, ?_⟩⟩
            have hd1 : (dd (rawN t c)).length = 1 := by
              have h1 : (dd (rawN t c)).length ≤ 1 := alleq_iff.2 hce
              have h2 : 0 < (dd (rawN t c)).length := dd_pos fun z => by
                have := congrArg List.length z
                rw [rawN_len, List.length_nil] at this
                have := hT.pos
                omega
              omega
            have hd2 : ∀ x : Int, (dd [x]).length = 1 := fun x => by rw [dd_of_nodup (by simp)]; rfl
            have hmem : (c : Int) * heldI t ∈ rawN t c := List.mem_of_mem_take (i := 1) (by rw [(rep_one hT hce).2]; exact List.mem_singleton.2 rfl)
            have k4 : H13 S4 = some (HO.set (fun k => decide (k ∈ rawN t c)) 1) := by
              have e := s13 S4 (stI (rawN t c)) ((upd_ne hD45).trans upd_same)
              rw [e]; unfold stI; rw [hd1]
            refine ⟨S4, D5, fun k => decide (k ∈ rawN t c), fun k => decide (k ∈ [(c : Int) * heldI t]), (c : Int) * heldI t, rfl, rfl, (upd_ne hD45).trans k4, ?_, decide_eq_true hmem, decide_eq_true (List.mem_singleton.2 rfl), ⟨_, rfl, iteF ?_⟩⟩
            · rw [upd_same]; unfold stI; rw [hd2]
            · have hD0 : H D5 = none := Same_none ((s10.trans s11).addN (o := stI (rawN t c)) hS4) hD5
              exact ⟨_, rfl, _, rfl, a, t, c, rfl, ((s12.trans s13).putN hD0).ints hI, hT, hc1, hc2, hce, fun H14 s14 => q _ (((s12.trans s13).putN hD0).trans s14)⟩
        · rintro i H7 hi ⟨s7, ks, hk1, e7, hk2, hk3⟩
          refine ⟨⟨_, _, s7.tupK hR6, hgr i hi⟩, ?_⟩
          rintro v' H8 ⟨rfl, hx⟩
          have hx' := (hx _ (s7.tupK hR6)).symm.trans (hgr i hi)
          cases hx'
          obtain ⟨B, C, hB, hC1, hC2⟩ := (hRow4 L[i] (List.getElem_mem hi)).same s46
          refine ⟨_, _, _, rfl, s7.tupK hB, rfl, ?_⟩
          refine yesT ⟨_, rfl, _, e7, ?_, s7.putN hD2, ks ++ [(C, [pn t L[i].2, pd t L[i].2])], ?_, ?_, ?_, ?_⟩
          · rw [List.length_map]
            have : (7 : Nat) < sizeLine := by decide
            omega
          · rw [List.length_append, hk1]; rfl
          · rw [upd_same, List.map_append]; rfl
          · intro p hp
            rcases List.mem_append.1 hp with h | h
            · exact hk2 p h
            · rw [List.mem_singleton.1 h]; exact hC2
          · rw [List.map_append, hk3, List.take_succ_eq_append_getElem hi, List.map_append]; rfl
      · rintro i H5 hi ⟨s5, e5⟩
        refine ⟨⟨_, _, s5.tupK hR4, hgr i hi⟩, ?_⟩
        rintro v' H6 ⟨rfl, hx⟩
        have hx' := (hx _ (s5.tupK hR4)).symm.trans (hgr i hi)
        cases hx'
        obtain ⟨B, C, hB, hC1, hC2⟩ := hRow4 L[i] (List.getElem_mem hi)
        have hlen : ((cI t L[i].2).map V.int).length = per t L[i].2 := by rw [List.length_map]; unfold cI; rw [List.length_map, hT.circ_len]
        have hper := hT.per_le L[i].2
        have hpd := hT.pd_pos L[i].2
        have hpd7 := hT.pd_le L[i].2
        refine ⟨_, _, _, rfl, s5.tupK hB, rfl, ?_⟩
        refine yesT ⟨_, rfl, C, _, _, _, rfl, rfl, s5.ints hC2, atI_nat (j := 0) rfl, _, rfl, B, _, rfl, .inr (s5.ints hC1), _, _, rfl, rfl, .inr ⟨by omega, by omega⟩, _, rfl, C, _, _, _, rfl, rfl, s5.ints hC2, atI_nat (j := 1) rfl, _, _, rfl, rfl, ⟨hpd, by omega⟩, _, e5, ?_, s5.putN hD, ?_⟩
        · rw [List.length_map, List.length_map, List.length_take]
          have : (7 : Nat) < sizeLine := by decide
          omega
        · rw [upd_same, List.take_succ_eq_append_getElem hi, List.map_append, List.map_append]
          show some (HO.lst (_ ++ [V.int (pn t L[i].2 * (((cI t L[i].2).map V.int).length : Int) / pd t L[i].2)])) = _
          rw [hlen, hT.pace_sum]; rfl
end
end BaR

namespace BaR
open PySem PySem.Spec PyProof.Rows L2 BA
theorem _root_.L2.Same.lstK {K : PySem.W.Frag} {H H' : Hp} {a : Addr} {xs : List V} (e : Same H H') (h : SqL K H a xs) : SqL K H' a xs := by
  rcases h with (h | ⟨o, h⟩) | h
  · exact .inl (.inl (e _ _ h))
  · exact .inl (.inr ⟨o, e _ _ h⟩)
  · exact .inr h
theorem Same.but {H H1 H2 : Hp} {p : Addr} (s : Same H H1) (b : SameBut p H1 H2) (h : H p = none) : Same H H2 := fun x u e => b x u (ne_of_none e h) (s x u e)
theorem odd_at (k : Nat) : ∃ m : Int, atI [V.int 2, V.int 3, V.int 5, V.int 7] ((0 + (k : Int)) % 4) = some (.int m) ∧ 1 ≤ m ∧ m ≤ 7 := by
  have h0 : (0 + (k : Int)) % 4 = ((k % 4 : Nat) : Int) := by omega
  rw [h0]
  have h4 : k % 4 < 4 := Nat.mod_lt _ (by decide)
  generalize k % 4 = r at h4
  match r, h4 with
  | 0, _ => exact ⟨2, atI_nat rfl, by decide, by decide⟩
  | 1, _ => exact ⟨3, atI_nat rfl, by decide, by decide⟩
  | 2, _ => exact ⟨5, atI_nat rfl, by decide, by decide⟩
  | 3, _ => exact ⟨7, atI_nat rfl, by decide, by decide⟩
def spLaw (K : PySem.W.Frag) : Sp := fun vs H Q _ => ∃ (a : Addr) (ns : List Int), vs = [.ref a] ∧ SqL K H a (ns.map V.int) ∧ ns.length ≤ 63 ∧ ∀ H', Q (.bl true) H'
section
variable {P : Program} {w : World} {K : PySem.W.Frag} {mg : Str → Option Value} {base : Heap}
theorem scLaw : FnScope ["_law_script", "_law_k", "_law_pen_here", "_law_lap"] ["_law_script"] (defScope sLaw) := ⟨rfl, rfl, rfl, by decide +kernel, rfl, by decide +kernel, by decide +kernel⟩
theorem ok_law {f : Addr} {fd : FuncData} (F : Fun K "law" "law" sLaw f fd) (T : Tx P K mg) : FnOk P w K mg base CX0 8 f fd ["_law_script"] (spLaw K) := by
  obtain ⟨f1, fd1, D1⟩ := T.cell
  obtain ⟨f2, fd2, D2⟩ := T.pen
  obtain ⟨f3, fd3, D3⟩ := T.table
  obtain ⟨f4, fd4, D4⟩ := T.right
  have G1 : FnOk P w K mg base CX0 1 f1 fd1 ["_law_script", "_law_k"] (spCell K) := ok_cell D1.F T
  have G2 : FnOk P w K mg base CX0 1 f2 fd2 ["_law_cell_here"] spPen := ok_pen D2.F T
  have G3 : FnOk P w K mg base CX0 2 f3 fd3 ["_law_pen_here", "_law_most", "_law_times"] (spTable K) := ok_table D3.F T
  have G4 : FnOk P w K mg base CX0 7 f4 fd4 ["_law_table_here"] (spRight K) := ok_right D4.F T
  refine F.ok scLaw (fun vs H Q E h => ?_) (fun cdv A outer s H vs Q E hr h => ?_)
  · obtain ⟨a, ns, rfl, _⟩ := h
    rfl
  · obtain ⟨a, ns, rfl, hS, hl, q⟩ := h
    refine ⟨_, pss_cons (ps_for PassesOwn.never rfl (pi_range1 (by rfl) T.bl.range (pa_cons (pe_callB (call_max2 rfl) (by rfl) T.bl.max (by decide +kernel) (pa_cons pe_int (pa_cons
          (pe_callB (call_min2 rfl) (by rfl) T.bl.min (by decide +kernel) (pa_cons (pe_callB call_len_seq (by rfl) T.bl.len PySem.boot_len (pa_cons (pv 0) pa_nil)) (pa_cons pe_int pa_nil))) pa_nil))) pa_nil)) (pg_name (i := 1) scLaw.nd rfl (Or.inl rfl))
        (pss_cons (ps_set (i := 2) scLaw.nd rfl (Or.inl rfl) (pe_call G2 (hr.mono (by decide)) rfl D2.g D2.F.kp D2.b .nil pass0 (pa_cons (pe_call G1 (hr.mono (by decide)) rfl D1.g D1.F.kp D1.b .nil pass0 (pa_cons (pv 0) (pa_cons (pv 1) pa_nil))) pa_nil)))
        (pss_one (ps_for PassesOwn.never rfl (pi_range1 (by rfl) T.bl.range (pa_cons pe_int pa_nil)) (pg_name (i := 3) scLaw.nd rfl (Or.inl rfl))
          (pss_one (ps_if (pt_not (pt_val (pe_call G4 hr rfl D4.g D4.F.kp D4.b .nil pass0 (pa_cons
              (pe_call G3 (hr.mono (by decide)) rfl D3.g D3.F.kp D3.b .nil pass0 (pa_cons (pv 2) (pa_cons (pe_ix ix_list (pe_lst (pa_cons pe_int (pa_cons pe_int (pa_cons pe_int (pa_cons pe_int pa_nil))))) (pe_op op_mod (pv 3) pe_int) (fun _ _ => rfl)) (pa_cons pe_int pa_nil)))) pa_nil)))) (pss_one (ps_ret pe_bl)) pss_nil))))))
      (pss_one (ps_ret pe_bl)), ?_⟩
    refine ⟨_, rfl, a, _, rfl, .inl hS, _, _, rfl, _, _, rfl, _, rfl, ?_, ?_, ?_⟩
    · split <;> (try split) <;> omega
    · split <;> (try split) <;> omega
    refine for_range (lo := 0) (n := _) (fun i σ H' => (∃ v1 v2 v3, σ = [some (.ref a), v1, v2, v3]) ∧ Same H H') ⟨⟨_, _, _, rfl⟩, Same.refl H⟩ ?_ ?_
    · rintro i σ H1 hi ⟨⟨v1, v2, v3, rfl⟩, s1⟩
      refine ⟨_, rfl, _, rfl, a, ns, i, ?_, s1.lstK hS, fun n => ⟨n, rfl, fun p H2 s2 p2 hp => ?_⟩⟩
      · rw [Int.zero_add]; rfl
      have hp0 : H p = none := Same_none s1 hp
      refine ⟨_, rfl, by decide, by decide, ?_⟩
      refine for_range (lo := 0) (n := 12) (fun j σ H' => (∃ v3, σ = [some (.ref a), some (.int (0 + (i : Int))), some (.ref p), v3]) ∧ Same H H' ∧ PenAt H' p) ⟨⟨_, rfl⟩, s1.trans s2, p2⟩ ?_ ?_
      · rintro j σ H3 hj ⟨⟨v3, rfl⟩, s3, p3⟩
        obtain ⟨m, hm, hm1, hm7⟩ := odd_at j
        refine ⟨_, rfl, by show 4 ≤ sizeLine; decide, fun l hl => ?_⟩
        have hlp : l ≠ p := fun z => by
          obtain ⟨x, y, z', e, _⟩ := p3
          rw [z, e] at hl; cases hl
        refine ⟨_, rfl, _, _, rfl, rfl, (by show (0 : Int) < 4; decide), l, _, _, _, rfl, rfl, SqL.of upd_same, hm, p, m, 2, rfl, p3.put hlp, hm1, hm7, by decide, by decide, fun r H4 t b4 p4 hT hr4 => ?_⟩
        have s4 : Same H H4 := Same.but (s3.addN hl) b4 hp0
        refine ⟨r, t, rfl, hr4, hT, fun H5 s5 => ⟨true, rfl, iteF ⟨⟨_, rfl⟩, s4.trans s5, ?_⟩⟩⟩
        obtain ⟨x, y, z, e, r1⟩ := p4
        exact ⟨x, y, z, s5 _ _ e, r1⟩
      · rintro σ H3 ⟨⟨v3, rfl⟩, s3, p3⟩
        exact ⟨⟨_, _, _, rfl⟩, s3⟩
    · rintro σ H1 _
      exact q _
end
end BaR

namespace BaR
open PySem PySem.Spec PyProof.Rows L2 BA
/-! ### the end: what the top has written -/
theorem all_mk {P : Program} {w : World} {K : PySem.W.Frag} {h : Heap} {mg : Str → Option Value} {fa C B N fI cc cda f0 f1 f2 f3 f4 f5 f6 f7 f8 f9 f10 f11 f12 f13 f14 f15 f16 f17 f18 f19 f20 f21 f22 f23 f24 f25 : Addr} (X : K.In h) (G : h.Ns mainGlobals mg) (hfa : mg "law" = some (.ref fa))
    {nm q file : Str} {bs : List Value} {sn : List Str} {sub : List Value} {ab : Bool} {col : Option Bool} {dd : Option Addr} {m0 m1 m2 m3 m5 : Option Value} {tL tG tf : Tok} {cvs : Array Value}
    {odI anI cdd ccd2 od0 an0 od1 an1 od2 an2 od3 an3 od4 an4 od5 an5 od6 an6 od7 an7 od8 an8 od9 an9 od10 an10 od11 an11 od12 an12 od13 an13 od14 an14 od15 an15 od16 an16 od17 an17 od18 an18 od19 an19 od20 an20 od21 an21 od22 an22 od23 an23 od24 an24 od25 an25 : Option Addr} {slI ccs ccs2 sl0 sl1 sl2 sl3 sl4 sl5 sl6 sl7 sl8 sl9 sl10 sl11 sl12 sl13 sl14 sl15 sl16 sl17 sl18 sl19 sl20 sl21 sl22 sl23 sl24 sl25 : Array (Option Value)} {ocI dcI pmI ctI ccl ccl2 oc0 kV0 dc0 pm0 cd0 ct0 oc1 kV1 dc1 pm1 cd1 ct1 oc2 kV2 dc2 pm2 cd2 ct2 oc3 kV3 dc3 pm3 cd3 ct3 oc4 kV4 dc4 pm4 cd4 ct4 oc5 kV5 dc5 pm5 cd5 ct5 oc6 kV6 dc6 pm6 cd6 ct6 oc7 kV7 dc7 pm7 cd7 ct7 oc8 kV8 dc8 pm8 cd8 ct8 oc9 kV9 dc9 pm9 cd9 ct9 oc10 kV10 dc10 pm10 cd10 ct10 oc11 kV11 dc11 pm11 cd11 ct11 oc12 kV12 dc12 pm12 cd12 ct12 oc13 kV13 dc13 pm13 cd13 ct13 oc14 kV14 dc14 pm14 cd14 ct14 oc15 kV15 dc15 pm15 cd15 ct15 oc16 kV16 dc16 pm16 cd16 ct16 oc17 kV17 dc17 pm17 cd17 ct17 oc18 kV18 dc18 pm18 cd18 ct18 oc19 kV19 dc19 pm19 cd19 ct19 oc20 kV20 dc20 pm20 cd20 ct20 oc21 kV21 dc21 pm21 cd21 ct21 oc22 kV22 dc22 pm22 cd22 ct22 oc23 kV23 dc23 pm23 cd23 ct23 oc24 kV24 dc24 pm24 cd24 ct24 oc25 kV25 dc25 pm25 cd25 ct25 : Value}
    (z_a0 : PySem.W.nsIn K mainGlobals "is_integer" = some (some (.ref f0)))
    (z_l0 : K.lookup f0 = some ⟨oc0, od0, .func (PySem.W.fnOf "is_integer" "is_integer" (defArgs sIsInteger) (defBody sIsInteger) (defScope sIsInteger) .none kV0 dc0 pm0 an0 cd0 ct0), sl0⟩)
    (z_c0 : PySem.W.codeIn K cd0 "is_integer" = true)
    (z_k0 : PySem.W.keepIn K (.ref f0) = true)
    (z_a1 : PySem.W.nsIn K mainGlobals "is_between" = some (some (.ref f1)))
    (z_l1 : K.lookup f1 = some ⟨oc1, od1, .func (PySem.W.fnOf "is_between" "is_between" (defArgs sIsBetween) (defBody sIsBetween) (defScope sIsBetween) .none kV1 dc1 pm1 an1 cd1 ct1), sl1⟩)
    (z_c1 : PySem.W.codeIn K cd1 "is_between" = true)
    (z_k1 : PySem.W.keepIn K (.ref f1) = true)
    (z_a2 : PySem.W.nsIn K mainGlobals "is_onto" = some (some (.ref f2)))
    (z_l2 : K.lookup f2 = some ⟨oc2, od2, .func (PySem.W.fnOf "is_onto" "is_onto" (defArgs sIsOnto) (defBody sIsOnto) (defScope sIsOnto) .none kV2 dc2 pm2 an2 cd2 ct2), sl2⟩)
    (z_c2 : PySem.W.codeIn K cd2 "is_onto" = true)
    (z_k2 : PySem.W.keepIn K (.ref f2) = true)
    (z_a3 : PySem.W.nsIn K mainGlobals "is_table" = some (some (.ref f3)))
    (z_l3 : K.lookup f3 = some ⟨oc3, od3, .func (PySem.W.fnOf "is_table" "is_table" (defArgs sIsTable) (defBody sIsTable) (defScope sIsTable) .none kV3 dc3 pm3 an3 cd3 ct3), sl3⟩)
    (z_c3 : PySem.W.codeIn K cd3 "is_table" = true)
    (z_k3 : PySem.W.keepIn K (.ref f3) = true)
    (z_a4 : PySem.W.nsIn K mainGlobals "need_table" = some (some (.ref f4)))
    (z_l4 : K.lookup f4 = some ⟨oc4, od4, .func (PySem.W.fnOf "need_table" "need_table" (defArgs sNeedTable) (defBody sNeedTable) (defScope sNeedTable) .none kV4 dc4 pm4 an4 cd4 ct4), sl4⟩)
    (z_c4 : PySem.W.codeIn K cd4 "need_table" = true)
    (z_k4 : PySem.W.keepIn K (.ref f4) = true)
    (z_a5 : PySem.W.nsIn K mainGlobals "need_integer" = some (some (.ref f5)))
    (z_l5 : K.lookup f5 = some ⟨oc5, od5, .func (PySem.W.fnOf "need_integer" "need_integer" (defArgs sNeedInteger) (defBody sNeedInteger) (defScope sNeedInteger) .none kV5 dc5 pm5 an5 cd5 ct5), sl5⟩)
    (z_c5 : PySem.W.codeIn K cd5 "need_integer" = true)
    (z_k5 : PySem.W.keepIn K (.ref f5) = true)
    (z_a6 : PySem.W.nsIn K mainGlobals "hold_of" = some (some (.ref f6)))
    (z_l6 : K.lookup f6 = some ⟨oc6, od6, .func (PySem.W.fnOf "hold_of" "hold_of" (defArgs sHoldOf) (defBody sHoldOf) (defScope sHoldOf) .none kV6 dc6 pm6 an6 cd6 ct6), sl6⟩)
    (z_c6 : PySem.W.codeIn K cd6 "hold_of" = true)
    (z_k6 : PySem.W.keepIn K (.ref f6) = true)
    (z_a7 : PySem.W.nsIn K mainGlobals "out_of" = some (some (.ref f7)))
    (z_l7 : K.lookup f7 = some ⟨oc7, od7, .func (PySem.W.fnOf "out_of" "out_of" (defArgs sOutOf) (defBody sOutOf) (defScope sOutOf) .none kV7 dc7 pm7 an7 cd7 ct7), sl7⟩)
    (z_c7 : PySem.W.codeIn K cd7 "out_of" = true)
    (z_k7 : PySem.W.keepIn K (.ref f7) = true)
    (z_a8 : PySem.W.nsIn K mainGlobals "held_of" = some (some (.ref f8)))
    (z_l8 : K.lookup f8 = some ⟨oc8, od8, .func (PySem.W.fnOf "held_of" "held_of" (defArgs sHeldOf) (defBody sHeldOf) (defScope sHeldOf) .none kV8 dc8 pm8 an8 cd8 ct8), sl8⟩)
    (z_c8 : PySem.W.codeIn K cd8 "held_of" = true)
    (z_k8 : PySem.W.keepIn K (.ref f8) = true)
    (z_a9 : PySem.W.nsIn K mainGlobals "shortened" = some (some (.ref f9)))
    (z_l9 : K.lookup f9 = some ⟨oc9, od9, .func (PySem.W.fnOf "shortened" "shortened" (defArgs sShortened) (defBody sShortened) (defScope sShortened) .none kV9 dc9 pm9 an9 cd9 ct9), sl9⟩)
    (z_c9 : PySem.W.codeIn K cd9 "shortened" = true)
    (z_k9 : PySem.W.keepIn K (.ref f9) = true)
    (z_a10 : PySem.W.nsIn K mainGlobals "out_at" = some (some (.ref f10)))
    (z_l10 : K.lookup f10 = some ⟨oc10, od10, .func (PySem.W.fnOf "out_at" "out_at" (defArgs sOutAt) (defBody sOutAt) (defScope sOutAt) .none kV10 dc10 pm10 an10 cd10 ct10), sl10⟩)
    (z_c10 : PySem.W.codeIn K cd10 "out_at" = true)
    (z_k10 : PySem.W.keepIn K (.ref f10) = true)
    (z_a11 : PySem.W.nsIn K mainGlobals "held" = some (some (.ref f11)))
    (z_l11 : K.lookup f11 = some ⟨oc11, od11, .func (PySem.W.fnOf "held" "held" (defArgs sHeld) (defBody sHeld) (defScope sHeld) .none kV11 dc11 pm11 an11 cd11 ct11), sl11⟩)
    (z_c11 : PySem.W.codeIn K cd11 "held" = true)
    (z_k11 : PySem.W.keepIn K (.ref f11) = true)
    (z_a12 : PySem.W.nsIn K mainGlobals "common_of" = some (some (.ref f12)))
    (z_l12 : K.lookup f12 = some ⟨oc12, od12, .func (PySem.W.fnOf "common_of" "common_of" (defArgs sCommonOf) (defBody sCommonOf) (defScope sCommonOf) .none kV12 dc12 pm12 an12 cd12 ct12), sl12⟩)
    (z_c12 : PySem.W.codeIn K cd12 "common_of" = true)
    (z_k12 : PySem.W.keepIn K (.ref f12) = true)
    (z_a13 : PySem.W.nsIn K mainGlobals "chained" = some (some (.ref f13)))
    (z_l13 : K.lookup f13 = some ⟨oc13, od13, .func (PySem.W.fnOf "chained" "chained" (defArgs sChained) (defBody sChained) (defScope sChained) .none kV13 dc13 pm13 an13 cd13 ct13), sl13⟩)
    (z_c13 : PySem.W.codeIn K cd13 "chained" = true)
    (z_k13 : PySem.W.keepIn K (.ref f13) = true)
    (z_a14 : PySem.W.nsIn K mainGlobals "circle_from" = some (some (.ref f14)))
    (z_l14 : K.lookup f14 = some ⟨oc14, od14, .func (PySem.W.fnOf "circle_from" "circle_from" (defArgs sCircleFrom) (defBody sCircleFrom) (defScope sCircleFrom) .none kV14 dc14 pm14 an14 cd14 ct14), sl14⟩)
    (z_c14 : PySem.W.codeIn K cd14 "circle_from" = true)
    (z_k14 : PySem.W.keepIn K (.ref f14) = true)
    (z_a15 : PySem.W.nsIn K mainGlobals "pace_of" = some (some (.ref f15)))
    (z_l15 : K.lookup f15 = some ⟨oc15, od15, .func (PySem.W.fnOf "pace_of" "pace_of" (defArgs sPaceOf) (defBody sPaceOf) (defScope sPaceOf) .none kV15 dc15 pm15 an15 cd15 ct15), sl15⟩)
    (z_c15 : PySem.W.codeIn K cd15 "pace_of" = true)
    (z_k15 : PySem.W.keepIn K (.ref f15) = true)
    (z_a16 : PySem.W.nsIn K mainGlobals "circles" = some (some (.ref f16)))
    (z_l16 : K.lookup f16 = some ⟨oc16, od16, .func (PySem.W.fnOf "circles" "circles" (defArgs sCircles) (defBody sCircles) (defScope sCircles) .none kV16 dc16 pm16 an16 cd16 ct16), sl16⟩)
    (z_c16 : PySem.W.codeIn K cd16 "circles" = true)
    (z_k16 : PySem.W.keepIn K (.ref f16) = true)
    (z_a17 : PySem.W.nsIn K mainGlobals "straight" = some (some (.ref f17)))
    (z_l17 : K.lookup f17 = some ⟨oc17, od17, .func (PySem.W.fnOf "straight" "straight" (defArgs sStraight) (defBody sStraight) (defScope sStraight) .none kV17 dc17 pm17 an17 cd17 ct17), sl17⟩)
    (z_c17 : PySem.W.codeIn K cd17 "straight" = true)
    (z_k17 : PySem.W.keepIn K (.ref f17) = true)
    (z_a18 : PySem.W.nsIn K mainGlobals "_law_cell" = some (some (.ref f18)))
    (z_l18 : K.lookup f18 = some ⟨oc18, od18, .func (PySem.W.fnOf "_law_cell" "_law_cell" (defArgs sCell) (defBody sCell) (defScope sCell) .none kV18 dc18 pm18 an18 cd18 ct18), sl18⟩)
    (z_c18 : PySem.W.codeIn K cd18 "_law_cell" = true)
    (z_k18 : PySem.W.keepIn K (.ref f18) = true)
    (z_a19 : PySem.W.nsIn K mainGlobals "_law_pen" = some (some (.ref f19)))
    (z_l19 : K.lookup f19 = some ⟨oc19, od19, .func (PySem.W.fnOf "_law_pen" "_law_pen" (defArgs sPen) (defBody sPen) (defScope sPen) .none kV19 dc19 pm19 an19 cd19 ct19), sl19⟩)
    (z_c19 : PySem.W.codeIn K cd19 "_law_pen" = true)
    (z_k19 : PySem.W.keepIn K (.ref f19) = true)
    (z_a20 : PySem.W.nsIn K mainGlobals "_law_draw" = some (some (.ref f20)))
    (z_l20 : K.lookup f20 = some ⟨oc20, od20, .func (PySem.W.fnOf "_law_draw" "_law_draw" (defArgs sDraw) (defBody sDraw) (defScope sDraw) .none kV20 dc20 pm20 an20 cd20 ct20), sl20⟩)
    (z_c20 : PySem.W.codeIn K cd20 "_law_draw" = true)
    (z_k20 : PySem.W.keepIn K (.ref f20) = true)
    (z_a21 : PySem.W.nsIn K mainGlobals "_law_table" = some (some (.ref f21)))
    (z_l21 : K.lookup f21 = some ⟨oc21, od21, .func (PySem.W.fnOf "_law_table" "_law_table" (defArgs sTable) (defBody sTable) (defScope sTable) .none kV21 dc21 pm21 an21 cd21 ct21), sl21⟩)
    (z_c21 : PySem.W.codeIn K cd21 "_law_table" = true)
    (z_k21 : PySem.W.keepIn K (.ref f21) = true)
    (z_a22 : PySem.W.nsIn K mainGlobals "_law_sums" = some (some (.ref f22)))
    (z_l22 : K.lookup f22 = some ⟨oc22, od22, .func (PySem.W.fnOf "_law_sums" "_law_sums" (defArgs sSums) (defBody sSums) (defScope sSums) .none kV22 dc22 pm22 an22 cd22 ct22), sl22⟩)
    (z_c22 : PySem.W.codeIn K cd22 "_law_sums" = true)
    (z_k22 : PySem.W.keepIn K (.ref f22) = true)
    (z_a23 : PySem.W.nsIn K mainGlobals "_law_chained_right" = some (some (.ref f23)))
    (z_l23 : K.lookup f23 = some ⟨oc23, od23, .func (PySem.W.fnOf "_law_chained_right" "_law_chained_right" (defArgs sChRight) (defBody sChRight) (defScope sChRight) .none kV23 dc23 pm23 an23 cd23 ct23), sl23⟩)
    (z_c23 : PySem.W.codeIn K cd23 "_law_chained_right" = true)
    (z_k23 : PySem.W.keepIn K (.ref f23) = true)
    (z_a24 : PySem.W.nsIn K mainGlobals "_law_right" = some (some (.ref f24)))
    (z_l24 : K.lookup f24 = some ⟨oc24, od24, .func (PySem.W.fnOf "_law_right" "_law_right" (defArgs sRight) (defBody sRight) (defScope sRight) .none kV24 dc24 pm24 an24 cd24 ct24), sl24⟩)
    (z_c24 : PySem.W.codeIn K cd24 "_law_right" = true)
    (z_k24 : PySem.W.keepIn K (.ref f24) = true)
    (z_a25 : PySem.W.nsIn K mainGlobals "law" = some (some (.ref f25)))
    (z_l25 : K.lookup f25 = some ⟨oc25, od25, .func (PySem.W.fnOf "law" "law" (defArgs sLaw) (defBody sLaw) (defScope sLaw) .none kV25 dc25 pm25 an25 cd25 ct25), sl25⟩)
    (z_c25 : PySem.W.codeIn K cd25 "law" = true)
    (z_k25 : PySem.W.keepIn K (.ref f25) = true)
    (z_b_len : PySem.W.nsIn K mainGlobals "len" = some none)
    (z_b_isi : PySem.W.nsIn K mainGlobals "isinstance" = some none)
    (z_b_int : PySem.W.nsIn K mainGlobals "int" = some none)
    (z_b_bool : PySem.W.nsIn K mainGlobals "bool" = some none)
    (z_b_tuple : PySem.W.nsIn K mainGlobals "tuple" = some none)
    (z_b_all : PySem.W.nsIn K mainGlobals "all" = some none)
    (z_b_enum : PySem.W.nsIn K mainGlobals "enumerate" = some none)
    (z_b_sum : PySem.W.nsIn K mainGlobals "sum" = some none)
    (z_b_range : PySem.W.nsIn K mainGlobals "range" = some none)
    (z_b_max : PySem.W.nsIn K mainGlobals "max" = some none)
    (z_b_min : PySem.W.nsIn K mainGlobals "min" = some none)
    (z_b_list : PySem.W.nsIn K mainGlobals "list" = some none)
    (z_b_sorted : PySem.W.nsIn K mainGlobals "sorted" = some none)
    (z_b_set : PySem.W.nsIn K mainGlobals "set" = some none)
    (z_long : PySem.W.nsIn K mainGlobals "LONGEST" = some (some (.int 24 tL)))
    (z_great : PySem.W.nsIn K mainGlobals "GREATEST_HOLD" = some (some (.int 60 tG)))
    (z_sup : PySem.W.nsIn K mainGlobals "super" = some none)
    (z_str : PySem.W.nsIn K mainGlobals "str" = some none)
    (z_gC : PySem.W.nsIn K mainGlobals "TooMany" = some (some (.ref C)))
    (z_xC : K.lookup C = some (excClassObj nm q C N bs (BaX.tmTail B) true sn sub ab col dd m0 m1 m2 m3 m5 "Exception.__new__"))
    (z_al : PySem.W.alongIn K "__init__" (BaX.tmTail B) = some (some (.builtin "Exception.__init__")))
    (z_sa : PySem.W.findIn K (.ref C) "__setattr__" = some (some (.builtin "object.__setattr__")))
    (z_n1 : PySem.W.findIn K (.ref C) "amount" = some none)
    (z_n2 : PySem.W.findIn K (.ref C) "limit" = some none)
    (z_opq : PySem.W.nsIn K cStatics "thirdparty.any" = some none)
    (z_slf : PySem.W.subIn K (.ref C) (.ref C) = some true)
    (z_exB : PySem.W.subIn K (.ref C) (.type "Exception") = some true)
    (z_exC : PySem.W.subIn K (.ref C) (.type "BaseException") = some true)
    (z_tyC : PySem.W.typeIn K (.ref C) = some (.type "type"))
    (z_kC : PySem.W.keepIn K (.ref C) = true)
    (z_isC : PySem.W.isClsIn K C = true)
    (z_top : (P.main.scope.names.lookup ("super" : Str)).isSome = false)
    (z_fI : PySem.W.findIn K (.ref C) "__init__" = some (some (.ref fI)))
    (z_tI : PySem.W.typeIn K (.ref fI) = some (.type "function"))
    (z_lI : K.lookup fI = some ⟨ocI, odI, .func (PySem.W.ksFn "__init__" "TooMany.__init__" (L2.defArgs sTmInit) (L2.defBody sTmInit) (L2.defScope sTmInit) .none .none dcI pmI anI (.ref cda) ctI cc), slI⟩)
    (z_cI : PySem.W.codeIn K (.ref cda) "TooMany.__init__" = true)
    (z_lcd : K.lookup cda = some ⟨ccl, cdd, .fields cvs, ccs⟩)
    (z_v2 : cvs[2]? = some (.str file tf))
    (z_fil : ((P.main.file : Str) == file) = true)
    (z_lcc : K.lookup cc = some ⟨ccl2, ccd2, .cell (some (.ref C)), ccs2⟩) :
    ∃ fd : FuncData, (∀ (s : Shared) (u : Value), BindsTo s fd ⟨[u], []⟩ [("_law_script", u)]) ∧ ∀ base : Heap, K.In base → base.Ns mainGlobals mg → FnOk P w K mg base CX0 8 fa fd ["_law_script"] (spLaw K) := by
  have e := hfa.symm.trans (PySem.W.mg_of X G z_a25)
  cases e
  have F0 := fun_mk (st := sIsInteger) z_l0 z_c0 z_k0
  have b0 := F0.binds (ps := ["thing"]) fun _ _ _ _ _ _ us hl => match us, hl with | [_], _ => rfl
  have F1 := fun_mk (st := sIsBetween) z_l1 z_c1 z_k1
  have b1 := F1.binds (ps := ["thing", "low", "high"]) fun _ _ _ _ _ _ us hl => match us, hl with | [_, _, _], _ => rfl
  have F2 := fun_mk (st := sIsOnto) z_l2 z_c2 z_k2
  have b2 := F2.binds (ps := ["holds"]) fun _ _ _ _ _ _ us hl => match us, hl with | [_], _ => rfl
  have F3 := fun_mk (st := sIsTable) z_l3 z_c3 z_k3
  have b3 := F3.binds (ps := ["thing"]) fun _ _ _ _ _ _ us hl => match us, hl with | [_], _ => rfl
  have F4 := fun_mk (st := sNeedTable) z_l4 z_c4 z_k4
  have b4 := F4.binds (ps := ["table"]) fun _ _ _ _ _ _ us hl => match us, hl with | [_], _ => rfl
  have F5 := fun_mk (st := sNeedInteger) z_l5 z_c5 z_k5
  have b5 := F5.binds (ps := ["number"]) fun _ _ _ _ _ _ us hl => match us, hl with | [_], _ => rfl
  have F6 := fun_mk (st := sHoldOf) z_l6 z_c6 z_k6
  have b6 := F6.binds (ps := ["table", "thing"]) fun _ _ _ _ _ _ us hl => match us, hl with | [_, _], _ => rfl
  have F7 := fun_mk (st := sOutOf) z_l7 z_c7 z_k7
  have b7 := F7.binds (ps := ["table", "thing"]) fun _ _ _ _ _ _ us hl => match us, hl with | [_, _], _ => rfl
  have F8 := fun_mk (st := sHeldOf) z_l8 z_c8 z_k8
  have b8 := F8.binds (ps := ["table"]) fun _ _ _ _ _ _ us hl => match us, hl with | [_], _ => rfl
  have F9 := fun_mk (st := sShortened) z_l9 z_c9 z_k9
  have b9 := F9.binds (ps := ["holds"]) fun _ _ _ _ _ _ us hl => match us, hl with | [_], _ => rfl
  have F10 := fun_mk (st := sOutAt) z_l10 z_c10 z_k10
  have b10 := F10.binds (ps := ["table", "thing"]) fun _ _ _ _ _ _ us hl => match us, hl with | [_, _], _ => rfl
  have F11 := fun_mk (st := sHeld) z_l11 z_c11 z_k11
  have b11 := F11.binds (ps := ["table"]) fun _ _ _ _ _ _ us hl => match us, hl with | [_], _ => rfl
  have F12 := fun_mk (st := sCommonOf) z_l12 z_c12 z_k12
  have b12 := F12.binds (ps := ["one", "other"]) fun _ _ _ _ _ _ us hl => match us, hl with | [_, _], _ => rfl
  have F13 := fun_mk (st := sChained) z_l13 z_c13 z_k13
  have b13 := F13.binds (ps := ["one", "other"]) fun _ _ _ _ _ _ us hl => match us, hl with | [_, _], _ => rfl
  have F14 := fun_mk (st := sCircleFrom) z_l14 z_c14 z_k14
  have b14 := F14.binds (ps := ["table", "place"]) fun _ _ _ _ _ _ us hl => match us, hl with | [_, _], _ => rfl
  have F15 := fun_mk (st := sPaceOf) z_l15 z_c15 z_k15
  have b15 := F15.binds (ps := ["table", "places"]) fun _ _ _ _ _ _ us hl => match us, hl with | [_, _], _ => rfl
  have F16 := fun_mk (st := sCircles) z_l16 z_c16 z_k16
  have b16 := F16.binds (ps := ["table"]) fun _ _ _ _ _ _ us hl => match us, hl with | [_], _ => rfl
  have F17 := fun_mk (st := sStraight) z_l17 z_c17 z_k17
  have b17 := F17.binds (ps := ["table"]) fun _ _ _ _ _ _ us hl => match us, hl with | [_], _ => rfl
  have F18 := fun_mk (st := sCell) z_l18 z_c18 z_k18
  have b18 := F18.binds (ps := ["_law_script", "_law_k"]) fun _ _ _ _ _ _ us hl => match us, hl with | [_, _], _ => rfl
  have F19 := fun_mk (st := sPen) z_l19 z_c19 z_k19
  have b19 := F19.binds (ps := ["_law_cell_here"]) fun _ _ _ _ _ _ us hl => match us, hl with | [_], _ => rfl
  have F20 := fun_mk (st := sDraw) z_l20 z_c20 z_k20
  have b20 := F20.binds (ps := ["_law_pen_here", "_law_upto"]) fun _ _ _ _ _ _ us hl => match us, hl with | [_, _], _ => rfl
  have F21 := fun_mk (st := sTable) z_l21 z_c21 z_k21
  have b21 := F21.binds (ps := ["_law_pen_here", "_law_most", "_law_times"]) fun _ _ _ _ _ _ us hl => match us, hl with | [_, _, _], _ => rfl
  have F22 := fun_mk (st := sSums) z_l22 z_c22 z_k22
  have b22 := F22.binds (ps := ["_law_table_here", "_law_copies"]) fun _ _ _ _ _ _ us hl => match us, hl with | [_, _], _ => rfl
  have F23 := fun_mk (st := sChRight) z_l23 z_c23 z_k23
  have b23 := F23.binds (ps := ["_law_table_here", "_law_copies"]) fun _ _ _ _ _ _ us hl => match us, hl with | [_, _], _ => rfl
  have F24 := fun_mk (st := sRight) z_l24 z_c24 z_k24
  have b24 := F24.binds (ps := ["_law_table_here"]) fun _ _ _ _ _ _ us hl => match us, hl with | [_], _ => rfl
  have TB : Bl mg := { len := PySem.W.mg_none_of X G z_b_len, isi := PySem.W.mg_none_of X G z_b_isi, int := PySem.W.mg_none_of X G z_b_int, bool := PySem.W.mg_none_of X G z_b_bool, tuple := PySem.W.mg_none_of X G z_b_tuple, all := PySem.W.mg_none_of X G z_b_all, enum := PySem.W.mg_none_of X G z_b_enum, sum := PySem.W.mg_none_of X G z_b_sum, range := PySem.W.mg_none_of X G z_b_range, max := PySem.W.mg_none_of X G z_b_max, min := PySem.W.mg_none_of X G z_b_min, list := PySem.W.mg_none_of X G z_b_list, sorted := PySem.W.mg_none_of X G z_b_sorted, set := PySem.W.mg_none_of X G z_b_set, long := ⟨_, PySem.W.mg_of X G z_long⟩, great := ⟨_, PySem.W.mg_of X G z_great⟩ }
  have TM : BaX.TmTxt P K mg C := { gC := PySem.W.mg_of X G z_gC, cls := ⟨B, nm, q, N, bs, sn, sub, ab, col, dd, m0, m1, m2, m3, m5, z_xC, z_al⟩, sa := z_sa, n1 := z_n1, n2 := z_n2, opq := z_opq, slf := z_slf, exB := z_exB, exC := z_exC, tyC := z_tyC, kC := z_kC, isC := z_isC, sup := PySem.W.mg_none_of X G z_sup, str := PySem.W.mg_none_of X G z_str, top := z_top, fn := ⟨fI, cc, cda, _, _, _, _, _, _, _, _, _, cvs, _, file, tf, _, _, _, z_fI, z_tI, z_lI, z_cI, z_lcd, z_v2, z_fil, z_lcc⟩ }
  have T : Tx P K mg := { bl := TB, tm := ⟨C, TM⟩, isInteger := ⟨_, _, F0, b0, PySem.W.mg_of X G z_a0⟩, isBetween := ⟨_, _, F1, b1, PySem.W.mg_of X G z_a1⟩, isOnto := ⟨_, _, F2, b2, PySem.W.mg_of X G z_a2⟩, isTable := ⟨_, _, F3, b3, PySem.W.mg_of X G z_a3⟩, needTable := ⟨_, _, F4, b4, PySem.W.mg_of X G z_a4⟩, needInteger := ⟨_, _, F5, b5, PySem.W.mg_of X G z_a5⟩, holdOf := ⟨_, _, F6, b6, PySem.W.mg_of X G z_a6⟩, outOf := ⟨_, _, F7, b7, PySem.W.mg_of X G z_a7⟩, heldOf := ⟨_, _, F8, b8, PySem.W.mg_of X G z_a8⟩, shortened := ⟨_, _, F9, b9, PySem.W.mg_of X G z_a9⟩, outAt := ⟨_, _, F10, b10, PySem.W.mg_of X G z_a10⟩, held := ⟨_, _, F11, b11, PySem.W.mg_of X G z_a11⟩, commonOf := ⟨_, _, F12, b12, PySem.W.mg_of X G z_a12⟩, chained := ⟨_, _, F13, b13, PySem.W.mg_of X G z_a13⟩, circleFrom := ⟨_, _, F14, b14, PySem.W.mg_of X G z_a14⟩, paceOf := ⟨_, _, F15, b15, PySem.W.mg_of X G z_a15⟩, circles := ⟨_, _, F16, b16, PySem.W.mg_of X G z_a16⟩, straight := ⟨_, _, F17, b17, PySem.W.mg_of X G z_a17⟩, cell := ⟨_, _, F18, b18, PySem.W.mg_of X G z_a18⟩, pen := ⟨_, _, F19, b19, PySem.W.mg_of X G z_a19⟩, draw := ⟨_, _, F20, b20, PySem.W.mg_of X G z_a20⟩, table := ⟨_, _, F21, b21, PySem.W.mg_of X G z_a21⟩, sums := ⟨_, _, F22, b22, PySem.W.mg_of X G z_a22⟩, chRight := ⟨_, _, F23, b23, PySem.W.mg_of X G z_a23⟩, right := ⟨_, _, F24, b24, PySem.W.mg_of X G z_a24⟩ }
  exact ⟨PySem.W.fnOf "law" "law" (defArgs sLaw) (defBody sLaw) (defScope sLaw) .none kV25 dc25 pm25 an25 cd25 ct25, fun s v => .of_eq rfl, fun base _ _ => ok_law (fun_mk (st := sLaw) z_l25 z_c25 z_k25) T⟩
theorem walk {l : PySem.W.OpenLaw} {q : Program} {loose : List Str} {XP : (Str → Option Value) → Heap → Prop} {YP : World → Heap → Prop} {d : DefRec} {K : Params → PySem.W.Frag} (hn : l.most = some 63) (hdf : d.params.defaults = [])
    (hY : ∀ (w : World) (h : Heap), YP w h → (K w.params).In h)
    (F : ∀ (w : World) (mg : Str → Option Value) (fa : Addr) (h : Heap), (K w.params).In h → h.Ns mainGlobals mg → mg d.name = some (.ref fa) →
      ∃ fd : FuncData, (∀ (s : Shared) (u : Value), BindsTo s fd ⟨[u], []⟩ [("_law_script", u)]) ∧ ∀ base : Heap, (K w.params).In base → base.Ns mainGlobals mg → FnOk l.prog w (K w.params) mg base CX0 8 fa fd ["_law_script"] (spLaw (K w.params))) :
    PySem.W.WalkO q loose XP YP l.row.toRowW d [] (fun f vs => PySem.call f vs) :=
  L2.walk_of (n := 63) (k := 8) (x := "_law_script") (CX := fun _ => CX0) (sp := fun w => spLaw (K w.params)) hn (by decide) hdf ⟨rfl, by decide, by decide⟩ hY F (fun _ _ a ns hl _ hS => ⟨a, ns, rfl, hS, hl, fun _ => rfl⟩) fun _ _ _ _ _ z => z
end BaR

open PySem PySem.W PyProof.Rows in
set_option maxRecDepth 100000 in
set_option maxHeartbeats 0 in
theorem PySem.Challenge.cw_burstapart_k81_whole_copies_behind_one_a_holds : PySem.Challenge.rw_burstapart_k81_whole_copies_behind_one_a.Holds := by
  w_on; o_law; k_head; (case hw => w_witness2)
  k_fill
  refine BaR.walk (l := PySem.Challenge.rw_burstapart_k81_whole_copies_behind_one_a) rfl rfl (fun w h Y => PySem.W.kIn_of Y) ?F
  case F =>
    intro w mg fa h KX G hmg
    refine' BaR.all_mk KX G hmg ?a0 ?l0 ?c0 ?k0 ?a1 ?l1 ?c1 ?k1 ?a2 ?l2 ?c2 ?k2 ?a3 ?l3 ?c3 ?k3 ?a4 ?l4 ?c4 ?k4 ?a5 ?l5 ?c5 ?k5 ?a6 ?l6 ?c6 ?k6 ?a7 ?l7 ?c7 ?k7 ?a8 ?l8 ?c8 ?k8 ?a9 ?l9 ?c9 ?k9 ?a10 ?l10 ?c10 ?k10 ?a11 ?l11 ?c11 ?k11 ?a12 ?l12 ?c12 ?k12 ?a13 ?l13 ?c13 ?k13 ?a14 ?l14 ?c14 ?k14 ?a15 ?l15 ?c15 ?k15 ?a16 ?l16 ?c16 ?k16 ?a17 ?l17 ?c17 ?k17 ?a18 ?l18 ?c18 ?k18 ?a19 ?l19 ?c19 ?k19 ?a20 ?l20 ?c20 ?k20 ?a21 ?l21 ?c21 ?k21 ?a22 ?l22 ?c22 ?k22 ?a23 ?l23 ?c23 ?k23 ?a24 ?l24 ?c24 ?k24 ?a25 ?l25 ?c25 ?k25 ?b_len ?b_isi ?b_int ?b_bool ?b_tuple ?b_all ?b_enum ?b_sum ?b_range ?b_max ?b_min ?b_list ?b_sorted ?b_set ?long ?great ?sup ?str ?gC ?xC ?al ?sa ?n1 ?n2 ?opq ?slf ?exB ?exC ?tyC ?kC ?isC ?top ?fI ?tI ?lI ?cI ?lcd ?v2 ?fil ?lcc
    (case a0 => k_is)
    (case l0 => k_is)
    (case c0 => k_is)
    (case k0 => k_is)
    (case a1 => k_is)
    (case l1 => k_is)
    (case c1 => k_is)
    (case k1 => k_is)
    (case a2 => k_is)
    (case l2 => k_is)
    (case c2 => k_is)
    (case k2 => k_is)
    (case a3 => k_is)
    (case l3 => k_is)
    (case c3 => k_is)
    (case k3 => k_is)
    (case a4 => k_is)
    (case l4 => k_is)
    (case c4 => k_is)
    (case k4 => k_is)
    (case a5 => k_is)
    (case l5 => k_is)
    (case c5 => k_is)
    (case k5 => k_is)
    (case a6 => k_is)
    (case l6 => k_is)
    (case c6 => k_is)
    (case k6 => k_is)
    (case a7 => k_is)
    (case l7 => k_is)
    (case c7 => k_is)
    (case k7 => k_is)
    (case a8 => k_is)
    (case l8 => k_is)
    (case c8 => k_is)
    (case k8 => k_is)
    (case a9 => k_is)
    (case l9 => k_is)
    (case c9 => k_is)
    (case k9 => k_is)
    (case a10 => k_is)
    (case l10 => k_is)
    (case c10 => k_is)
    (case k10 => k_is)
    (case a11 => k_is)
    (case l11 => k_is)
    (case c11 => k_is)
    (case k11 => k_is)
    (case a12 => k_is)
    (case l12 => k_is)
    (case c12 => k_is)
    (case k12 => k_is)
    (case a13 => k_is)
    (case l13 => k_is)
    (case c13 => k_is)
    (case k13 => k_is)
    (case a14 => k_is)
    (case l14 => k_is)
    (case c14 => k_is)
    (case k14 => k_is)
    (case a15 => k_is)
    (case l15 => k_is)
    (case c15 => k_is)
    (case k15 => k_is)
    (case a16 => k_is)
    (case l16 => k_is)
    (case c16 => k_is)
    (case k16 => k_is)
    (case a17 => k_is)
    (case l17 => k_is)
    (case c17 => k_is)
    (case k17 => k_is)
    (case a18 => k_is)
    (case l18 => k_is)
    (case c18 => k_is)
    (case k18 => k_is)
    (case a19 => k_is)
    (case l19 => k_is)
    (case c19 => k_is)
    (case k19 => k_is)
    (case a20 => k_is)
    (case l20 => k_is)
    (case c20 => k_is)
    (case k20 => k_is)
    (case a21 => k_is)
    (case l21 => k_is)
    (case c21 => k_is)
    (case k21 => k_is)
    (case a22 => k_is)
    (case l22 => k_is)
    (case c22 => k_is)
    (case k22 => k_is)
    (case a23 => k_is)
    (case l23 => k_is)
    (case c23 => k_is)
    (case k23 => k_is)
    (case a24 => k_is)
    (case l24 => k_is)
    (case c24 => k_is)
    (case k24 => k_is)
    (case a25 => k_is)
    (case l25 => k_is)
    (case c25 => k_is)
    (case k25 => k_is)
    (case b_len => k_is)
    (case b_isi => k_is)
    (case b_int => k_is)
    (case b_bool => k_is)
    (case b_tuple => k_is)
    (case b_all => k_is)
    (case b_enum => k_is)
    (case b_sum => k_is)
    (case b_range => k_is)
    (case b_max => k_is)
    (case b_min => k_is)
    (case b_list => k_is)
    (case b_sorted => k_is)
    (case b_set => k_is)
    (case long => k_is)
    (case great => k_is)
    (case sup => k_is)
    (case str => k_is)
    (case gC => k_is)
    (case xC => k_is)
    (case al => first | k_is | rfl | decide +kernel)
    (case sa => k_is)
    (case n1 => k_is)
    (case n2 => k_is)
    (case opq => k_is)
    (case slf => first | rfl | k_is)
    (case exB => k_is)
    (case exC => k_is)
    (case tyC => k_is)
    (case kC => k_is)
    (case isC => k_is)
    (case top => first | rfl | decide +kernel | k_is)
    (case fI => k_is)
    (case tI => k_is)
    (case lI => k_is)
    (case cI => k_is)
    (case lcd => k_is)
    (case v2 => rfl)
    (case fil => first | rfl | decide +kernel)
    (case lcc => k_is)
