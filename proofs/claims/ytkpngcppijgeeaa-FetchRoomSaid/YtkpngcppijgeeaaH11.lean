import Derived.Test.YtkpngcppijgeeaaH10
import Derived.Test.YtkpngcppijgeeaaPFetchExactx4
set_option linter.unusedVariables false
set_option linter.unusedSimpArgs false
namespace Go.Proofs.Ytkpngcppijgeeaa.H
open Go.RowKit Go.Lib Go.Proofs.YtkpngcppijgeeaaW.PrintWords Go.Proofs.YtkpngcppijgeeaaW.PrintLast Go.Proofs.YtkpngcppijgeeaaW.PrintMore Go.Proofs.Ytkpngcppijgeeaa.PFetchExact
def isN (n : Int) : Bool := decide (1 ≤ n) && (decide (n ≤ 16) && (Int.tmod n 3 == 1))
def kindK (k : Int) : Bool := decide (k = 7) || decide (k = 8)
def rowOk (r : S86) : Bool := kindK r.f0 && (dig r.f1 && (decide (0 ≤ r.f2) && (decide (r.f2 ≤ 1099511627776) && (decide (0 ≤ r.f3) && decide (r.f3 ≤ 1099511627776)))))
def mayAt (rows : List S86) (i : Nat) : Bool := rowOk (rows.getD i z86) && (decide (i = 0) || ltK (rows.getD (i - 1) z86) (rows.getD i z86))
def mayF (id n : Int) (rows : List S86) : Bool := isN n && (decide (1 ≤ id) && (decide (id ≤ n) && (decide (rows.length ≤ 64) && decide (∀ i, i < rows.length → mayAt rows i = true))))
theorem isN_f (n : Int) : committee_Is.f n = some (isN n) := by
  unfold committee_Is.f isN
  by_cases h1 : 1 ≤ n <;> by_cases h2 : n ≤ 16 <;> simp [h1, h2]
theorem kind_f (k : Int) : fetch_kind.f k = some (kindK k) := by
  unfold fetch_kind.f kindK
  by_cases h1 : k = 7
  · simp [h1]
  · by_cases h2 : k = 8 <;> simp [h1, h2]
theorem row_f (r : S86) : fetch_row.f r.f0 r.f1 r.f2 r.f3 = some (rowOk r) := by
  unfold fetch_row.f rowOk
  rw [kind_f, dig_f]
  simp only [Option.bind_some]
  cases kindK r.f0 <;> cases dig r.f1 <;> simp
  by_cases h1 : 0 ≤ r.f2 <;> by_cases h2 : r.f2 ≤ 1099511627776 <;> by_cases h3 : 0 ≤ r.f3 <;> simp [h1, h2, h3]
theorem less_fk (a b : S86) : ∀ k, fetch_less.f (k + 3) a.f0 a.f1 a.f2 a.f3 b.f0 b.f1 b.f2 b.f3 = some (cmpK a b)
  | 0 => less_f a b
  | k + 1 => fetch_less.mono _ _ _ _ _ _ _ _ (k + 3) _ (less_fk a b k)
theorem cmpK_neg (a b : S86) : (cmpK a b ≥ 0) ↔ ltK a b = false := by
  unfold cmpK
  cases h : ltK a b <;> simp
  split <;> omega
theorem may_l0 (id n : Int) (rows : List S86) (hl : rows.length ≤ 64) : ∀ m k i, m + i = rows.length → m + 4 ≤ k → fetch_May.l0 k rows (rows.length : Int) (i : Int) id n rows = some (decide (∀ j, j < rows.length → i ≤ j → mayAt rows j = true)) := by
  intro m
  induction m with
  | zero =>
    intro k i h hk
    obtain ⟨k, rfl⟩ : ∃ k', k = k' + 1 := ⟨k - 1, by omega⟩
    rw [fetch_May.l0, if_neg (by omega)]
    congr 1
    symm
    rw [decide_eq_true_iff]
    intro j h2 h1; omega
  | succ m ih =>
    intro k i h hk
    obtain ⟨k, rfl⟩ : ∃ k', k = k' + 4 := ⟨k - 4, by omega⟩
    have e0 : ∀ j : Nat, j < rows.length → rd_T86 rows (j : Int) = rows.getD j z86 := fun j hj => by simp [rd_T86]
    rw [show k + 4 = (k + 3) + 1 from rfl, fetch_May.l0, if_pos (by omega), if_pos (by omega), if_pos (by omega), e0 i (by omega), row_f]
    simp only [Option.bind_some]
    have ih' := ih (k + 3) (i + 1) (by omega) (by omega)
    have ew : wrap64 ((i : Int) + 1) = ((i + 1 : Nat) : Int) := by rw [wrap_id _ (by omega) (by omega)]; simp
    have key : decide (∀ j, j < rows.length → i ≤ j → mayAt rows j = true) = (mayAt rows i && decide (∀ j, j < rows.length → i + 1 ≤ j → mayAt rows j = true)) := by
      rw [Bool.eq_iff_iff]
      simp only [Bool.and_eq_true, decide_eq_true_eq]
      constructor
      · intro H; exact ⟨H i (by omega) (Nat.le_refl _), fun j h2 h1 => H j h2 (by omega)⟩
      · rintro ⟨H1, H2⟩ j h2 h1
        rcases Nat.eq_or_lt_of_le h1 with rfl | h1
        · exact H1
        · exact H2 j h2 (by omega)
    rw [key]
    cases hr : rowOk (rows.getD i z86) with
    | false => rw [if_neg (by decide)]; simp only [mayAt, hr, Bool.false_and]
    | true =>
      rw [if_pos rfl]
      rcases Nat.eq_zero_or_pos i with rfl | hi
      · rw [if_neg (by omega), ew, ih']
        simp only [mayAt, hr, decide_true, Bool.true_or, Bool.true_and]
      · have ew2 : wrap64 ((i : Int) - 1) = ((i - 1 : Nat) : Int) := by rw [wrap_id _ (by omega) (by omega)]; omega
        rw [if_pos (by omega), ew2, if_pos (by omega), if_pos (by omega), e0 (i - 1) (by omega), less_fk]
        simp only [Option.bind_some]
        cases hlt : ltK (rows.getD (i - 1) z86) (rows.getD i z86) with
        | false =>
          rw [if_pos ((cmpK_neg _ _).2 hlt)]
          have : ¬ i = 0 := by omega
          simp only [mayAt, hr, hlt, decide_eq_false this, Bool.or_false, Bool.true_and, Bool.false_and]
        | true =>
          rw [if_neg (fun h => by have := (cmpK_neg _ _).1 h; rw [hlt] at this; cases this), ew, ih']
          simp only [mayAt, hr, hlt, Bool.or_true, Bool.true_and]
theorem may_f (id n : Int) (rows : List S86) : fetch_May.f (rows.length + 6) id n rows = some (mayF id n rows) := by
  unfold fetch_May.f mayF
  rw [isN_f]
  simp only [Option.bind_some]
  cases isN n with
  | false => rw [if_neg (by decide), fetch_May.j0, if_pos rfl]; rfl
  | true =>
    rw [if_pos rfl]
    by_cases h1 : 1 ≤ id
    · rw [if_neg (by omega)]
      by_cases h2 : id ≤ n
      · rw [if_neg (by omega)]
        by_cases h3 : rows.length ≤ 64
        · have h3' : decide ((rows.length : Int) > 64) = false := decide_eq_false (by omega)
          rw [h3', fetch_May.j0, if_neg (by decide)]
          have := may_l0 id n rows h3 rows.length (rows.length + 5) 0 (by omega) (by omega)
          rw [show ((0 : Nat) : Int) = 0 from rfl] at this
          rw [this]
          simp [h1, h2, h3]
        · have h3' : decide ((rows.length : Int) > 64) = true := decide_eq_true (by omega)
          rw [h3', fetch_May.j0, if_pos rfl]
          simp [h3]
      · rw [if_pos (by omega), fetch_May.j0, if_pos rfl]
        simp [h2]
    · rw [if_pos (by omega), fetch_May.j0, if_pos rfl]
      simp [h1]
theorem may66 (id n : Int) (A : Option Addr) (c : Nat) (rows : List S86) (w : World) (hr : Kd.C k86 w A rows.length rows) (hc : rows.length ≤ c) :
    Calls Try.prog 66 #[.agg #[.int .i64 id, .int .i64 n, .slice A rows.length c]] w fun e w' => e = .returned (.bool (mayF id n rows)) ∧ Below w.heap.size w w' :=
  fetch_May.calls _ id n A c rows _ w hr hc (may_f id n rows)
structure MayOk (id n : Int) (rows : List S86) : Prop where
  h1 : 1 ≤ id
  h2 : id ≤ n
  h3 : n ≤ 16
  h4 : rows.length ≤ 64
  h5 : ∀ i, i < rows.length → mayAt rows i = true
  h6 : isN n = true
theorem mayOk_iff (id n : Int) (rows : List S86) : mayF id n rows = true ↔ MayOk id n rows := by
  unfold mayF
  simp only [Bool.and_eq_true, decide_eq_true_eq]
  constructor
  · rintro ⟨a, b, c, d, e⟩
    have a' := a
    unfold isN at a'
    simp only [Bool.and_eq_true, decide_eq_true_eq] at a'
    exact ⟨b, c, a'.2.1, d, e, a⟩
  · rintro ⟨a, b, c, d, e, f⟩
    exact ⟨f, a, b, d, e⟩
theorem MayOk.sorted {id n : Int} {rows : List S86} (h : MayOk id n rows) : SortedK rows := by
  unfold SortedK
  rw [List.pairwise_iff_getElem]
  have step : ∀ i (hi : i + 1 < rows.length), ltK rows[i] rows[i + 1] = true := fun i hi => by
    have := h.h5 (i + 1) hi
    unfold mayAt at this
    simp only [Bool.and_eq_true, Bool.or_eq_true, decide_eq_true_eq] at this
    rcases this.2 with h0 | h0
    · omega
    · simpa [List.getD_eq_getElem?_getD, hi, show i < rows.length by omega] using h0
  have : ∀ d i (hi : i + 1 + d < rows.length), ltK rows[i] rows[i + 1 + d] = true := fun d => by
    induction d with
    | zero => exact fun i hi => step i hi
    | succ d ih => exact fun i hi => ltK_trans (ih i (by omega)) (step (i + 1 + d) (by omega))
  intro i j hi hj hij
  have := this (j - i - 1) i (by omega)
  simpa [show i + 1 + (j - i - 1) = j by omega] using this
end Go.Proofs.Ytkpngcppijgeeaa.H
