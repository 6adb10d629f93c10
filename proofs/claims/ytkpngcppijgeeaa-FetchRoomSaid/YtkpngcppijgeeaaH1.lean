import Derived.Test.YtkpngcppijgeeaaPFetchExactx3
import Derived.Test.YtkpngcppijgeeaaH0
set_option linter.unusedVariables false
set_option linter.unusedSimpArgs false
namespace Go.Proofs.Ytkpngcppijgeeaa.H
open Go.RowKit Go.Proofs.YtkpngcppijgeeaaW.PrintWords Go.Proofs.YtkpngcppijgeeaaW.PrintLast Go.Proofs.YtkpngcppijgeeaaW.PrintMore Go.Proofs.Ytkpngcppijgeeaa.PFetchExact
/-- A row's key is below another's. -/
def ltK (a b : S86) : Bool := decide (a.f0 < b.f0) || (decide (a.f0 = b.f0) && decide (a.f1 < b.f1))
def sameK (a b : S86) : Bool := decide (a.f0 = b.f0) && decide (a.f1 = b.f1)
def cmpK (a b : S86) : Int := if ltK a b then -1 else if sameK a b then 0 else 1
def c86 (a : S86) : Value := .agg #[.int .i64 a.f0, .int .i64 a.f1, .int .i64 a.f2, .int .i64 a.f3]
theorem or2 (a b : Int) : cmp_Or_int.f 3 [a, b] = some (if a = 0 then b else a) := by
  unfold cmp_Or_int.f
  simp only [cmp_Or_int.l0, rd]
  by_cases h : a = 0 <;> by_cases h2 : b = 0 <;> simp [h, h2, wrap64]
theorem less_f (a b : S86) : fetch_less.f 3 a.f0 a.f1 a.f2 a.f3 b.f0 b.f1 b.f2 b.f3 = some (cmpK a b) := by
  unfold fetch_less.f cmp_Compare_int.f cmp_isNaN_int.f
  have e : ∀ {α β : Type} (o : Option α) (r : β), o.isSome = true → (o.bind fun _ => some r) = some r := fun o r h => by cases o <;> simp_all
  simp [or2]
  unfold cmpK ltK sameK
  by_cases h1 : a.f0 < b.f0
  · simp [h1]; exact e _ _ (by split <;> (try split) <;> rfl)
  · by_cases h2 : a.f0 = b.f0
    · by_cases h3 : a.f1 < b.f1
      · simp [h2, h3]
      · by_cases h4 : a.f1 = b.f1
        · simp [h2, h4]
        · have : b.f1 < a.f1 := by omega
          simp [h2, h3, h4, this]
    · have : b.f0 < a.f0 := by omega
      simp [h1, h2, this]; exact e _ _ (by split <;> (try split) <;> rfl)
theorem less79 (a b : S86) (w : World) : Calls Try.prog 79 #[c86 a, c86 b] w fun e w' => e = .returned (.int .i64 (cmpK a b)) ∧ Below w.heap.size w w' :=
  fetch_less.calls 3 _ _ _ _ _ _ _ _ _ w (less_f a b)
/-- A box of the call's own, laid ahead. -/
theorem _root_.Go.RowKit.Below.box {w wr : World} {cs : Array Value} {t : TypeId} (hB : Below (w.heap.size + 1) (w.alloc (.cells cs t)) wr) (j : Nat) {v : Value} (h : cs[j]? = some v) : wr.cell? ⟨w.heap.size, j, none⟩ = some v := by
  refine (hB.cell (p := ⟨w.heap.size, j, none⟩) (Nat.lt_succ_self _)).trans ?_
  rw [cell_of_row _ w.heap.size j cs t (0, 0) (heap_alloc_new w _)]; exact h
/-- How many rows lie below a key. -/
def posK (xs : List S86) (t : S86) : Nat := (xs.filter fun x => ltK x t).length
def hasK (xs : List S86) (t : S86) : Bool := xs.any fun x => sameK x t
theorem ltK_trans {a b c : S86} (h : ltK a b = true) (k : ltK b c = true) : ltK a c = true := by
  simp [ltK] at *; omega
theorem lt_same {a b c : S86} (h : ltK a b = true) (k : sameK b c = true) : ltK a c = true := by
  simp [ltK, sameK] at *; omega
theorem not_same {a b : S86} (h : ltK a b = true) : sameK a b = false := by
  simp [ltK, sameK] at *; omega
theorem all_below {xs : List S86} {t y : S86} {h : Nat} (hs : xs.Pairwise fun a b => ltK a b = true) (hy : xs[h]? = some y) (hl : ltK y t = true) : ∀ x ∈ xs.take (h + 1), ltK x t = true := by
  intro x hx
  obtain ⟨i, hi, rfl⟩ := List.mem_iff_getElem.1 hx
  rw [List.length_take] at hi
  obtain ⟨hlt, rfl⟩ := List.getElem?_eq_some_iff.1 hy
  rw [List.getElem_take]
  rcases Nat.lt_or_ge i h with h' | h'
  · exact ltK_trans (List.pairwise_iff_getElem.1 hs i h (by omega) hlt h') hl
  · obtain rfl : i = h := by omega
    exact hl
theorem none_below {xs : List S86} {t y : S86} {h : Nat} (hs : xs.Pairwise fun a b => ltK a b = true) (hy : xs[h]? = some y) (hl : ¬ ltK y t = true) : ∀ x ∈ xs.drop h, ltK x t = false := by
  intro x hx
  obtain ⟨i, hi, rfl⟩ := List.mem_iff_getElem.1 hx
  obtain ⟨hlt, rfl⟩ := List.getElem?_eq_some_iff.1 hy
  rw [List.length_drop] at hi
  rw [List.getElem_drop]
  refine Bool.eq_false_iff.2 fun hc => ?_
  rcases Nat.eq_zero_or_pos i with rfl | h'
  · exact hl (by simpa using hc)
  · exact hl (ltK_trans (List.pairwise_iff_getElem.1 hs h (h + i) hlt (by omega) (by omega)) hc)
theorem posK_of {xs : List S86} {t : S86} {p : Nat} (hp : p ≤ xs.length) (hA : ∀ x ∈ xs.take p, ltK x t = true) (hZ : ∀ x ∈ xs.drop p, ltK x t = false) : posK xs t = p := by
  unfold posK
  conv => lhs; rw [← List.take_append_drop p xs]
  rw [List.filter_append, List.filter_eq_self.2 (fun x hx => hA x hx), List.filter_eq_nil_iff.2 (fun x hx => by simp [hZ x hx])]
  simp; omega
theorem hasK_end {xs : List S86} {t : S86} (hA : ∀ x ∈ xs.take xs.length, ltK x t = true) : hasK xs t = false := by
  unfold hasK
  rw [List.any_eq_false]
  intro x hx
  simpa using not_same (hA x (by simpa using hx))
theorem hasK_at {xs : List S86} {t y : S86} {p : Nat} (hs : xs.Pairwise fun a b => ltK a b = true) (hy : xs[p]? = some y) (hA : ∀ x ∈ xs.take p, ltK x t = true) (hZ : ∀ x ∈ xs.drop p, ltK x t = false) : (cmpK y t == 0) = hasK xs t := by
  obtain ⟨hlt, rfl⟩ := List.getElem?_eq_some_iff.1 hy
  have hy0 : ltK xs[p] t = false := hZ _ (List.mem_iff_getElem.2 ⟨0, by simp; omega, by simp⟩)
  have e1 : (cmpK xs[p] t == 0) = sameK xs[p] t := by
    unfold cmpK; rw [hy0]; cases sameK xs[p] t <;> simp
  rw [e1]
  unfold hasK
  rw [Bool.eq_iff_iff, List.any_eq_true]
  constructor
  · intro h; exact ⟨_, List.getElem_mem hlt, h⟩
  · rintro ⟨x, hx, he⟩
    obtain ⟨i, hi, rfl⟩ := List.mem_iff_getElem.1 hx
    rcases Nat.lt_trichotomy i p with h' | rfl | h'
    · have := hA xs[i] (List.mem_iff_getElem.2 ⟨i, by simp; omega, by simp⟩)
      rw [not_same this] at he; cases he
    · exact he
    · have := lt_same (List.pairwise_iff_getElem.1 hs p i hlt hi h') he
      rw [hy0] at this; cases this
/-- An element of a row that is read, in every later world. -/
theorem c86_cell {w wr : World} {A : Option Addr} {n : Nat} {xs : List S86} (h : Kd.C k86 w A n xs) (hb : Below w.heap.size w wr) (i : Nat) (hi : i < n) : ∃ ad y, A = some ad ∧ xs[i]? = some y ∧ 
    (∀ z : Later wr, z.W.cell? (ad.add (i * 4)) = some (.int .i64 y.f0)) ∧ (∀ z : Later wr, z.W.cell? ⟨(ad.add (i * 4)).block, (ad.add (i * 4)).off + 1, none⟩ = some (.int .i64 y.f1)) ∧
    (∀ z : Later wr, z.W.cell? ⟨(ad.add (i * 4)).block, (ad.add (i * 4)).off + 2, none⟩ = some (.int .i64 y.f2)) ∧ (∀ z : Later wr, z.W.cell? ⟨(ad.add (i * 4)).block, (ad.add (i * 4)).off + 3, none⟩ = some (.int .i64 y.f3)) := by
  obtain ⟨ad, e, h0, h1, h2, h3⟩ := at_T86 (Kd.C_below h hb) (i : Int) (by omega) (by omega)
  rw [Int.toNat_natCast] at h0 h1 h2 h3
  have hl : i < xs.length := by rw [h.1]; exact hi
  have e2 : rd_T86 xs (i : Int) = xs[i] := by simp [rd_T86, List.getD_eq_getElem?_getD, hl]
  rw [e2] at h0 h1 h2 h3
  exact ⟨ad, xs[i], e, List.getElem?_eq_getElem hl, Later.cell h0, Later.cell h1, Later.cell h2, Later.cell h3⟩
set_option maxHeartbeats 1000000 in
set_option maxRecDepth 100000 in
theorem bsearch78 (A : Option Addr) (n c : Nat) (xs : List S86) (t : S86) (w : World) (hr : Kd.C k86 w A n xs) (hn : n ≤ 4611686018427387904) (hs : xs.Pairwise fun a b => ltK a b = true) :
    Calls Try.prog 78 #[.slice A n c, c86 t, .func (.func 79) #[] #[]] w fun e w' => e = .returned (.tuple #[.int .i64 (posK xs t), .bool (hasK xs t)]) ∧ Below w.heap.size w w' := by
  have HR := Lib.hid hr; clear hr
  have HS := Lib.hid hs; clear hs
  unfold c86
  go_enter Try.func78, Try.ntmps78
  go_wp2
  go_loopw [9, 10] (fun i j wr => ∃ p q : Nat, i = .int .i64 p ∧ j = .int .i64 q ∧ p ≤ q ∧ q ≤ n ∧ Hid (∀ x ∈ xs.take p, ltK x t = true) ∧ Hid (∀ x ∈ xs.drop q, ltK x t = false) ∧ Below (w.heap.size + 1) (w.alloc (.cells #[.int .i64 t.f0, .int .i64 t.f1, .int .i64 t.f2, .int .i64 t.f3] 86)) wr) (fun i j _ => (intOf j - intOf i).toNat)
  case atStart => exact ⟨0, n, rfl, rfl, Nat.zero_le _, Nat.le_refl _, Lib.hid (by simp), Lib.hid (by rw [List.drop_of_length_le (by rw [HR.out.1]; exact Nat.le_refl _)]; simp), Below.refl _ _⟩
  case round =>
    obtain ⟨p, q, rfl, rfl, hpq, hqn, hA, hZ, hB⟩ := hrel
    by_cases hlt : p < q
    · obtain ⟨h, eh⟩ : ∃ h : Nat, ((p : Int) + (q : Int)) / 2 = (h : Int) := ⟨(p + q) / 2, by omega⟩
      have hh1 : p ≤ h := by omega
      have hh2 : h < q := by omega
      have hh3 : h < n := by omega
      have hb0 : Below w.heap.size w wr := ((Below.refl _ _).alloc (Nat.le_refl _) _).trans (hB.mono (by omega))
      obtain ⟨ad, y, rfl, hy, f0, f1, f2, f3⟩ := c86_cell HR.out hb0 h hh3
      have g0 := Later.cell (w := wr) (hB.box 0 (v := .int .i64 t.f0) rfl); have g1 := Later.cell (w := wr) (hB.box 1 (v := .int .i64 t.f1) rfl); have g2 := Later.cell (w := wr) (hB.box 2 (v := .int .i64 t.f2) rfl); have g3 := Later.cell (w := wr) (hB.box 3 (v := .int .i64 t.f3) rfl)
      have HY := Lib.hid hy
      clear hy
      go_wp2
      refine wp_region_later (by kernel_rfl) (by kernel_rfl) ?_
      repeat (go_big_quiet_step (exact Later.call (less79 y t _)))
      refine wpQuiet_nil ?_
      intro z
      have hz := Lib.hid (hB.trans (z.h.mono (B' := w.heap.size + 1) (by have := hB.size; simp at this; omega)))
      by_cases hl : ltK y t = true
      · have hc : cmpK y t < 0 := by simp [cmpK, hl]
        go_wp2
        go_roundw
        case rel => exact ⟨h + 1, q, by go_num, rfl, by omega, by omega, Lib.hid (all_below HS.out HY.out hl), hZ, hz.out⟩
        case measure => simp [intOf]; omega
      · have hc : 0 ≤ cmpK y t := by simp [cmpK, hl]; split <;> omega
        go_wp2
        go_roundw
        case rel => exact ⟨p, h, rfl, rfl, by omega, by omega, hA, Lib.hid (none_below HS.out HY.out hl), hz.out⟩
        case measure => simp [intOf]; omega
    · obtain rfl : p = q := by omega
      have hb0 : Below w.heap.size w wr := ((Below.refl _ _).alloc (Nat.le_refl _) _).trans (hB.mono (by omega))
      have hp := Lib.hid (posK_of (by rw [HR.out.1]; exact hqn) hA.out hZ.out)
      rcases Nat.lt_or_ge p n with hpn | hpn
      · obtain ⟨ad, y, rfl, hy, f0, f1, f2, f3⟩ := c86_cell HR.out hb0 p hpn
        have g0 := Later.cell (w := wr) (hB.box 0 (v := .int .i64 t.f0) rfl); have g1 := Later.cell (w := wr) (hB.box 1 (v := .int .i64 t.f1) rfl); have g2 := Later.cell (w := wr) (hB.box 2 (v := .int .i64 t.f2) rfl); have g3 := Later.cell (w := wr) (hB.box 3 (v := .int .i64 t.f3) rfl)
        have HY := Lib.hid hy
        clear hy
        go_wp2
        refine wp_region_later (by kernel_rfl) (by kernel_rfl) ?_
        repeat (go_big_quiet_step (exact Later.call (less79 y t _)))
        refine wpQuiet_nil ?_
        intro z
        go_wp2
        go_ret2
        exact ⟨by rw [hp.out, ← hasK_at HS.out HY.out hA.out hZ.out]; rfl, below_then hb0 hb0.size z.h⟩
      · obtain rfl : p = n := by omega
        go_wp2
        refine wp_region_later (by kernel_rfl) (by kernel_rfl) ?_
        repeat (go_big_quiet_step (fail))
        refine wpQuiet_nil ?_
        intro z
        go_wp2
        go_ret2
        exact ⟨by rw [hp.out, hasK_end (by rw [HR.out.1]; exact hA.out)]; rfl, below_then hb0 hb0.size z.h⟩
end Go.Proofs.Ytkpngcppijgeeaa.H
