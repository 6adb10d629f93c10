import Derived.Test.YtkpngcppijgeeaaH13
import Derived.Test.YtkpngcppijgeeaaX8
import Derived.KernelRfl
set_option linter.unusedVariables false
set_option linter.unusedSimpArgs false
namespace Go.Proofs.Ytkpngcppijgeeaa.H
open Go.RowKit Go.Lib Go.Proofs.YtkpngcppijgeeaaW.PrintWords Go.Proofs.YtkpngcppijgeeaaW.PrintLast Go.Proofs.YtkpngcppijgeeaaW.PrintMore Go.Proofs.Ytkpngcppijgeeaa.PFetchExact
/-- The numbers from 1 on. -/
def nums (n : Nat) : List Int := (List.range n).map fun (i : Nat) => (i : Int) + 1
theorem nums_length (n : Nat) : (nums n).length = n := by simp [nums]
theorem nums_succ (n : Nat) : nums (n + 1) = nums n ++ [(n : Int) + 1] := by simp [nums, List.range_succ]
theorem nums_at {n j : Nat} (h : j < n) : (nums n)[j]? = some ((j : Int) + 1) := by simp [nums, h]
theorem nums_take {n j : Nat} (h : j ≤ n) : (nums n).take j = nums j := by
  apply List.ext_getElem?
  intro i
  rw [List.getElem?_take]
  split
  · rename_i hi; rw [nums_at (by omega), nums_at hi]
  · rename_i hi; rw [List.getElem?_eq_none (by rw [nums_length]; omega)]
/-- The rows wanted. -/
def rowsN (n : Nat) : List S86 := (nums n).map fun d => ⟨8, d, 0, 0⟩
theorem rowsN_length (n : Nat) : (rowsN n).length = n := by simp [rowsN, nums_length]
/-- What is ordered alike is the same list. -/
theorem perm_sorted {xs ys : List S86} (hs : SortedK xs) (hp : ys.Perm xs) (hy : ∀ i j, i < j → j < ys.length → ∀ a b, ys[i]? = some a → ys[j]? = some b → ltK b a = false) : ys = xs := by
  have hd : ∀ a b, a ∈ xs → b ∈ xs → ltK a b = false → ltK b a = false → a = b := by
    intro a b ha hb h1 h2
    obtain ⟨i, hi, rfl⟩ := List.mem_iff_getElem.1 ha
    obtain ⟨j, hj, rfl⟩ := List.mem_iff_getElem.1 hb
    unfold SortedK at hs
    rw [List.pairwise_iff_getElem] at hs
    rcases Nat.lt_trichotomy i j with h | rfl | h
    · rw [hs i j hi hj h] at h1; cases h1
    · rfl
    · rw [hs j i hj hi h] at h2; cases h2
  have hirr : ∀ a : S86, ltK a a = false := fun a => by simp [ltK]
  refine List.Perm.eq_of_pairwise (le := fun a b => ltK b a = false) ?_ ?_ ?_ hp
  · intro a b ha hb h1 h2
    exact hd a b (hp.mem_iff.1 ha) hb h2 h1
  · rw [List.pairwise_iff_getElem]
    intro i j hi hj hij
    exact hy i j hij hj _ _ (List.getElem?_eq_getElem hi) (List.getElem?_eq_getElem hj)
  · refine hs.imp (fun {a b} h => ?_)
    cases h2 : ltK b a with
    | false => rfl
    | true =>
      have := ltK_trans h h2
      rw [hirr] at this; cases this
theorem addR : addTo 8 [] (nums 74) = (rowsN 64, rowsN 64) := by kernel_rfl
theorem sortedR : SortedK (rowsN 64) := by
  unfold SortedK
  decide +kernel
def msR : List S77 := [msgOf 8 1 2 (piece (nums 64) 0), msgOf 8 1 2 (piece (nums 64) 1), msgOf 8 1 2 (piece (nums 64) 2), msgOf 8 1 2 (piece (nums 64) 3)]
theorem msgsR : msgsAll 1 4 (rowsN 64) = msR := by kernel_rfl
theorem mayR0 : mayF 1 4 [] = true := by decide +kernel
theorem mayR : mayF 1 4 (rowsN 64) = true := by decide +kernel
theorem digR : (nums 74).any (fun d => !dig d) = false := by decide +kernel
theorem addR1 : addTo 7 (rowsN 64) [1] = (rowsN 64, []) := by kernel_rfl
theorem addR5 : addTo 8 (rowsN 64) (nums 5) = (rowsN 64, []) := by kernel_rfl
theorem msgs0 : msgsAll 1 4 [] = [] := by kernel_rfl
theorem eqR : droverref0_EqNumbers.f 70 (nums 64) (nums 64) = some true := by decide +kernel
theorem eqF : droverref0_EqFetch.f 70 1 4 (rowsN 64) 1 4 (rowsN 64) = some true := by decide +kernel
theorem piece_snoc (d : List Int) (j : Nat) : d.take (16 * j) ++ piece d j = d.take (16 * (j + 1)) := by
  unfold piece
  rw [show 16 * (j + 1) = 16 * j + 16 by omega, List.take_add]
end Go.Proofs.Ytkpngcppijgeeaa.H
