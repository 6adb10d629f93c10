import Derived.Test.YtkpngcppijgeeaaH1
import Derived.Shelf.SlSortCmp.WholeK
import Derived.StillTailTactics
set_option linter.unusedVariables false
set_option linter.unusedSimpArgs false
namespace Go.Proofs.Ytkpngcppijgeeaa.H
open Go.Shelf Go.Lib Go.Sort Go.RowKit Go.Proofs.YtkpngcppijgeeaaW.PrintWords Go.Proofs.YtkpngcppijgeeaaW.PrintLast Go.Proofs.YtkpngcppijgeeaaW.PrintMore Go.Proofs.Ytkpngcppijgeeaa.PFetchExact
/-- Draws and new blocks alone. -/
def Grew (W W' : World) : Prop := ∃ q os, W' = grow (W.drewN q) os
/-- cmp.Compare; cmp.Or of two. -/
def c3 (a b : Int) : Int := if a < b then -1 else if a > b then 1 else 0
def o2 (a b : Int) : Int := if a = 0 then b else a
theorem cmp123 (a b : Int) (w : World) : Calls Try.prog 123 #[.int .i64 a, .int .i64 b] w fun e w' => e = .returned (.int .i64 (c3 a b)) ∧ w = w' := by
  rcases Int.lt_trichotomy a b with h | h | h
  · go_enter Try.func123, Try.ntmps123
    go_wp2
    go_ret
    exact ⟨by simp [c3, h], rfl⟩
  · subst h
    go_enter Try.func123, Try.ntmps123
    go_wp2
    go_ret
    exact ⟨by simp [c3], rfl⟩
  · have h2 : ¬ a < b := by omega
    go_enter Try.func123, Try.ntmps123
    go_wp2
    go_ret
    exact ⟨by simp [c3, h, h2], rfl⟩
theorem or122 (a b : Int) (g : Nat) (w : World) (h : w.heap[g]? = some (.cells #[.int .i64 a, .int .i64 b] 3 (0, 0))) :
    Calls Try.prog 122 #[.slice (some ⟨g, 0, none⟩) 2 2] w fun e w' => e = .returned (.int .i64 (o2 a b)) ∧ ∃ q, w' = w.drewN q := by
  refine (cmp_Or_int.calls 3 (some ⟨g, 0, none⟩) 2 [a, b] (o2 a b) w ⟨rfl, by simp, fun _ => ⟨_, rfl, fun j p hj => ?_⟩⟩ (by simp) (or2 a b)).mono fun e w' ⟨he, hd⟩ => ⟨he, hd.out⟩
  refine ⟨[.int .i64 p], rfl, rfl, fun i u hu => ?_⟩
  have hi : i = 0 := by rcases i with _ | i <;> simp_all
  subst hi
  simp at hu
  subst hu
  show w.cell? ((⟨g, 0, none⟩ : Addr).add (j * 1 + 0)) = _
  rw [Addr.add_lit, cell_of_row w g _ _ 3 (0, 0) h]
  rcases j with _ | _ | j
  · simp at hj; subst hj; rfl
  · simp at hj; subst hj; rfl
  · simp at hj
theorem third_new (w : World) (A B C : Obj) : (((w.alloc A).alloc B).alloc C).drew.heap[w.heap.size + 1 + 1]? = some C := by
  have := heap_alloc_new ((w.alloc A).alloc B) C
  have e : ((w.alloc A).alloc B).heap.size = w.heap.size + 1 + 1 := by simp
  rw [e] at this
  exact this
theorem o2_cmpK (a b : S86) : o2 (c3 a.f0 b.f0) (c3 a.f1 b.f1) = cmpK a b := by
  unfold o2 c3 cmpK ltK sameK
  by_cases h1 : a.f0 < b.f0
  · simp [h1]
  · by_cases h2 : a.f0 = b.f0
    · by_cases h3 : a.f1 < b.f1
      · simp [h2, h3]
      · by_cases h4 : a.f1 = b.f1
        · simp [h2, h4]
        · have : b.f1 < a.f1 := by omega
          simp [h2, h3, h4, this]
    · have : b.f0 < a.f0 := by omega
      simp [h1, h2, this]
theorem wp_region_still_tail' {P : Program} {id : Nat} {Q : Exit → Act → World → Prop} {a : Act} {w : World} {l : List Oper} (n : Nat) (hm : P.follows .mixedOrders = true) (hB : Region.lexTailB .any l.toArray n = true)
    (h : wpStill P l.toArray w.drew (fun a' => wpList P l.toArray Q (l.drop n) a' w.drew) (l.take n) a) : (Code.region id l.toArray true).wp P Q a w := wp_region_still_tail n hm hB h
theorem grew3 (w : World) (A B C : Obj) (q : Nat) : Grew w ((((w.alloc A).alloc B).alloc C).drewN q) := by
  refine ⟨q, #[A] ++ #[B] ++ #[C], ?_⟩
  rw [alloc_eq_grow, alloc_eq_grow, alloc_eq_grow, grow_grow, grow_grow]
  rfl
set_option maxRecDepth 100000 in
theorem less79x (a b : S86) (w : World) : Calls Try.prog 79 #[c86 a, c86 b] w fun e w' => e = .returned (.int .i64 (cmpK a b)) ∧ Grew w w' := by
  unfold c86
  go_enter Try.func79, Try.ntmps79
  go_wp2
  refine wp_region_still_tail' 10 (by kernel_rfl) (by kernel_rfl) ?_
  simp only [List.take_succ_cons, List.take_zero, List.drop_succ_cons, List.drop_zero]
  iterate 4 still_step
  still_call (cmp123 a.f0 b.f0 _).mono (fun _ _ ⟨he, hw⟩ => ⟨he, hw.symm⟩)
  iterate 4 still_step
  still_call (cmp123 a.f1 b.f1 _).mono (fun _ _ ⟨he, hw⟩ => ⟨he, hw.symm⟩)
  refine wpStill_nil ?_
  go_wp2_with (go_at_call 122; refine (or122 (c3 a.f0 b.f0) (c3 a.f1 b.f1) (w.heap.size + 1 + 1) _ ?_).mono ?_; exact third_new _ _ _ _; rintro e w' ⟨rfl, q, rfl⟩)
  go_ret
  exact ⟨by rw [o2_cmpK]; rfl, grew3 _ _ _ _ _⟩
end Go.Proofs.Ytkpngcppijgeeaa.H
