import Derived.Test.YtkpngcppijgeeaaH11
set_option linter.unusedVariables false
set_option linter.unusedSimpArgs false
namespace Go.Proofs.Ytkpngcppijgeeaa.H
open Go.RowKit Go.Lib Go.Proofs.YtkpngcppijgeeaaW.PrintWords Go.Proofs.YtkpngcppijgeeaaW.PrintLast Go.Proofs.YtkpngcppijgeeaaW.PrintMore Go.Proofs.Ytkpngcppijgeeaa.PFetchExact
def none63 : Value := .tuple #[.agg #[.int .i64 0, .int .i64 0, .slice none 0 0], .slice none 0 0, .int .i64 1]
set_option maxHeartbeats 4000000 in
set_option maxRecDepth 100000 in
theorem want27_no (id n k : Int) (A0 : Option Addr) (l0 : List S86) (c0 : Nat) (A2 : Option Addr) (c2 : Nat) (l : List Int) (w : World) (hl0 : Kd.C k86 w A0 l0.length l0) (hc0 : l0.length ≤ c0) (hr : Kd.C (Kd.int .i64) w A2 l.length l) (hl : l.length ≤ 140737488355328)
    (hno : mayF id n l0 = false ∨ kindK k = false ∨ l.any (fun d => !dig d) = true) :
    Calls Try.prog 27 #[.agg #[.int .i64 id, .int .i64 n, .slice A0 l0.length c0], .int .i64 k, .slice A2 l.length c2] w fun e w' => e = .returned none63 ∧ Below w.heap.size w w' := by
  have HR := Aside0.mk hr
  have HL := Aside0.mk hl0
  clear hr hl0
  have hu63 := Try.underlying63
  cases hm : mayF id n l0 with
  | false =>
      clear hno
      go_enter Try.func27, Try.ntmps27
      go_wp2_with (first
        | (go_at_call 66; refine (may66 id n A0 c0 l0 _ (Kd.C_below HL.out (below_alloc (below_alloc (Below.refl _ _) _) _)) hc0).mono ?_; rw [hm]; rintro e w1 ⟨rfl, hb⟩; have BA := Aside0.mk (blk_below (blk_alloc (blk_new w (.cells #[.int .i64 id, .int .i64 n, .slice A0 l0.length c0] 63 (0, 0))) (.cells #[.int .i64 0, .int .i64 0, .slice none 0 0] 63 (0, 0))) hb); have BB := Aside0.mk (blk_below (blk_new (w.alloc (.cells #[.int .i64 id, .int .i64 n, .slice A0 l0.length c0] 63 (0, 0))) (.cells #[.int .i64 0, .int .i64 0, .slice none 0 0] 63 (0, 0))) hb); have HB := Aside0.mk (below_step (below_alloc (below_alloc (Below.refl _ _) _) _) hb); rw [World.size_alloc] at BB; have a0_ : w1.cell? ⟨w.heap.size, 0, none⟩ = some (.int .i64 id) := (blk_cell BA.out 0).trans rfl; have a1_ : w1.cell? ⟨w.heap.size, 1, none⟩ = some (.int .i64 n) := (blk_cell BA.out 1).trans rfl; have a2_ : w1.cell? ⟨w.heap.size, 2, none⟩ = some (.slice A0 l0.length c0) := (blk_cell BA.out 2).trans rfl; have b0_ : w1.cell? ⟨w.heap.size + 1, 0, none⟩ = some (.int .i64 0) := (blk_cell BB.out 0).trans rfl; have b1_ : w1.cell? ⟨w.heap.size + 1, 1, none⟩ = some (.int .i64 0) := (blk_cell BB.out 1).trans rfl; have b2_ : w1.cell? ⟨w.heap.size + 1, 2, none⟩ = some (.slice none 0 0) := (blk_cell BB.out 2).trans rfl; have f0_ := blk_frozen BB.out 0; have f1_ := blk_frozen BB.out 1; have f2_ := blk_frozen BB.out 2; clear hb))
      have Q1 := blk_put BB.out (cs' := #[.int .i64 0, .int .i64 0, .slice none 0 0]) 0 (.int .i64 0) rfl
      have Q2 := blk_put Q1 (cs' := #[.int .i64 0, .int .i64 0, .slice none 0 0]) 1 (.int .i64 0) rfl
      have Q3 := blk_put Q2 (cs' := #[.int .i64 0, .int .i64 0, .slice none 0 0]) 2 (.slice none 0 0) rfl
      refine bodyPost_ret (results_ctt rfl _ _ (w.heap.size + 1) 63 #[.int .i64 0, .int .i64 0, .slice none 0 0] (0, 0) _ rfl Q3 Try.underlying63 rfl (by kernel_rfl)) rfl ?_
      exact ⟨rfl, below_set (below_set (below_set HB.out (by omega)) (by omega)) (by omega)⟩
  | true =>
    cases hk : kindK k with
    | false =>
      clear hno
      go_enter Try.func27, Try.ntmps27
      go_wp2_with (first
        | (go_at_call 66; refine (may66 id n A0 c0 l0 _ (Kd.C_below HL.out (below_alloc (below_alloc (Below.refl _ _) _) _)) hc0).mono ?_; rw [hm]; rintro e w1 ⟨rfl, hb⟩; have BA := Aside0.mk (blk_below (blk_alloc (blk_new w (.cells #[.int .i64 id, .int .i64 n, .slice A0 l0.length c0] 63 (0, 0))) (.cells #[.int .i64 0, .int .i64 0, .slice none 0 0] 63 (0, 0))) hb); have BB := Aside0.mk (blk_below (blk_new (w.alloc (.cells #[.int .i64 id, .int .i64 n, .slice A0 l0.length c0] 63 (0, 0))) (.cells #[.int .i64 0, .int .i64 0, .slice none 0 0] 63 (0, 0))) hb); have HB := Aside0.mk (below_step (below_alloc (below_alloc (Below.refl _ _) _) _) hb); rw [World.size_alloc] at BB; have a0_ : w1.cell? ⟨w.heap.size, 0, none⟩ = some (.int .i64 id) := (blk_cell BA.out 0).trans rfl; have a1_ : w1.cell? ⟨w.heap.size, 1, none⟩ = some (.int .i64 n) := (blk_cell BA.out 1).trans rfl; have a2_ : w1.cell? ⟨w.heap.size, 2, none⟩ = some (.slice A0 l0.length c0) := (blk_cell BA.out 2).trans rfl; have b0_ : w1.cell? ⟨w.heap.size + 1, 0, none⟩ = some (.int .i64 0) := (blk_cell BB.out 0).trans rfl; have b1_ : w1.cell? ⟨w.heap.size + 1, 1, none⟩ = some (.int .i64 0) := (blk_cell BB.out 1).trans rfl; have b2_ : w1.cell? ⟨w.heap.size + 1, 2, none⟩ = some (.slice none 0 0) := (blk_cell BB.out 2).trans rfl; have f0_ := blk_frozen BB.out 0; have f1_ := blk_frozen BB.out 1; have f2_ := blk_frozen BB.out 2; clear hb)
        | (go_at_call 67; refine (fetch_kind.calls k _ _ (kind_f k)).mono ?_; rw [hk]; rintro e w2 ⟨rfl, hd⟩; have BA2 := Aside0.mk (blk_below BA.out hd.below); have BB2 := Aside0.mk (blk_below BB.out hd.below); have HB2 := Aside0.mk (below_step HB.out hd.below); have m0_ : w2.cell? ⟨w.heap.size, 0, none⟩ = some (.int .i64 id) := (blk_cell BA2.out 0).trans rfl; have m1_ : w2.cell? ⟨w.heap.size, 1, none⟩ = some (.int .i64 n) := (blk_cell BA2.out 1).trans rfl; have m2_ : w2.cell? ⟨w.heap.size, 2, none⟩ = some (.slice A0 l0.length c0) := (blk_cell BA2.out 2).trans rfl; have n0_ : w2.cell? ⟨w.heap.size + 1, 0, none⟩ = some (.int .i64 0) := (blk_cell BB2.out 0).trans rfl; have n1_ : w2.cell? ⟨w.heap.size + 1, 1, none⟩ = some (.int .i64 0) := (blk_cell BB2.out 1).trans rfl; have n2_ : w2.cell? ⟨w.heap.size + 1, 2, none⟩ = some (.slice none 0 0) := (blk_cell BB2.out 2).trans rfl; have g0_ := blk_frozen BB2.out 0; have g1_ := blk_frozen BB2.out 1; have g2_ := blk_frozen BB2.out 2; clear hd))
      have Q1 := blk_put BB2.out (cs' := #[.int .i64 0, .int .i64 0, .slice none 0 0]) 0 (.int .i64 0) rfl
      have Q2 := blk_put Q1 (cs' := #[.int .i64 0, .int .i64 0, .slice none 0 0]) 1 (.int .i64 0) rfl
      have Q3 := blk_put Q2 (cs' := #[.int .i64 0, .int .i64 0, .slice none 0 0]) 2 (.slice none 0 0) rfl
      refine bodyPost_ret (results_ctt rfl _ _ (w.heap.size + 1) 63 #[.int .i64 0, .int .i64 0, .slice none 0 0] (0, 0) _ rfl Q3 Try.underlying63 rfl (by kernel_rfl)) rfl ?_
      exact ⟨rfl, below_set (below_set (below_set HB2.out (by omega)) (by omega)) (by omega)⟩
    | true =>
      have hx : l.any (fun d => !dig d) = true := by rcases hno with h | h | h; · rw [hm] at h; cases h
                                                     · rw [hk] at h; cases h
                                                     · exact h
      clear hno
      go_enter Try.func27, Try.ntmps27
      go_wp2_with (first
        | (go_at_call 66; refine (may66 id n A0 c0 l0 _ (Kd.C_below HL.out (below_alloc (below_alloc (Below.refl _ _) _) _)) hc0).mono ?_; rw [hm]; rintro e w1 ⟨rfl, hb⟩; have BA := Aside0.mk (blk_below (blk_alloc (blk_new w (.cells #[.int .i64 id, .int .i64 n, .slice A0 l0.length c0] 63 (0, 0))) (.cells #[.int .i64 0, .int .i64 0, .slice none 0 0] 63 (0, 0))) hb); have BB := Aside0.mk (blk_below (blk_new (w.alloc (.cells #[.int .i64 id, .int .i64 n, .slice A0 l0.length c0] 63 (0, 0))) (.cells #[.int .i64 0, .int .i64 0, .slice none 0 0] 63 (0, 0))) hb); have HB := Aside0.mk (below_step (below_alloc (below_alloc (Below.refl _ _) _) _) hb); rw [World.size_alloc] at BB; have a0_ : w1.cell? ⟨w.heap.size, 0, none⟩ = some (.int .i64 id) := (blk_cell BA.out 0).trans rfl; have a1_ : w1.cell? ⟨w.heap.size, 1, none⟩ = some (.int .i64 n) := (blk_cell BA.out 1).trans rfl; have a2_ : w1.cell? ⟨w.heap.size, 2, none⟩ = some (.slice A0 l0.length c0) := (blk_cell BA.out 2).trans rfl; have b0_ : w1.cell? ⟨w.heap.size + 1, 0, none⟩ = some (.int .i64 0) := (blk_cell BB.out 0).trans rfl; have b1_ : w1.cell? ⟨w.heap.size + 1, 1, none⟩ = some (.int .i64 0) := (blk_cell BB.out 1).trans rfl; have b2_ : w1.cell? ⟨w.heap.size + 1, 2, none⟩ = some (.slice none 0 0) := (blk_cell BB.out 2).trans rfl; have f0_ := blk_frozen BB.out 0; have f1_ := blk_frozen BB.out 1; have f2_ := blk_frozen BB.out 2; clear hb)
        | (go_at_call 67; refine (fetch_kind.calls k _ _ (kind_f k)).mono ?_; rw [hk]; rintro e w2 ⟨rfl, hd⟩; have BA2 := Aside0.mk (blk_below BA.out hd.below); have BB2 := Aside0.mk (blk_below BB.out hd.below); have HB2 := Aside0.mk (below_step HB.out hd.below); have m0_ : w2.cell? ⟨w.heap.size, 0, none⟩ = some (.int .i64 id) := (blk_cell BA2.out 0).trans rfl; have m1_ : w2.cell? ⟨w.heap.size, 1, none⟩ = some (.int .i64 n) := (blk_cell BA2.out 1).trans rfl; have m2_ : w2.cell? ⟨w.heap.size, 2, none⟩ = some (.slice A0 l0.length c0) := (blk_cell BA2.out 2).trans rfl; have n0_ : w2.cell? ⟨w.heap.size + 1, 0, none⟩ = some (.int .i64 0) := (blk_cell BB2.out 0).trans rfl; have n1_ : w2.cell? ⟨w.heap.size + 1, 1, none⟩ = some (.int .i64 0) := (blk_cell BB2.out 1).trans rfl; have n2_ : w2.cell? ⟨w.heap.size + 1, 2, none⟩ = some (.slice none 0 0) := (blk_cell BB2.out 2).trans rfl; have g0_ := blk_frozen BB2.out 0; have g1_ := blk_frozen BB2.out 1; have g2_ := blk_frozen BB2.out 2; clear hd)
        | (go_at_call 50; refine (contains50 A2 l.length c2 l _ (Kd.C_below HR.out HB2.out) (by omega)).mono ?_; rw [hx]; rintro e w3 ⟨rfl, hb⟩; have BA3 := Aside0.mk (blk_below BA2.out hb); have BB3 := Aside0.mk (blk_below BB2.out hb); have HB3 := Aside0.mk (below_step HB2.out hb); have p0_ : w3.cell? ⟨w.heap.size, 0, none⟩ = some (.int .i64 id) := (blk_cell BA3.out 0).trans rfl; have p1_ : w3.cell? ⟨w.heap.size, 1, none⟩ = some (.int .i64 n) := (blk_cell BA3.out 1).trans rfl; have p2_ : w3.cell? ⟨w.heap.size, 2, none⟩ = some (.slice A0 l0.length c0) := (blk_cell BA3.out 2).trans rfl; have q0_ : w3.cell? ⟨w.heap.size + 1, 0, none⟩ = some (.int .i64 0) := (blk_cell BB3.out 0).trans rfl; have q1_ : w3.cell? ⟨w.heap.size + 1, 1, none⟩ = some (.int .i64 0) := (blk_cell BB3.out 1).trans rfl; have q2_ : w3.cell? ⟨w.heap.size + 1, 2, none⟩ = some (.slice none 0 0) := (blk_cell BB3.out 2).trans rfl; have h0_ := blk_frozen BB3.out 0; have h1_ := blk_frozen BB3.out 1; have h2_ := blk_frozen BB3.out 2; have y0_ := blk_frozen BA3.out 0; have y1_ := blk_frozen BA3.out 1; have y2_ := blk_frozen BA3.out 2; clear hb))
      have Q1 := blk_put BB3.out (cs' := #[.int .i64 0, .int .i64 0, .slice none 0 0]) 0 (.int .i64 0) rfl
      have Q2 := blk_put Q1 (cs' := #[.int .i64 0, .int .i64 0, .slice none 0 0]) 1 (.int .i64 0) rfl
      have Q3 := blk_put Q2 (cs' := #[.int .i64 0, .int .i64 0, .slice none 0 0]) 2 (.slice none 0 0) rfl
      refine bodyPost_ret (results_ctt rfl _ _ (w.heap.size + 1) 63 #[.int .i64 0, .int .i64 0, .slice none 0 0] (0, 0) _ rfl Q3 Try.underlying63 rfl (by kernel_rfl)) rfl ?_
      exact ⟨rfl, below_set (below_set (below_set HB3.out (by omega)) (by omega)) (by omega)⟩
def msgsAll (id n : Int) (fr : List S86) : List S77 := if n = 1 then [] else msgsTo id n fr (2 * n.toNat)
def T27 : Bool × List (List Nat × List Nat) := (true, [([], []), ([], []), ([], []), ([1, 2], [1, 2]), ([0, 3, 0], [0]), ([3, 4, 0, 1, 2, 3, 4], [3]), ([5, 0, 1, 2, 3, 4, 5], [])])
def B27 : List Nat := [0, 0, 0, 6, 15, 31, 63]
theorem tab27 : rtab .any (opsOf Try.f27 4) = T27 := by kernel_rfl
theorem bits27 : waitsOk T27.2 B27 = true := by kernel_rfl
set_option maxHeartbeats 4000000 in
set_option maxRecDepth 100000 in
theorem want27 (id n k : Int) (A0 : Option Addr) (l0 : List S86) (c0 : Nat) (A2 : Option Addr) (c2 : Nat) (l : List Int) (w : World) (hl0 : Kd.C k86 w A0 l0.length l0) (hc0 : l0.length ≤ c0) (hr : Kd.C (Kd.int .i64) w A2 l.length l) (hl : l.length ≤ 140737488355328)
    (hm : mayF id n l0 = true) (hk : kindK k = true) (hx : l.any (fun d => !dig d) = false) :
    Calls Try.prog 27 #[.agg #[.int .i64 id, .int .i64 n, .slice A0 l0.length c0], .int .i64 k, .slice A2 l.length c2] w fun e w' => ∃ (v1 v2 : Value) (fr : List S86), e = .returned (.tuple #[.agg #[.int .i64 id, .int .i64 n, v1], v2, .int .i64 0]) ∧ k86.R 86 w' w.heap.size (fun _ => True) v1 (addTo k l0 l).1 ∧ Kd.S k77 77 w' w.heap.size (fun _ => True) v2 (msgsAll id n fr) ∧ fr.Perm (addTo k l0 l).2 ∧ (∀ i j, i < j → j < fr.length → ∀ a b, fr[i]? = some a → fr[j]? = some b → ltK b a = false) ∧ Below w.heap.size w w' := by
  have HR := Aside0.mk hr
  have HL := Aside0.mk hl0
  have hmo := (mayOk_iff _ _ _).1 hm
  have HSo := Aside0.mk hmo.sorted
  have h64 := hmo.h4
  have HMO := Aside0.mk hmo
  clear hr hl0 hmo
  have hu63 := Try.underlying63
  go_enter Try.func27, Try.ntmps27
  go_wp2_with (first
    | (go_at_call 66; refine (may66 id n A0 c0 l0 _ (Kd.C_below HL.out (below_alloc (below_alloc (Below.refl _ _) _) _)) hc0).mono ?_; rw [hm]; rintro e w1 ⟨rfl, hb⟩; have BA := Aside0.mk (blk_below (blk_alloc (blk_new w (.cells #[.int .i64 id, .int .i64 n, .slice A0 l0.length c0] 63 (0, 0))) (.cells #[.int .i64 0, .int .i64 0, .slice none 0 0] 63 (0, 0))) hb); have BB := Aside0.mk (blk_below (blk_new (w.alloc (.cells #[.int .i64 id, .int .i64 n, .slice A0 l0.length c0] 63 (0, 0))) (.cells #[.int .i64 0, .int .i64 0, .slice none 0 0] 63 (0, 0))) hb); have HB := Aside0.mk (below_step (below_alloc (below_alloc (Below.refl _ _) _) _) hb); rw [World.size_alloc] at BB; have a0_ : w1.cell? ⟨w.heap.size, 0, none⟩ = some (.int .i64 id) := (blk_cell BA.out 0).trans rfl; have a1_ : w1.cell? ⟨w.heap.size, 1, none⟩ = some (.int .i64 n) := (blk_cell BA.out 1).trans rfl; have a2_ : w1.cell? ⟨w.heap.size, 2, none⟩ = some (.slice A0 l0.length c0) := (blk_cell BA.out 2).trans rfl; have b0_ : w1.cell? ⟨w.heap.size + 1, 0, none⟩ = some (.int .i64 0) := (blk_cell BB.out 0).trans rfl; have b1_ : w1.cell? ⟨w.heap.size + 1, 1, none⟩ = some (.int .i64 0) := (blk_cell BB.out 1).trans rfl; have b2_ : w1.cell? ⟨w.heap.size + 1, 2, none⟩ = some (.slice none 0 0) := (blk_cell BB.out 2).trans rfl; have f0_ := blk_frozen BB.out 0; have f1_ := blk_frozen BB.out 1; have f2_ := blk_frozen BB.out 2; clear hb)
    | (go_at_call 67; refine (fetch_kind.calls k _ _ (kind_f k)).mono ?_; rw [hk]; rintro e w2 ⟨rfl, hd⟩; have BA2 := Aside0.mk (blk_below BA.out hd.below); have BB2 := Aside0.mk (blk_below BB.out hd.below); have HB2 := Aside0.mk (below_step HB.out hd.below); have m0_ : w2.cell? ⟨w.heap.size, 0, none⟩ = some (.int .i64 id) := (blk_cell BA2.out 0).trans rfl; have m1_ : w2.cell? ⟨w.heap.size, 1, none⟩ = some (.int .i64 n) := (blk_cell BA2.out 1).trans rfl; have m2_ : w2.cell? ⟨w.heap.size, 2, none⟩ = some (.slice A0 l0.length c0) := (blk_cell BA2.out 2).trans rfl; have n0_ : w2.cell? ⟨w.heap.size + 1, 0, none⟩ = some (.int .i64 0) := (blk_cell BB2.out 0).trans rfl; have n1_ : w2.cell? ⟨w.heap.size + 1, 1, none⟩ = some (.int .i64 0) := (blk_cell BB2.out 1).trans rfl; have n2_ : w2.cell? ⟨w.heap.size + 1, 2, none⟩ = some (.slice none 0 0) := (blk_cell BB2.out 2).trans rfl; have g0_ := blk_frozen BB2.out 0; have g1_ := blk_frozen BB2.out 1; have g2_ := blk_frozen BB2.out 2; clear hd)
    | (go_at_call 50; refine (contains50 A2 l.length c2 l _ (Kd.C_below HR.out HB2.out) (by omega)).mono ?_; rw [hx]; rintro e w3 ⟨rfl, hb⟩; have BA3 := Aside0.mk (blk_below BA2.out hb); have BB3 := Aside0.mk (blk_below BB2.out hb); have HB3 := Aside0.mk (below_step HB2.out hb); have p0_ : w3.cell? ⟨w.heap.size, 0, none⟩ = some (.int .i64 id) := (blk_cell BA3.out 0).trans rfl; have p1_ : w3.cell? ⟨w.heap.size, 1, none⟩ = some (.int .i64 n) := (blk_cell BA3.out 1).trans rfl; have p2_ : w3.cell? ⟨w.heap.size, 2, none⟩ = some (.slice A0 l0.length c0) := (blk_cell BA3.out 2).trans rfl; have q0_ : w3.cell? ⟨w.heap.size + 1, 0, none⟩ = some (.int .i64 0) := (blk_cell BB3.out 0).trans rfl; have q1_ : w3.cell? ⟨w.heap.size + 1, 1, none⟩ = some (.int .i64 0) := (blk_cell BB3.out 1).trans rfl; have q2_ : w3.cell? ⟨w.heap.size + 1, 2, none⟩ = some (.slice none 0 0) := (blk_cell BB3.out 2).trans rfl; have h0_ := blk_frozen BB3.out 0; have h1_ := blk_frozen BB3.out 1; have h2_ := blk_frozen BB3.out 2; have y0_ := blk_frozen BA3.out 0; have y1_ := blk_frozen BA3.out 1; have y2_ := blk_frozen BA3.out 2; clear hb)
    | (go_at_call 69; refine (add69 id n k A0 l0 c0 A2 c2 l _ (Kd.C_below HL.out HB3.out) hc0 (Kd.C_below HR.out HB3.out) hl HSo.out h64).mono ?_; rintro e w4 ⟨v9, v8, fr, rfl, hR9, hR8, hperm, hsort, hb⟩; have hsz := HB3.out.size; have HP4 := Aside0.mk (Kd.R_lower hR9 hsz); have HF4 := Aside0.mk (Kd.R_lower hR8 hsz); have HPM := Aside0.mk hperm; have HST := Aside0.mk hsort; have BA4 := Aside0.mk (blk_below BA3.out hb); have BB4 := Aside0.mk (blk_below BB3.out hb); have HB4 := Aside0.mk (below_step HB3.out hb); have r0_ : w4.cell? ⟨w.heap.size, 0, none⟩ = some (.int .i64 id) := (blk_cell BA4.out 0).trans rfl; have r1_ : w4.cell? ⟨w.heap.size, 1, none⟩ = some (.int .i64 n) := (blk_cell BA4.out 1).trans rfl; have r2_ : w4.cell? ⟨w.heap.size, 2, none⟩ = some (.slice A0 l0.length c0) := (blk_cell BA4.out 2).trans rfl; have x0_ := blk_frozen BA4.out 0; have x1_ := blk_frozen BA4.out 1; have x2_ := blk_frozen BA4.out 2; clear hR9 hR8 hperm hsort hb; obtain ⟨A9, c9, e9⟩ := Kd.R_slice HP4.out; obtain ⟨A8, c8, e8⟩ := Kd.R_slice HF4.out; subst e9; subst e8))
  obtain ⟨xs, hxs⟩ : ∃ xs, (addTo k l0 l).1 = xs := ⟨_, rfl⟩
  obtain ⟨ys, hys⟩ : ∃ ys, (addTo k l0 l).2 = ys := ⟨_, rfl⟩
  have hok := addTo_ok (k := k) HSo.out h64 l
  have hx64 := hok.room
  have hy64 := hok.fewer
  have hfl := HPM.out.length_eq
  rw [hxs] at hx64 hy64
  rw [hys] at hy64 hfl
  have hf64 : fr.length ≤ 64 := by omega
  clear hok hfl hy64
  rw [hxs] at HP4 HF4
  rw [hys] at HPM
  rw [hxs]
  have HX1 := Aside0.mk hxs
  have HY1 := Aside0.mk hys
  clear hxs hys HSo
  have P1 := blk_put BA4.out (cs' := #[.int .i64 id, .int .i64 n, .slice A0 l0.length c0]) 0 (.int .i64 id) rfl
  have P2 := blk_put P1 (cs' := #[.int .i64 id, .int .i64 n, .slice A0 l0.length c0]) 1 (.int .i64 n) rfl
  have P3 := blk_put P2 (cs' := #[.int .i64 id, .int .i64 n, .slice A9 xs.length c9]) 2 (.slice A9 xs.length c9) rfl
  have HPd := Aside0.mk (Kd.R_set (Kd.R_set (Kd.R_set HP4.out BA4.out (by decide) 0 (.int .i64 id)) P1 (by decide) 1 (.int .i64 n)) P2 (by decide) 2 (.slice A9 xs.length c9))
  have HFd := Aside0.mk (Kd.R_set (Kd.R_set (Kd.R_set HF4.out BA4.out (by decide) 0 (.int .i64 id)) P1 (by decide) 1 (.int .i64 n)) P2 (by decide) 2 (.slice A9 xs.length c9))
  have BBd := Aside0.mk (blk_far (blk_far (blk_far BB4.out (p := ⟨w.heap.size, 0, none⟩) (by simp) (.int .i64 id)) (p := ⟨w.heap.size, 1, none⟩) (by simp) (.int .i64 n)) (p := ⟨w.heap.size, 2, none⟩) (by simp) (.slice A9 xs.length c9))
  have HBd := Aside0.mk (below_set (j := 2) (v := .slice A9 xs.length c9) (below_set (j := 1) (v := .int .i64 n) (below_set (j := 0) (v := .int .i64 id) HB4.out (Nat.le_refl _)) (Nat.le_refl _)) (Nat.le_refl _))
  have BAd := Aside0.mk P3
  clear P1 P2 P3 HP4 HF4 BB4 HB4 BA4
  generalize ((w4.setCell ⟨w.heap.size, 0, none⟩ (.int .i64 id)).setCell ⟨w.heap.size, 1, none⟩ (.int .i64 n)).setCell ⟨w.heap.size, 2, none⟩ (.slice A9 xs.length c9) = w5 at HPd HFd BBd HBd BAd ⊢
  have n0_ := Aside0.mk (Kd.R_drew HPd.out)
  have n1_ := Aside0.mk (Kd.R_drew HFd.out)
  have n2_ := Aside0.mk (blk_drew BBd.out)
  have n3_ := Aside0.mk (blk_drew BAd.out)
  have n4_ := Aside0.mk (below_drew1 HBd.out)
  clear HPd HFd BBd HBd BAd
  have HPd := n0_
  have HFd := n1_
  have BBd := n2_
  have BAd := n3_
  have HBd := n4_
  clear n0_ n1_ n2_ n3_ n4_
  refine start_ (n := 7) (S := fun w' => w'.cell? ⟨w.heap.size, 0, none⟩ = some (.int .i64 id) ∧ w'.cell? ⟨w.heap.size, 1, none⟩ = some (.int .i64 n) ∧ w'.cell? ⟨w.heap.size, 2, none⟩ = some (.slice A9 xs.length c9)) (ds := []) #[false, false, false, false, false, false, false] (by kernel_rfl) rfl rfl ⟨(blk_cell BAd.out 0).trans rfl, (blk_cell BAd.out 1).trans rfl, (blk_cell BAd.out 2).trans rfl⟩ (fun hHeld => ?_); refine with_tabW tab27 bits27 (fun HT_ HW_ => ?_)
  generalize w5.drew = w30 at HPd HFd BBd BAd HBd hHeld ⊢
  refine pure_ (i := 2) (N := some 32) (v := ?_) (a' := ?_) #[false, false, true, false, false, false, false] rfl rfl (any_of HT_.out (by kernel_rfl)) (fun _ _ _ h => h) (Or.inl ⟨by rfl, ?_⟩) ?_ ?_
  rotate_left
  · intro w'
    go_simp
    with_reducible rfl
  rotate_left
  · simp only [Act.put, List.setIfInBounds_toArray, List.set_cons_zero, List.set_cons_succ, i64_w, i32_w]
    rfl
  refine take_ (i := 0) (N := some 30) (v := ?_) (a' := ?_) #[true, false, true, false, false, false, false] rfl rfl (take_ofW HT_.out HW_.out (by kernel_rfl)) (fun _ _ _ h => h) (Or.inl ⟨by rfl, ?_⟩) hHeld ?_ ?_
  rotate_left
  · rintro w' ⟨s0, s1, s2⟩
    go_simp
    with_reducible rfl
  rotate_left
  · simp only [Act.put, List.setIfInBounds_toArray, List.set_cons_zero, List.set_cons_succ, i64_w, i32_w]
    rfl
  refine take_ (i := 1) (N := some 31) (v := ?_) (a' := ?_) #[true, true, true, false, false, false, false] rfl rfl (take_ofW HT_.out HW_.out (by kernel_rfl)) (fun _ _ _ h => h) (Or.inl ⟨by rfl, ?_⟩) hHeld ?_ ?_
  rotate_left
  · rintro w' ⟨s0, s1, s2⟩
    go_simp
    with_reducible rfl
  rotate_left
  · simp only [Act.put, List.setIfInBounds_toArray, List.set_cons_zero, List.set_cons_succ, i64_w, i32_w]
    rfl
  refine one_ (i := 3) (N := some 33) #[true, true, true, true, false, false, false] rfl rfl (one_of HT_.out (by kernel_rfl)) (by decide) (fun K hK => ?_)
  refine goes_ Try.func70 (by kernel_rfl) rfl #[.agg #[.int .i64 id, .int .i64 n, .slice A9 xs.length c9], .slice A8 fr.length c8] (by rfl) rfl rfl (by (try simp only [List.map_toArray, List.map_cons, List.map_nil]); first | done | rfl) ?_
  refine (messages70 id n A9 xs c9 A8 c8 fr _ HMO.out.h1 HMO.out.h2 (Int.le_trans HMO.out.h1 HMO.out.h2) HMO.out.h3 (Kd.R_reads' HPd.out).2.2 (Kd.R_reads' HPd.out).2.1 (Kd.R_reads' HFd.out).2.2 (by omega)).mono ?_
  obtain ⟨ms, hms⟩ : ∃ ms, (if n = 1 then [] else msgsTo id n fr (2 * n.toNat)) = ms := ⟨_, rfl⟩
  rw [hms]
  have HMS : Aside0 (msgsAll id n fr = ms) := ⟨hms⟩
  clear hms
  rintro e w6 ⟨v2, rfl, ho, hb⟩
  refine ⟨_, rfl, ?_⟩
  have n0_ := Aside0.mk (Kd.R_below HPd.out hb)
  have n2_ := Aside0.mk (blk_below BBd.out hb)
  have n3_ := Aside0.mk (blk_below BAd.out hb)
  have HM6 := Aside0.mk (Kd.S_lower ho HBd.out.size)
  have n4_ := Aside0.mk (below_step HBd.out hb)
  clear HPd HFd BBd HBd BAd ho hb
  have HPd := n0_
  have BBd := n2_
  have BAd := n3_
  have HBd := n4_
  clear n0_ n2_ n3_ n4_
  obtain ⟨A7, c7, e7⟩ := Kd.S_slice HM6.out
  subst e7
  refine hK.out _ _ ⟨(blk_cell BAd.out 0).trans rfl, (blk_cell BAd.out 1).trans rfl, (blk_cell BAd.out 2).trans rfl⟩ (fun hHeld => ?_)
  clear hK K
  refine norm_ (a' := ?_) ?_ ?_
  rotate_left
  · show Act.put _ (some 33) _ = _
    simp only [Act.put, List.setIfInBounds_toArray, List.set_cons_zero, List.set_cons_succ, i64_w, i32_w]
    rfl
  have k0_ : w6.cell? ⟨w.heap.size + 1, 0, none⟩ = some (.int .i64 0) := (blk_cell BBd.out 0).trans rfl
  have k1_ : w6.cell? ⟨w.heap.size + 1, 1, none⟩ = some (.int .i64 0) := (blk_cell BBd.out 1).trans rfl
  have k2_ : w6.cell? ⟨w.heap.size + 1, 2, none⟩ = some (.slice none 0 0) := (blk_cell BBd.out 2).trans rfl
  have l0_ := blk_frozen BBd.out 0
  have l1_ := blk_frozen BBd.out 1
  have l2_ := blk_frozen BBd.out 2
  refine one_ (i := 4) (N := none) #[true, true, true, true, true, false, false] rfl rfl (one_of HT_.out (by kernel_rfl)) (by decide) (fun K hK => ?_)
  refine skip_ (w1 := ((w6.setCell ⟨w.heap.size + 1, 0, none⟩ (.int .i64 id)).setCell ⟨w.heap.size + 1, 1, none⟩ (.int .i64 n)).setCell ⟨w.heap.size + 1, 2, none⟩ (.slice A9 xs.length c9)) (by rfl) rfl ?_ ?_
  · go_simp
    done
  refine hK.out _ _ ⟨(blk_cell (blk_far (blk_far (blk_far BAd.out (p := ⟨w.heap.size + 1, 0, none⟩) (by simp) (.int .i64 id)) (p := ⟨w.heap.size + 1, 1, none⟩) (by simp) (.int .i64 n)) (p := ⟨w.heap.size + 1, 2, none⟩) (by simp) (.slice A9 xs.length c9)) 0).trans rfl, (blk_cell (blk_far (blk_far (blk_far BAd.out (p := ⟨w.heap.size + 1, 0, none⟩) (by simp) (.int .i64 id)) (p := ⟨w.heap.size + 1, 1, none⟩) (by simp) (.int .i64 n)) (p := ⟨w.heap.size + 1, 2, none⟩) (by simp) (.slice A9 xs.length c9)) 1).trans rfl, (blk_cell (blk_far (blk_far (blk_far BAd.out (p := ⟨w.heap.size + 1, 0, none⟩) (by simp) (.int .i64 id)) (p := ⟨w.heap.size + 1, 1, none⟩) (by simp) (.int .i64 n)) (p := ⟨w.heap.size + 1, 2, none⟩) (by simp) (.slice A9 xs.length c9)) 2).trans rfl⟩ (fun hHeld => ?_)
  clear hK K
  refine pure_ (i := 5) (N := some 7) (v := ?_) (a' := ?_) #[true, true, true, true, true, true, false] rfl rfl (any_of HT_.out (by kernel_rfl)) (fun _ _ _ h => h) (Or.inl ⟨by rfl, ?_⟩) ?_ ?_
  rotate_left
  · intro w'
    go_simp
    with_reducible rfl
  rotate_left
  · simp only [Act.put, List.setIfInBounds_toArray, List.set_cons_zero, List.set_cons_succ, i64_w, i32_w]
    rfl
  refine pure_ (i := 6) (N := some 8) (v := ?_) (a' := ?_) #[true, true, true, true, true, true, true] rfl rfl (any_of HT_.out (by kernel_rfl)) (fun _ _ _ h => h) (Or.inl ⟨by rfl, ?_⟩) ?_ ?_
  rotate_left
  · intro w'
    go_simp
    with_reducible rfl
  rotate_left
  · simp only [Act.put, List.setIfInBounds_toArray, List.set_cons_zero, List.set_cons_succ, i64_w, i32_w]
    rfl
  refine done_ (done_of HT_.out (by kernel_rfl)) ?_
  go_wp2
  have Q1 := blk_put BBd.out (cs' := #[.int .i64 id, .int .i64 0, .slice none 0 0]) 0 (.int .i64 id) rfl
  have Q2 := blk_put Q1 (cs' := #[.int .i64 id, .int .i64 n, .slice none 0 0]) 1 (.int .i64 n) rfl
  have Q3 := blk_put Q2 (cs' := #[.int .i64 id, .int .i64 n, .slice A9 xs.length c9]) 2 (.slice A9 xs.length c9) rfl
  refine bodyPost_ret (results_ctt rfl _ _ (w.heap.size + 1) 63 #[.int .i64 id, .int .i64 n, .slice A9 xs.length c9] (0, 0) _ rfl Q3 Try.underlying63 rfl (by kernel_rfl)) rfl ?_
  refine ⟨_, _, fr, rfl, ?_, ?_, by rw [HY1.out]; exact HPM.out, HST.out, ?_⟩
  · rw [HX1.out]
    exact Kd.R_set (Kd.R_set (Kd.R_set HPd.out BBd.out (by decide) 0 _) Q1 (by decide) 1 _) Q2 (by decide) 2 _
  · rw [HMS.out]
    exact Kd.S_set (Kd.S_set (Kd.S_set HM6.out BBd.out (by decide) 0 _) Q1 (by decide) 1 _) Q2 (by decide) 2 _
  · exact below_set (below_set (below_set HBd.out (by omega)) (by omega)) (by omega)
end Go.Proofs.Ytkpngcppijgeeaa.H
