import Derived.Test.YtkpngcppijgeeaaH12
import Derived.Test.YtkpngcppijgeeaaPFetchExactx3
import Derived.Test.YtkpngcppijgeeaaPFetchExactx2
set_option linter.unusedVariables false
set_option linter.unusedSimpArgs false
namespace Go.Proofs.Ytkpngcppijgeeaa.H
open Go.RowKit Go.Lib Go.Proofs.YtkpngcppijgeeaaW.PrintWords Go.Proofs.YtkpngcppijgeeaaW.PrintLast Go.Proofs.YtkpngcppijgeeaaW.PrintMore Go.Proofs.Ytkpngcppijgeeaa.PFetchExact
theorem C_of_blk {w : World} {g : Nat} {cs : Array Value} {l : List Int} (hb : w.heap[g]? = some (.cells cs 3 (0, 0))) (hc : ∀ (j : Nat) (p : Int), l[j]? = some p → cs[j]? = some (Value.int .i64 p)) (hm : l.length ≤ maxLen) : Kd.C (Kd.int .i64) w (some ⟨g, 0, none⟩) l.length l := by
  refine ⟨rfl, hm, fun _ => ⟨_, rfl, fun j p hj => ⟨[.int .i64 p], rfl, rfl, fun i u hu => ?_⟩⟩⟩
  have hi : i = 0 := by rcases i with _ | i <;> simp_all
  subst hi
  simp at hu
  subst hu
  show w.cell? ((⟨g, 0, none⟩ : Addr).add (j * 1 + 0)) = _
  rw [Addr.add_lit]
  have := blk_cell hb j
  rw [show 0 + (j * 1 + 0) = j by omega]
  exact this.trans (hc j p hj)
theorem msg_cells {w : World} {A : Option Addr} {n : Nat} {ms : List S77} (h : Kd.C k77 w A n ms) (i : Nat) (hi : i < n) {k id g : Int} {x : List Int} (hm : ms[i]? = some (msgOf k id g x)) :
    ∃ ad A17 c17, A = some ad ∧ w.cell? (ad.add (i * 18)) = some (.int .i64 k) ∧ w.cell? ⟨(ad.add (i * 18)).block, (ad.add (i * 18)).off + 1, none⟩ = some (.int .i64 id) ∧ w.cell? ⟨(ad.add (i * 18)).block, (ad.add (i * 18)).off + 2, none⟩ = some (.int .i64 g) ∧
      w.cell? ⟨(ad.add (i * 18)).block, (ad.add (i * 18)).off + 17, none⟩ = some (.slice A17 x.length c17) ∧ x.length ≤ c17 ∧ Kd.C (Kd.int .i64) w A17 x.length x := by
  have h' := at_T77 h (i : Int) (by omega) (by omega)
  have e : rd_T77 ms (i : Int) = msgOf k id g x := by simp [rd_T77, List.getD_eq_getElem?_getD, hm]
  rw [e] at h'
  obtain ⟨ad, A6, c6, A9, c9, A10, c10, A13, c13, A14, c14, A16, c16, A17, c17, rfl, h0, h1, h2, h3, h4, h5, h6, h7, h8, h9, h10, h11, h12, h13, h14, h15, h16, h17, _, _, _, _, _, _, _, _, _, _, _, _, hl, hC⟩ := h'
  exact ⟨ad, A17, c17, rfl, by simpa [msgOf] using h0, by simpa [msgOf] using h1, by simpa [msgOf] using h2, by simpa [msgOf] using h17, hl, hC⟩
theorem msg_blk {w : World} {b n : Nat} {ms : List S77} (h : Kd.C k77 w (some ⟨b, 0, none⟩) n ms) (i : Nat) (hi : i < n) {k id g : Int} {x : List Int} (hm : ms[i]? = some (msgOf k id g x)) :
    ∃ A17 c17, w.cell? ⟨b, i * 18, none⟩ = some (.int .i64 k) ∧ w.cell? ⟨b, i * 18 + 1, none⟩ = some (.int .i64 id) ∧ w.cell? ⟨b, i * 18 + 2, none⟩ = some (.int .i64 g) ∧
      w.cell? ⟨b, i * 18 + 17, none⟩ = some (.slice A17 x.length c17) ∧ x.length ≤ c17 ∧ Kd.C (Kd.int .i64) w A17 x.length x := by
  obtain ⟨ad, A17, c17, e, h0, h1, h2, h3, h4, h5⟩ := msg_cells h i hi hm
  obtain rfl := Option.some.inj e
  rw [Addr.add_lit] at h0 h1 h2 h3
  simp only [Nat.zero_add] at h0 h1 h2 h3
  exact ⟨A17, c17, h0, h1, h2, h3, h4, h5⟩
theorem num28 (e : Int) (w : World) : Calls Try.prog 28 #[.int .i64 e] w fun x w' => x = .returned (.int .i64 e) ∧ w' = w := by
  go_enter Try.func28, Try.ntmps28
  go_wp2
  go_ret
  exact ⟨rfl, rfl⟩
theorem new14 : fetch_New.f 6 1 4 = some (1, 4, [], 0) := by rfl
def wr7 : S86 := ⟨8, 7, 0, 0⟩
theorem add7 : addTo 8 [] [7] = ([wr7], [wr7]) := by rfl
theorem msgs7 : msgsAll 1 4 [wr7] = [msgOf 8 1 2 [7]] := by rfl
theorem eq7 : droverref0_EqNumbers.f 4 [7] [7] = some true := by decide +kernel
set_option maxHeartbeats 4000000 in
set_option maxRecDepth 100000 in
theorem wakes30 (w : World) : Calls Try.prog 30 #[] w fun e w' => e = .returned (.bool true) ∧ Below w.heap.size w w' := by
  have hu63 := Try.underlying63
  go_enter Try.func30, Try.ntmps30
  go_wp2_with (first
    | (go_at_call 26; refine (fetch_New.calls 6 1 4 1 4 [] 0 _ new14).mono ?_; rintro e w1 ⟨v1, rfl, hv1, hb1⟩; obtain ⟨A1, c1, e1⟩ := Kd.R_slice hv1; rw [List.length_nil] at e1; subst e1; have HV1 := Aside0.mk hv1; have HB1 := Aside0.mk hb1; clear hv1 hb1))
  have HL7 := Aside0.mk (C_of_blk (l := [7]) (by have := blk_new (w1.alloc (.cells #[.int .i64 1, .int .i64 4, .slice A1 0 c1] 63 (0, 0))) (.cells #[.int .i64 7] 3 (0, 0)); rwa [World.size_alloc] at this) (by intro j p hj; rcases j with _ | j <;> simp_all) (by simp [maxLen]))
  refine (want27 1 4 8 A1 [] c1 (some ⟨w1.heap.size + 1, 0, none⟩) 1 [7] _ (Kd.R_reads' (Kd.R_alloc (Kd.R_alloc HV1.out (.cells #[.int .i64 1, .int .i64 4, .slice A1 0 c1] 63 (0, 0))) (.cells #[.int .i64 7] 3 (0, 0)))).2.2 (Nat.zero_le _) HL7.out (by simp) (by decide +kernel) (by decide) (by decide)).mono ?_
  rintro e w2 ⟨v1, v2, fr, rfl, hR, hS, hperm, _, hb⟩
  rw [add7] at hperm hR
  obtain rfl := List.perm_singleton.1 hperm
  rw [msgs7] at hS
  obtain ⟨g2, c2', e2, _⟩ := Kd.S_form hS (by simp)
  have hC := (Kd.S_reads (hS)).choose_spec.choose_spec
  clear hC
  subst e2
  obtain ⟨A17, c17, _, _, m2, m17, hl17, hC17⟩ := msg_blk (Kd.S_reads' hS).2.2 0 (by simp) (k := 8) (id := 1) (g := 2) (x := [7]) rfl
  obtain ⟨A2, c2, ev1⟩ := Kd.R_slice hR
  subst ev1
  have HB2 := Aside0.mk (below_step (below_alloc (below_alloc HB1.out (.cells #[.int .i64 1, .int .i64 4, .slice A1 0 c1] 63 (0, 0))) (.cells #[.int .i64 7] 3 (0, 0))) hb)
  have n2 : (w2.alloc (.cells #[.int .i64 1, .int .i64 4, .slice A2 1 c2] 63 (0, 0))).cell? ⟨g2, 2, none⟩ = some (.int .i64 2) := pw_cell_below (below_alloc (Below.refl _ _) _) (by simpa using m2)
  have n17 : (w2.alloc (.cells #[.int .i64 1, .int .i64 4, .slice A2 1 c2] 63 (0, 0))).cell? ⟨g2, 17, none⟩ = some (.slice A17 1 c17) := pw_cell_below (below_alloc (Below.refl _ _) _) (by simpa using m17)
  have HC17 := Aside0.mk (Kd.C_below hC17 (below_alloc (below_alloc (Below.refl _ _) (.cells #[.int .i64 1, .int .i64 4, .slice A2 1 c2] 63 (0, 0))) (.cells #[.int .i64 7] 3 (0, 0))))
  have HL2 := Aside0.mk (C_of_blk (l := [7]) (by have := blk_new (w2.alloc (.cells #[.int .i64 1, .int .i64 4, .slice A2 1 c2] 63 (0, 0))) (.cells #[.int .i64 7] 3 (0, 0)); rwa [World.size_alloc] at this) (by intro j p hj; rcases j with _ | j <;> simp_all) (by simp [maxLen]))
  clear hb hR hS hperm m2 m17 hC17
  go_wp2_with (first
    | (go_at_call 28; refine (num28 _ _).mono ?_; rintro e w5 ⟨rfl, rfl⟩)
    | (go_at_call 22; refine (droverref0_EqNumbers.calls 4 A17 c17 [7] (some ⟨w2.heap.size + 1, 0, none⟩) 1 [7] true _ HC17.out (by simpa using hl17) HL2.out (by simp) eq7).mono ?_; rintro e w6 ⟨rfl, hd⟩; have HB6 := Aside0.mk (below_step (below_alloc (below_alloc HB2.out (.cells #[.int .i64 1, .int .i64 4, .slice A2 1 c2] 63 (0, 0))) (.cells #[.int .i64 7] 3 (0, 0))) hd.below); clear hd))
  go_ret
  exact ⟨rfl, HB6.out⟩
end Go.Proofs.Ytkpngcppijgeeaa.H
