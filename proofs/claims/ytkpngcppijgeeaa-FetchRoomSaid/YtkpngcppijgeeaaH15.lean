import Derived.Test.YtkpngcppijgeeaaH14
set_option linter.unusedVariables false
set_option linter.unusedSimpArgs false
namespace Go.Proofs.Ytkpngcppijgeeaa.H
open Go.RowKit Go.Lib Go.Proofs.YtkpngcppijgeeaaW.PrintWords Go.Proofs.YtkpngcppijgeeaaW.PrintLast Go.Proofs.YtkpngcppijgeeaaW.PrintMore Go.Proofs.Ytkpngcppijgeeaa.PFetchExact
theorem eqF29 (A B : Option Addr) (c d : Nat) (w : World) (hA : Kd.C k86 w A (rowsN 64).length (rowsN 64)) (hc : 64 ≤ c) (hB : Kd.C k86 w B (rowsN 64).length (rowsN 64)) (hd : 64 ≤ d) :
    Calls Try.prog 29 #[.agg #[.int .i64 1, .int .i64 4, .slice A 64 c], .agg #[.int .i64 1, .int .i64 4, .slice B 64 d]] w fun e w' => e = .returned (.bool true) ∧ Below w.heap.size w w' := by
  have h := droverref0_EqFetch.calls 70 1 4 A c (rowsN 64) 1 4 B d (rowsN 64) true w hA (by rw [rowsN_length]; exact hc) hB (by rw [rowsN_length]; exact hd) eqF
  rwa [rowsN_length] at h
theorem eqN22 (A B : Option Addr) (c d : Nat) (w : World) (hA : Kd.C (Kd.int .i64) w A (nums 64).length (nums 64)) (hc : 64 ≤ c) (hB : Kd.C (Kd.int .i64) w B (nums 64).length (nums 64)) (hd : 64 ≤ d) :
    Calls Try.prog 22 #[.slice A 64 c, .slice B 64 d] w fun e w' => e = .returned (.bool true) ∧ Below w.heap.size w w' := by
  have h := droverref0_EqNumbers.calls 70 A c (nums 64) B d (nums 64) true w hA (by rw [nums_length]; exact hc) hB (by rw [nums_length]; exact hd) eqR
  rw [nums_length] at h
  exact h.mono fun _ _ h => ⟨h.1, h.2.below⟩
theorem num28b (e : Int) (w : World) : Calls Try.prog 28 #[.int .i64 e] w fun x w' => x = .returned (.int .i64 e) ∧ w = w' := (num28 e w).mono fun _ _ h => ⟨h.1, h.2.symm⟩
def T18 : Bool × List (List Nat × List Nat) := (true, [([], []), ([], []), ([1], [1]), ([0, 2], [0, 2]), ([3], [3]), ([4], [4]), ([4], [4]), ([4], [4]), ([], []), ([8, 5, 3, 0, 1, 2, 3, 4, 5, 8], [5, 8]), ([6, 9, 0, 1, 2, 3, 4, 5, 6, 8, 9], [6]), ([7, 10, 0, 1, 2, 3, 4, 5, 6, 7, 8, 9, 10], [7])])
def B18 : List Nat := [0, 0, 2, 7, 15, 31, 31, 31, 0, 319, 895, 2047]
theorem tab18 : rtab .any (opsOf Try.f4 18) = T18 := by kernel_rfl
theorem bits18 : waitsOk T18.2 B18 = true := by kernel_rfl
set_option maxHeartbeats 8000000 in
set_option maxRecDepth 100000 in
theorem room4 (x0 x1 x2 : Value) (A : Option Addr) (n c : Nat) (w : World) : Calls Try.prog 4 #[.agg #[x0, x1, x2, .slice A n c]] w fun e w' => e = .returned (.bool true) ∧ Below w.heap.size w w' := by
  have hu63 := Try.underlying63
  have hu66 := Try.underlying66
  go_enter Try.func4, Try.ntmps4
  go_wp2_with (first
    | (go_at_call 26; refine (fetch_New.calls 6 1 4 1 4 [] 0 _ new14).mono ?_; rintro e w1 ⟨v1, rfl, hv1, hb1⟩; obtain ⟨A1, c1, e1⟩ := Kd.R_slice hv1; rw [List.length_nil] at e1; subst e1; have HV1 := Aside0.mk hv1; have HP1 := Aside0.mk (blk_below (blk_new w (.cells #[x0, x1, x2, .slice A n c] 66 (0, 0))) hb1); have HB1 := Aside0.mk (below_step (below_alloc (Below.refl _ _) (.cells #[x0, x1, x2, .slice A n c] 66 (0, 0))) hb1); clear hv1 hb1))
  obtain ⟨w3, hw3⟩ : ∃ w3, w1.alloc (.cells #[.int .i64 1, .int .i64 4, .slice A1 0 c1] 63 (0, 0)) = w3 := ⟨_, rfl⟩
  have n0_ := Aside0.mk (blk_alloc HP1.out (.cells #[.int .i64 1, .int .i64 4, .slice A1 0 c1] 63 (0, 0)))
  have n1_ := Aside0.mk (blk_new w1 (.cells #[.int .i64 1, .int .i64 4, .slice A1 0 c1] 63 (0, 0)))
  have n2_ := Aside0.mk (below_alloc HB1.out (.cells #[.int .i64 1, .int .i64 4, .slice A1 0 c1] 63 (0, 0)))
  have n3_ := Aside0.mk (Kd.R_lower (Kd.R_alloc HV1.out (.cells #[.int .i64 1, .int .i64 4, .slice A1 0 c1] 63 (0, 0))) (show w.heap.size ≤ _ by simp))
  have hb3 : w1.heap.size ≥ w.heap.size + 1 := by have := HP1.out; have := blk_lt this; omega
  rw [hw3] at n0_ n1_ n2_ n3_ ⊢
  have HP3 := n0_
  have HF3 := n1_
  have HB3 := n2_
  have HV3 := n3_
  obtain ⟨b3, hb3'⟩ : ∃ b3, w1.heap.size = b3 := ⟨_, rfl⟩
  rw [hb3'] at HF3 hb3 ⊢
  clear n0_ n1_ n2_ n3_ HP1 HV1 HB1 hw3 hb3'
  go_loopw [5, 6] (fun u i W => ∃ j : Nat, i = .int .i64 ((j : Int) + 1) ∧ j ≤ 74 ∧ Aside0 (Kd.R (Kd.int .i64) 3 W w3.heap.size (fun _ => True) u (nums j)) ∧ Aside0 (Below w3.heap.size w3 W)) (fun u i _ => 75 - (intOf i).toNat)
  case atStart => exact ⟨0, rfl, by omega, ⟨Kd.R_nil _ _ _ _ _⟩, ⟨Below.refl _ _⟩⟩
  case round =>
    obtain ⟨j, rfl, hj, HA, HB⟩ := hrel
    by_cases hlt : j < 74
    · have hns := Aside0.mk (nums_succ j)
      have hnl := nums_length j
      go_wp2_with (first
        | (at_builtin; refine Kd.R_append (Kd.int .i64) (w0 := w3) w3.heap.size rfl (.tmp 25) (.tmp 27) 26 3 (.int .i64 0) 8 rfl Try.underlying26 info3 rfl (by decide) (by omega) u5 (nums j) ((j : Int) + 1) [.int .i64 ((j : Int) + 1)] (fun _ => True) (fun _ => False) rfl rfl rfl (fun _ hk => hk.elim) (fun _ _ => trivial) HA.out HB.out HB.out.size (by omega) ?_; intro v6 w6 ho hb6 hg6 hat; rw [← hns.out] at ho; have HA6 := Aside0.mk ho; have HB6 := Aside0.mk hb6; clear ho hg6 hat hb6))
      go_roundw
      case rel => exact ⟨j + 1, by go_num, by omega, HA6, HB6⟩
      case measure => simp [intOf]; omega
    · obtain rfl : j = 74 := by omega
      obtain ⟨Aa, ca, ea, hca, hCa⟩ := Kd.R_reads HA.out
      rw [nums_length] at ea hca hCa
      subst ea
      have HF4 := Aside0.mk (blk_below HF3.out HB.out)
      have HP4 := Aside0.mk (blk_below HP3.out HB.out)
      have HB4 := Aside0.mk (below_step HB3.out HB.out)
      have HV4 := Aside0.mk (Kd.R_below HV3.out HB.out)
      have HA4 := HA
      have HC4 := Aside0.mk hCa
      have hw3 := HB3.out.size
      have hwr := HB.out.size
      clear hCa HA HB HB3 HV3 HP3 HF3
      have a0_ : wr.cell? ⟨b3, 0, none⟩ = some (.int .i64 1) := (blk_cell HF4.out 0).trans rfl
      have a1_ : wr.cell? ⟨b3, 1, none⟩ = some (.int .i64 4) := (blk_cell HF4.out 1).trans rfl
      have a2_ : wr.cell? ⟨b3, 2, none⟩ = some (.slice A1 0 c1) := (blk_cell HF4.out 2).trans rfl
      have z0_ := blk_frozen HF4.out 0
      have z1_ := blk_frozen HF4.out 1
      have z2_ := blk_frozen HF4.out 2
      go_wp2_with (first
        | (go_at_call 28; refine (num28b _ _).mono ?_; rintro e w9 ⟨rfl, rfl⟩)
        | (go_at_call 27; refine (want27 1 4 8 A1 [] c1 Aa ca (nums 74) _ (Kd.R_reads' HV4.out).2.2 (Nat.zero_le _) (by rw [nums_length]; exact HC4.out) (by rw [nums_length]; omega) mayR0 (by decide) digR).mono ?_; rintro e w5 ⟨v9, v7, fr, rfl, hR, hS, hperm, hsort, hb⟩; rw [addR] at hR hperm; obtain rfl := perm_sorted sortedR hperm hsort; rw [msgsR] at hS; obtain ⟨A9, c9, e9⟩ := Kd.R_slice hR; rw [rowsN_length] at e9; obtain ⟨g7, c7, e7, _⟩ := Kd.S_form hS (by simp [msR]); rw [show msR.length = 4 from rfl] at e7; subst e9; subst e7; have HR5 := Aside0.mk hR; have HS5 := Aside0.mk hS; have HF5 := Aside0.mk (blk_below HF4.out hb); have HP5 := Aside0.mk (blk_below HP4.out hb); have HB5 := Aside0.mk (below_step HB4.out hb); have HA5 := Aside0.mk (Kd.R_below HA4.out hb); have b0_ : w5.cell? ⟨b3, 0, none⟩ = some (.int .i64 1) := (blk_cell HF5.out 0).trans rfl; have b1_ : w5.cell? ⟨b3, 1, none⟩ = some (.int .i64 4) := (blk_cell HF5.out 1).trans rfl; have b2_ : w5.cell? ⟨b3, 2, none⟩ = some (.slice A1 0 c1) := (blk_cell HF5.out 2).trans rfl; have y0_ := blk_frozen HF5.out 0; have y1_ := blk_frozen HF5.out 1; have y2_ := blk_frozen HF5.out 2; clear hR hS hperm hsort hb))
      have Q1 := blk_put HF5.out (cs' := #[.int .i64 1, .int .i64 4, .slice A1 0 c1]) 0 (.int .i64 1) rfl
      have Q2 := blk_put Q1 (cs' := #[.int .i64 1, .int .i64 4, .slice A1 0 c1]) 1 (.int .i64 4) rfl
      have Q3 := blk_put Q2 (cs' := #[.int .i64 1, .int .i64 4, .slice A9 64 c9]) 2 (.slice A9 64 c9) rfl
      have HR6 := Aside0.mk (Kd.R_set (Kd.R_set (Kd.R_set HR5.out HF5.out (by decide) 0 (.int .i64 1)) Q1 (by decide) 1 (.int .i64 4)) Q2 (by decide) 2 (.slice A9 64 c9))
      have HS6 := Aside0.mk (Kd.S_set (Kd.S_set (Kd.S_set HS5.out HF5.out (by decide) 0 (.int .i64 1)) Q1 (by decide) 1 (.int .i64 4)) Q2 (by decide) 2 (.slice A9 64 c9))
      have HA6 := Aside0.mk (Kd.R_set (Kd.R_set (Kd.R_set HA5.out HF5.out (by decide) 0 (.int .i64 1)) Q1 (by decide) 1 (.int .i64 4)) Q2 (by decide) 2 (.slice A9 64 c9))
      have HP6 := Aside0.mk (blk_far (blk_far (blk_far HP5.out (p := ⟨b3, 0, none⟩) (by show w.heap.size ≠ b3; omega) (.int .i64 1)) (p := ⟨b3, 1, none⟩) (by show w.heap.size ≠ b3; omega) (.int .i64 4)) (p := ⟨b3, 2, none⟩) (by show w.heap.size ≠ b3; omega) (.slice A9 64 c9))
      have HB6 := Aside0.mk (below_set (j := 2) (v := .slice A9 64 c9) (below_set (j := 1) (v := .int .i64 4) (below_set (j := 0) (v := .int .i64 1) HB5.out (show w.heap.size ≤ b3 by omega)) (show w.heap.size ≤ b3 by omega)) (show w.heap.size ≤ b3 by omega))
      have HF6 := Aside0.mk Q3
      clear Q1 Q2 Q3 HR5 HS5 HF5 HP5 HB5 HA5 HC4 HV4 HF4 HP4 HB4 HA4
      generalize ((w5.setCell ⟨b3, 0, none⟩ (.int .i64 1)).setCell ⟨b3, 1, none⟩ (.int .i64 4)).setCell ⟨b3, 2, none⟩ (.slice A9 64 c9) = w6 at HR6 HS6 HA6 HP6 HB6 HF6 ⊢
      have HRC := Aside0.mk (Kd.R_reads' HR6.out).2.2
      have HSC := Aside0.mk (Kd.S_reads' HS6.out).2.2
      have HAC := Aside0.mk (Kd.R_reads' HA6.out).2.2
      have hc9 := (Kd.R_reads' HR6.out).2.1
      have hca2 := (Kd.R_reads' HA6.out).2.1
      clear HR6 HS6 HA6
      go_loopw [9, 10] (fun u i W => ∃ j : Nat, i = .int .i64 j ∧ j ≤ 4 ∧ Aside0 (Kd.R (Kd.int .i64) 3 W w6.heap.size (fun _ => True) u ((nums 64).take (16 * j))) ∧ Aside0 (Below w6.heap.size w6 W)) (fun u i _ => 4 - (intOf i).toNat)
      case atStart => exact ⟨0, rfl, by omega, ⟨Kd.R_nil _ _ _ _ _⟩, ⟨Below.refl _ _⟩⟩
      case round =>
        obtain ⟨j, rfl, hj4, HT, HBT⟩ := hrel
        by_cases hlt4 : j < 4
        · have hmj : msR[j]? = some (msgOf 8 1 2 (piece (nums 64) j)) := by
            rcases j with _ | _ | _ | _ | j
            · rfl
            · rfl
            · rfl
            · rfl
            · omega
          obtain ⟨A17, c17, m0, m1, m2, m17, hl17, hC17⟩ := msg_blk (Kd.C_below HSC.out HBT.out) j (by show j < 4; omega) hmj
          have hpl : (piece (nums 64) j).length = 16 := by rw [piece_len, nums_length]; omega
          rw [hpl] at m17 hl17 hC17
          have hps := Aside0.mk (piece_snoc (nums 64) j)
          have htl : ((nums 64).take (16 * j)).length ≤ 64 := by rw [List.length_take, nums_length]; omega
          have HC17 := Aside0.mk hC17
          clear hC17 hmj hpl m1
          go_wp2_with (first
            | (at_builtin; refine Kd.R_append_rows (Kd.int .i64) (Rr := (Kd.int .i64).K wr) (w0 := w6) w6.heap.size rfl _ _ 26 3 (.int .i64 0) 8 rfl Try.underlying26 info3 rfl (by decide) (by decide) u9 ((nums 64).take (16 * j)) (piece (nums 64) j) A17 16 c17 (fun _ => True) (fun _ => False) rfl rfl HT.out HC17.out (fun _ _ h => h) (fun _ hk => hk.elim) (fun _ _ => trivial) HBT.out HBT.out.size (by omega) ?_; intro v8 w8 ho hb8 hg8 hat8; rw [hps.out] at ho; have HT8 := Aside0.mk ho; have HB8 := Aside0.mk hb8; clear ho hb8 hg8 hat8))
          go_roundw
          case rel => exact ⟨j + 1, by go_num, by omega, HT8, HB8⟩
          case measure => simp [intOf]; omega
        · obtain rfl : j = 4 := by omega
          have HRw := Aside0.mk (Kd.C_below HRC.out HBT.out)
          have HFw := Aside0.mk (blk_below HF6.out HBT.out)
          have HPw := Aside0.mk (blk_below HP6.out HBT.out)
          have HBw := Aside0.mk (below_step HB6.out HBT.out)
          have HAw := Aside0.mk (Kd.C_below HAC.out HBT.out)
          obtain ⟨At, ct, et, hct, hCt⟩ := Kd.R_reads HT.out
          rw [show 16 * 4 = 64 from rfl, nums_take (Nat.le_refl 64)] at et hct hCt
          rw [nums_length] at et hct
          have HTw := Aside0.mk hCt
          subst et
          clear hCt HT HRC HF6 HP6 HB6 HAC
          have e0_ : wr.cell? ⟨b3, 0, none⟩ = some (.int .i64 1) := (blk_cell HFw.out 0).trans rfl
          have e1_ : wr.cell? ⟨b3, 1, none⟩ = some (.int .i64 4) := (blk_cell HFw.out 1).trans rfl
          have e2_ : wr.cell? ⟨b3, 2, none⟩ = some (.slice A9 64 c9) := (blk_cell HFw.out 2).trans rfl
          have HL1 := Aside0.mk (C_of_blk (l := [1]) (blk_new wr (.cells #[.int .i64 1] 3 (0, 0))) (by intro j p hj; rcases j with _ | j <;> simp_all) (by simp [maxLen]))
          go_wp2_with (first
            | (go_at_call 27; refine (want27 1 4 7 A9 (rowsN 64) c9 (some ⟨wr.heap.size, 0, none⟩) 1 [1] _ (Kd.C_below HRw.out (below_alloc (Below.refl _ _) (.cells #[.int .i64 1] 3 (0, 0)))) (by rw [rowsN_length]; exact hc9) HL1.out (by simp) mayR (by decide) (by decide)).mono ?_; rintro e w10 ⟨v11, v12, fr, rfl, hR, hS, hperm, _, hb⟩; rw [addR1] at hR hperm; obtain rfl := List.perm_nil.1 hperm; rw [msgs0] at hS; obtain ⟨A11, c11, e11⟩ := Kd.R_slice hR; obtain ⟨A12, c12, e12⟩ := Kd.S_slice hS; rw [rowsN_length] at e11; rw [List.length_nil] at e12; subst e11; subst e12; have hl11 := (Kd.R_reads' hR).2.1; have HR11 := Aside0.mk (Kd.R_reads' hR).2.2; have HB10 := Aside0.mk (Below.trans (B := wr.heap.size) (below_alloc (Below.refl _ _) (.cells #[.int .i64 1] 3 (0, 0))) (hb.mono (by simp))); clear hR hS hperm hb))
          obtain ⟨w11, hw11⟩ : ∃ w11, w10.alloc (.cells #[.int .i64 1, .int .i64 4, .slice A11 64 c11] 63 (0, 0)) = w11 := ⟨_, rfl⟩
          have hB11 := below_step HB10.out (below_alloc (Below.refl _ _) (.cells #[.int .i64 1, .int .i64 4, .slice A11 64 c11] 63 (0, 0)))
          have hN11 := blk_new w10 (.cells #[.int .i64 1, .int .i64 4, .slice A11 64 c11] 63 (0, 0))
          have hR11 := Kd.C_below HR11.out (below_alloc (Below.refl _ _) (.cells #[.int .i64 1, .int .i64 4, .slice A11 64 c11] 63 (0, 0)))
          obtain ⟨b11, hb11⟩ : ∃ b11, w10.heap.size = b11 := ⟨_, rfl⟩
          rw [hw11] at hB11 hN11 hR11 ⊢
          rw [hb11] at hN11 ⊢
          have n0_ := Aside0.mk (Kd.C_below HRw.out (hB11.trans (below_drew1 (Below.refl _ _))))
          have n1_ := Aside0.mk (blk_drew (blk_below HFw.out hB11))
          have n2_ := Aside0.mk (blk_drew (blk_below HPw.out hB11))
          have n3_ := Aside0.mk (below_drew1 (below_step HBw.out hB11))
          have n4_ := Aside0.mk (Kd.C_below HAw.out (hB11.trans (below_drew1 (Below.refl _ _))))
          have n5_ := Aside0.mk (Kd.C_below HTw.out (hB11.trans (below_drew1 (Below.refl _ _))))
          have n6_ := Aside0.mk (blk_drew hN11)
          have n7_ := Aside0.mk (Kd.C_below hR11 (below_drew1 (Below.refl _ _)))
          clear HRw HFw HPw HBw HAw HTw hB11 hN11 hR11 HR11 HB10 hw11 hb11
          obtain ⟨i03, hi03, _, _, _⟩ := info_parts info3
          have hcut := cut_to (P := Try.prog) 26 3 .i64 Try.underlying26 hi03 Aa 74 ca 5 (by decide) (by decide) hca
          refine start_ (n := 12) (S := fun w' => w'.cell? ⟨b3, 0, none⟩ = some (.int .i64 1) ∧ w'.cell? ⟨b3, 1, none⟩ = some (.int .i64 4) ∧ w'.cell? ⟨b3, 2, none⟩ = some (.slice A9 64 c9)) (ds := []) #[false, false, false, false, false, false, false, false, false, false, false, false] (by kernel_rfl) rfl rfl ⟨(blk_cell n1_.out 0).trans rfl, (blk_cell n1_.out 1).trans rfl, (blk_cell n1_.out 2).trans rfl⟩ (fun hHeld => ?_); refine with_tabW tab18 bits18 (fun HT_ HW_ => ?_)
          generalize w11.drew = w20 at n0_ n1_ n2_ n3_ n4_ n5_ n6_ n7_ hHeld ⊢
          have h5 := Aside0.mk (Kd.C_take (m := 5) n4_.out (by rw [nums_length]; omega))
          rw [nums_take (show 5 ≤ 74 by omega)] at h5
          refine take_ (i := 0) (N := some 94) (v := ?_) (a' := ?_) #[true, false, false, false, false, false, false, false, false, false, false, false] rfl rfl (take_ofW HT_.out HW_.out (by kernel_rfl)) (fun _ _ _ h => h) (Or.inl ⟨by rfl, ?_⟩) hHeld ?_ ?_
          rotate_left
          · rintro w' ⟨s0, s1, s2⟩
            go_simp
            with_reducible rfl
          rotate_left
          · simp only [Act.put, List.setIfInBounds_toArray, List.set_cons_zero, List.set_cons_succ, i64_w, i32_w]
            rfl
          refine pure_ (i := 1) (N := some 95) (v := ?_) (a' := ?_) #[true, true, false, false, false, false, false, false, false, false, false, false] rfl rfl (any_of HT_.out (by kernel_rfl)) (fun _ _ _ h => h) (Or.inl ⟨by rfl, ?_⟩) ?_ ?_
          rotate_left
          · intro w'
            go_simp
            with_reducible rfl
          rotate_left
          · simp only [Act.put, List.setIfInBounds_toArray, List.set_cons_zero, List.set_cons_succ, i64_w, i32_w]
            rfl
          refine pure_ (i := 2) (N := some 96) (v := ?_) (a' := ?_) #[true, true, true, false, false, false, false, false, false, false, false, false] rfl rfl (any_of HT_.out (by kernel_rfl)) (fun _ _ _ h => h) (Or.inl ⟨by rfl, ?_⟩) ?_ ?_
          rotate_left
          · intro w'
            go_simp
            with_reducible rfl
          rotate_left
          · simp only [Act.put, List.setIfInBounds_toArray, List.set_cons_zero, List.set_cons_succ, i64_w, i32_w]
            rfl
          refine join_ (σ := Option Addr × Nat × Option Addr × Nat × Nat) 3 #[true, true, true, true, true, true, true, true, true, false, false, false] (fun s_ => [(97, .tuple #[.agg #[.int .i64 1, .int .i64 4, .slice s_.1 64 s_.2.1], .slice s_.2.2.1 0 s_.2.2.2.1, .int .i64 0]), (93, .tuple #[.agg #[.int .i64 1, .int .i64 4, .slice s_.1 64 s_.2.1], .slice s_.2.2.1 0 s_.2.2.2.1, .int .i64 0]), (98, .agg #[.int .i64 1, .int .i64 4, .slice s_.1 64 s_.2.1]), (99, .slice s_.2.2.1 0 s_.2.2.2.1), (100, .int .i64 0), (14, .pointer (some ⟨s_.2.2.2.2, 0, none⟩))]) (fun s_ w' => (w'.cell? ⟨b3, 0, none⟩ = some (.int .i64 1) ∧ w'.cell? ⟨b3, 1, none⟩ = some (.int .i64 4) ∧ w'.cell? ⟨b3, 2, none⟩ = some (.slice A9 64 c9)) ∧ Aside0 (Kd.R k86 86 w' w20.heap.size (fun _ => True) (.slice s_.1 64 s_.2.1) (rowsN 64)) ∧ Aside0 (w'.heap[s_.2.2.2.2]? = some (.cells #[.int .i64 0, .int .i64 0, .slice none 0 0] 63 (0, 0))) ∧ w20.heap.size ≤ s_.2.2.2.2 ∧ Aside0 (Below w20.heap.size w20 w')) ?cont ?h
          case h =>
            intro hCont
            refine two_ (i := 3) (j := 8) (Ni := some 97) (Nj := some 14) #[true, true, true, true, false, false, false, false, false, false, false, false] #[true, true, true, false, false, false, false, false, true, false, false, false] rfl rfl rfl rfl (two_of HT_.out (by kernel_rfl)) (by decide) (by decide) (fun K hK => ?_) (fun K hK => ?_)
            · skip
              refine goes_ Try.func27 (by kernel_rfl) rfl #[.agg #[.int .i64 1, .int .i64 4, .slice A9 64 c9], .int .i64 8, .slice Aa 5 ca] (by rfl) rfl rfl (by (try simp only [List.map_toArray, List.map_cons, List.map_nil]); first | done | rfl) ?_
              refine (want27 1 4 8 A9 (rowsN 64) c9 Aa ca (nums 5) _ n0_.out (by rw [rowsN_length]; exact hc9) h5.out (by rw [nums_length]; omega) mayR (by decide) (by decide +kernel)).mono ?_
              rintro e w30 ⟨v13, v14, fr, rfl, hR, hS, hperm, _, hb⟩
              rw [addR5] at hR hperm
              obtain rfl := List.perm_nil.1 hperm
              rw [msgs0] at hS
              obtain ⟨A13, c13, e13⟩ := Kd.R_slice hR
              obtain ⟨A14, c14, e14⟩ := Kd.S_slice hS
              rw [rowsN_length] at e13
              rw [List.length_nil] at e14
              subst e13
              subst e14
              have hl13 := (Kd.R_reads' hR).2.1
              have hC13 := (Kd.R_reads' hR).2.2
              refine ⟨_, rfl, ?_⟩
              have m1_ := blk_below n1_.out hb
              refine hK.out _ _ ⟨(blk_cell m1_ 0).trans rfl, (blk_cell m1_ 1).trans rfl, (blk_cell m1_ 2).trans rfl⟩ (fun hHeld => ?_)
              clear hK K
              refine norm_ (a' := ?_) ?_ ?_
              rotate_left
              · show Act.put _ (some 97) _ = _
                simp only [Act.put, List.setIfInBounds_toArray, List.set_cons_zero, List.set_cons_succ, i64_w, i32_w]
                rfl
              refine pure_ (i := 4) (N := some 93) (v := ?_) (a' := ?_) #[true, true, true, true, true, false, false, false, false, false, false, false] rfl rfl (any_of HT_.out (by kernel_rfl)) (fun _ _ _ h => h) (Or.inl ⟨by rfl, ?_⟩) ?_ ?_
              rotate_left
              · intro w'
                go_simp
                with_reducible rfl
              rotate_left
              · simp only [Act.put, List.setIfInBounds_toArray, List.set_cons_zero, List.set_cons_succ, i64_w, i32_w]
                rfl
              refine pure_ (i := 5) (N := some 98) (v := ?_) (a' := ?_) #[true, true, true, true, true, true, false, false, false, false, false, false] rfl rfl (any_of HT_.out (by kernel_rfl)) (fun _ _ _ h => h) (Or.inl ⟨by rfl, ?_⟩) ?_ ?_
              rotate_left
              · intro w'
                go_simp
                with_reducible rfl
              rotate_left
              · simp only [Act.put, List.setIfInBounds_toArray, List.set_cons_zero, List.set_cons_succ, i64_w, i32_w]
                rfl
              refine pure_ (i := 6) (N := some 99) (v := ?_) (a' := ?_) #[true, true, true, true, true, true, true, false, false, false, false, false] rfl rfl (any_of HT_.out (by kernel_rfl)) (fun _ _ _ h => h) (Or.inl ⟨by rfl, ?_⟩) ?_ ?_
              rotate_left
              · intro w'
                go_simp
                with_reducible rfl
              rotate_left
              · simp only [Act.put, List.setIfInBounds_toArray, List.set_cons_zero, List.set_cons_succ, i64_w, i32_w]
                rfl
              refine pure_ (i := 7) (N := some 100) (v := ?_) (a' := ?_) #[true, true, true, true, true, true, true, true, false, false, false, false] rfl rfl (any_of HT_.out (by kernel_rfl)) (fun _ _ _ h => h) (Or.inl ⟨by rfl, ?_⟩) ?_ ?_
              rotate_left
              · intro w'
                go_simp
                with_reducible rfl
              rotate_left
              · simp only [Act.put, List.setIfInBounds_toArray, List.set_cons_zero, List.set_cons_succ, i64_w, i32_w]
                rfl
              refine one_ (i := 8) (N := some 14) #[true, true, true, true, true, true, true, true, true, false, false, false] rfl rfl (one_of HT_.out (by kernel_rfl)) (by decide) (fun K hK => ?_)
              refine value_ (w1 := ?_) (v := ?_) (by rfl) rfl ?_ ?_
              rotate_left 2
              · go_simp
                constructor
                · rfl
                · rfl
              refine hK.out _ _ ⟨(blk_cell (blk_alloc m1_ _) 0).trans rfl, (blk_cell (blk_alloc m1_ _) 1).trans rfl, (blk_cell (blk_alloc m1_ _) 2).trans rfl⟩ (fun hHeld => ?_)
              clear hK K
              refine norm_ (a' := ?_) ?_ ?_
              rotate_left
              · show Act.put _ (some 14) _ = _
                simp only [Act.put, List.setIfInBounds_toArray, List.set_cons_zero, List.set_cons_succ, i64_w, i32_w]
                rfl
              exact norm_ (by simp only [putAll, Act.put, List.setIfInBounds_toArray, List.set_cons_zero, List.set_cons_succ]) (hCont (A13, c13, A14, c14, w30.heap.size) _ ⟨hHeld, ⟨Kd.R_alloc hR _⟩, ⟨blk_new _ _⟩, hb.size, ⟨below_alloc hb _⟩⟩)
            · skip
              refine value_ (w1 := ?_) (v := ?_) (by rfl) rfl ?_ ?_
              rotate_left 2
              · go_simp
                constructor
                · rfl
                · rfl
              refine hK.out _ _ ⟨(blk_cell (blk_alloc n1_.out _) 0).trans rfl, (blk_cell (blk_alloc n1_.out _) 1).trans rfl, (blk_cell (blk_alloc n1_.out _) 2).trans rfl⟩ (fun hHeld => ?_)
              clear hK K
              refine norm_ (a' := ?_) ?_ ?_
              rotate_left
              · show Act.put _ (some 14) _ = _
                simp only [Act.put, List.setIfInBounds_toArray, List.set_cons_zero, List.set_cons_succ, i64_w, i32_w]
                rfl
              refine one_ (i := 3) (N := some 97) #[true, true, true, true, false, false, false, false, true, false, false, false] rfl rfl (one_of HT_.out (by kernel_rfl)) (by decide) (fun K hK => ?_)
              refine goes_ Try.func27 (by kernel_rfl) rfl #[.agg #[.int .i64 1, .int .i64 4, .slice A9 64 c9], .int .i64 8, .slice Aa 5 ca] (by rfl) rfl rfl (by (try simp only [List.map_toArray, List.map_cons, List.map_nil]); first | done | rfl) ?_
              refine (want27 1 4 8 A9 (rowsN 64) c9 Aa ca (nums 5) _ (Kd.C_below n0_.out (below_alloc (Below.refl _ _) _)) (by rw [rowsN_length]; exact hc9) (Kd.C_below h5.out (below_alloc (Below.refl _ _) _)) (by rw [nums_length]; omega) mayR (by decide) (by decide +kernel)).mono ?_
              rintro e w30 ⟨v13, v14, fr, rfl, hR, hS, hperm, _, hb⟩
              rw [addR5] at hR hperm
              obtain rfl := List.perm_nil.1 hperm
              rw [msgs0] at hS
              obtain ⟨A13, c13, e13⟩ := Kd.R_slice hR
              obtain ⟨A14, c14, e14⟩ := Kd.S_slice hS
              rw [rowsN_length] at e13
              rw [List.length_nil] at e14
              subst e13
              subst e14
              have hl13 := (Kd.R_reads' hR).2.1
              have hC13 := (Kd.R_reads' hR).2.2
              refine ⟨_, rfl, ?_⟩
              have m1_ := blk_below (blk_alloc n1_.out _) hb
              refine hK.out _ _ ⟨(blk_cell m1_ 0).trans rfl, (blk_cell m1_ 1).trans rfl, (blk_cell m1_ 2).trans rfl⟩ (fun hHeld => ?_)
              clear hK K
              refine norm_ (a' := ?_) ?_ ?_
              rotate_left
              · show Act.put _ (some 97) _ = _
                simp only [Act.put, List.setIfInBounds_toArray, List.set_cons_zero, List.set_cons_succ, i64_w, i32_w]
                rfl
              refine pure_ (i := 4) (N := some 93) (v := ?_) (a' := ?_) #[true, true, true, true, true, false, false, false, true, false, false, false] rfl rfl (any_of HT_.out (by kernel_rfl)) (fun _ _ _ h => h) (Or.inl ⟨by rfl, ?_⟩) ?_ ?_
              rotate_left
              · intro w'
                go_simp
                with_reducible rfl
              rotate_left
              · simp only [Act.put, List.setIfInBounds_toArray, List.set_cons_zero, List.set_cons_succ, i64_w, i32_w]
                rfl
              refine pure_ (i := 5) (N := some 98) (v := ?_) (a' := ?_) #[true, true, true, true, true, true, false, false, true, false, false, false] rfl rfl (any_of HT_.out (by kernel_rfl)) (fun _ _ _ h => h) (Or.inl ⟨by rfl, ?_⟩) ?_ ?_
              rotate_left
              · intro w'
                go_simp
                with_reducible rfl
              rotate_left
              · simp only [Act.put, List.setIfInBounds_toArray, List.set_cons_zero, List.set_cons_succ, i64_w, i32_w]
                rfl
              refine pure_ (i := 6) (N := some 99) (v := ?_) (a' := ?_) #[true, true, true, true, true, true, true, false, true, false, false, false] rfl rfl (any_of HT_.out (by kernel_rfl)) (fun _ _ _ h => h) (Or.inl ⟨by rfl, ?_⟩) ?_ ?_
              rotate_left
              · intro w'
                go_simp
                with_reducible rfl
              rotate_left
              · simp only [Act.put, List.setIfInBounds_toArray, List.set_cons_zero, List.set_cons_succ, i64_w, i32_w]
                rfl
              refine pure_ (i := 7) (N := some 100) (v := ?_) (a' := ?_) #[true, true, true, true, true, true, true, true, true, false, false, false] rfl rfl (any_of HT_.out (by kernel_rfl)) (fun _ _ _ h => h) (Or.inl ⟨by rfl, ?_⟩) ?_ ?_
              rotate_left
              · intro w'
                go_simp
                with_reducible rfl
              rotate_left
              · simp only [Act.put, List.setIfInBounds_toArray, List.set_cons_zero, List.set_cons_succ, i64_w, i32_w]
                rfl
              exact norm_ (by simp only [putAll, Act.put, List.setIfInBounds_toArray, List.set_cons_zero, List.set_cons_succ]) (hCont (A13, c13, A14, c14, w20.heap.size) _ ⟨hHeld, ⟨Kd.R_lower hR (by simp)⟩, ⟨blk_below (blk_new w20 (.cells #[.int .i64 0, .int .i64 0, .slice none 0 0] 63 (0, 0))) hb⟩, Nat.le_refl _, ⟨below_step (below_alloc (Below.refl _ _) _) hb⟩⟩)
          case cont =>
            rintro ⟨A13, c13, A14, c14, b14⟩ w30 ⟨hHeld, hR13, hZ, hb14, hB30⟩
            dsimp only at hR13 hZ hb14
            refine norm_ (a' := ?_) ?_ ?_
            rotate_left
            · show putAll _ _ = _
              simp only [putAll, Act.put, List.setIfInBounds_toArray, List.set_cons_zero, List.set_cons_succ]
              rfl
            have hb3lt := blk_lt n1_.out
            have hb11lt := blk_lt n6_.out
            have k0_ : w30.cell? ⟨b14, 0, none⟩ = some (.int .i64 0) := (blk_cell hZ.out 0).trans rfl
            have k1_ : w30.cell? ⟨b14, 1, none⟩ = some (.int .i64 0) := (blk_cell hZ.out 1).trans rfl
            have k2_ : w30.cell? ⟨b14, 2, none⟩ = some (.slice none 0 0) := (blk_cell hZ.out 2).trans rfl
            have l0_ := blk_frozen hZ.out 0
            have l1_ := blk_frozen hZ.out 1
            have l2_ := blk_frozen hZ.out 2
            have q1 := blk_put hZ.out (cs' := #[.int .i64 1, .int .i64 0, .slice none 0 0]) 0 (.int .i64 1) rfl
            have q2 := blk_put q1 (cs' := #[.int .i64 1, .int .i64 4, .slice none 0 0]) 1 (.int .i64 4) rfl
            have q3 := blk_put q2 (cs' := #[.int .i64 1, .int .i64 4, .slice A13 64 c13]) 2 (.slice A13 64 c13) rfl
            have hB40 : Below w20.heap.size w20 (((w30.setCell ⟨b14, 0, none⟩ (.int .i64 1)).setCell ⟨b14, 1, none⟩ (.int .i64 4)).setCell ⟨b14, 2, none⟩ (.slice A13 64 c13)) := below_set (below_set (below_set hB30.out hb14) hb14) hb14
            have hR40 := Kd.R_set (Kd.R_set (Kd.R_set hR13.out hZ.out (by decide) 0 (.int .i64 1)) q1 (by decide) 1 (.int .i64 4)) q2 (by decide) 2 (.slice A13 64 c13)
            have p1_ := blk_below n1_.out hB40
            refine one_ (i := 9) (N := none) #[true, true, true, true, true, true, true, true, true, true, false, false] rfl rfl (one_of HT_.out (by kernel_rfl)) (by decide) (fun K hK => ?_)
            refine skip_ (w1 := ((w30.setCell ⟨b14, 0, none⟩ (.int .i64 1)).setCell ⟨b14, 1, none⟩ (.int .i64 4)).setCell ⟨b14, 2, none⟩ (.slice A13 64 c13)) (by rfl) rfl ?_ ?_
            · go_simp
              done
            refine hK.out _ _ ⟨(blk_cell p1_ 0).trans rfl, (blk_cell p1_ 1).trans rfl, (blk_cell p1_ 2).trans rfl⟩ (fun hHeld => ?_)
            clear hK K
            refine pure_ (i := 10) (N := some 15) (v := ?_) (a' := ?_) #[true, true, true, true, true, true, true, true, true, true, true, false] rfl rfl (any_of HT_.out (by kernel_rfl)) (fun _ _ _ h => h) (Or.inl ⟨by rfl, ?_⟩) ?_ ?_
            rotate_left
            · intro w'
              go_simp
              with_reducible rfl
            rotate_left
            · simp only [Act.put, List.setIfInBounds_toArray, List.set_cons_zero, List.set_cons_succ, i64_w, i32_w]
              rfl
            refine pure_ (i := 11) (N := some 16) (v := ?_) (a' := ?_) #[true, true, true, true, true, true, true, true, true, true, true, true] rfl rfl (any_of HT_.out (by kernel_rfl)) (fun _ _ _ h => h) (Or.inl ⟨by rfl, ?_⟩) ?_ ?_
            rotate_left
            · intro w'
              go_simp
              with_reducible rfl
            rotate_left
            · simp only [Act.put, List.setIfInBounds_toArray, List.set_cons_zero, List.set_cons_succ, i64_w, i32_w]
              rfl
            refine done_ (done_of HT_.out (by kernel_rfl)) ?_
            have G0 := Aside0.mk (Kd.C_below n0_.out hB40)
            have G1 := Aside0.mk p1_
            have G2 := Aside0.mk (blk_below n2_.out hB40)
            have G3 := Aside0.mk (below_step (show Below w.heap.size w w20 from n3_.out) hB40)
            have G4 := Aside0.mk (Kd.C_below n4_.out hB40)
            have G5 := Aside0.mk (Kd.C_below n5_.out hB40)
            have G6 := Aside0.mk (blk_below n6_.out hB40)
            have G7 := Aside0.mk (Kd.C_below n7_.out hB40)
            have G8 := Aside0.mk q3
            have G9 := Aside0.mk (Kd.R_reads' hR40).2.2
            have hl13 := (Kd.R_reads' hR40).2.1
            clear p1_ q1 q2 q3 hB40 hR40 n0_ n1_ n2_ n3_ n4_ n5_ n6_ n7_ h5 hB30 hR13 hZ k0_ k1_ k2_ l0_ l1_ l2_
            generalize ((w30.setCell ⟨b14, 0, none⟩ (.int .i64 1)).setCell ⟨b14, 1, none⟩ (.int .i64 4)).setCell ⟨b14, 2, none⟩ (.slice A13 64 c13) = w40 at G0 G1 G2 G3 G4 G5 G6 G7 G8 G9 hHeld ⊢
            have h64 := Aside0.mk (Kd.C_take (m := 64) G4.out (by rw [nums_length]; omega))
            rw [nums_take (show 64 ≤ 74 by omega)] at h64
            go_wp2_with (first
              | (go_at_call 28; with_reducible refine (num28b _ _).mono ?_; rintro e w9 ⟨rfl, rfl⟩)
              | (go_at_call 22; with_reducible refine (eqN22 At Aa ct ca _ G5.out hct h64.out (Nat.le_trans (by decide) hca2)).mono ?_; rintro e w41 ⟨rfl, hb⟩; have G0w41 := Aside0.mk (Kd.C_below G0.out hb); have G1w41 := Aside0.mk (blk_below G1.out hb); have G2w41 := Aside0.mk (blk_below G2.out hb); have G3w41 := Aside0.mk (below_step G3.out hb); have G6w41 := Aside0.mk (blk_below G6.out hb); have G7w41 := Aside0.mk (Kd.C_below G7.out hb); have G8w41 := Aside0.mk (blk_below G8.out hb); have G9w41 := Aside0.mk (Kd.C_below G9.out hb); have a0w41 : w41.cell? ⟨b3, 0, none⟩ = some (.int .i64 1) := (blk_cell G1w41.out 0).trans rfl; have a1w41 : w41.cell? ⟨b3, 1, none⟩ = some (.int .i64 4) := (blk_cell G1w41.out 1).trans rfl; have a2w41 : w41.cell? ⟨b3, 2, none⟩ = some (.slice A9 64 c9) := (blk_cell G1w41.out 2).trans rfl; have d0w41 : w41.cell? ⟨b11, 0, none⟩ = some (.int .i64 1) := (blk_cell G6w41.out 0).trans rfl; have d1w41 : w41.cell? ⟨b11, 1, none⟩ = some (.int .i64 4) := (blk_cell G6w41.out 1).trans rfl; have d2w41 : w41.cell? ⟨b11, 2, none⟩ = some (.slice A11 64 c11) := (blk_cell G6w41.out 2).trans rfl; have f0w41 : w41.cell? ⟨b14, 0, none⟩ = some (.int .i64 1) := (blk_cell G8w41.out 0).trans rfl; have f1w41 : w41.cell? ⟨b14, 1, none⟩ = some (.int .i64 4) := (blk_cell G8w41.out 1).trans rfl; have f2w41 : w41.cell? ⟨b14, 2, none⟩ = some (.slice A13 64 c13) := (blk_cell G8w41.out 2).trans rfl; have x3w41 : w41.cell? ⟨w.heap.size, 3, none⟩ = some (.slice A n c) := (blk_cell G2w41.out 3).trans rfl; clear hb)
              | (go_at_call 29; with_reducible refine (eqF29 A11 A9 c11 c9 w41 G7w41.out hl11 G0w41.out hc9).mono ?_; rintro e w42 ⟨rfl, hb⟩; have G0w42 := Aside0.mk (Kd.C_below G0w41.out hb); have G1w42 := Aside0.mk (blk_below G1w41.out hb); have G2w42 := Aside0.mk (blk_below G2w41.out hb); have G3w42 := Aside0.mk (below_step G3w41.out hb); have G6w42 := Aside0.mk (blk_below G6w41.out hb); have G7w42 := Aside0.mk (Kd.C_below G7w41.out hb); have G8w42 := Aside0.mk (blk_below G8w41.out hb); have G9w42 := Aside0.mk (Kd.C_below G9w41.out hb); have a0w42 : w42.cell? ⟨b3, 0, none⟩ = some (.int .i64 1) := (blk_cell G1w42.out 0).trans rfl; have a1w42 : w42.cell? ⟨b3, 1, none⟩ = some (.int .i64 4) := (blk_cell G1w42.out 1).trans rfl; have a2w42 : w42.cell? ⟨b3, 2, none⟩ = some (.slice A9 64 c9) := (blk_cell G1w42.out 2).trans rfl; have d0w42 : w42.cell? ⟨b11, 0, none⟩ = some (.int .i64 1) := (blk_cell G6w42.out 0).trans rfl; have d1w42 : w42.cell? ⟨b11, 1, none⟩ = some (.int .i64 4) := (blk_cell G6w42.out 1).trans rfl; have d2w42 : w42.cell? ⟨b11, 2, none⟩ = some (.slice A11 64 c11) := (blk_cell G6w42.out 2).trans rfl; have f0w42 : w42.cell? ⟨b14, 0, none⟩ = some (.int .i64 1) := (blk_cell G8w42.out 0).trans rfl; have f1w42 : w42.cell? ⟨b14, 1, none⟩ = some (.int .i64 4) := (blk_cell G8w42.out 1).trans rfl; have f2w42 : w42.cell? ⟨b14, 2, none⟩ = some (.slice A13 64 c13) := (blk_cell G8w42.out 2).trans rfl; have x3w42 : w42.cell? ⟨w.heap.size, 3, none⟩ = some (.slice A n c) := (blk_cell G2w42.out 3).trans rfl; clear hb)
              | (go_at_call 29; with_reducible refine (eqF29 A13 A9 c13 c9 w42 G9w42.out hl13 G0w42.out hc9).mono ?_; rintro e w43 ⟨rfl, hb⟩; have G0w43 := Aside0.mk (Kd.C_below G0w42.out hb); have G1w43 := Aside0.mk (blk_below G1w42.out hb); have G2w43 := Aside0.mk (blk_below G2w42.out hb); have G3w43 := Aside0.mk (below_step G3w42.out hb); have G6w43 := Aside0.mk (blk_below G6w42.out hb); have G7w43 := Aside0.mk (Kd.C_below G7w42.out hb); have G8w43 := Aside0.mk (blk_below G8w42.out hb); have G9w43 := Aside0.mk (Kd.C_below G9w42.out hb); have a0w43 : w43.cell? ⟨b3, 0, none⟩ = some (.int .i64 1) := (blk_cell G1w43.out 0).trans rfl; have a1w43 : w43.cell? ⟨b3, 1, none⟩ = some (.int .i64 4) := (blk_cell G1w43.out 1).trans rfl; have a2w43 : w43.cell? ⟨b3, 2, none⟩ = some (.slice A9 64 c9) := (blk_cell G1w43.out 2).trans rfl; have d0w43 : w43.cell? ⟨b11, 0, none⟩ = some (.int .i64 1) := (blk_cell G6w43.out 0).trans rfl; have d1w43 : w43.cell? ⟨b11, 1, none⟩ = some (.int .i64 4) := (blk_cell G6w43.out 1).trans rfl; have d2w43 : w43.cell? ⟨b11, 2, none⟩ = some (.slice A11 64 c11) := (blk_cell G6w43.out 2).trans rfl; have f0w43 : w43.cell? ⟨b14, 0, none⟩ = some (.int .i64 1) := (blk_cell G8w43.out 0).trans rfl; have f1w43 : w43.cell? ⟨b14, 1, none⟩ = some (.int .i64 4) := (blk_cell G8w43.out 1).trans rfl; have f2w43 : w43.cell? ⟨b14, 2, none⟩ = some (.slice A13 64 c13) := (blk_cell G8w43.out 2).trans rfl; have x3w43 : w43.cell? ⟨w.heap.size, 3, none⟩ = some (.slice A n c) := (blk_cell G2w43.out 3).trans rfl; clear hb)
              | (go_at_call 30; with_reducible refine (wakes30 _).mono ?_; rintro e w44 ⟨rfl, hb⟩; have G3w44 := Aside0.mk (below_step G3w43.out hb); clear hb))
            go_ret
            exact ⟨rfl, G3w44.out⟩
end Go.Proofs.Ytkpngcppijgeeaa.H
