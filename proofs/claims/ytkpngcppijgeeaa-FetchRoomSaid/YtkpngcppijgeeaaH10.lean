import Derived.Test.YtkpngcppijgeeaaH9
import Derived.Test.YtkpngcppijgeeaaH3
import Derived.Test.YtkpngcppijgeeaaH5
set_option linter.unusedVariables false
set_option linter.unusedSimpArgs false
namespace Go.Proofs.Ytkpngcppijgeeaa.H
open Go.RowKit Go.Lib Go.Proofs.YtkpngcppijgeeaaW.PrintWords Go.Proofs.YtkpngcppijgeeaaW.PrintLast Go.Proofs.YtkpngcppijgeeaaW.PrintMore Go.Proofs.Ytkpngcppijgeeaa.PFetchExact
/-- A new row put in its place, if there is room and it is new. -/
def insK (xs : List S86) (y : S86) : List S86 := xs.take (posK xs y) ++ y :: xs.drop (posK xs y)
def addStep (k : Int) (p : List S86 × List S86) (d : Int) : List S86 × List S86 :=
  if hasK p.1 ⟨k, d, 0, 0⟩ = true ∨ 64 ≤ p.1.length then p else (insK p.1 ⟨k, d, 0, 0⟩, p.2 ++ [⟨k, d, 0, 0⟩])
def addTo (k : Int) (xs : List S86) (l : List Int) : List S86 × List S86 := l.foldl (addStep k) (xs, [])
def SortedK (xs : List S86) : Prop := xs.Pairwise fun a b => ltK a b = true
theorem ltK_total {a b : S86} (h : ltK a b = false) (k : sameK a b = false) : ltK b a = true := by
  simp [ltK, sameK] at *; omega
theorem posK_split {xs : List S86} (hs : SortedK xs) (y : S86) : (∀ x ∈ xs.take (posK xs y), ltK x y = true) ∧ (∀ x ∈ xs.drop (posK xs y), ltK x y = false) := by
  induction xs with
  | nil => simp
  | cons a xs ih =>
    unfold SortedK at hs
    rw [List.pairwise_cons] at hs
    have ih := ih hs.2
    by_cases ha : ltK a y = true
    · have e : posK (a :: xs) y = posK xs y + 1 := by simp [posK, ha]
      rw [e, List.take_succ_cons, List.drop_succ_cons]
      refine ⟨fun x hx => ?_, ih.2⟩
      rcases List.mem_cons.1 hx with rfl | hx
      · exact ha
      · exact ih.1 x hx
    · have ha' : ltK a y = false := by simpa using ha
      have hall : ∀ x ∈ xs, ltK x y = false := fun x hx => by
        cases h : ltK x y with
        | false => rfl
        | true => exact absurd (ltK_trans (hs.1 x hx) h) ha
      have e : posK (a :: xs) y = 0 := by
        simp only [posK, List.length_eq_zero_iff, List.filter_eq_nil_iff]
        intro x hx
        rcases List.mem_cons.1 hx with rfl | hx
        · simp [ha']
        · simp [hall x hx]
      rw [e]
      refine ⟨by simp, fun x hx => ?_⟩
      rcases List.mem_cons.1 hx with rfl | hx
      · exact ha'
      · exact hall x hx
theorem insK_sorted {xs : List S86} (hs : SortedK xs) {y : S86} (hn : hasK xs y = false) : SortedK (insK xs y) := by
  obtain ⟨h1, h2⟩ := posK_split hs y
  have hd : ∀ x ∈ xs.drop (posK xs y), ltK y x = true := fun x hx => by
    refine ltK_total (h2 x hx) ?_
    unfold hasK at hn
    rw [List.any_eq_false] at hn
    simpa using hn x (List.mem_of_mem_drop hx)
  unfold SortedK insK at *
  rw [List.pairwise_append]
  refine ⟨hs.sublist (List.take_sublist _ _), ?_, fun a ha b hb => ?_⟩
  · rw [List.pairwise_cons]
    exact ⟨hd, hs.sublist (List.drop_sublist _ _)⟩
  · rcases List.mem_cons.1 hb with rfl | hb
    · exact h1 a ha
    · exact ltK_trans (h1 a ha) (hd b hb)
theorem posK_le (xs : List S86) (y : S86) : posK xs y ≤ xs.length := List.length_filter_le _ _
theorem insK_length (xs : List S86) (y : S86) : (insK xs y).length = xs.length + 1 := by
  have := posK_le xs y
  simp [insK]; omega
structure AddOk (p : List S86 × List S86) : Prop where
  sorted : SortedK p.1
  room : p.1.length ≤ 64
  fewer : p.2.length ≤ p.1.length
theorem addStep_ok {k : Int} {p : List S86 × List S86} (h : AddOk p) (d : Int) : AddOk (addStep k p d) := by
  unfold addStep
  split
  · exact h
  · rename_i hc
    refine ⟨insK_sorted h.sorted (by cases hh : hasK p.1 ⟨k, d, 0, 0⟩ with | false => rfl | true => exact absurd (.inl hh) hc), ?_, ?_⟩
    · show (insK p.1 _).length ≤ 64
      rw [insK_length]; omega
    · show (p.2 ++ [_]).length ≤ (insK p.1 _).length
      rw [insK_length]; have := h.fewer; simp; omega
theorem addTo_snoc (k : Int) (xs : List S86) (l : List Int) (d : Int) : addTo k xs (l ++ [d]) = addStep k (addTo k xs l) d := by simp [addTo]
theorem addTo_ok {k : Int} {xs : List S86} (hs : SortedK xs) (hl : xs.length ≤ 64) (l : List Int) : AddOk (addTo k xs l) := by
  unfold addTo
  have : ∀ p, AddOk p → AddOk (l.foldl (addStep k) p) := by
    induction l with
    | nil => exact fun p h => h
    | cons d l ih => exact fun p h => ih _ (addStep_ok h d)
  exact this _ ⟨hs, hl, Nat.zero_le _⟩
/-- Two rows of one's own, apart. -/
theorem R_apart2 {W : World} {base : Nat} {u v : Value} {xs ys : List S86} (h9 : k86.R 86 W base (fun _ => True) v xs) (h8 : k86.R 86 W base (fun b => True ∧ some b ≠ v.ownBlock) u ys) : k86.R 86 W base (fun b => some b ≠ u.ownBlock) v xs :=
  Kd.R_mono (Kd.R_tight rfl h9) (fun b hb e => by
    have := h8.1 b e.symm
    exact this.2 hb)
set_option maxHeartbeats 4000000 in
set_option maxRecDepth 100000 in
theorem add69 (id n k : Int) (A0 : Option Addr) (l0 : List S86) (c0 : Nat) (A2 : Option Addr) (c2 : Nat) (l : List Int) (w : World) (hl0 : Kd.C k86 w A0 l0.length l0) (hc0 : l0.length ≤ c0) (hr : Kd.C (Kd.int .i64) w A2 l.length l) (hl : l.length ≤ 140737488355328) (hs : SortedK l0) (h64 : l0.length ≤ 64) :
    Calls Try.prog 69 #[.agg #[.int .i64 id, .int .i64 n, .slice A0 l0.length c0], .int .i64 k, .slice A2 l.length c2] w fun e w' => ∃ (v1 v2 : Value) (fr : List S86), e = .returned (.tuple #[.agg #[.int .i64 id, .int .i64 n, v1], v2]) ∧ k86.R 86 w' w.heap.size (fun _ => True) v1 (addTo k l0 l).1 ∧ k86.R 86 w' w.heap.size (fun b => True ∧ some b ≠ v1.ownBlock) v2 fr ∧ fr.Perm (addTo k l0 l).2 ∧ (∀ i j, i < j → j < fr.length → ∀ a b, fr[i]? = some a → fr[j]? = some b → ltK b a = false) ∧ Below w.heap.size w w' := by
  have HR := Aside0.mk hr
  have HL := Aside0.mk hl0
  have HAK := Aside0.mk (fun i => addTo_ok (k := k) hs h64 (l.take i))
  clear hr hl0 hs
  have hu63 := Try.underlying63
  go_enter Try.func69, Try.ntmps69
  go_wp2_with (first
    | (go_at_call 81; refine (clone81 A0 l0.length c0 l0 _ (Kd.C_below HL.out (below_alloc (below_alloc (Below.refl _ _) _) _)) (by omega)).mono ?_; rintro e w1 ⟨v9, rfl, hv, hb⟩; have HP := Aside0.mk (Kd.R_lower hv (show w.heap.size ≤ _ by simp; omega)); have BA := Aside0.mk (blk_below (blk_alloc (blk_new w (.cells #[.int .i64 id, .int .i64 n, .slice A0 l0.length c0] 63 (0, 0))) (.cells #[.int .i64 0, .int .i64 0, .slice none 0 0] 63 (0, 0))) hb); have BB := Aside0.mk (blk_below (blk_new (w.alloc (.cells #[.int .i64 id, .int .i64 n, .slice A0 l0.length c0] 63 (0, 0))) (.cells #[.int .i64 0, .int .i64 0, .slice none 0 0] 63 (0, 0))) hb); have HB := Aside0.mk (below_step (below_alloc (below_alloc (Below.refl _ _) _) _) hb); rw [World.size_alloc] at BB; clear hv hb))
  go_loopw [8, 9, 20] (fun u v i W => ∃ j : Nat, i = .int .i64 j ∧ j ≤ l.length ∧ Aside0 (k86.R 86 W w.heap.size (fun _ => True) v (addTo k l0 (l.take j)).1) ∧ Aside0 (k86.R 86 W w.heap.size (fun b => True ∧ some b ≠ v.ownBlock) u (addTo k l0 (l.take j)).2) ∧ Aside0 (W.heap[w.heap.size]? = some (.cells #[.int .i64 id, .int .i64 n, .slice A0 l0.length c0] 63 (0, 0))) ∧ Aside0 (W.heap[w.heap.size + 1]? = some (.cells #[.int .i64 0, .int .i64 0, .slice none 0 0] 63 (0, 0))) ∧ Aside0 (Below w.heap.size w W)) (fun u v i _ => l.length - (intOf i).toNat)
  case atStart => exact ⟨0, rfl, Nat.zero_le _, HP, ⟨Kd.R_nil _ _ _ _ _⟩, BA, BB, HB⟩
  case round =>
    clear HP BA BB HB
    obtain ⟨j, rfl, hj, HP, HF, BA, BB, HB⟩ := hrel
    have hok := HAK.out j
    by_cases hlt : j < l.length
    · obtain ⟨ad, d, rfl, hd, f0⟩ := cInt_cell HR.out HB.out j hlt
      have e0 : wr.cell? (ad.add j) = some (.int .i64 d) := f0 ⟨wr, Below.refl _ _⟩
      have hst : addTo k l0 (l.take (j + 1)) = addStep k (addTo k l0 (l.take j)) d := by rw [List.take_add_one, hd]; exact addTo_snoc _ _ _ _
      have HST := Aside0.mk hst
      clear hst hd f0
      obtain ⟨p, hp⟩ : ∃ p, addTo k l0 (l.take j) = p := ⟨_, rfl⟩
      rw [hp] at HP HF HST hok
      clear hp
      have h641 := hok.room
      have HSo := Aside0.mk hok.sorted
      have HFw := Aside0.mk hok.fewer
      clear hok
      obtain ⟨A9, c9, e9⟩ := Kd.R_slice HP.out
      subst e9
      have hne9 : some wr.heap.size ≠ (Value.slice A9 p.1.length c9).ownBlock := fun e_ => by have := Kd.R_lt HP.out _ e_.symm; omega
      cases hH : hasK p.1 ⟨k, d, 0, 0⟩ with
      | true =>
        have HS1 := Aside0.mk (show addTo k l0 (l.take (j + 1)) = p by rw [HST.out]; exact if_pos (.inl hH))
        go_wp2_with (first
          | (go_at_call 78; refine (bsearch78 A9 p.1.length c9 p.1 ⟨k, d, 0, 0⟩ _ (Kd.R_reads' (Kd.R_alloc HP.out (.cells #[.int .i64 k, .int .i64 d, .int .i64 0, .int .i64 0] 86 (0, 0)))).2.2 (by omega) HSo.out).mono ?_; rw [hH]; rintro e w5 ⟨rfl, hb⟩; have HP5 := Aside0.mk (Kd.R_below (Kd.R_alloc HP.out (.cells #[.int .i64 k, .int .i64 d, .int .i64 0, .int .i64 0] 86 (0, 0))) hb); have HF5 := Aside0.mk (Kd.R_below (Kd.R_alloc HF.out (.cells #[.int .i64 k, .int .i64 d, .int .i64 0, .int .i64 0] 86 (0, 0))) hb); have BA5 := Aside0.mk (blk_below (blk_alloc BA.out (.cells #[.int .i64 k, .int .i64 d, .int .i64 0, .int .i64 0] 86 (0, 0))) hb); have BB5 := Aside0.mk (blk_below (blk_alloc BB.out (.cells #[.int .i64 k, .int .i64 d, .int .i64 0, .int .i64 0] 86 (0, 0))) hb); have HB5 := Aside0.mk (below_step (below_alloc HB.out (.cells #[.int .i64 k, .int .i64 d, .int .i64 0, .int .i64 0] 86 (0, 0))) hb); have Z5 := Aside0.mk (blk_below (blk_new wr (.cells #[.int .i64 k, .int .i64 d, .int .i64 0, .int .i64 0] 86 (0, 0))) hb); have c0_ : w5.cell? ⟨wr.heap.size, 0, none⟩ = some (.int .i64 k) := (blk_cell Z5.out 0).trans rfl; have c1_ : w5.cell? ⟨wr.heap.size, 1, none⟩ = some (.int .i64 d) := (blk_cell Z5.out 1).trans rfl; have c2_ : w5.cell? ⟨wr.heap.size, 2, none⟩ = some (.int .i64 0) := (blk_cell Z5.out 2).trans rfl; have c3_ : w5.cell? ⟨wr.heap.size, 3, none⟩ = some (.int .i64 0) := (blk_cell Z5.out 3).trans rfl; clear hb))
        go_roundw
        case rel => exact ⟨j + 1, by go_num, by omega, ⟨by rw [HS1.out]; exact HP5.out⟩, ⟨by rw [HS1.out]; exact HF5.out⟩, BA5, BB5, HB5⟩
        case measure => simp [intOf]; omega
      | false =>
        by_cases hroom : p.1.length < 64
        · have HS1 := Aside0.mk (show addTo k l0 (l.take (j + 1)) = (insK p.1 ⟨k, d, 0, 0⟩, p.2 ++ [⟨k, d, 0, 0⟩]) by rw [HST.out]; exact if_neg (by rw [hH]; simp; omega))
          go_wp2_with (first
            | (go_at_call 78; refine (bsearch78 A9 p.1.length c9 p.1 ⟨k, d, 0, 0⟩ _ (Kd.R_reads' (Kd.R_alloc HP.out (.cells #[.int .i64 k, .int .i64 d, .int .i64 0, .int .i64 0] 86 (0, 0)))).2.2 (by omega) HSo.out).mono ?_; rw [hH]; rintro e w5 ⟨rfl, hb⟩; have HP5 := Aside0.mk (Kd.R_below (Kd.R_alloc HP.out (.cells #[.int .i64 k, .int .i64 d, .int .i64 0, .int .i64 0] 86 (0, 0))) hb); have HF5 := Aside0.mk (Kd.R_below (Kd.R_alloc HF.out (.cells #[.int .i64 k, .int .i64 d, .int .i64 0, .int .i64 0] 86 (0, 0))) hb); have BA5 := Aside0.mk (blk_below (blk_alloc BA.out (.cells #[.int .i64 k, .int .i64 d, .int .i64 0, .int .i64 0] 86 (0, 0))) hb); have BB5 := Aside0.mk (blk_below (blk_alloc BB.out (.cells #[.int .i64 k, .int .i64 d, .int .i64 0, .int .i64 0] 86 (0, 0))) hb); have HB5 := Aside0.mk (below_step (below_alloc HB.out (.cells #[.int .i64 k, .int .i64 d, .int .i64 0, .int .i64 0] 86 (0, 0))) hb); have Z5 := Aside0.mk (blk_below (blk_new wr (.cells #[.int .i64 k, .int .i64 d, .int .i64 0, .int .i64 0] 86 (0, 0))) hb); have c0_ : w5.cell? ⟨wr.heap.size, 0, none⟩ = some (.int .i64 k) := (blk_cell Z5.out 0).trans rfl; have c1_ : w5.cell? ⟨wr.heap.size, 1, none⟩ = some (.int .i64 d) := (blk_cell Z5.out 1).trans rfl; have c2_ : w5.cell? ⟨wr.heap.size, 2, none⟩ = some (.int .i64 0) := (blk_cell Z5.out 2).trans rfl; have c3_ : w5.cell? ⟨wr.heap.size, 3, none⟩ = some (.int .i64 0) := (blk_cell Z5.out 3).trans rfl; clear hb)
            | (at_builtin; refine Kd.R_append k86 (w0 := w) w.heap.size rfl (.tmp 45) (.tmp 47) 61 86 (.agg #[(.int .i64 0), (.int .i64 0), (.int .i64 0), (.int .i64 0)]) 32 rfl Try.underlying61 info86 rfl (by decide) (by omega) u8 p.2 ⟨k, d, 0, 0⟩ [.int .i64 k, .int .i64 d, .int .i64 0, .int .i64 0] (fun b => True ∧ some b ≠ v6.ownBlock) (fun _ => False) rfl rfl (k86_mkM _ _ _ _) (fun _ hk => hk.elim) (fun b hb => ⟨trivial, Kd.fresh' (Kd.R_lt HP6.out) b hb⟩) HF6.out HB6.out HB6.out.size (by have := HFw.out; omega) ?_; intro v7 w7 ho hb7 hg7 hat7; have HP7 := Aside0.mk (Kd.R_grown HP6.out hg7 (fun b hb => hb)); have HF7 := Aside0.mk ho; have BA7 := Aside0.mk (blk_grown BA6.out hg7 (Kd.R_ne HF6.out BA6.out (by decide))); have BB7 := Aside0.mk (blk_grown BB6.out hg7 (Kd.R_ne HF6.out BB6.out (by decide))); have HB7 := Aside0.mk hb7; clear ho hb7 hg7 hat7))
          refine (insert112 _ p.1 (posK p.1 ⟨k, d, 0, 0⟩) ⟨k, d, 0, 0⟩ w5.heap.size _ (Kd.R_alloc (R_apart2 HP5.out HF5.out) (.cells #[.int .i64 k, .int .i64 d, .int .i64 0, .int .i64 0] 86 (0, 0))) (posK_le _ _) (by have := HB5.out.size; simp; omega) (fun b hb => Kd.fresh' (Kd.R_lt HF5.out) b (by simp at hb; omega)) (blk_new w5 (.cells #[.int .i64 k, .int .i64 d, .int .i64 0, .int .i64 0] 86 (0, 0))) (fun e_ => by have := Kd.R_lt HP5.out _ e_.symm; omega) (by omega)).mono ?_
          rintro e w6 ⟨v6, rfl, ho, hg, hat⟩
          have HP6 : Aside0 (k86.R 86 w6 w.heap.size (fun b => some b ≠ u8.ownBlock) v6 (insK p.1 ⟨k, d, 0, 0⟩)) := ⟨ho⟩
          have HF6 := Aside0.mk (Kd.R_after (Kd.R_alloc HF5.out (.cells #[.int .i64 k, .int .i64 d, .int .i64 0, .int .i64 0] 86 (0, 0))) hg hat)
          have BA6 := Aside0.mk (blk_grown (blk_alloc BA5.out (.cells #[.int .i64 k, .int .i64 d, .int .i64 0, .int .i64 0] 86 (0, 0))) hg (Kd.R_ne HP5.out BA5.out (by decide)))
          have BB6 := Aside0.mk (blk_grown (blk_alloc BB5.out (.cells #[.int .i64 k, .int .i64 d, .int .i64 0, .int .i64 0] 86 (0, 0))) hg (Kd.R_ne HP5.out BB5.out (by decide)))
          have HB6 := Aside0.mk (Below.grown (below_alloc HB5.out (.cells #[.int .i64 k, .int .i64 d, .int .i64 0, .int .i64 0] 86 (0, 0))) hg (by have := HB5.out.size; simp; omega) (Kd.R_base HP5.out))
          have Z6 := Aside0.mk (blk_grown (blk_alloc Z5.out (.cells #[.int .i64 k, .int .i64 d, .int .i64 0, .int .i64 0] 86 (0, 0))) hg hne9)
          have d0_ : w6.cell? ⟨wr.heap.size, 0, none⟩ = some (.int .i64 k) := (blk_cell Z6.out 0).trans rfl
          have d1_ : w6.cell? ⟨wr.heap.size, 1, none⟩ = some (.int .i64 d) := (blk_cell Z6.out 1).trans rfl
          have d2_ : w6.cell? ⟨wr.heap.size, 2, none⟩ = some (.int .i64 0) := (blk_cell Z6.out 2).trans rfl
          have d3_ : w6.cell? ⟨wr.heap.size, 3, none⟩ = some (.int .i64 0) := (blk_cell Z6.out 3).trans rfl
          clear ho hg hat
          go_wp2_with (first
            | (at_builtin; refine Kd.R_append k86 (w0 := w) w.heap.size rfl (.tmp 45) (.tmp 47) 61 86 (.agg #[(.int .i64 0), (.int .i64 0), (.int .i64 0), (.int .i64 0)]) 32 rfl Try.underlying61 info86 rfl (by decide) (by omega) u8 p.2 ⟨k, d, 0, 0⟩ [.int .i64 k, .int .i64 d, .int .i64 0, .int .i64 0] (fun b => True ∧ some b ≠ v6.ownBlock) (fun _ => False) rfl rfl (k86_mkM _ _ _ _) (fun _ hk => hk.elim) (fun b hb => ⟨trivial, Kd.fresh' (Kd.R_lt HP6.out) b hb⟩) HF6.out HB6.out HB6.out.size (by have := HFw.out; omega) ?_; intro v7 w7 ho hb7 hg7 hat7; have HP7 := Aside0.mk (Kd.R_grown HP6.out hg7 (fun b hb => hb)); have HF7 := Aside0.mk ho; have BA7 := Aside0.mk (blk_grown BA6.out hg7 (Kd.R_ne HF6.out BA6.out (by decide))); have BB7 := Aside0.mk (blk_grown BB6.out hg7 (Kd.R_ne HF6.out BB6.out (by decide))); have HB7 := Aside0.mk hb7; clear ho hb7 hg7 hat7))
          go_roundw
          case rel => exact ⟨j + 1, by go_num, by omega, ⟨by rw [HS1.out]; exact Kd.R_mono HP7.out (fun _ _ => trivial)⟩, ⟨by rw [HS1.out]; exact HF7.out⟩, BA7, BB7, HB7⟩
          case measure => simp [intOf]; omega
        · have HS1 := Aside0.mk (show addTo k l0 (l.take (j + 1)) = p by rw [HST.out]; exact if_pos (.inr (by omega)))
          go_wp2_with (first
            | (go_at_call 78; refine (bsearch78 A9 p.1.length c9 p.1 ⟨k, d, 0, 0⟩ _ (Kd.R_reads' (Kd.R_alloc HP.out (.cells #[.int .i64 k, .int .i64 d, .int .i64 0, .int .i64 0] 86 (0, 0)))).2.2 (by omega) HSo.out).mono ?_; rw [hH]; rintro e w5 ⟨rfl, hb⟩; have HP5 := Aside0.mk (Kd.R_below (Kd.R_alloc HP.out (.cells #[.int .i64 k, .int .i64 d, .int .i64 0, .int .i64 0] 86 (0, 0))) hb); have HF5 := Aside0.mk (Kd.R_below (Kd.R_alloc HF.out (.cells #[.int .i64 k, .int .i64 d, .int .i64 0, .int .i64 0] 86 (0, 0))) hb); have BA5 := Aside0.mk (blk_below (blk_alloc BA.out (.cells #[.int .i64 k, .int .i64 d, .int .i64 0, .int .i64 0] 86 (0, 0))) hb); have BB5 := Aside0.mk (blk_below (blk_alloc BB.out (.cells #[.int .i64 k, .int .i64 d, .int .i64 0, .int .i64 0] 86 (0, 0))) hb); have HB5 := Aside0.mk (below_step (below_alloc HB.out (.cells #[.int .i64 k, .int .i64 d, .int .i64 0, .int .i64 0] 86 (0, 0))) hb); have Z5 := Aside0.mk (blk_below (blk_new wr (.cells #[.int .i64 k, .int .i64 d, .int .i64 0, .int .i64 0] 86 (0, 0))) hb); have c0_ : w5.cell? ⟨wr.heap.size, 0, none⟩ = some (.int .i64 k) := (blk_cell Z5.out 0).trans rfl; have c1_ : w5.cell? ⟨wr.heap.size, 1, none⟩ = some (.int .i64 d) := (blk_cell Z5.out 1).trans rfl; have c2_ : w5.cell? ⟨wr.heap.size, 2, none⟩ = some (.int .i64 0) := (blk_cell Z5.out 2).trans rfl; have c3_ : w5.cell? ⟨wr.heap.size, 3, none⟩ = some (.int .i64 0) := (blk_cell Z5.out 3).trans rfl; clear hb))
          go_roundw
          case rel => exact ⟨j + 1, by go_num, by omega, ⟨by rw [HS1.out]; exact HP5.out⟩, ⟨by rw [HS1.out]; exact HF5.out⟩, BA5, BB5, HB5⟩
          case measure => simp [intOf]; omega
    · obtain rfl : j = l.length := by omega
      rw [List.take_length] at HP HF hok
      obtain ⟨p, hp⟩ : ∃ p, addTo k l0 l = p := ⟨_, rfl⟩
      rw [hp] at HP HF hok
      have HPp := Aside0.mk hp
      clear hp
      have h641 := hok.room
      have h642 := hok.fewer
      clear hok
      obtain ⟨A9, c9, e9⟩ := Kd.R_slice HP.out
      subst e9
      obtain ⟨A8, c8, e8⟩ := Kd.R_slice HF.out
      subst e8
      have c0_ : wr.cell? ⟨w.heap.size, 0, none⟩ = some (.int .i64 id) := (blk_cell BA.out 0).trans rfl
      have c1_ : wr.cell? ⟨w.heap.size, 1, none⟩ = some (.int .i64 n) := (blk_cell BA.out 1).trans rfl
      have c2_ : wr.cell? ⟨w.heap.size, 2, none⟩ = some (.slice A0 l0.length c0) := (blk_cell BA.out 2).trans rfl
      have z2_ := blk_frozen BA.out 2
      have BA1 := Aside0.mk (blk_put BA.out (cs' := #[.int .i64 id, .int .i64 n, .slice A9 p.1.length c9]) 2 (.slice A9 p.1.length c9) rfl)
      have BB1 := Aside0.mk (blk_far BB.out (p := ⟨w.heap.size, 2, none⟩) (by simp) (.slice A9 p.1.length c9))
      have HP1 := Aside0.mk (Kd.R_set (R_apart2 HP.out HF.out) BA.out (by decide) 2 (.slice A9 p.1.length c9))
      have HF1 := Aside0.mk (Kd.R_set HF.out BA.out (by decide) 2 (.slice A9 p.1.length c9))
      have HB1 := Aside0.mk (below_set (j := 2) (v := .slice A9 p.1.length c9) HB.out (Nat.le_refl _))
      clear HP HF
      go_wp2_with (first
        | (go_at_call 113; refine (sort113 _ p.2 _ HF1.out (by omega) (fun b hb => ⟨trivial, Kd.fresh' (Kd.R_lt HP1.out) b hb⟩)).mono ?_))
      rintro e w8 ⟨ys, rfl, ho, hg, hperm, hsort⟩
      have HF8 := Aside0.mk ho
      have HP8 := Aside0.mk (Kd.R_grown HP1.out hg (fun b hb => hb))
      have BA8 := Aside0.mk (blk_grown BA1.out hg (Kd.R_ne HF1.out BA1.out (by decide)))
      have BB8 := Aside0.mk (blk_grown BB1.out hg (Kd.R_ne HF1.out BB1.out (by decide)))
      have HB8 := Aside0.mk (Below.grown HB1.out hg HB1.out.size (Kd.R_base HF1.out))
      have HPM := Aside0.mk hperm
      have HST := Aside0.mk hsort
      clear ho hg hperm hsort
      have d0_ : w8.cell? ⟨w.heap.size, 0, none⟩ = some (.int .i64 id) := (blk_cell BA8.out 0).trans rfl
      have d1_ : w8.cell? ⟨w.heap.size, 1, none⟩ = some (.int .i64 n) := (blk_cell BA8.out 1).trans rfl
      have d2_ : w8.cell? ⟨w.heap.size, 2, none⟩ = some (.slice A9 p.1.length c9) := (blk_cell BA8.out 2).trans rfl
      have k0_ : w8.cell? ⟨w.heap.size + 1, 0, none⟩ = some (.int .i64 0) := (blk_cell BB8.out 0).trans rfl
      have k1_ : w8.cell? ⟨w.heap.size + 1, 1, none⟩ = some (.int .i64 0) := (blk_cell BB8.out 1).trans rfl
      have k2_ : w8.cell? ⟨w.heap.size + 1, 2, none⟩ = some (.slice none 0 0) := (blk_cell BB8.out 2).trans rfl
      have g0_ := blk_frozen BB8.out 0
      have g1_ := blk_frozen BB8.out 1
      have g2_ := blk_frozen BB8.out 2
      go_wp2
      have Q1 := blk_put BB8.out (cs' := #[.int .i64 id, .int .i64 0, .slice none 0 0]) 0 (.int .i64 id) rfl
      have Q2 := blk_put Q1 (cs' := #[.int .i64 id, .int .i64 n, .slice none 0 0]) 1 (.int .i64 n) rfl
      have Q3 := blk_put Q2 (cs' := #[.int .i64 id, .int .i64 n, .slice A9 p.1.length c9]) 2 (.slice A9 p.1.length c9) rfl
      refine bodyPost_ret (results_ct rfl _ _ (w.heap.size + 1) 63 #[.int .i64 id, .int .i64 n, .slice A9 p.1.length c9] (0, 0) _ rfl Q3 Try.underlying63 rfl (by kernel_rfl)) rfl ?_
      refine ⟨_, _, ys, rfl, ?_, ?_, ?_, HST.out, ?_⟩
      · rw [HPp.out]
        exact Kd.R_mono (Kd.R_set (Kd.R_set (Kd.R_set HP8.out BB8.out (by decide) 0 _) Q1 (by decide) 1 _) Q2 (by decide) 2 _) (fun _ _ => trivial)
      · exact Kd.R_set (Kd.R_set (Kd.R_set HF8.out BB8.out (by decide) 0 _) Q1 (by decide) 1 _) Q2 (by decide) 2 _
      · rw [HPp.out]; exact HPM.out
      · exact below_set (below_set (below_set HB8.out (by omega)) (by omega)) (by omega)
end Go.Proofs.Ytkpngcppijgeeaa.H
