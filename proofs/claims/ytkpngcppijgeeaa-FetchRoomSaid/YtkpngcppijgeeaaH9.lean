import Derived.Test.YtkpngcppijgeeaaH8
import Derived.ScopeJumps
import Derived.WalkMore
set_option linter.unusedVariables false
set_option linter.unusedSimpArgs false
namespace Go.Proofs.Ytkpngcppijgeeaa.H
open Go.RowKit Go.Lib Go.Proofs.YtkpngcppijgeeaaW.PrintWords Go.Proofs.YtkpngcppijgeeaaW.PrintLast Go.Proofs.YtkpngcppijgeeaaW.PrintMore Go.Proofs.Ytkpngcppijgeeaa.PFetchExact
/-- Whom one asks with so many tries. -/
def wh (id n t : Int) : Int := Int.tmod (id + Int.tmod t (n - 1)) n + 1
theorem wrap_id (x : Int) (h1 : -9223372036854775808 ≤ x) (h2 : x ≤ 9223372036854775807) : wrap64 x = x := by unfold wrap64; omega
theorem whom_f (id n t : Int) (l : List S86) (h1 : 1 ≤ id) (h2 : id ≤ n) (h3 : 2 ≤ n) (h4 : n ≤ 16) : fetch_whom.f id n l t = some (wh id n t) := by
  unfold fetch_whom.f
  have e1 : wrap64 (n - 1) = n - 1 := wrap_id _ (by omega) (by omega)
  rw [e1, if_neg (by omega), if_neg (by omega)]
  have b1 := Int.tmod_lt_of_pos t (show 0 < n - 1 by omega)
  have b2 := Int.lt_tmod_of_pos t (show 0 < n - 1 by omega)
  have e2 : wrap64 (id + Int.tmod t (n - 1)) = id + Int.tmod t (n - 1) := wrap_id _ (by omega) (by omega)
  rw [e2]
  have b3 := Int.tmod_lt_of_pos (id + Int.tmod t (n - 1)) (show 0 < n by omega)
  have b4 := Int.lt_tmod_of_pos (id + Int.tmod t (n - 1)) (show 0 < n by omega)
  rw [wrap_id _ (by omega) (by omega)]
  rfl
/-- The digests of a kind that one is asked for. -/
def part (id n : Int) (rows : List S86) (g k : Int) : List Int := (rows.filter fun r => decide (r.f0 = k) && decide (wh id n r.f3 = g)).map (·.f1)
/-- Pieces of 16. -/
def piece (d : List Int) (j : Nat) : List Int := (d.drop (16 * j)).take 16
def pieces (d : List Int) (m : Nat) : List (List Int) := (List.range m).map (piece d)
def msgOf (k id g : Int) (d : List Int) : S77 := ⟨k, id, g, 0, ⟨0, 0, []⟩, ⟨0, 0, [], []⟩, ⟨⟨0, 0, [], []⟩, 0, []⟩, d⟩
/-- The messages to one of one kind, the first m of them. -/
def msgsKT (id n : Int) (rows : List S86) (g k : Int) (m : Nat) : List S77 := (pieces (part id n rows g k) m).map (msgOf k id g)
def cnt (d : List Int) : Nat := (d.length + 15) / 16
def toOf (q : Nat) : Int := ((q / 2 : Nat) : Int) + 1
def kOf (q : Nat) : Int := 7 + ((q % 2 : Nat) : Int)
/-- The messages of the first q rounds. -/
def msgsTo (id n : Int) (rows : List S86) (q : Nat) : List S77 := (List.range q).flatMap fun i => msgsKT id n rows (toOf i) (kOf i) (cnt (part id n rows (toOf i) (kOf i)))
theorem part_snoc (id n : Int) (rows : List S86) (g k : Int) (y : S86) : part id n (rows ++ [y]) g k = part id n rows g k ++ (if decide (y.f0 = k) && decide (wh id n y.f3 = g) then [y.f1] else []) := by
  unfold part
  rw [List.filter_append, List.map_append]
  congr 1
  by_cases h : (decide (y.f0 = k) && decide (wh id n y.f3 = g)) = true <;> simp [h]
theorem part_len (id n : Int) (rows : List S86) (g k : Int) : (part id n rows g k).length ≤ rows.length := by
  unfold part; rw [List.length_map]; exact List.length_filter_le _ _
theorem msgsTo_succ (id n : Int) (rows : List S86) (q : Nat) : msgsTo id n rows (q + 1) = msgsTo id n rows q ++ msgsKT id n rows (toOf q) (kOf q) (cnt (part id n rows (toOf q) (kOf q))) := by
  simp [msgsTo, List.range_succ]
theorem msgsKT_succ (id n : Int) (rows : List S86) (g k : Int) (m : Nat) : msgsKT id n rows g k (m + 1) = msgsKT id n rows g k m ++ [msgOf k id g (piece (part id n rows g k) m)] := by
  simp [msgsKT, pieces, List.range_succ]
def T15 : Bool × List (List Nat × List Nat) := (true, [([], []), ([], []), ([], []), ([2], [2]), ([], []), ([], []), ([5], [5]), ([1, 3, 4, 6], [1, 3, 4, 6]), ([7], [7]), ([0, 8, 6], [0, 8]), ([9, 9, 0, 1, 2, 3, 4, 5, 6, 7, 8, 9], [0, 9])])
def B15 : List Nat := [0, 0, 0, 4, 0, 0, 32, 126, 254, 511, 1023]
theorem tab15 : rtab .any (opsOf Try.f70 15) = T15 := by kernel_rfl
theorem bits15 : waitsOk T15.2 B15 = true := by kernel_rfl
theorem own_below {W W1 : World} {base e size k : Nat} {v : Value} {xs : List Value} (h : W.ownsRow base e size v k xs) (hb : Below W.heap.size W W1) : W1.ownsRow base e size v k xs := by
  obtain ⟨h1, h2⟩ := h
  refine ⟨h1, ?_⟩
  rcases h2 with h2 | ⟨g, cap, cur, rfl, hg, hh, r⟩
  · exact .inl h2
  · exact .inr ⟨g, cap, cur, rfl, hg, blk_below hh hb, r⟩
theorem R_piece {W : World} {base : Nat} {ok : Nat → Prop} {v : Value} {xs : List Int} (h : Kd.R (Kd.int .i64) 3 W base ok v xs) :
    ∃ A c pb, v = .slice A xs.length c ∧ (0 < xs.length → A = some ⟨pb, 0, none⟩) ∧ Kd.C (Kd.int .i64) W A xs.length xs ∧ ∀ N, W.heap.size ≤ N → Piece N v pb 0 xs.length := by
  have hC := Kd.R_reads h
  obtain ⟨A, c, rfl, hlc, hC⟩ := hC
  obtain ⟨h0, inner, ho, hr⟩ := h
  rcases ho.2 with ⟨hv, hn⟩ | ⟨pb, cap, cur, hv, hb, hh, _⟩
  · injection hv with e1 e2 e3
    subst e1; subst e3
    refine ⟨none, 0, 0, rfl, fun hp => by omega, hC, fun N _ => .inl ⟨by rw [hn], hn⟩⟩
  · injection hv with e1 e2 e3
    subst e1
    refine ⟨_, c, pb, rfl, fun _ => rfl, hC, fun N hN => .inr ⟨c, rfl, hlc, Nat.lt_of_lt_of_le (blk_lt hh) hN⟩⟩
theorem collectK (Bs Bn : Nat) (sv : Value) (b off len K : Nat) (hK : (len + 15) / 16 = K) (hlen : len ≤ 1000000) (w : World) (hBs : Bs < w.heap.size) (hBn : Bn < w.heap.size)
    (hc : w.cell? ⟨Bs, 0, none⟩ = some sv) (hc2 : w.cell? ⟨Bn, 0, none⟩ = some (.int .i64 16)) (hI : Piece w.heap.size sv b off len) :
    Calls Try.prog 115 #[.func (.func 147) #[] #[.pointer (some ⟨Bs, 0, none⟩), .pointer (some ⟨Bn, 0, none⟩)]] w fun e W' => ∃ v, e = .returned v ∧ W'.ownsRow w.heap.size 26 1 v K (chunks b off len (starts K)) ∧ Below w.heap.size w W' := by
  subst hK; exact collect115 Bs Bn sv b off len hlen w hBs hBn hc hc2 hI
theorem own_slice {W : World} {base k : Nat} {v : Value} {xs : List Value} (h : W.ownsRow base 26 1 v k xs) : ∃ A c, v = .slice A k c ∧ (0 < k → ∃ cb cur, A = some ⟨cb, 0, none⟩ ∧ W.heap[cb]? = some (.cells cur 26 (0, 0))) := by
  rcases h.2 with ⟨rfl, rfl⟩ | ⟨cb, cap, cur, rfl, hb, hh, _⟩
  · exact ⟨none, 0, rfl, fun hp => absurd hp (by omega)⟩
  · exact ⟨_, _, rfl, fun _ => ⟨cb, cur, rfl, hh⟩⟩
theorem piece_len (d : List Int) (j : Nat) : (piece d j).length = min 16 (d.length - 16 * j) := by
  unfold piece; rw [List.length_take, List.length_drop]
theorem C_piece {W : World} {pb : Nat} {d : List Int} (h : Kd.C (Kd.int .i64) W (some ⟨pb, 0, none⟩) d.length d) (j : Nat) : Kd.C (Kd.int .i64) W (some ⟨pb, 16 * j, none⟩) (piece d j).length (piece d j) := by
  refine ⟨rfl, ?_, fun hp => ⟨_, rfl, fun i p hi => ?_⟩⟩
  · rw [piece_len]; have := h.2.1; omega
  · have hl := (List.getElem?_eq_some_iff.1 hi).1
    have e : d[16 * j + i]? = some p := by
      unfold piece at hi
      rw [List.getElem?_take] at hi
      split at hi
      · rwa [List.getElem?_drop] at hi
      · cases hi
    have hd : 0 < d.length := by rw [piece_len] at hl; omega
    obtain ⟨ad, e1, h2⟩ := h.2.2 hd
    obtain rfl := Option.some.inj e1
    obtain ⟨cs, h3, h4, h5⟩ := h2 (16 * j + i) p e
    refine ⟨cs, h3, h4, fun r u hu => ?_⟩
    have h6 := h5 r u hu
    have a1 : (⟨pb, 16 * j, none⟩ : Addr).add (i * (Kd.int .i64).sz + r) = (⟨pb, 0, none⟩ : Addr).add ((16 * j + i) * (Kd.int .i64).sz + r) := by
      have e2 : (Kd.int .i64).sz = 1 := rfl
      rw [e2, Addr.add_lit, Addr.add_lit]
      congr 1; omega
    rw [a1]; exact h6
theorem OwnNe {W : World} {base K : Nat} {ok : Nat → Prop} {u v : Value} {out : List S77} {xs : List Value} (h : Kd.S k77 77 W base ok u out) (ho : W.ownsRow base 26 1 v K xs) : v.ownBlock = none ∨ v.ownBlock ≠ u.ownBlock := by
  rcases ho.2 with ⟨rfl, _⟩ | ⟨cb, cap, cur, rfl, hb, hh, _⟩
  · exact .inl rfl
  · exact .inr (Kd.S_ne h hh (by decide))
theorem msgsKT_len (id n : Int) (rows : List S86) (g k : Int) (m : Nat) : (msgsKT id n rows g k m).length = m := by simp [msgsKT, pieces]
theorem msgsTo_len (id n : Int) (rows : List S86) (hl : rows.length ≤ 64) : ∀ q, (msgsTo id n rows q).length ≤ 5 * q
  | 0 => by simp [msgsTo]
  | q + 1 => by
    rw [msgsTo_succ, List.length_append, msgsKT_len]
    have h1 := msgsTo_len id n rows hl q
    have h2 := part_len id n rows (toOf q) (kOf q)
    unfold cnt; omega
theorem wp_scope_jumps3 {P : Program} {a : Act} {w : World} {Q : Exit → Act → World → Prop} {c rest : Code} (l : Nat) (J : Act → World → Prop) (μ : Act → World → Nat) (hf : findLabel c l = some (Code.skip.seq rest))
    (pass : ∀ a w, J a w → rest.wp P (Exit.jump l (fun a' w' => J a' w' ∧ μ a' w' < μ a w) Q) a w)
    (first : (∀ a w, J a w → rest.wp P (Exit.jump l J Q) a w) → c.wp P (Exit.jump l J Q) a w) : (Code.scope c).wp P Q a w :=
  wp_scope_jumps l J μ hf (first fun a w h => wp_mono (pass a w h) (fun e a' w' hq => by
    cases e with
    | goto l' => exact ⟨hq.1, hq.2.1⟩
    | normal => exact hq
    | exit id => exact hq
    | ret => exact hq
    | panic ch => exact hq
    | outgrown => exact hq)) (fun a w h => wp_seq (wp_skip (pass a w h)))
set_option maxHeartbeats 4000000 in
set_option maxRecDepth 100000 in
theorem messages70 (id n : Int) (A0 : Option Addr) (l0 : List S86) (c0 : Nat) (A1 : Option Addr) (c1 : Nat) (rows : List S86) (w : World) (h0 : 1 ≤ id) (h0' : id ≤ n) (h3 : 1 ≤ n) (h4 : n ≤ 16) (hl0 : Kd.C k86 w A0 l0.length l0) (hc0 : l0.length ≤ c0) (hr : Kd.C k86 w A1 rows.length rows) (hl : rows.length ≤ 64) :
    Calls Try.prog 70 #[.agg #[.int .i64 id, .int .i64 n, .slice A0 l0.length c0], .slice A1 rows.length c1] w fun e w' => ∃ v : Value, e = .returned v ∧ Kd.S k77 77 w' w.heap.size (fun _ => True) v (if n = 1 then [] else msgsTo id n rows (2 * n.toNat)) ∧ Below w.heap.size w w' := by
  have HR := Aside0.mk hr
  have HL := Aside0.mk hl0
  clear hr hl0
  have hu63 := Try.underlying63
  go_enter Try.func70, Try.ntmps70
  go_wp2
  refine wp_scope_jumps3 0 (fun a' wr => ∃ (q : Nat) (v : Value) (u5 u8 u9 u10 u11 u12 u13 u14 u15 u16 u17 u18 u19 u20 u21 u22 u23 u24 u25 u26 u27 u28 u29 u30 u31 u32 u33 u34 u35 u36 u37 u38 u39 u40 u41 u42 u43 u44 u45 u46 u47 u48 u49 u50 u51 u52 u53 u54 u55 u56 u57 u58 u59 u60 u61 u62 u63 u64 u65 u66 u67 u68 : Value), a' = { tmps := #[.agg #[.int .i64 id, .int .i64 n, .slice A0 l0.length c0], .slice A1 rows.length c1, .pointer (some ⟨w.heap.size, 0, none⟩), undef, v, u5, .int .i64 (toOf q), .int .i64 (kOf q), u8, u9, u10, u11, u12, u13, u14, u15, u16, u17, u18, u19, u20, u21, u22, u23, u24, u25, u26, u27, u28, u29, u30, u31, u32, u33, u34, u35, u36, u37, u38, u39, u40, u41, u42, u43, u44, u45, u46, u47, u48, u49, u50, u51, u52, u53, u54, u55, u56, u57, u58, u59, u60, u61, u62, u63, u64, u65, u66, u67, u68], defers := [] } ∧ 2 ≤ n ∧ q < 2 * n.toNat ∧ Aside0 (Kd.S k77 77 wr w.heap.size (fun _ => True) v (msgsTo id n rows q)) ∧ Aside0 (wr.heap[w.heap.size]? = some (.cells #[.int .i64 id, .int .i64 n, .slice A0 l0.length c0] 63 (0, 0))) ∧ Aside0 (Below w.heap.size w wr)) (fun a' _ => 200 - 2 * (intOf (a'.tmps.getD 6 undef)).toNat - (intOf (a'.tmps.getD 7 undef)).toNat) rfl ?_ ?_
  · rintro a w1 ⟨q, v, u5, u8, u9, u10, u11, u12, u13, u14, u15, u16, u17, u18, u19, u20, u21, u22, u23, u24, u25, u26, u27, u28, u29, u30, u31, u32, u33, u34, u35, u36, u37, u38, u39, u40, u41, u42, u43, u44, u45, u46, u47, u48, u49, u50, u51, u52, u53, u54, u55, u56, u57, u58, u59, u60, u61, u62, u63, u64, u65, u66, u67, u68, rfl, h2, hq, HS, BK, HB⟩
    have hwf : ∀ t, fetch_whom.f id n l0 t = some (wh id n t) := fun t => whom_f id n t l0 h0 h0' h2 h4
    have HW := Aside0.mk hwf
    obtain ⟨g, hg⟩ : ∃ g, toOf q = g := ⟨_, rfl⟩
    obtain ⟨k, hk⟩ : ∃ k, kOf q = k := ⟨_, rfl⟩
    rw [hg, hk]
    have HG := Aside0.mk hg
    have HK := Aside0.mk hk
    clear hg hk hwf
    go_wp2
    go_loopw [5, 17] (fun p i W => ∃ j : Nat, i = .int .i64 j ∧ j ≤ rows.length ∧ Aside0 (Kd.R (Kd.int .i64) 3 W w.heap.size (fun _ => True) p (part id n (rows.take j) g k)) ∧ Aside0 (Kd.S k77 77 W w.heap.size (fun b => True ∧ some b ≠ p.ownBlock) v (msgsTo id n rows q)) ∧ Aside0 (W.heap[w.heap.size]? = some (.cells #[.int .i64 id, .int .i64 n, .slice A0 l0.length c0] 63 (0, 0))) ∧ Aside0 (Below w.heap.size w W)) (fun p i _ => rows.length - (intOf i).toNat)
    case atStart => exact ⟨0, rfl, Nat.zero_le _, ⟨Kd.R_nil _ _ _ _ _⟩, ⟨Kd.S_mono HS.out (fun _ _ => ⟨trivial, by simp [Value.ownBlock]⟩)⟩, BK, HB⟩
    case round =>
      clear HS BK HB
      obtain ⟨j, rfl, hj, HP, HS, BK, HB⟩ := hrel
      by_cases hlt : j < rows.length
      · obtain ⟨ad, y, rfl, hy, f0, f1, f2, f3⟩ := c86_cell HR.out HB.out j hlt
        have e0 : wr.cell? (ad.add (j * 4)) = some (.int .i64 y.f0) := f0 ⟨wr, Below.refl _ _⟩
        have e1 : wr.cell? ⟨(ad.add (j * 4)).block, (ad.add (j * 4)).off + 1, none⟩ = some (.int .i64 y.f1) := f1 ⟨wr, Below.refl _ _⟩
        have e2 : wr.cell? ⟨(ad.add (j * 4)).block, (ad.add (j * 4)).off + 2, none⟩ = some (.int .i64 y.f2) := f2 ⟨wr, Below.refl _ _⟩
        have e3 : wr.cell? ⟨(ad.add (j * 4)).block, (ad.add (j * 4)).off + 3, none⟩ = some (.int .i64 y.f3) := f3 ⟨wr, Below.refl _ _⟩
        have HY := Aside0.mk hy
        clear hy f0 f1 f2 f3
        have zb := blk_alloc BK.out (.cells #[.int .i64 y.f0, .int .i64 y.f1, .int .i64 y.f2, .int .i64 y.f3] 86 (0, 0))
        have z0 : (wr.alloc (.cells #[.int .i64 y.f0, .int .i64 y.f1, .int .i64 y.f2, .int .i64 y.f3] 86 (0, 0))).cell? ⟨w.heap.size, 0, none⟩ = some (.int .i64 id) := (blk_cell zb 0).trans rfl
        have z1 : (wr.alloc (.cells #[.int .i64 y.f0, .int .i64 y.f1, .int .i64 y.f2, .int .i64 y.f3] 86 (0, 0))).cell? ⟨w.heap.size, 1, none⟩ = some (.int .i64 n) := (blk_cell zb 1).trans rfl
        have z2 : (wr.alloc (.cells #[.int .i64 y.f0, .int .i64 y.f1, .int .i64 y.f2, .int .i64 y.f3] 86 (0, 0))).cell? ⟨w.heap.size, 2, none⟩ = some (.slice A0 l0.length c0) := (blk_cell zb 2).trans rfl
        have HZ := Aside0.mk zb
        clear zb
        have hba := Aside0.mk (below_alloc HB.out (.cells #[.int .i64 y.f0, .int .i64 y.f1, .int .i64 y.f2, .int .i64 y.f3] 86 (0, 0)))
        have HLa := Aside0.mk (Kd.C_below HL.out hba.out)
        have ht : rows.take (j + 1) = rows.take j ++ [y] := by rw [List.take_add_one, HY.out]; rfl
        have HT := Aside0.mk ht
        clear ht
        by_cases hk1 : y.f0 = k
        · subst hk1
          by_cases hk2 : wh id n y.f3 = g
          · have HP1 := Aside0.mk (show part id n (rows.take (j + 1)) g y.f0 = part id n (rows.take j) g y.f0 ++ [y.f1] by rw [HT.out, part_snoc]; simp [hk2])
            have hpl := part_len id n (rows.take j) g y.f0
            rw [List.length_take] at hpl
            go_wp2_with (first
              | (go_at_call 114; refine (fetch_whom.calls id n A0 c0 l0 y.f3 (wh id n y.f3) _ HLa.out hc0 (HW.out _)).mono ?_; rw [hk2]; rintro e w5 ⟨rfl, hb⟩; have zn := Aside0.mk (blk_below (blk_new wr (.cells #[.int .i64 y.f0, .int .i64 y.f1, .int .i64 y.f2, .int .i64 y.f3] 86 (0, 0))) hb); have y1 : w5.cell? ⟨wr.heap.size, 1, none⟩ = some (.int .i64 y.f1) := (blk_cell zn.out 1).trans rfl; have BK5 := Aside0.mk (blk_below HZ.out hb); have HB5 := Aside0.mk (below_step hba.out hb); have HP5 := Aside0.mk (Kd.R_below (Kd.R_alloc HP.out (.cells #[.int .i64 y.f0, .int .i64 y.f1, .int .i64 y.f2, .int .i64 y.f3] 86 (0, 0))) hb); have HS5 := Aside0.mk (Kd.S_below (Kd.S_alloc HS.out (.cells #[.int .i64 y.f0, .int .i64 y.f1, .int .i64 y.f2, .int .i64 y.f3] 86 (0, 0))) hb); clear hb)
              | (at_builtin; refine Kd.R_append (Kd.int .i64) (w0 := w) w.heap.size rfl (.tmp 33) (.tmp 36) 26 3 (.int .i64 0) 8 rfl Try.underlying26 info3 rfl (by decide) (by omega) u5 (part id n (rows.take j) g y.f0) y.f1 [.int .i64 y.f1] (fun _ => True) (fun _ => False) rfl rfl rfl (fun _ hk => hk.elim) (fun _ _ => trivial) HP5.out HB5.out HB5.out.size (by omega) ?_; intro v6 w6 ho hb6 hg6 hat; rw [← HP1.out] at ho; have HP6 := Aside0.mk ho; have HS6 := Aside0.mk (Kd.S_after HS5.out hg6 hat); have BK6 := Aside0.mk (blk_grown BK5.out hg6 (Kd.R_ne HP5.out BK5.out (by decide))); have HB6 := Aside0.mk hb6; clear ho hg6 hat hb6))
            go_roundw
            case rel => exact ⟨j + 1, by go_num, by omega, HP6, HS6, BK6, HB6⟩
            case measure => simp [intOf]; omega
          · have HP1 := Aside0.mk (show part id n (rows.take (j + 1)) g y.f0 = part id n (rows.take j) g y.f0 by rw [HT.out, part_snoc]; simp [hk2])
            have hk3 : (wh id n y.f3 == g) = false := beq_eq_false_iff_ne.mpr hk2
            go_wp2_with (first
              | (go_at_call 114; refine (fetch_whom.calls id n A0 c0 l0 y.f3 (wh id n y.f3) _ HLa.out hc0 (HW.out _)).mono ?_; rintro e w5 ⟨rfl, hb⟩; have BK5 := Aside0.mk (blk_below HZ.out hb); have HB5 := Aside0.mk (below_step hba.out hb); have HP5 := Aside0.mk (Kd.R_below (Kd.R_alloc HP.out (.cells #[.int .i64 y.f0, .int .i64 y.f1, .int .i64 y.f2, .int .i64 y.f3] 86 (0, 0))) hb); have HS5 := Aside0.mk (Kd.S_below (Kd.S_alloc HS.out (.cells #[.int .i64 y.f0, .int .i64 y.f1, .int .i64 y.f2, .int .i64 y.f3] 86 (0, 0))) hb); clear hb))
            go_roundw
            case rel => exact ⟨j + 1, by go_num, by omega, ⟨by rw [HP1.out]; exact HP5.out⟩, HS5, BK5, HB5⟩
            case measure => simp [intOf]; omega
        · have HP1 := Aside0.mk (show part id n (rows.take (j + 1)) g k = part id n (rows.take j) g k by rw [HT.out, part_snoc]; simp [hk1])
          have hk3 : (y.f0 == k) = false := beq_eq_false_iff_ne.mpr hk1
          go_wp2
          go_roundw
          case rel => exact ⟨j + 1, by go_num, by omega, ⟨by rw [HP1.out]; exact Kd.R_alloc HP.out (.cells #[.int .i64 y.f0, .int .i64 y.f1, .int .i64 y.f2, .int .i64 y.f3] 86 (0, 0))⟩, ⟨Kd.S_alloc HS.out (.cells #[.int .i64 y.f0, .int .i64 y.f1, .int .i64 y.f2, .int .i64 y.f3] 86 (0, 0))⟩, HZ, hba⟩
          case measure => simp [intOf]; omega
      · obtain rfl : j = rows.length := by omega
        obtain ⟨xs, hxs⟩ : ∃ xs, part id n rows g k = xs := ⟨_, rfl⟩
        have n0_ := HP.out
        rw [List.take_length, hxs] at n0_
        clear HP
        have HP := Aside0.mk n0_
        clear n0_
        have hxl : xs.length ≤ 64 := by rw [← hxs]; exact Nat.le_trans (part_len _ _ _ _ _) hl
        have HXS := Aside0.mk hxs
        obtain ⟨K, hK⟩ : ∃ K, (xs.length + 15) / 16 = K := ⟨_, rfl⟩
        have HKX : Aside0 ((xs.length + 15) / 16 = K) := Aside0.mk hK
        have hK5 : K ≤ 5 := by omega
        clear hK
        clear hxs
        obtain ⟨Ap, cp, pb, hu5, hAp, _, hPc⟩ := R_piece HP.out
        subst hu5
        have HAp := Aside0.mk hAp
        have HPc := Aside0.mk hPc
        clear hAp hPc
        go_wp2_with (first
          | (go_at_call 116; refine (chunk116 _ _ _ _).mono ?_; rintro e w2 ⟨rfl, rfl⟩)
          | (go_at_call 115; refine (collectK wr.heap.size (wr.heap.size + 1) (.slice Ap xs.length cp) pb 0 xs.length K HKX.out (by omega) _ (by simp; omega) (by simp) (Boxed.alloc (Boxed.new wr 26 _) _).cell (by have := (Boxed.new (wr.alloc (.cells #[.slice Ap xs.length cp] 26)) 3 (.int .i64 16)).cell; rwa [World.size_alloc] at this) (HPc.out _ (by simp; omega))).mono ?_; rintro e w3 ⟨cv, rfl, hcv, hb3⟩; have HS3 := Aside0.mk (Kd.S_below (Kd.S_alloc (Kd.S_alloc HS.out _) _) hb3); have HP3 := Aside0.mk (Kd.R_below (Kd.R_alloc (Kd.R_alloc HP.out _) _) hb3); have BK3 := Aside0.mk (blk_below (blk_alloc (blk_alloc BK.out _) _) hb3); have HB3 := Aside0.mk (below_step (below_alloc (below_alloc HB.out _) _) hb3); have OW3 := Aside0.mk (own_less hcv (show w.heap.size ≤ _ by have := HB.out.size; simp; omega)); clear hcv hb3; obtain ⟨Ac, cc, ecv, _⟩ := own_slice OW3.out; subst ecv))
        go_loopw [4, 43] (fun u i W => ∃ m : Nat, i = .int .i64 m ∧ m ≤ K ∧ Aside0 (Kd.S k77 77 W w.heap.size (fun b => True ∧ some b ≠ (Value.slice Ap xs.length cp : Value).ownBlock) u (msgsTo id n rows q ++ msgsKT id n rows g k m)) ∧ Aside0 (Kd.R (Kd.int .i64) 3 W w.heap.size (fun _ => True) (Value.slice Ap xs.length cp) xs) ∧ Aside0 (W.ownsRow w.heap.size 26 1 (Value.slice Ac (K) cc) (K) (chunks pb 0 xs.length (starts (K)))) ∧ Aside0 (W.heap[w.heap.size]? = some (.cells #[.int .i64 id, .int .i64 n, .slice A0 l0.length c0] 63 (0, 0))) ∧ Aside0 (Below w.heap.size w W)) (fun u i _ => K - (intOf i).toNat)
        case atStart => exact ⟨0, rfl, Nat.zero_le _, ⟨by rw [show msgsKT id n rows g k 0 = [] from rfl, List.append_nil]; exact HS3.out⟩, HP3, OW3, BK3, HB3⟩
        case round =>
          clear HS3 HP3 OW3 BK3 HB3 HS HP BK HB HPc
          obtain ⟨m, rfl, hm, HS, HP, OW, BK, HB⟩ := hrel
          by_cases hlt2 : m < K
          · have hx0 : 16 * m < xs.length := by have := HKX.out; omega
            obtain rfl := HAp.out (by omega)
            have OWc := own_slice OW.out
            obtain ⟨A', c', e', hAc⟩ := OWc
            injection e' with e1 e2 e3
            subst e1
            subst e3
            obtain ⟨cb, cur, eAc, hcb⟩ := hAc (by omega)
            subst eAc
            have hck : wr.cell? ⟨cb, m, none⟩ = some (.slice (some ⟨pb, 16 * m, none⟩) (piece xs m).length (piece xs m).length) := by
              have h7 := OW.out.cells (g := cb) rfl m (chunkV pb 0 xs.length (16 * m)) (by simp [chunks, starts, hlt2])
              rw [Addr.add_lit] at h7
              rw [piece_len]
              simpa [chunkV] using h7
            obtain ⟨out, hout⟩ : ∃ out, msgsTo id n rows q ++ msgsKT id n rows g k m = out := ⟨_, rfl⟩
            have hms : msgsTo id n rows q ++ msgsKT id n rows g k (m + 1) = out ++ [msgOf k id g (piece xs m)] := by rw [← hout, msgsKT_succ, HXS.out, List.append_assoc]
            have MS := Aside0.mk hms
            have hml : (out.length + 1) * 256 ≤ 140737488355328 := by have h1 := msgsTo_len id n rows hl q; rw [← hout, List.length_append, msgsKT_len]; omega
            rw [hout] at HS
            clear hout hms
            have HSd := Aside0.mk (Kd.S_drew HS.out)
            have HPd := Aside0.mk (Kd.R_drew HP.out)
            have BKd := Aside0.mk (blk_drew BK.out)
            have HBd := Aside0.mk (below_drew1 HB.out)
            have OWd : Aside0 (wr.drew.ownsRow w.heap.size 26 1 (Value.slice (some ⟨cb, 0, none⟩) (K) cc) (K) (chunks pb 0 xs.length (starts (K)))) := ⟨OW.out⟩
            have HXd := Aside0.mk (C_piece (Kd.R_reads' HPd.out).2.2 m)
            clear HS HP BK HB OW hcb
            go_wp2
            refine start_ (n := 11) (S := fun w' => w'.cell? ⟨w.heap.size, 0, none⟩ = some (.int .i64 id) ∧ w'.cell? ⟨w.heap.size, 1, none⟩ = some (.int .i64 n) ∧ w'.cell? ⟨w.heap.size, 2, none⟩ = some (.slice A0 l0.length c0)) (ds := []) #[false, false, false, false, false, false, false, false, false, false, false] (by kernel_rfl) rfl rfl ⟨(blk_cell BKd.out 0).trans rfl, (blk_cell BKd.out 1).trans rfl, (blk_cell BKd.out 2).trans rfl⟩ (fun hHeld => ?_); refine with_tabW tab15 bits15 (fun HT_ HW_ => ?_)
            generalize wr.drew = w30 at HSd HPd BKd HBd OWd HXd hHeld ⊢
            refine pure_ (i := 0) (N := some 47) (v := ?_) (a' := ?_) #[true, false, false, false, false, false, false, false, false, false, false] rfl rfl (any_of HT_.out (by kernel_rfl)) (fun _ _ _ h => h) (Or.inl ⟨by rfl, ?_⟩) ?_ ?_
            rotate_left
            · intro w'
              go_simp
              with_reducible rfl
            rotate_left
            · simp only [Act.put, List.setIfInBounds_toArray, List.set_cons_zero, List.set_cons_succ, i64_w, i32_w]
              rfl
            refine pure_ (i := 1) (N := some 48) (v := ?_) (a' := ?_) #[true, true, false, false, false, false, false, false, false, false, false] rfl rfl (any_of HT_.out (by kernel_rfl)) (fun _ _ _ h => h) (Or.inl ⟨by rfl, ?_⟩) ?_ ?_
            rotate_left
            · intro w'
              go_simp
              with_reducible rfl
            rotate_left
            · simp only [Act.put, List.setIfInBounds_toArray, List.set_cons_zero, List.set_cons_succ, i64_w, i32_w]
              rfl
            refine pure_ (i := 2) (N := some 49) (v := ?_) (a' := ?_) #[true, true, true, false, false, false, false, false, false, false, false] rfl rfl (any_of HT_.out (by kernel_rfl)) (fun _ _ _ h => h) (Or.inl ⟨by rfl, ?_⟩) ?_ ?_
            rotate_left
            · intro w'
              go_simp
              with_reducible rfl
            rotate_left
            · simp only [Act.put, List.setIfInBounds_toArray, List.set_cons_zero, List.set_cons_succ, i64_w, i32_w]
              rfl
            refine pure_ (i := 4) (N := some 51) (v := ?_) (a' := ?_) #[true, true, true, false, true, false, false, false, false, false, false] rfl rfl (any_of HT_.out (by kernel_rfl)) (fun _ _ _ h => h) (Or.inl ⟨by rfl, ?_⟩) ?_ ?_
            rotate_left
            · intro w'
              go_simp
              with_reducible rfl
            rotate_left
            · simp only [Act.put, List.setIfInBounds_toArray, List.set_cons_zero, List.set_cons_succ, i64_w, i32_w]
              rfl
            refine pure_ (i := 5) (N := some 52) (v := ?_) (a' := ?_) #[true, true, true, false, true, true, false, false, false, false, false] rfl rfl (any_of HT_.out (by kernel_rfl)) (fun _ _ _ h => h) (Or.inl ⟨by rfl, ?_⟩) ?_ ?_
            rotate_left
            · intro w'
              go_simp
              with_reducible rfl
            rotate_left
            · simp only [Act.put, List.setIfInBounds_toArray, List.set_cons_zero, List.set_cons_succ, i64_w, i32_w]
              rfl
            refine take_ (i := 3) (N := some 50) (v := ?_) (a' := ?_) #[true, true, true, true, true, true, false, false, false, false, false] rfl rfl (take_ofW HT_.out HW_.out (by kernel_rfl)) (fun _ _ _ h => h) (Or.inl ⟨by rfl, ?_⟩) hHeld ?_ ?_
            rotate_left
            · rintro w' ⟨s0, s1, s2⟩
              go_simp
              with_reducible rfl
            rotate_left
            · simp only [Act.put, List.setIfInBounds_toArray, List.set_cons_zero, List.set_cons_succ, i64_w, i32_w]
              rfl
            refine one_ (i := 6) (N := some 53) #[true, true, true, true, true, true, true, false, false, false, false] rfl rfl (one_of HT_.out (by kernel_rfl)) (by decide) (fun K hK => ?_)
            refine goes_ Try.func100 (by kernel_rfl) rfl #[.slice (some ⟨pb, 16 * m, none⟩) (piece xs m).length (piece xs m).length] (by rfl) rfl rfl (by (try simp only [List.map_toArray, List.map_cons, List.map_nil]); first | done | rfl) ?_
            refine (clone100 _ _ _ (piece xs m) _ HXd.out (by rw [piece_len]; omega)).mono ?_
            rintro e w32 ⟨vd, rfl, ho0, hb⟩
            refine ⟨_, rfl, ?_⟩
            have n0_ := Aside0.mk (Kd.S_elder' HSd.out (Kd.R_base ho0) hb)
            have n1_ := Aside0.mk (Kd.R_elder' HPd.out (Kd.R_base ho0) hb)
            have n2_ := Aside0.mk (Kd.R_lower (Kd.R_new' ho0 (Kd.R_lt HPd.out)) HBd.out.size)
            have n3_ := Aside0.mk (blk_below BKd.out hb)
            have n4_ := Aside0.mk (own_below OWd.out hb)
            have n5_ := Aside0.mk (below_step HBd.out hb)
            clear HSd HPd BKd OWd HBd HXd hb ho0
            have HSd := n0_
            have HPd := n1_
            have HOd := n2_
            have BKd := n3_
            have OWd := n4_
            have HBd := n5_
            clear n0_ n1_ n2_ n3_ n4_ n5_
            obtain ⟨Ad, cd, ed⟩ := Kd.R_slice HOd.out
            subst ed
            refine hK.out _ _ ⟨(blk_cell BKd.out 0).trans rfl, (blk_cell BKd.out 1).trans rfl, (blk_cell BKd.out 2).trans rfl⟩ (fun hHeld => ?_)
            clear hK K
            refine norm_ (a' := ?_) ?_ ?_
            rotate_left
            · show Act.put _ (some 53) _ = _
              simp only [Act.put, List.setIfInBounds_toArray, List.set_cons_zero, List.set_cons_succ, i64_w, i32_w]
              rfl
            refine pure_ (i := 7) (N := some 54) (v := ?_) (a' := ?_) #[true, true, true, true, true, true, true, true, false, false, false] rfl rfl (any_of HT_.out (by kernel_rfl)) (fun _ _ _ h => h) (Or.inl ⟨by rfl, ?_⟩) ?_ ?_
            rotate_left
            · intro w'
              go_simp
              with_reducible rfl
            rotate_left
            · simp only [Act.put, List.setIfInBounds_toArray, List.set_cons_zero, List.set_cons_succ, i64_w, i32_w]
              rfl
            refine one_ (i := 8) (N := some 55) #[true, true, true, true, true, true, true, true, true, false, false] rfl rfl (one_of HT_.out (by kernel_rfl)) (by decide) (fun K hK => ?_)
            refine value_ (w1 := ?_) (v := ?_) (by rfl) rfl ?_ ?_
            rotate_left 2
            · go_simp
              constructor
              · rfl
              · rfl
            refine hK.out _ _ ⟨(blk_cell (blk_alloc BKd.out _) 0).trans rfl, (blk_cell (blk_alloc BKd.out _) 1).trans rfl, (blk_cell (blk_alloc BKd.out _) 2).trans rfl⟩ (fun hHeld => ?_)
            clear hK K
            refine norm_ (a' := ?_) ?_ ?_
            rotate_left
            · show Act.put _ (some 55) _ = _
              simp only [Act.put, List.setIfInBounds_toArray, List.set_cons_zero, List.set_cons_succ, i64_w, i32_w]
              rfl
            have HPA := Aside0.mk (Kd.R_mono (ok' := fun b => (True ∧ some b ≠ (Value.slice (some ⟨pb, 0, none⟩) xs.length cp : Value).ownBlock) ∧ some b ≠ (u4 : Value).ownBlock) (Kd.R_apart' (HOd.out) (Kd.S_typed HSd.out) (by decide)) (fun b hb => ⟨⟨trivial, hb.1.2⟩, hb.2⟩))
            have HML := Aside0.mk hml
            refine one_ (i := 9) (N := some 56) #[true, true, true, true, true, true, true, true, true, true, false] rfl rfl (one_of HT_.out (by kernel_rfl)) (by decide) (fun K hK => ?_)
            refine Kd.S_append_step k77 (w0 := w) w.heap.size (by rfl) (.tmp 47) (.tmp 55) 69 77 (.agg #[(.int .i64 0), (.int .i64 0), (.int .i64 0), (.int .i64 0), (.int .i64 0), (.int .i64 0), (.slice none 0 0), (.int .i64 0), (.int .i64 0), (.slice none 0 0), (.slice none 0 0), (.int .i64 0), (.int .i64 0), (.slice none 0 0), (.slice none 0 0), (.int .i64 0), (.slice none 0 0), (.slice none 0 0)]) 256 rfl Try.underlying69 info77 rfl (by decide) (by omega) u4 out (msgOf k id g (piece xs m)) [.int .i64 k, .int .i64 id, .int .i64 g, .int .i64 0, .int .i64 0, .int .i64 0, .slice none 0 0, .int .i64 0, .int .i64 0, .slice none 0 0, .slice none 0 0, .int .i64 0, .int .i64 0, .slice none 0 0, .slice none 0 0, .int .i64 0, .slice none 0 0, .slice Ad (piece xs m).length cd] (fun b => True ∧ some b ≠ (Value.slice (some ⟨pb, 0, none⟩) xs.length cp : Value).ownBlock) (fun b => some b = (Value.slice Ad (piece xs m).length cd : Value).ownBlock) rfl rfl ?aP (fun b hb => HPA.out.1 b hb.symm) ?aF ?aO HBd.out HBd.out.size (by have := HML.out; omega) ?_
            case aP => exact k77_mkM _ _ _ (msgOf k id g (piece xs m)) (Kd.R_nil _ _ _ _ _) (Kd.R_nil _ _ _ _ _) (Kd.R_nil _ _ _ _ _) (Kd.R_nil _ _ _ _ _) (Kd.R_nil _ _ _ _ _) (Kd.R_nil _ _ _ _ _) (Kd.R_mono (Kd.R_tight rfl HPA.out) (fun _ h_ => h_))
            case aF => exact fun b hb => ⟨trivial, Kd.fresh' (Kd.R_lt HPd.out) b hb⟩
            case aO => exact Kd.S_mono HSd.out (fun b hb => ⟨hb.1, fun e_ => hb.2 e_⟩)
            intro v6 w6 ho hb hg hat
            have n0_ := Aside0.mk (Kd.R_mono (Kd.R_over' HPd.out (Kd.S_typed HSd.out) (by decide) hg) (fun _ _ => trivial))
            have n1_ := Aside0.mk (blk_grown BKd.out hg (Kd.S_ne HSd.out BKd.out (by decide)))
            have n2_ := Aside0.mk hb
            have n3_ := Aside0.mk (OWd.out.kept hg (OwnNe HSd.out OWd.out))
            have n4_ := Aside0.mk ho
            clear HSd HPd BKd OWd HBd ho hb hg hat HPA HOd
            have HPd : Aside0 (Kd.R (Kd.int .i64) 3 w6 w.heap.size (fun _ => True) (Value.slice (some ⟨pb, 0, none⟩) xs.length cp) xs) := n0_
            have BKd := n1_
            have HBd := n2_
            have OWd := n3_
            have HSd := n4_
            clear n0_ n1_ n2_ n3_ n4_
            refine hK.out _ _ ⟨(blk_cell BKd.out 0).trans rfl, (blk_cell BKd.out 1).trans rfl, (blk_cell BKd.out 2).trans rfl⟩ (fun hHeld => ?_)
            clear hK K
            refine norm_ (a' := ?_) ?_ ?_
            rotate_left
            · show Act.put _ (some 56) _ = _
              simp only [Act.put, List.setIfInBounds_toArray, List.set_cons_zero, List.set_cons_succ, i64_w, i32_w]
              rfl
            refine pure_ (i := 10) (N := some 4) (v := ?_) (a' := ?_) #[true, true, true, true, true, true, true, true, true, true, true] rfl rfl (any_of HT_.out (by kernel_rfl)) (fun _ _ _ h => h) (Or.inl ⟨by rfl, ?_⟩) ?_ ?_
            rotate_left
            · intro w'
              go_simp
              with_reducible rfl
            rotate_left
            · simp only [Act.put, List.setIfInBounds_toArray, List.set_cons_zero, List.set_cons_succ, i64_w, i32_w]
              rfl
            refine done_ (done_of HT_.out (by kernel_rfl)) ?_
            go_wp2
            go_roundw
            case rel =>
              exact ⟨m + 1, by go_num, by omega, ⟨by rw [MS.out]; exact HSd.out⟩, HPd, OWd, BKd, HBd⟩
            case measure => simp [intOf]; omega
          · obtain rfl : m = K := by omega
            have z1 : wr.cell? ⟨w.heap.size, 1, none⟩ = some (.int .i64 n) := (blk_cell BK.out 1).trans rfl
            have hms : msgsTo id n rows q ++ msgsKT id n rows g k m = msgsTo id n rows (q + 1) := by rw [msgsTo_succ, HG.out, HK.out, HXS.out, cnt, HKX.out]
            rw [hms] at HS
            clear hms
            have hg0 := HG.out
            have hk0 := HK.out
            unfold toOf at hg0
            unfold kOf at hk0
            have HQ := Aside0.mk hq
            have HS8 := Aside0.mk (Kd.S_mono HS.out (ok' := fun _ => True) (fun _ _ => trivial))
            rcases Nat.mod_two_eq_zero_or_one q with hp | hp
            · obtain rfl : k = 7 := by omega
              have hgn : g ≤ n := by omega
              have hg1 : toOf (q + 1) = g := by unfold toOf; omega
              have hk1 : kOf (q + 1) = 8 := by unfold kOf; omega
              go_wp2
              go_step3
              refine ⟨rfl, ⟨q + 1, _, _, _, _, _, _, _, _, _, _, _, _, _, _, _, _, _, _, _, _, _, _, _, _, _, _, _, _, _, _, _, _, _, _, _, _, _, _, _, _, _, _, _, _, _, _, _, _, _, _, _, _, _, _, _, _, _, _, _, _, _, _, _, by rw [hg1, hk1], h2, by omega, HS8, BK, HB⟩, ?_⟩
              simp [intOf]; omega
            · obtain rfl : k = 8 := by omega
              by_cases hend : g + 1 ≤ n
              · have hg1 : toOf (q + 1) = g + 1 := by unfold toOf; omega
                have hk1 : kOf (q + 1) = 7 := by unfold kOf; omega
                go_wp2
                go_step3
                refine ⟨rfl, ⟨q + 1, _, _, _, _, _, _, _, _, _, _, _, _, _, _, _, _, _, _, _, _, _, _, _, _, _, _, _, _, _, _, _, _, _, _, _, _, _, _, _, _, _, _, _, _, _, _, _, _, _, _, _, _, _, _, _, _, _, _, _, _, _, _, _, by rw [hg1, hk1], h2, by omega, HS8, BK, HB⟩, ?_⟩
                simp [intOf]; omega
              · have hfin : q + 1 = 2 * n.toNat := by omega
                have hn1 : ¬ n = 1 := by omega
                go_wp2
                simp only [Exit.jump]
                refine bodyPost_ret (results_tmp rfl _ _ _) rfl ?_
                exact ⟨_, rfl, by rw [if_neg hn1, ← hfin]; exact HS8.out, HB.out⟩
  · intro hp
    by_cases hn : n = 1
    · have hnb : (n == 1) = true := by rw [hn]; rfl
      go_wp2
      simp only [Exit.jump]
      refine bodyPost_ret (results_tmp rfl _ _ _) rfl ?_
      exact ⟨_, rfl, by rw [if_pos hn]; exact Kd.S_nil _ _ _ _ _, below_alloc (Below.refl _ _) _⟩
    · have hnb : (n == 1) = false := beq_eq_false_iff_ne.mpr hn
      go_wp2
      go_step3
      rename_i K1 hK1
      exact hK1 _ _ (hp _ _ ⟨0, _, _, _, _, _, _, _, _, _, _, _, _, _, _, _, _, _, _, _, _, _, _, _, _, _, _, _, _, _, _, _, _, _, _, _, _, _, _, _, _, _, _, _, _, _, _, _, _, _, _, _, _, _, _, _, _, _, _, _, _, _, _, _, rfl, by omega, by omega, ⟨Kd.S_nil _ _ _ _ _⟩, ⟨blk_new _ _⟩, ⟨below_alloc (Below.refl _ _) _⟩⟩)
end Go.Proofs.Ytkpngcppijgeeaa.H
