import Derived.Test.YtkpngcppijgeeaaH0
import Derived.Lib.AppendZerosOnto
import Derived.Lib.Overlaps

import Derived.Deep.RegionLaw
set_option linter.unusedVariables false
set_option linter.unusedSimpArgs false
namespace Go.Proofs.Ytkpngcppijgeeaa.H
open Go.RowKit Go.Proofs.YtkpngcppijgeeaaW.PrintWords Go.Proofs.YtkpngcppijgeeaaW.PrintLast Go.Proofs.YtkpngcppijgeeaaW.PrintMore Go.Proofs.Ytkpngcppijgeeaa.PFetchExact
section
variable {P : Program}
/-- copy, elements of k cells. -/
theorem run_copy_n (w : World) (dT sT ty elem : TypeId) (k : Nat) (b o dLen dCap : Nat) (a : Addr) (sLen sCap m : Nat) (cs : List Value)
    (hu : P.underlying dT = some (.slice elem)) (hs : (P.info? elem).map (·.size) = some k) (hm : m = Nat.min sLen dLen) (hn : cs.length = m * k)
    (hsrc : ∀ j v, cs[j]? = some v → w.cell? (a.add j) = some v) (hc : ∀ j, j < cs.length → (w.cell? ⟨b, o + j, none⟩).isSome = true) (hf : ∀ j, j < cs.length → w.frozen? ⟨b, o + j, none⟩ = false) (h1 : ∀ v ∈ cs, v.oneCell' = true) :
    (Builtin.copy_ #[dT, sT] ty #[.slice (some ⟨b, o, none⟩) dLen dCap, .slice (some a) sLen sCap]).run P w = .ok (goInt m) (w.setCells b o cs) := by
  have hl := run_loadCells_list (P := P) w a cs hsrc
  have hst := run_storeCells_cells (P := P) b o cs 0 w (by simpa using hc) (by simpa using hf) h1
  cases hq : P.info? elem with
  | none => simp [hq] at hs
  | some i =>
    have hi : i.size = k := by simpa [hq] using hs
    simp [Builtin.copy_, run_underlying hu, Builtin.lenOf, Builtin.firstCells, sizeOf, typeInfo, hq, hi, ← hm, ← hn, hl, hst]
theorem wp_copy_runH (w : World) {o : Oper} {a : Act} {K : Act → World → Prop} {Q : Exit → Act → World → Prop} (d s : Operand) (t t' : TypeId)
    (ho : o.op = .call { callee := .builtin .copy, args := #[d, s], argTypes := #[t, t'] }) (v u : Value) (hd : a.eval d = v) (hs : a.eval s = u) {v' : Value} {w' : World}
    (hr : (Builtin.copy_ #[t, t'] o.type #[v, u]).run P w = .ok v' w') (h : K (a.put o.dst v') w') : o.wp P a w K Q := by
  unfold Oper.wp execOp
  simp only [ho, resolve, invoke, builtin, Sem.run_bind, Sem.run_pure, Result.andThen_ok, List.map_toArray, List.map_cons, List.map_nil, hd, hs, hr]
  exact h
theorem wpList_copy_runH (w : World) {ops : Array Oper} {rest : List Oper} {o : Oper} {a : Act} {Q : Exit → Act → World → Prop} (hgd : o.guard = none) (d s : Operand) (t t' : TypeId)
    (ho : o.op = .call { callee := .builtin .copy, args := #[d, s], argTypes := #[t, t'] }) (v u : Value) (hd : a.eval d = v) (hs : a.eval s = u) {v' : Value} {w' : World}
    (hr : (Builtin.copy_ #[t, t'] o.type #[v, u]).run P w = .ok v' w') (h : wpList P ops Q rest (a.put o.dst v') w') : wpList P ops Q (o :: rest) a w :=
  wpList_plain hgd fun _ hK => wp_copy_runH w d s t t' ho v u hd hs hr (hK _ _ h)
theorem step_copy_runH {ops : Array Oper} {o : Oper} {a : Act} {w : World} {K : Act → World → Prop} {Q : Exit → Act → World → Prop} {E : Prop}
    (hg : o.guard = none) (d x : Operand) (dT sT : TypeId) (hop : o.op = Op.call { callee := Callee.builtin Builtin.copy, args := #[d, x], argTypes := #[dT, sT] })
    (v u : Value) (hd : a.eval d = v) (hx : a.eval x = u) {v' : Value} {w' : World} (hr : (Builtin.copy_ #[dT, sT] o.type #[v, u]).run P w = .ok v' w') (hK : K (a.put o.dst v') w') :
    if Region.wanted o (yielded ops a.tmps) = true then Oper.wp P o a w K Q else E := by
  have hw : Region.wanted o (yielded ops a.tmps) = true := by simp [Region.wanted, hg]
  rw [if_pos hw]
  unfold Oper.wp
  simp [execOp, hop, resolve, invoke, builtin, hd, hx, hr, Result.andThen]
  exact hK
theorem step_append_runH {ops : Array Oper} {o : Oper} {a : Act} {w : World} {K : Act → World → Prop} {Q : Exit → Act → World → Prop} {E : Prop}
    (hg : o.guard = none) (d x : Operand) (dT sT : TypeId) (hop : o.op = Op.call { callee := Callee.builtin Builtin.append, args := #[d, x], argTypes := #[dT, sT] })
    (v u : Value) (hd : a.eval d = v) (hx : a.eval x = u) {v' : Value} {w' : World} (hr : (Builtin.append_ #[dT, sT] o.type #[v, u]).run P w = .ok v' w') (hK : K (a.put o.dst v') w') :
    if Region.wanted o (yielded ops a.tmps) = true then Oper.wp P o a w K Q else E := by
  have hw : Region.wanted o (yielded ops a.tmps) = true := by simp [Region.wanted, hg]
  rw [if_pos hw]
  unfold Oper.wp
  simp [execOp, hop, resolve, invoke, builtin, hd, hx, hr, Result.andThen]
  exact hK
/-- clear, elements of several cells. -/
theorem run_clear_n (w : World) (t ty elem : TypeId) (z : Value) (b o n c : Nat) (hu : P.underlying t = some (.slice elem)) (hz : ∀ w, (zeroValue elem).run P w = .ok z w) (h0 : 0 < n)
    (hc : ∀ j, j < n * z.cells.size → (w.cell? ⟨b, o + j, none⟩).isSome = true) (hf : ∀ j, j < n * z.cells.size → w.frozen? ⟨b, o + j, none⟩ = false) (h1 : ∀ v ∈ (Builtin.zeroCells z.cells n).toList, v.oneCell' = true) :
    (Builtin.clear_ #[t] ty #[.slice (some ⟨b, o, none⟩) n c]).run P w = .ok (.tuple #[]) (w.setCells b o (Builtin.zeroCells z.cells n).toList) := by
  have hst := run_storeCells_cells (P := P) b o (Builtin.zeroCells z.cells n).toList 0 w (by simpa [size_zeroCells] using hc) (by simpa [size_zeroCells] using hf) h1
  obtain ⟨m, rfl⟩ : ∃ m, n = m + 1 := ⟨n - 1, by omega⟩
  simp only [Nat.add_zero] at hst
  simp [Builtin.clear_, run_underlying hu, hz, hst]
theorem wpList_clear_runH (w : World) {ops : Array Oper} {rest : List Oper} {o : Oper} {a : Act} {Q : Exit → Act → World → Prop} (hgd : o.guard = none) (d : Operand) (t : TypeId)
    (ho : o.op = .call { callee := .builtin .clear, args := #[d], argTypes := #[t] }) (v : Value) (hd : a.eval d = v) {v' : Value} {w' : World}
    (hr : (Builtin.clear_ #[t] o.type #[v]).run P w = .ok v' w') (h : wpList P ops Q rest (a.put o.dst v') w') : wpList P ops Q (o :: rest) a w :=
  wpList_plain hgd fun _ hK => by
    unfold Oper.wp execOp
    simp only [ho, resolve, invoke, builtin, Sem.run_bind, Sem.run_pure, Result.andThen_ok, List.map_toArray, List.map_cons, List.map_nil, hd, hr]
    exact hK _ _ h
end
/-- A row of the call's own, out of its cells: what is known of its elements was known ahead of a step that wrote that row alone. -/
theorem R_of_cells {α : Type} (d : Kd α) {e base : Nat} {ok : Nat → Prop} {w w' : World} {v v' : Value} {xs : List α} {inner : List Value} {n : Nat} (hn : xs.length = n) (hown : w'.ownsRow base e d.sz v' n inner)
    (hreps : Reps (d.M w base (fun k => ok k ∧ some k ≠ v.ownBlock)) d.sz xs inner) (hg : w.grownBy w' v.ownBlock) (hat : v'.ownBlock = v.ownBlock ∨ ∃ b, v'.ownBlock = some b ∧ w.heap.size ≤ b)
    (hok : ∀ k, v.ownBlock = some k → ok k) (hfr : ∀ k, w.heap.size ≤ k → ok k) : d.R e w' base ok v' xs := by
  have hne : ∀ k, some k ≠ v.ownBlock → k < w.heap.size → some k ≠ v'.ownBlock := by
    intro k hk hlt
    rcases hat with hat | ⟨b, hb, hle⟩
    · rw [hat]; exact hk
    · rw [hb]; intro he; injection he with he; omega
  refine ⟨fun k hk => ?_, inner, by rw [hn]; exact hown, hreps.imp_ fun q c hq => ?_⟩
  · rcases hat with hat | ⟨b, hb, hle⟩
    · exact hok k (hat ▸ hk)
    · rw [hb] at hk; injection hk with hk; exact hfr k (by omega)
  · have h1 := d.M_move (w1 := w') (fun k hk => hg.block k hk.2.2.1 hk.1.2) (d.M_bound hq)
    exact d.M_mono (fun k hk => ⟨hk.1.1, hne k hk.1.2 hk.2.2.1⟩) h1
theorem reps_one {α : Type} {R : α → List Value → Prop} {size : Nat} {y : α} {c : List Value} (h : R y c) (hc : c.length = size) : Reps R size [y] c :=
  ⟨by simp [hc], fun j p hj => by
    rcases j with _ | j
    · simp at hj; subst hj; simpa [← hc] using h
    · simp at hj⟩
theorem reps_insert {α : Type} {R : α → List Value → Prop} {size i : Nat} {ps : List α} {cs c : List Value} {y : α} (h : Reps R size ps cs) (hy : R y c) (hc : c.length = size) (hi : i ≤ ps.length) :
    Reps R size (ps.take i ++ y :: ps.drop i) (cs.take (i * size) ++ (c ++ cs.drop (i * size))) := by
  have e : ps.take i ++ y :: ps.drop i = ps.take i ++ ([y] ++ ps.drop i) := by simp
  rw [e]
  exact Kd.reps_append (Kd.reps_take h hi) (Kd.reps_append (reps_one hy hc) (Kd.reps_drop h))
theorem blk_some {w : World} {g : Nat} {t : TypeId} {cs : Array Value} (h : w.heap[g]? = some (.cells cs t (0, 0))) {j : Nat} (hj : j < cs.size) : (w.cell? ⟨g, j, none⟩).isSome = true := by
  rw [cell_of_row w g j cs t (0, 0) h]; simp [hj]
theorem Kd.reps_one' {α : Type} {d : Kd α} {w : World} {base : Nat} {ok : Nat → Prop} {xs : List α} {cs : List Value} (h : Reps (d.M w base ok) d.sz xs cs) (u : Value) (hu : u ∈ cs) : u.oneCell' = true := by
  obtain ⟨q, hq, rfl⟩ := List.mem_iff_getElem.1 hu
  rcases Nat.eq_zero_or_pos d.sz with h0 | hs0
  · have := h.1; rw [h0, Nat.mul_zero] at this; omega
  have hql : q / d.sz < xs.length := by rw [Nat.div_lt_iff_lt_mul hs0, ← h.1]; exact hq
  refine d.K_one (d.K_of_M (h.2 (q / d.sz) _ (List.getElem?_eq_getElem hql))) _ ?_
  rw [List.mem_iff_getElem?]
  refine ⟨q % d.sz, ?_⟩
  rw [List.getElem?_take, if_pos (Nat.mod_lt _ hs0), List.getElem?_drop, Nat.mul_comm, Nat.div_add_mod, List.getElem?_eq_getElem hq]
/-- What insert leaves, in place. -/
theorem own_shift {w : World} {base e k g n cap i : Nat} {cur : Array Value} {inner news : List Value} (hg : base ≤ g) (hh : w.heap[g]? = some (.cells cur e (0, 0))) (hc : n + 1 ≤ cap) (hcm : cap ≤ maxLen) (hcs : cur.size = cap * k) (htk : cur.toList.take (n * k) = inner)
    (hi : i ≤ n) (hn : news.length = k) :
    ((w.setCells g ((i + 1) * k) (inner.drop (i * k))).setCells g (i * k) news).ownsRow base e k (.slice (some ⟨g, 0, none⟩) (n + 1) cap) (n + 1) (inner.take (i * k) ++ (news ++ inner.drop (i * k))) := by
  have hk : (n + 1) * k ≤ cap * k := Nat.mul_le_mul_right _ hc
  have hik : i * k ≤ n * k := Nat.mul_le_mul_right _ hi
  have e1 : (i + 1) * k = i * k + k := Nat.succ_mul ..
  have e2 : (n + 1) * k = n * k + k := Nat.succ_mul ..
  have hlen : inner.length = n * k := by rw [← htk, List.length_take, Array.length_toList]; omega
  obtain ⟨c1, h1, h2, h3⟩ := setCells_row (inner.drop (i * k)) ((i + 1) * k) w cur hh (by rw [List.length_drop]; omega)
  obtain ⟨c2, h4, h5, h6⟩ := setCells_row news (i * k) _ c1 h1 (by omega)
  refine ⟨by simp; omega, .inr ⟨g, cap, c2, rfl, hg, h4, hc, hcm, by omega, ?_⟩⟩
  rw [h6, h3]
  have e3 : (cur.toList.take ((i + 1) * k) ++ inner.drop (i * k) ++ cur.toList.drop ((i + 1) * k + (inner.drop (i * k)).length)).take (i * k) = inner.take (i * k) := by
    rw [List.append_assoc, List.take_append_of_le_length (by rw [List.length_take, Array.length_toList]; omega), List.take_take, ← htk, List.take_take]
    congr 1; omega
  rw [e3]
  have e4 : (cur.toList.take ((i + 1) * k) ++ inner.drop (i * k) ++ cur.toList.drop ((i + 1) * k + (inner.drop (i * k)).length)).drop (i * k + news.length) = inner.drop (i * k) ++ cur.toList.drop ((i + 1) * k + (inner.drop (i * k)).length) := by
    rw [List.append_assoc]
    exact List.drop_left' (by rw [List.length_take, Array.length_toList]; omega)
  rw [e4, ← List.append_assoc, ← List.append_assoc]
  rw [List.take_append_of_le_length (by simp; omega), List.take_of_length_le (by simp; omega), List.append_assoc]
/-- What insert leaves, in a new row. -/
theorem own_spread {W1 : World} {base e k g n cap i : Nat} {cur : Array Value} {inner news : List Value} (hg : base ≤ g) (hh : W1.heap[g]? = some (.cells cur e (0, 0))) (hc : n + 1 ≤ cap) (hcm : cap ≤ maxLen) (hcs : cur.size = cap * k) (hil : inner.length = n * k)
    (htk : cur.toList.take (i * k) = inner.take (i * k)) (hi : i ≤ n) (hn : news.length = k) :
    (((W1.setCells g (i * k) news).drew).setCells g ((i + 1) * k) (inner.drop (i * k))).ownsRow base e k (.slice (some ⟨g, 0, none⟩) (n + 1) cap) (n + 1) (inner.take (i * k) ++ (news ++ inner.drop (i * k))) := by
  have hk : (n + 1) * k ≤ cap * k := Nat.mul_le_mul_right _ hc
  have hik : i * k ≤ n * k := Nat.mul_le_mul_right _ hi
  have e1 : (i + 1) * k = i * k + k := Nat.succ_mul ..
  have e2 : (n + 1) * k = n * k + k := Nat.succ_mul ..
  obtain ⟨c1, h1, h2, h3⟩ := setCells_row news (i * k) W1 cur hh (by omega)
  obtain ⟨c2, h4, h5, h6⟩ := setCells_row (inner.drop (i * k)) ((i + 1) * k) (W1.setCells g (i * k) news).drew c1 h1 (by rw [List.length_drop]; omega)
  refine ⟨by simp; omega, .inr ⟨g, cap, c2, rfl, hg, h4, hc, hcm, by omega, ?_⟩⟩
  have e3 : c1.toList.take ((i + 1) * k) = inner.take (i * k) ++ news := by
    rw [h3, htk, List.take_append_of_le_length (by simp; omega), List.take_of_length_le (by simp; omega)]
  rw [h6, e3, ← List.append_assoc, List.take_append_of_le_length (by simp; omega), List.take_of_length_le (by simp; omega)]
def n86 (y : S86) : List Value := [.int .i64 y.f0, .int .i64 y.f1, .int .i64 y.f2, .int .i64 y.f3]
theorem n86_one (y : S86) : ∀ u ∈ n86 y, u.oneCell' = true := by simp [n86, Value.oneCell']
theorem insert_i {w : World} {base : Nat} {ok : Nat → Prop} (v : Value) (xs : List S86) (i : Nat) (y : S86) (n : Nat) (inner : List Value) (hok : ∀ k, v.ownBlock = some k → ok k) (hreps : Reps (k86.M w base (fun k => ok k ∧ some k ≠ v.ownBlock)) 4 xs inner) (hn : xs.length = n) (hi : i ≤ n) (hfr : ∀ k, w.heap.size ≤ k → ok k)
    (v' : Value) (w' : World) (hown : w'.ownsRow base 86 4 v' (n + 1) (inner.take (i * 4) ++ (n86 y ++ inner.drop (i * 4)))) (hg : w.grownBy w' v.ownBlock) (hat : v'.ownBlock = v.ownBlock ∨ ∃ b, v'.ownBlock = some b ∧ w.heap.size ≤ b) :
    ∃ u, Ending.returned v' = .returned u ∧ k86.R 86 w' base ok u (xs.take i ++ y :: xs.drop i) ∧ w.grownBy w' v.ownBlock ∧ (u.ownBlock = v.ownBlock ∨ ∃ b, u.ownBlock = some b ∧ w.heap.size ≤ b) :=
  ⟨v', rfl, R_of_cells k86 (by simp; omega) hown (reps_insert hreps (k86_mkM _ _ _ _) rfl (by omega)) hg hat hok hfr, hg, hat⟩
set_option maxHeartbeats 1000000 in
set_option maxRecDepth 100000 in
theorem insert112 {base : Nat} {ok : Nat → Prop} (v : Value) (xs : List S86) (i : Nat) (y : S86) (lb : Nat) (w : World) (HO : k86.R 86 w base ok v xs) (hi : i ≤ xs.length) (hb : base ≤ w.heap.size) (hfr : ∀ k, w.heap.size ≤ k → ok k)
    (hlb : w.heap[lb]? = some (.cells (n86 y).toArray 86 (0, 0))) (hne : some lb ≠ v.ownBlock) (hl : (xs.length + 1) * 32 ≤ 140737488355328) :
    Calls Try.prog 112 #[v, .int .i64 i, .slice (some ⟨lb, 0, none⟩) 1 1] w fun e w' => ∃ v', e = .returned v' ∧ k86.R 86 w' base ok v' (xs.take i ++ y :: xs.drop i) ∧ w.grownBy w' v.ownBlock ∧ (v'.ownBlock = v.ownBlock ∨ ∃ b, v'.ownBlock = some b ∧ w.heap.size ≤ b) := by
  obtain ⟨hok, inner, hown, hreps⟩ := HO
  obtain ⟨n, hn⟩ : ∃ n, xs.length = n := ⟨_, rfl⟩
  rw [hn] at hi hl hown
  have hown : w.ownsRow base 86 4 v n inner := hown
  have hreps : Reps (k86.M w base (fun k => ok k ∧ some k ≠ v.ownBlock)) 4 xs inner := hreps
  obtain ⟨i0, hi0, hzz⟩ := Option.map_eq_some_iff.1 info86
  simp only [Prod.mk.injEq] at hzz
  obtain ⟨hz0, hz1, hz2⟩ := hzz
  have fin := Lib.hid (insert_i v xs i y n inner hok hreps hn hi hfr)
  have hnews : ∀ j u, (n86 y)[j]? = some u → w.cell? ((⟨lb, 0, none⟩ : Addr).add j) = some u := by simpa using World.news_of_block hlb
  have hil : inner.length = n * 4 := hown.1
  have HN := Lib.hid hn
  have HL := Lib.hid hlb
  have HW := Lib.hid hnews
  clear hn hreps hok hfr hlb hnews
  rcases Nat.eq_or_lt_of_le hi with rfl | hlt
  · have hap : ∀ v' w', w'.ownsRow base 86 4 v' (i + 1) (inner ++ n86 y) → w.grownBy w' v.ownBlock → (v'.ownBlock = v.ownBlock ∨ v'.ownBlock = some w.heap.size) → _ := fun v' w' h1 h2 h3 => fin.out v' w' (by
      rw [List.take_of_length_le (by omega), List.drop_of_length_le (by omega), List.append_nil]; exact h1) h2 (h3.imp id (fun h => ⟨_, h, Nat.le_refl _⟩))
    have HA := Lib.hid hap
    clear hap
    rcases hown.2 with ⟨rfl, rfl⟩ | ⟨g, cap, cur, rfl, hg, hh, hnc, hcm, hcs, htk⟩
    · go_enter Try.func112, Try.ntmps112
      go_wp2_with (at_builtin; refine wpList_append_own_at _ rfl _ _ 61 rfl base 86 i0 _ 4 32 Try.underlying61 hi0 hz0 hz1 hz2 rfl (by decide) _ 0 inner rfl hown ⟨lb, 0, none⟩ 1 1 (n86 y) rfl rfl HW.out (n86_one y) (by simp [maxLen]) (by omega) hb ?_)
      intro v' w1 hown' hgr _ hat
      go_wp2
      go_ret
      exact HA.out _ _ hown' hgr hat
    · have hcm' : cap ≤ 9223372036854775807 := hcm
      have HH := Lib.hid hh
      have HC := Lib.hid hcs
      clear hh hcs htk
      rcases Nat.eq_or_lt_of_le hnc with rfl | hnc'
      all_goals
        go_enter Try.func112, Try.ntmps112
        go_wp2_with (at_builtin; refine wpList_append_own_at _ rfl _ _ 61 rfl base 86 i0 _ 4 32 Try.underlying61 hi0 hz0 hz1 hz2 rfl (by decide) _ i inner rfl hown ⟨lb, 0, none⟩ 1 1 (n86 y) rfl rfl HW.out (n86_one y) (by simp only [maxLen]; omega) (by omega) hb ?_)
        intro v' w1 hown' hgr _ hat
        go_wp2
        go_ret
        exact HA.out _ _ hown' hgr hat
  · rcases hown.2 with ⟨rfl, rfl⟩ | ⟨g, cap, cur, rfl, hg, hh, hnc, hcm, hcs, htk⟩
    · omega
    have hcm' : cap ≤ 9223372036854775807 := hcm
    have hlg : lb ≠ g := fun h => hne (by rw [h]; rfl)
    rcases Nat.lt_or_ge n cap with hroom | hroom
    · have hov : ∀ lb' cb, (callFunc 142 #[.slice (some ⟨lb, 0, none⟩) 1 1, .slice (some ⟨g, (i + 1) * 4, none⟩) lb' cb]).run Try.prog w = .ok (.value (.bool false)) w := fun lb' cb => by
        rw [run_callFunc_extern Try.func142 (by kernel_rfl) (by kernel_rfl) (by kernel_rfl) (e := Extern.SlicesOverlaps.overlaps #[61, 61] #[4]) (by kernel_rfl),
          Lib.run_overlaps_apart w 61 4 86 Try.underlying61 4 (Try.sizeOf86) ⟨lb, 0, none⟩ ⟨g, (i + 1) * 4, none⟩ 1 1 lb' cb hlg 86 86 4 cur.size (by simp [World.shape?, HL.out, n86]) (by simp [World.shape?, hh]) (by omega) (blk_frozen HL.out _) (blk_frozen HL.out _)]
        rfl
      have hgl : g < w.heap.size := blk_lt hh
      have hdl : (inner.drop (i * 4)).length = (n - i) * 4 := by rw [List.length_drop, hil]; omega
      have hsz : (Try.prog.info? 86).map (·.size) = some 4 := by rw [hi0]; simp [hz1]
      have hwd : w.drew.heap[g]? = some (.cells cur 86 (0, 0)) := hh
      have hcp1 : ∀ ty dc sc, (Builtin.copy_ #[61, 61] ty #[.slice (some ⟨g, (i + 1) * 4, none⟩) (n - i) dc, .slice (some ⟨g, i * 4, none⟩) (n + 1 - i) sc]).run Try.prog w.drew = .ok (goInt (n - i : Nat)) (w.drew.setCells g ((i + 1) * 4) (inner.drop (i * 4))) := fun ty dc sc =>
        run_copy_n w.drew 61 61 ty 86 4 g ((i + 1) * 4) (n - i) dc ⟨g, i * 4, none⟩ (n + 1 - i) sc (n - i) (inner.drop (i * 4)) Try.underlying61 hsz (by simp only [Nat.min_def]; split <;> omega) hdl
          (fun j u hj => by
            rw [Addr.add_lit]
            rw [List.getElem?_drop] at hj
            have := hown.cells (g := g) rfl _ u hj
            rw [Addr.add_lit, Nat.zero_add] at this
            exact this)
          (fun j hj => blk_some hwd (by omega)) (fun j _ => blk_frozen hwd _) (fun u hu => Kd.reps_one' hreps u (List.mem_of_mem_drop hu))
      obtain ⟨c1, h1, h2, h3⟩ := setCells_row (inner.drop (i * 4)) ((i + 1) * 4) w.drew cur hwd (by omega)
      obtain ⟨W1, hW1⟩ : ∃ W1, w.drew.setCells g ((i + 1) * 4) (inner.drop (i * 4)) = W1 := ⟨_, rfl⟩
      rw [hW1] at h1 hcp1
      have hcp2 : ∀ ty dc, (Builtin.copy_ #[61, 61] ty #[.slice (some ⟨g, i * 4, none⟩) (n + 1 - i) dc, .slice (some ⟨lb, 0, none⟩) 1 1]).run Try.prog W1 = .ok (goInt (1 : Nat)) (W1.setCells g (i * 4) (n86 y)) := fun ty dc =>
        run_copy_n W1 61 61 ty 86 4 g (i * 4) (n + 1 - i) dc ⟨lb, 0, none⟩ 1 1 1 (n86 y) Try.underlying61 hsz (by simp only [Nat.min_def]; split <;> omega) rfl
          (fun j u hj => by
            rw [← hW1]
            refine Eq.trans (World.cell?_of_block ?_) (HW.out j u hj)
            rw [Addr.add_lit]
            exact (setCells_far _ _ lb hlg).trans rfl)
          (fun j hj => blk_some h1 (by rw [h2]; simp [n86] at hj; omega)) (fun j _ => blk_frozen h1 _) (n86_one y)
      have hend := fin.out (.slice (some ⟨g, 0, none⟩) (n + 1) cap) (W1.setCells g (i * 4) (n86 y)) (by rw [← hW1]; exact own_shift hg hwd (by omega) hcm hcs htk (by omega) rfl) (by
        obtain ⟨s1, s2, s3, s4⟩ := setCells_same g (n86 y) (i * 4) W1
        obtain ⟨q1, q2, q3, q4⟩ := setCells_same g (inner.drop (i * 4)) ((i + 1) * 4) w.drew
        rw [hW1] at q1 q2 q3 q4
        exact ⟨s1.trans q1, s2.trans q2, s3.trans q3, by rw [s4, q4]; exact Nat.le_refl _, fun k _ hk => by
          have hkg : k ≠ g := fun e => hk (by rw [e]; rfl)
          rw [setCells_far _ _ k hkg, ← hW1, setCells_far _ _ k hkg]; rfl⟩) (.inl rfl)
      have HE := Lib.hid hend
      clear hend h1 h2 h3 hW1 hwd hsz hdl hh hcs htk hreps fin
      go_enter Try.func112, Try.ntmps112
      go_wp2_with (simp only [hov])
      clear hov
      have HC1 := Lib.hid hcp1
      have HC2 := Lib.hid hcp2
      clear hcp1 hcp2
      have q1 : IntKind.i64.wrap ((i : Int) + 1) = (i : Int) + 1 := by rw [IntKind.wrap_i64]; omega
      have q2 : ((i : Int) + 1).toNat = i + 1 := by omega
      have q3 : ¬ (cap = i + 1) := by omega
      have q4 : ¬ (cap = i) := by omega
      have q5 : (0 : Int) ≤ (i : Int) + 1 := by omega
      have q6 : (i : Int) + 1 ≤ (n : Int) + 1 := by omega
      have q7 : (i : Int) ≤ (n : Int) + 1 := by omega
      have q8 : n + 1 - (i + 1) = n - i := by omega
      go_region_law (refine step_copy_runH rfl _ _ 61 61 rfl _ _ (by simp [Act.eval, Act.put]) (by simp [Act.eval, Act.put]) (HC1.out 3 (cap - (i + 1)) (cap - i)) ?_)
      go_wp2_with (refine wpList_copy_runH _ rfl _ _ 61 61 rfl _ _ rfl rfl (HC2.out _ _) ?_)
      go_ret
      exact HE.out
    · obtain rfl : n = cap := by omega
      have hgl : g < w.heap.size := blk_lt hh
      have hsz : (Try.prog.info? 86).map (·.size) = some 4 := by rw [hi0]; simp [hz1]
      have hdl : (inner.drop (i * 4)).length = (n - i) * 4 := by rw [List.length_drop, hil]; omega
      have hcell : ∀ j u, inner[j]? = some u → w.cell? ⟨g, j, none⟩ = some u := fun j u hj => by
        have := hown.cells (g := g) rfl j u hj
        rw [Addr.add_lit, Nat.zero_add] at this
        exact this
      obtain ⟨C1, hC1⟩ : ∃ C1, grownCap w (n + 1) n 86 = C1 := ⟨_, rfl⟩
      have hge : n + 1 ≤ C1 := by rw [← hC1]; exact grownCap_ge ..
      have hCm : C1 ≤ maxLen := by rw [← hC1]; exact grownCap_le_maxLen w _ _ _ (by simp only [maxLen]; omega)
      have hold : (Builtin.firstCells i0.size i (.slice (some ⟨g, 0, none⟩) i n)).run Try.prog w.drew = .ok (inner.take (i * 4)).toArray w.drew := by
        rw [hz1]
        refine run_firstCells_some (P := Try.prog) w.drew 4 i ⟨g, 0, none⟩ i n (inner.take (i * 4)) (by rw [List.length_take]; omega) (fun j u hj => ?_)
        rw [Addr.add_lit, Nat.zero_add]
        rw [List.getElem?_take] at hj
        split at hj
        · exact hcell j u hj
        · cases hj
      have hrun : ∀ ty, (Builtin.append_ #[61, 3] ty #[.slice (some ⟨g, 0, none⟩) i n, .int .i64 ((n + 1 - i : Nat) : Int)]).run Try.prog w = _ := fun ty =>
        Lib.run_append_grow_zeros w 61 3 ty 86 i0 _ .i64 .i64 Try.underlying61 Try.underlying3 hi0 hz0 (some ⟨g, 0, none⟩) i n _ hold (n + 1 - i) (by omega) (by omega) (by omega) (by omega) (by rw [hz2]; omega) (by rw [hz2]; exact growslice_fits (by omega) (by omega))
      rw [show i + (n + 1 - i) = n + 1 by omega, hC1] at hrun
      obtain ⟨cur1, hcur1⟩ : ∃ c, (inner.take (i * 4)).toArray ++ Builtin.zeroCells (Value.agg #[.int .i64 0, .int .i64 0, .int .i64 0, .int .i64 0]).cells (n + 1 - i) ++ Builtin.zeroCells (Value.agg #[.int .i64 0, .int .i64 0, .int .i64 0, .int .i64 0]).cells (C1 - (n + 1)) = c := ⟨_, rfl⟩
      rw [hcur1] at hrun
      have hs1 : cur1.size = C1 * 4 := by
        rw [← hcur1, Array.size_append, Array.size_append, size_zeroCells, size_zeroCells, List.size_toArray, List.length_take]
        show min (i * 4) inner.length + (n + 1 - i) * 4 + (C1 - (n + 1)) * 4 = C1 * 4
        omega
      have ht1 : cur1.toList.take (i * 4) = inner.take (i * 4) := by
        rw [← hcur1, Array.toList_append, Array.toList_append, List.append_assoc, List.take_append_of_le_length (by simp; omega)]; simp only [List.take_take, Nat.min_self]
      obtain ⟨W1, hW1⟩ : ∃ W1, w.drew.alloc (.cells cur1 86) = W1 := ⟨_, rfl⟩
      rw [hW1] at hrun
      have hh1 : W1.heap[w.heap.size]? = some (.cells cur1 86 (0, 0)) := by rw [← hW1]; exact heap_alloc_new w.drew _
      have hold1 : ∀ k, k < w.heap.size → W1.heap[k]? = w.heap[k]? := fun k hk => by rw [← hW1]; exact Below.heap_alloc w.drew _ k hk
      have hcp1 : ∀ ty dc, (Builtin.copy_ #[61, 61] ty #[.slice (some ⟨w.heap.size, i * 4, none⟩) (n + 1 - i) dc, .slice (some ⟨lb, 0, none⟩) 1 1]).run Try.prog W1 = .ok (goInt (1 : Nat)) (W1.setCells w.heap.size (i * 4) (n86 y)) := fun ty dc =>
        run_copy_n W1 61 61 ty 86 4 w.heap.size (i * 4) (n + 1 - i) dc ⟨lb, 0, none⟩ 1 1 1 (n86 y) Try.underlying61 hsz (by simp only [Nat.min_def]; split <;> omega) rfl
          (fun j u hj => (World.cell?_of_block (by rw [Addr.add_lit]; exact hold1 lb (blk_lt HL.out))).trans (HW.out j u hj))
          (fun j hj => blk_some hh1 (by simp [n86] at hj; omega)) (fun j _ => blk_frozen hh1 _) (n86_one y)
      obtain ⟨c2, hh2, hs2, _⟩ := setCells_row (n86 y) (i * 4) W1 cur1 hh1 (by simp [n86]; omega)
      obtain ⟨W2, hW2⟩ : ∃ W2, W1.setCells w.heap.size (i * 4) (n86 y) = W2 := ⟨_, rfl⟩
      have hold2 : ∀ k, k < w.heap.size → W2.heap[k]? = w.heap[k]? := fun k hk => by rw [← hW2, setCells_far _ _ k (by omega)]; exact hold1 k hk
      rw [hW2] at hcp1 hh2
      have hh2d : W2.drew.heap[w.heap.size]? = some (.cells c2 86 (0, 0)) := hh2
      have hcp2 : ∀ ty dc sc, (Builtin.copy_ #[61, 61] ty #[.slice (some ⟨w.heap.size, (i + 1) * 4, none⟩) (n - i) dc, .slice (some ⟨g, i * 4, none⟩) (n - i) sc]).run Try.prog W2.drew = .ok (goInt (n - i : Nat)) (W2.drew.setCells w.heap.size ((i + 1) * 4) (inner.drop (i * 4))) := fun ty dc sc =>
        run_copy_n W2.drew 61 61 ty 86 4 w.heap.size ((i + 1) * 4) (n - i) dc ⟨g, i * 4, none⟩ (n - i) sc (n - i) (inner.drop (i * 4)) Try.underlying61 hsz (by simp) hdl
          (fun j u hj => by
            rw [Addr.add_lit]
            rw [List.getElem?_drop] at hj
            exact (World.cell?_of_block (w := w) (hold2 g hgl)).trans (hcell _ u hj))
          (fun j hj => blk_some hh2d (by omega)) (fun j _ => blk_frozen hh2d _) (fun u hu => Kd.reps_one' hreps u (List.mem_of_mem_drop hu))
      have hend := fin.out (.slice (some ⟨w.heap.size, 0, none⟩) (n + 1) C1) (W2.drew.setCells w.heap.size ((i + 1) * 4) (inner.drop (i * 4))) (by rw [← hW2]; exact own_spread hb hh1 hge hCm hs1 hil ht1 (by omega) rfl) (by
        obtain ⟨s1, s2, s3, s4⟩ := setCells_same w.heap.size (inner.drop (i * 4)) ((i + 1) * 4) W2.drew
        obtain ⟨q1, q2, q3, q4⟩ := setCells_same w.heap.size (n86 y) (i * 4) W1
        rw [hW2] at q1 q2 q3 q4
        exact ⟨s1.trans (q1.trans (by rw [← hW1]; rfl)), s2.trans (q2.trans (by rw [← hW1]; rfl)), s3.trans (q3.trans (by rw [← hW1]; rfl)), by rw [s4]; show _ ≤ W2.heap.size; rw [q4, ← hW1]; simp, fun k hk _ => by
          rw [setCells_far _ _ k (by omega)]; exact hold2 k hk⟩) (.inr ⟨_, rfl, Nat.le_refl _⟩)
      have HE := Lib.hid hend
      have HR := Lib.hid hrun
      have HC1 := Lib.hid hcp1
      have HC2 := Lib.hid hcp2
      have hCm' : C1 ≤ 9223372036854775807 := hCm
      have hks : ((n : Int) + 1 - (i : Int)) = ((n + 1 - i : Nat) : Int) := by omega
      clear hend hrun hcp1 hcp2 hold1 hold2 hh1 hh2 hh2d hW1 hW2 hs1 hs2 ht1 hcur1 hC1 hold hcell hdl hsz hh hcs htk hreps fin
      go_enter Try.func112, Try.ntmps112
      go_wp2_with (first | (at_builtin; refine Lib.wpList_append_run _ rfl _ _ _ _ rfl _ _ rfl rfl _ _ (HR.out _) ?_) | (refine wpList_copy_runH _ rfl _ _ 61 61 rfl _ _ rfl rfl (HC1.out _ _) ?_))
      have q1 : IntKind.i64.wrap ((i : Int) + 1) = (i : Int) + 1 := by rw [IntKind.wrap_i64]; omega
      have q2 : ((i : Int) + 1).toNat = i + 1 := by omega
      have q3 : ¬ (C1 = i + 1) := by omega
      have q4 : ¬ (n = i) := by omega
      have q5 : (0 : Int) ≤ (i : Int) + 1 := by omega
      have q6 : (i : Int) + 1 ≤ (n : Int) + 1 := by omega
      have q7 : (i : Int) ≤ (n : Int) := by omega
      have q8 : n + 1 - (i + 1) = n - i := by omega
      go_region_law (refine step_copy_runH rfl _ _ 61 61 rfl _ _ (by simp [Act.eval, Act.put]) (by simp [Act.eval, Act.put]) (HC2.out 3 (C1 - (i + 1)) (n - i)) ?_)
      go_wp2
      go_ret
      exact HE.out
end Go.Proofs.Ytkpngcppijgeeaa.H
