import Derived.Test.YtkpngcppijgeeaaH2
set_option linter.unusedVariables false
set_option linter.unusedSimpArgs false
namespace Go.Proofs.Ytkpngcppijgeeaa.H
open Go.RowKit Go.Proofs.YtkpngcppijgeeaaW.PrintWords Go.Proofs.YtkpngcppijgeeaaW.PrintLast Go.Proofs.YtkpngcppijgeeaaW.PrintMore Go.Proofs.Ytkpngcppijgeeaa.PFetchExact
/-- What delete leaves. -/
theorem own_cutout {w : World} {base e k g n cap i : Nat} {cur : Array Value} {inner zs : List Value} (hg : base ≤ g) (hh : w.heap[g]? = some (.cells cur e (0, 0))) (hc : n ≤ cap) (hcm : cap ≤ maxLen) (hcs : cur.size = cap * k) (htk : cur.toList.take (n * k) = inner)
    (hi : i < n) (hz : zs.length = k) :
    ((w.drew.setCells g (i * k) (inner.drop ((i + 1) * k))).setCells g ((n - 1) * k) zs).ownsRow base e k (.slice (some ⟨g, 0, none⟩) (n - 1) cap) (n - 1) (inner.take (i * k) ++ inner.drop ((i + 1) * k)) := by
  obtain ⟨m, rfl⟩ : ∃ m, n = m + 1 := ⟨n - 1, by omega⟩
  have hk : (m + 1) * k ≤ cap * k := Nat.mul_le_mul_right _ hc
  have hik : i * k ≤ m * k := Nat.mul_le_mul_right _ (by omega)
  have e1 : (i + 1) * k = i * k + k := Nat.succ_mul ..
  have e2 : (m + 1) * k = m * k + k := Nat.succ_mul ..
  have hlen : inner.length = (m + 1) * k := by rw [← htk, List.length_take, Array.length_toList]; omega
  obtain ⟨c1, h1, h2, h3⟩ := setCells_row (inner.drop ((i + 1) * k)) (i * k) w.drew cur hh (by rw [List.length_drop]; omega)
  obtain ⟨c2, h4, h5, h6⟩ := setCells_row zs (m * k) _ c1 h1 (by omega)
  refine ⟨by simp; omega, .inr ⟨g, cap, c2, by simp, hg, h4, by omega, hcm, by omega, ?_⟩⟩
  rw [h6, Nat.add_sub_cancel, List.append_assoc, List.take_append_of_le_length (by simp; omega), List.take_take, Nat.min_self, h3]
  rw [List.take_append_of_le_length (by simp; omega), List.take_of_length_le (by simp; omega)]
  congr 1
  rw [← htk, List.take_take]
  congr 1; omega
set_option maxHeartbeats 1000000 in
set_option maxRecDepth 100000 in
theorem delete80 {base : Nat} {ok : Nat → Prop} (v : Value) (xs : List S86) (i : Nat) (w : World) (HO : k86.R 86 w base ok v xs) (hi : i < xs.length) (hb : base ≤ w.heap.size) (hfr : ∀ k, w.heap.size ≤ k → ok k) (hl : xs.length * 32 ≤ 140737488355328) :
    Calls Try.prog 80 #[v, .int .i64 i, .int .i64 ((i : Int) + 1)] w fun e w' => ∃ v', e = .returned v' ∧ k86.R 86 w' base ok v' (xs.take i ++ xs.drop (i + 1)) ∧ w.grownBy w' v.ownBlock ∧ v'.ownBlock = v.ownBlock := by
  obtain ⟨hok, inner, hown, hreps⟩ := HO
  obtain ⟨n, hn⟩ : ∃ n, xs.length = n := ⟨_, rfl⟩
  rw [hn] at hi hl hown
  have hown : w.ownsRow base 86 4 v n inner := hown
  have hreps : Reps (k86.M w base (fun k => ok k ∧ some k ≠ v.ownBlock)) 4 xs inner := hreps
  have hil : inner.length = n * 4 := hown.1
  rcases hown.2 with ⟨rfl, rfl⟩ | ⟨g, cap, cur, rfl, hg, hh, hnc, hcm, hcs, htk⟩
  · omega
  have hsz : (Try.prog.info? 86).map (·.size) = some 4 := by
    obtain ⟨i0, hi0, hzz⟩ := Option.map_eq_some_iff.1 info86
    simp only [Prod.mk.injEq] at hzz
    rw [hi0]; simp [hzz.2.1]
  have hdl : (inner.drop ((i + 1) * 4)).length = (n - (i + 1)) * 4 := by rw [List.length_drop, hil]; omega
  have hcell : ∀ j u, inner[j]? = some u → w.cell? ⟨g, j, none⟩ = some u := fun j u hj => by
    have := hown.cells (g := g) rfl j u hj
    rw [Addr.add_lit, Nat.zero_add] at this
    exact this
  obtain ⟨i0, hi0, hzz⟩ := Option.map_eq_some_iff.1 info86
  simp only [Prod.mk.injEq] at hzz
  obtain ⟨hz0, hz1, hz2⟩ := hzz
  have hwd : w.drew.heap[g]? = some (.cells cur 86 (0, 0)) := hh
  have happ : ∀ ty ad sc, (0 < n - (i + 1) → ad = ⟨g, (i + 1) * 4, none⟩) → (Builtin.append_ #[61, 61] ty #[.slice (some ⟨g, 0, none⟩) i cap, .slice (some ad) (n - (i + 1)) sc]).run Try.prog w.drew = .ok (.slice (some ⟨g, 0, none⟩) (n - 1) cap) (w.drew.setCells g (i * 4) (inner.drop ((i + 1) * 4))) := fun ty ad sc had => by
    have hsrc : Src Try.prog i0.size 61 (.slice (some ad) (n - (i + 1)) sc) (n - (i + 1)) (inner.drop ((i + 1) * 4)) w.drew := by
      rw [hz1]
      refine Src.ofSlice w.drew Try.underlying61 ad _ sc _ hdl (fun j u hj => ?_) (fun u hu => Kd.reps_one' hreps u (List.mem_of_mem_drop hu))
      have hjl := (List.getElem?_eq_some_iff.1 hj).1
      rw [had (by omega), Addr.add_lit]
      rw [List.getElem?_drop] at hj
      exact hcell _ u hj
    have := run_append_room_src w.drew 61 61 ty 86 i0 Try.underlying61 hi0 g 0 i cap _ (n - (i + 1)) _ hsrc (by omega) (by rw [hz1]; intro j hj; exact blk_some hwd (by omega)) (by intro j _; exact blk_frozen hwd _)
    rw [hz1, Nat.zero_add, show i + (n - (i + 1)) = n - 1 by omega] at this
    exact this
  obtain ⟨c1, h1, h2, h3⟩ := setCells_row (inner.drop ((i + 1) * 4)) (i * 4) w.drew cur hwd (by omega)
  obtain ⟨W1, hW1⟩ : ∃ W1, w.drew.setCells g (i * 4) (inner.drop ((i + 1) * 4)) = W1 := ⟨_, rfl⟩
  rw [hW1] at happ
  have hz4 : (Builtin.zeroCells (Value.agg #[.int .i64 0, .int .i64 0, .int .i64 0, .int .i64 0]).cells 1).toList = n86 z86 := by kernel_rfl
  have hclr : ∀ ty c, (Builtin.clear_ #[61] ty #[.slice (some ⟨g, (n - 1) * 4, none⟩) 1 c]).run Try.prog W1 = .ok (.tuple #[]) (W1.setCells g ((n - 1) * 4) (n86 z86)) := fun ty c => by
    rw [hW1] at h1
    rw [← hz4]
    refine run_clear_n W1 61 ty 86 _ g ((n - 1) * 4) 1 c Try.underlying61 (fun _ => Try.zeroValue86 _) (by omega) (fun j hj => blk_some h1 (by rw [h2]; simp [Value.cells] at hj; omega)) (fun j _ => blk_frozen h1 _) (by rw [hz4]; exact n86_one _)
  have hend : ∃ u, Ending.returned (.slice (some ⟨g, 0, none⟩) (n - 1) cap) = .returned u ∧ k86.R 86 (W1.setCells g ((n - 1) * 4) (n86 z86)) base ok u (xs.take i ++ xs.drop (i + 1)) ∧ w.grownBy (W1.setCells g ((n - 1) * 4) (n86 z86)) (some g) ∧ u.ownBlock = some g := by
    obtain ⟨s1, s2, s3, s4⟩ := setCells_same g (n86 z86) ((n - 1) * 4) W1
    obtain ⟨q1, q2, q3, q4⟩ := setCells_same g (inner.drop ((i + 1) * 4)) (i * 4) w.drew
    rw [hW1] at q1 q2 q3 q4
    have hgr : w.grownBy (W1.setCells g ((n - 1) * 4) (n86 z86)) (some g) := ⟨s1.trans q1, s2.trans q2, s3.trans q3, by rw [s4, q4]; exact Nat.le_refl _, fun k _ hk => by
      have hkg : k ≠ g := fun e => hk (by rw [e])
      rw [setCells_far _ _ k hkg, ← hW1, setCells_far _ _ k hkg]; rfl⟩
    refine ⟨_, rfl, R_of_cells k86 (n := n - 1) (by simp; omega) (by rw [← hW1]; exact own_cutout hg hh hnc hcm hcs htk hi rfl) (Kd.reps_append (Kd.reps_take hreps (by omega)) (Kd.reps_drop hreps)) hgr (.inl rfl) hok hfr, hgr, rfl⟩
  have HE := Lib.hid hend
  have HC := Lib.hid hclr
  have HA := Lib.hid happ
  have hcm' : cap ≤ 9223372036854775807 := hcm
  clear hend hclr happ h1 h2 h3 hW1 hwd hz4 hsz hdl hcell hh hcs htk hreps hok hown hi0 hz0 hz1 hz2 hn
  have q0 : n - (n - 1) = 1 := by omega
  have q9 : ((n : Int) - 1).toNat = n - 1 := by omega
  have hne : ¬ ((i : Int) == (i : Int) + 1) = true := by simp; omega
  have q1 : IntKind.i64.wrap ((i : Int) + 1) = (i : Int) + 1 := by rw [IntKind.wrap_i64]; omega
  have q2 : ((i : Int) + 1).toNat = i + 1 := by omega
  have q4 : ¬ (cap = i) := by omega
  have q5 : (0 : Int) ≤ (i : Int) + 1 := by omega
  have q6 : (i : Int) + 1 ≤ (n : Int) := by omega
  have q7 : (i : Int) ≤ (n : Int) := by omega
  have q8 : ¬ (cap = n - 1) := by omega
  have q11 : i ≤ cap := by omega
  have q12 : (i : Int) ≤ (i : Int) + 1 := by omega
  rcases Nat.eq_or_lt_of_le (show i + 1 ≤ cap by omega) with rfl | hlt
  · obtain rfl : n = i + 1 := by omega
    have q10 : ((i : Nat) : Int).toNat = i := Int.toNat_natCast i
    go_enter Try.func80, Try.ntmps80
    go_wp2
    go_region_law (refine step_append_runH rfl _ _ 61 61 rfl _ _ (by simp [Act.eval, Act.put]) (by simp [Act.eval, Act.put]) (HA.out 61 ⟨g, 0, none⟩ 0 (by omega)) ?_)
    go_wp2_with (refine wpList_clear_runH _ rfl _ 61 rfl _ rfl (HC.out _ _) ?_)
    go_ret
    exact HE.out
  · have q3 : ¬ (cap = i + 1) := by omega
    go_enter Try.func80, Try.ntmps80
    go_wp2
    go_region_law (refine step_append_runH rfl _ _ 61 61 rfl _ _ (by simp [Act.eval, Act.put]) (by simp [Act.eval, Act.put]) (HA.out 61 ⟨g, (i + 1) * 4, none⟩ (cap - (i + 1)) (fun _ => rfl)) ?_)
    go_wp2_with (refine wpList_clear_runH _ rfl _ 61 rfl _ rfl (HC.out _ _) ?_)
    go_ret
    exact HE.out
end Go.Proofs.Ytkpngcppijgeeaa.H
