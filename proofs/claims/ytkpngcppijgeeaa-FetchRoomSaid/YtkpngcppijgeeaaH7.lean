import Derived.Test.YtkpngcppijgeeaaH6
import Derived.Maps.AppendAt
set_option linter.unusedVariables false
set_option linter.unusedSimpArgs false
namespace Go.Proofs.Ytkpngcppijgeeaa.H
open Go.Shelf Go.RowKit Go.Proofs.YtkpngcppijgeeaaW.PrintWords Go.Proofs.YtkpngcppijgeeaaW.PrintLast Go.Proofs.YtkpngcppijgeeaaW.PrintMore Go.Proofs.Ytkpngcppijgeeaa.PFetchExact
attribute [local go_sem] Oper.semAt_some
theorem info26 : (Try.prog.info? 26).map (fun i => (i.zero, i.size, i.bytes)) = some (some (.slice none 0 0), 1, 24) := by kernel_rfl
/-- What has been collected. -/
def chunks (b off len : Nat) (xs : List Nat) : List Value := xs.map (chunkV b off len)
set_option maxRecDepth 100000 in
set_option maxHeartbeats 2000000 in
theorem appendSeq_in (F : Fence) (n : Nat) (h3 : F.fn 146) (h5 : F.fn 147) (hro : F.round = none) (hn : 3 ≤ n) (Bs Bn : Nat) (sv : Value) (b off len : Nat) (hlen : len ≤ 1000000) (w : World) (hBs : Bs < w.heap.size) (hBn : Bn < w.heap.size)
    (hc : w.cell? ⟨Bs, 0, none⟩ = some sv) (hc2 : w.cell? ⟨Bn, 0, none⟩ = some (.int .i64 16)) (hI : Piece w.heap.size sv b off len) :
    CallsIn F n Try.prog 146 #[.slice none 0 0, .func (.func 147) #[] #[.pointer (some ⟨Bs, 0, none⟩), .pointer (some ⟨Bn, 0, none⟩)]] w fun e W' => ∃ v, e = .returned v ∧ W'.ownsRow w.heap.size 26 1 v ((len + 15) / 16) (chunks b off len (starts ((len + 15) / 16))) ∧ Below w.heap.size w W' := by
  have h1 : 1 ≤ n := by omega
  obtain ⟨i0, hi, hz0, hz1, hz2⟩ := info_parts info26
  refine callsIn_of_wp_marks Try.func146 rfl h3 ?_ hro
  simp only [Try.ntmps146, List.size_toArray, List.length_cons, List.length_nil, Nat.reduceAdd, Nat.reduceSub, Array.replicate_succ, Array.replicate_zero, List.push_toArray, List.append_toArray, List.nil_append, List.cons_append]
  gi_wp2
  have bO := Boxed.new w 157 (.slice none 0 0)
  have hB0 : Below w.heap.size w (w.alloc (.cells #[.slice none 0 0] 157)) := ((Below.refl _ w).alloc (Nat.le_refl _) _)
  refine wpIn_rangeFunc_ownG hro h1 (gf := 147) (lb := #[.pointer (some ⟨Bs, 0, none⟩), .pointer (some ⟨Bn, 0, none⟩)]) rfl h5 (enters_of Try.func147 (by kernel_rfl) rfl)
    (chunk_stops F (n - 1) h5 hro (by omega) Bs Bn w.heap.size sv b off len (by omega) w hBs hBn (Nat.le_refl _) hc hc2 hI) belowK_t (belowK_b (by simp)) hB0 (fun _ => rfl)
    (fun pre W => (∃ v, Boxed W w.heap.size 157 v ∧ W.ownsRow w.heap.size 26 1 v pre.length (chunks b off len pre) ∧ True) ∧ Below w.heap.size w W)
    (fun _ _ _ => False)
    (OwnFrom.and (Own.from (holdsRow_own w.heap.size w.heap.size 157 26 1 (fun pre : List Nat => pre.length) (fun pre => chunks b off len pre) (fun _ _ => True)) _) (ownFrom_below (Nat.le_refl _) (by simp)))
    (fun _ _ _ _ _ hs _ _ => hs)
    ⟨⟨_, bO, World.ownsRow_nil _ _ _ _, trivial⟩, hB0⟩
    (fun x => { tmps := #[.slice none 0 0, .func (.func 147) #[] #[.pointer (some ⟨Bs, 0, none⟩), .pointer (some ⟨Bn, 0, none⟩)], .pointer (some ⟨w.heap.size, 0, none⟩), undef, .slice none 0 0, chunkV b off len x, .func (.func 147) #[] #[.pointer (some ⟨Bs, 0, none⟩), .pointer (some ⟨Bn, 0, none⟩)], chunkV b off len x, undef, undef, undef, undef, undef], defers := [] }) ?assign ?body ?done ?stop
  case assign =>
    intro l x W K hK
    gi_wp2
    exact hK
  case body =>
    rintro l pre x W ⟨⟨v, hv, hrow, _⟩, hB⟩ hlt
    have hcc := hv.cell
    obtain ⟨q, m, hq⟩ : ∃ q m, chunkV b off len x = .slice q m m := ⟨_, _, rfl⟩
    simp only [hq]
    gi_wp2_with (gi_at_builtin; refine wpListIn_append_own _ rfl _ _ 157 rfl w.heap.size 26 i0 (.slice none 0 0) 1 24 Try.underlying157 hi hz0 hz1 hz2 rfl (by decide) _ _ _ rfl (hrow.alloc _) ⟨W.heap.size, 0, none⟩ 1 1 [.slice q m m] rfl rfl (cell_one_new _ _ _) (by simp [Value.oneCell']) (by simp [maxLen]; omega) (by omega) (by have := hB.size; simp; omega) ?_; intro v' w1 hown' hgrow _; obtain ⟨g', cap', rfl⟩ := ownsRow_succ hown'; obtain ⟨hv1, hv2, hr2, hk2, hb2⟩ := hv.appended (by decide) hrow hB.size (Nat.le_refl _) hown' hgrow; have hc1 := hv1.cell; have hf1 := hv1.frozen)
    exact ⟨hk2.from _, hb2, ⟨_, hv2, by simpa [chunks, hq] using hr2, trivial⟩, hB.trans hb2⟩
  case done =>
    rintro D ys W hD rfl ⟨⟨v, hv, hrow, hnil⟩, hB⟩ hK
    have hc := hv.cell
    gi_wp2
    refine ⟨by simp, .inl ⟨_, _, rfl, run_takeDeferred hK, ?_⟩⟩
    exact ⟨_, results_tmp rfl _ _ _, v, rfl, by simpa [starts_length] using ownsRow_putObj hrow _ hK rfl, hB.trans (belowK_b (w := w) (Nat.le_refl _) W D _ _ (by simp at hD; omega) hK rfl rfl)⟩
  case stop =>
    rintro D c pre W _ _ h _
    exact h.elim
set_option maxHeartbeats 1000000 in
theorem collect_in (F : Fence) (n : Nat) (h2 : F.fn 115) (h3 : F.fn 146) (h5 : F.fn 147) (hro : F.round = none) (hn : 4 ≤ n) (Bs Bn : Nat) (sv : Value) (b off len : Nat) (hlen : len ≤ 1000000) (w : World) (hBs : Bs < w.heap.size) (hBn : Bn < w.heap.size)
    (hc : w.cell? ⟨Bs, 0, none⟩ = some sv) (hc2 : w.cell? ⟨Bn, 0, none⟩ = some (.int .i64 16)) (hI : Piece w.heap.size sv b off len) :
    CallsIn F n Try.prog 115 #[.func (.func 147) #[] #[.pointer (some ⟨Bs, 0, none⟩), .pointer (some ⟨Bn, 0, none⟩)]] w fun e W' => ∃ v, e = .returned v ∧ W'.ownsRow w.heap.size 26 1 v ((len + 15) / 16) (chunks b off len (starts ((len + 15) / 16))) ∧ Below w.heap.size w W' := by
  refine callsIn_of_wp Try.func115 rfl h2 ?_ hro
  simp only [Try.ntmps115, List.size_toArray, List.length_cons, List.length_nil, Nat.reduceAdd, Nat.reduceSub, Array.replicate_succ, Array.replicate_zero, List.push_toArray, List.append_toArray, List.nil_append, List.cons_append]
  gi_wp2
  refine ⟨fun _ => by omega, (appendSeq_in F (n - 1) h3 h5 hro (by omega) Bs Bn sv b off len hlen _ hBs hBn hc hc2 hI).mono ?_⟩
  rintro e w' ⟨v, rfl, hv, hb⟩
  gi_wp2
  go_ret
  exact ⟨v, rfl, hv, hb⟩
theorem chunk116 (a : Option Addr) (len cap : Nat) (w : World) :
    Calls Try.prog 116 #[.slice a len cap, .int .i64 16] w fun e w' => e = .returned (.func (.func 147) #[] #[.pointer (some ⟨w.heap.size, 0, none⟩), .pointer (some ⟨w.heap.size + 1, 0, none⟩)]) ∧ w' = (w.alloc (.cells #[.slice a len cap] 26)).alloc (.cells #[.int .i64 16] 3) :=
  (chunk_in Fence.wide 10 trivial rfl a len cap w).calls room_wide
theorem collect115 (Bs Bn : Nat) (sv : Value) (b off len : Nat) (hlen : len ≤ 1000000) (w : World) (hBs : Bs < w.heap.size) (hBn : Bn < w.heap.size)
    (hc : w.cell? ⟨Bs, 0, none⟩ = some sv) (hc2 : w.cell? ⟨Bn, 0, none⟩ = some (.int .i64 16)) (hI : Piece w.heap.size sv b off len) :
    Calls Try.prog 115 #[.func (.func 147) #[] #[.pointer (some ⟨Bs, 0, none⟩), .pointer (some ⟨Bn, 0, none⟩)]] w fun e W' => ∃ v, e = .returned v ∧ W'.ownsRow w.heap.size 26 1 v ((len + 15) / 16) (chunks b off len (starts ((len + 15) / 16))) ∧ Below w.heap.size w W' :=
  (collect_in Fence.wide 10 trivial trivial trivial rfl (by omega) Bs Bn sv b off len hlen w hBs hBn hc hc2 hI).calls room_wide
end Go.Proofs.Ytkpngcppijgeeaa.H
