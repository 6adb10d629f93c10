import Derived.Test.YtkpngcppijgeeaaH0
import Derived.RangeFuncBox
import Derived.RangeFuncLeaves
import Derived.Shelf.Abstract
import Derived.OwnWalkIn
import Derived.TacticsInMore
import Derived.LoopNIn
import Derived.LoopIn
import Derived.RegionTactic
set_option linter.unusedVariables false
set_option linter.unusedSimpArgs false
namespace Go.Proofs.Ytkpngcppijgeeaa.H
open Go.Shelf Go.RowKit Go.Proofs.YtkpngcppijgeeaaW.PrintWords Go.Proofs.YtkpngcppijgeeaaW.PrintLast Go.Proofs.YtkpngcppijgeeaaW.PrintMore Go.Proofs.Ytkpngcppijgeeaa.PFetchExact
attribute [local go_sem] Oper.semAt_some
/-- The chunks that have come when k rounds are over: where each begins. -/
def starts (k : Nat) : List Nat := (List.range k).map fun j => 16 * j
theorem starts_succ (k : Nat) : starts (k + 1) = starts k ++ [16 * k] := by simp [starts, List.range_succ]
theorem starts_length (k : Nat) : (starts k).length = k := by simp [starts]
/-- A chunk as a value. -/
def chunkV (b off len s : Nat) : Value := .slice (some ⟨b, off + s, none⟩) (min 16 (len - s)) (min 16 (len - s))
set_option maxRecDepth 100000 in
set_option maxHeartbeats 2000000 in
theorem chunk1_in (F : Fence) (n : Nat) (h7 : F.fn 147) (hro : F.round = none) (hn : 1 ≤ n) (l Bs Bn n₀ b off len cap : Nat) (hreach : len ≤ 140737488351232) (hcap : len ≤ cap) (hb : b < n₀) (hBs0 : Bs < n₀) (hBn0 : Bn < n₀) (J Jx : List Nat → World → Prop) (hJ0 : ∀ pre W, J pre W → J pre W.drew)
    (hY : ∀ pre x W, J pre W → pre.length < len → YieldAt F (n - 1) Try.prog l #[chunkV b off len x] W fun e W' =>
      (e = .returned (.bool true) ∧ J (pre ++ [x]) W' ∧ Below n₀ W W') ∨ (e = .returned (.bool false) ∧ Jx (pre ++ [x]) W'))
    (W : World) (hBs : W.cell? ⟨Bs, 0, none⟩ = some (.slice (some ⟨b, off, none⟩) len cap)) (hBn : W.cell? ⟨Bn, 0, none⟩ = some (.int .i64 16)) (h0 : J [] W) :
    CallsIn F n Try.prog 147 #[.func (.yield l) #[] #[], .pointer (some ⟨Bs, 0, none⟩), .pointer (some ⟨Bn, 0, none⟩)] W fun e W' => (∃ v, e = .returned v) ∧
      ((∃ ys, ys = starts ((len + 15) / 16) ∧ J ys W') ∨ (∃ pre, (∃ k, k ≤ len ∧ pre = starts k) ∧ Jx pre W')) := by
  refine callsIn_of_wp Try.func147 rfl h7 ?_ hro
  simp only [Try.ntmps147, List.size_toArray, List.length_cons, List.length_nil, Nat.reduceAdd, Nat.reduceSub, Array.replicate_succ, Array.replicate_zero, List.push_toArray, List.append_toArray, List.nil_append, List.cons_append]
  gi_wp2
  gi_loopw [4] (fun i wr => ∃ k : Nat, k ≤ (len + 15) / 16 ∧ i = .int .i64 (16 * k : Nat) ∧ J (starts k) wr ∧ Below n₀ W wr)
    (fun i _ => len - (intOf i).toNat)
  case atStart => exact ⟨0, Nat.zero_le _, rfl, h0, Below.refl _ _⟩
  case round =>
    obtain ⟨k, hk, rfl, hJs, hnx⟩ := hrel
    obtain ⟨s, hs⟩ : ∃ s, 16 * k = s := ⟨_, rfl⟩
    rw [hs]
    have h1 := (hnx.cell (p := ⟨Bs, 0, none⟩) hBs0).trans hBs
    have h2 := (hnx.cell (p := ⟨Bn, 0, none⟩) hBn0).trans hBn
    have HS := Lib.hid hs
    clear hs hBs hBn
    by_cases hlt : s < len
    · have hsl : s ≤ 140737488351232 := by omega
      obtain ⟨fn, tmps, assign, body, hy, hR⟩ := hY _ s wr.drew (hJ0 _ _ hJs) (by rw [starts_length]; have := HS.out; omega)
      have fin : ∀ W3, J (starts k ++ [s]) W3 → Below n₀ wr.drew W3 → (∃ k : Nat, k ≤ (len + 15) / 16 ∧ Value.int .i64 ((s : Int) + 16) = .int .i64 (16 * k : Nat) ∧ J (starts k) W3 ∧ Below n₀ W W3) := fun W3 hJ3 hk3 =>
        ⟨k + 1, by have := HS.out; omega, by rw [← HS.out]; simp; omega, by rw [starts_succ, HS.out]; exact hJ3, (hnx.trans (Below.refl _ wr).drew).trans hk3⟩
      have fin2 : ∀ W3, Jx (starts k ++ [s]) W3 → (∃ pre, (∃ k, k ≤ len ∧ pre = starts k) ∧ Jx pre W3) := fun W3 h => ⟨_, ⟨k + 1, by have := HS.out; omega, by rw [starts_succ, HS.out]⟩, h⟩
      have FIN := Lib.hid fin; have FIN2 := Lib.hid fin2
      clear fin fin2
      have hcap' : s < cap := by omega
      obtain ⟨m, hm⟩ : ∃ m, min 16 (len - s) = m := ⟨_, rfl⟩
      unfold chunkV at hy
      rw [hm] at hy
      have q1 : (s : Int) + (m : Int) ≤ (len : Int) := by omega
      gi_wp2
      refine wpIn_mono (Q := fun e a W' => e = .normal ∧ a = { tmps := #[.func (.yield l) #[] #[], .pointer (some ⟨Bs, 0, none⟩), .pointer (some ⟨Bn, 0, none⟩), undef, .int .i64 s, .int .i64 m, .int .i64 s, .slice (some ⟨b, off, none⟩) len cap, .int .i64 len, .bool true, u10, u11, u12, .int .i64 16, .slice (some ⟨b, off, none⟩) len cap, .int .i64 s, .slice (some ⟨b, off + s, none⟩) (len - s) (cap - s), .int .i64 (len - s : Nat), .int .i64 m, u19, u20, u21, u22, u23, u24, u25, u26, u27, u28, u29, u30], defers := [] } ∧ W' = wr.drew) ?reg ?rest
      case reg =>
        have e1 : (if ((len - s : Nat) : Int) < 16 then ((len - s : Nat) : Int) else 16) = (m : Int) := by split <;> omega
        clear hR hy
        gi_region
        all_goals exact ⟨rfl, rfl, rfl⟩
      case rest =>
        rintro e a W' ⟨rfl, rfl, rfl⟩
        gi_wp2
        refine hR.mono ?_
        rintro e W3 (⟨rfl, hJ3, hk3⟩ | ⟨rfl, hJx3⟩)
        · have h3 : W3.cell? ⟨Bn, 0, none⟩ = some (.int .i64 16) := (hk3.cell (p := ⟨Bn, 0, none⟩) hBn0).trans h2
          gi_wp2
          go_roundw
          case rel => exact FIN.out W3 hJ3 hk3
          case measure => simp [intOf]; omega
        · gi_wp2
          refine bodyPost_ret (results_none rfl _ _ _) rfl ?_
          exact ⟨⟨_, rfl⟩, .inr (FIN2.out W3 hJx3)⟩
    · gi_wp2
      go_end0
      obtain rfl : k = (len + 15) / 16 := by have := HS.out; omega
      exact ⟨⟨_, rfl⟩, .inl ⟨_, rfl, hJs⟩⟩
/-- The slice value sv has len elements and lies below n₀ (or it is nil). -/
def Piece (n₀ : Nat) (sv : Value) (b off len : Nat) : Prop := (sv = .slice none 0 0 ∧ len = 0) ∨ ∃ cap, sv = .slice (some ⟨b, off, none⟩) len cap ∧ len ≤ cap ∧ b < n₀
set_option maxRecDepth 100000 in
set_option maxHeartbeats 1000000 in
theorem chunk1_nil (F : Fence) (n : Nat) (h7 : F.fn 147) (hro : F.round = none) (l Bs Bn : Nat) (J : List Nat → World → Prop) (W : World) (hBs : W.cell? ⟨Bs, 0, none⟩ = some (.slice none 0 0)) (h0 : J [] W) :
    CallsIn F n Try.prog 147 #[.func (.yield l) #[] #[], .pointer (some ⟨Bs, 0, none⟩), .pointer (some ⟨Bn, 0, none⟩)] W fun e W' => (∃ v, e = .returned v) ∧ J [] W' := by
  refine callsIn_of_wp Try.func147 rfl h7 ?_ hro
  simp only [Try.ntmps147, List.size_toArray, List.length_cons, List.length_nil, Nat.reduceAdd, Nat.reduceSub, Array.replicate_succ, Array.replicate_zero, List.push_toArray, List.append_toArray, List.nil_append, List.cons_append]
  gi_wp2
  gi_loopw [4] (fun i wr => i = .int .i64 0 ∧ wr = W) (fun _ _ => 0)
  case atStart => exact ⟨rfl, rfl⟩
  case round =>
    obtain ⟨rfl, rfl⟩ := hrel
    gi_wp2
    go_end0
    exact ⟨⟨_, rfl⟩, h0⟩
set_option maxHeartbeats 1000000 in
theorem chunk_in (F : Fence) (n : Nat) (h5 : F.fn 116) (hro : F.round = none) (a : Option Addr) (len cap : Nat) (w : World) :
    CallsIn F n Try.prog 116 #[.slice a len cap, .int .i64 16] w fun e w' => e = .returned (.func (.func 147) #[] #[.pointer (some ⟨w.heap.size, 0, none⟩), .pointer (some ⟨w.heap.size + 1, 0, none⟩)]) ∧ w' = (w.alloc (.cells #[.slice a len cap] 26)).alloc (.cells #[.int .i64 16] 3) := by
  refine callsIn_of_wp Try.func116 rfl h5 ?_ hro
  simp only [Try.ntmps116, List.size_toArray, List.length_cons, List.length_nil, Nat.reduceAdd, Nat.reduceSub, Array.replicate_succ, Array.replicate_zero, List.push_toArray, List.append_toArray, List.nil_append, List.cons_append]
  gi_wp2
  go_ret
  exact ⟨rfl, rfl⟩
theorem chunk_stops (F : Fence) (n : Nat) (h7 : F.fn 147) (hro : F.round = none) (hn : 1 ≤ n) (Bs Bn n₀ : Nat) (sv : Value) (b off len : Nat) (hreach : len ≤ 140737488351232) (w : World) (hBs : Bs < n₀) (hBn : Bn < n₀) (hn₀ : n₀ ≤ w.heap.size)
    (hc : w.cell? ⟨Bs, 0, none⟩ = some sv) (hc2 : w.cell? ⟨Bn, 0, none⟩ = some (.int .i64 16)) (hI : Piece n₀ sv b off len) :
    SeqStopsK F n Try.prog 147 #[.pointer (some ⟨Bs, 0, none⟩), .pointer (some ⟨Bn, 0, none⟩)] (fun x : Nat => #[chunkV b off len x]) (Below n₀) (fun ys => ys = starts ((len + 15) / 16)) (fun pre => True) len w := fun l J Jx W hW hA _ hY h0 => by
  have hc' := (hW.cell (p := ⟨Bs, 0, none⟩) (by show Bs < _; omega)).trans hc
  have hc2' := (hW.cell (p := ⟨Bn, 0, none⟩) (by show Bn < _; omega)).trans hc2
  rcases hI with ⟨rfl, rfl⟩ | ⟨cap, rfl, hcap, hb⟩
  · exact (chunk1_nil F n h7 hro l Bs Bn J W hc' h0).mono fun e W' ⟨he, hj⟩ => ⟨he, .inl ⟨_, rfl, hj⟩⟩
  · refine (chunk1_in F n h7 hro hn l Bs Bn n₀ b off len cap hreach hcap hb hBs hBn J Jx (fun pre X hX => hA pre X X.drew none hX ⟨rfl, rfl, rfl, Nat.le_refl _, fun _ _ _ => rfl⟩ (by simp)) hY W hc' hc2' h0).mono ?_
    rintro e W' ⟨he, ⟨ys, rfl, hj⟩ | ⟨pre, ⟨k, hk, rfl⟩, hj⟩⟩
    · exact ⟨he, .inl ⟨_, rfl, hj⟩⟩
    · exact ⟨he, .inr ⟨_, trivial, hj⟩⟩
end Go.Proofs.Ytkpngcppijgeeaa.H
