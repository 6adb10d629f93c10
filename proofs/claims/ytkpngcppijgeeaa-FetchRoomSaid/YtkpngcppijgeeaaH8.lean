import Derived.Test.YtkpngcppijgeeaaH7
import Derived.Test.YtkpngcppijgeeaaH1
import Derived.Test.YtkpngcppijgeeaaX5
set_option linter.unusedVariables false
set_option linter.unusedSimpArgs false
namespace Go.Proofs.Ytkpngcppijgeeaa.H
open Go.RowKit Go.Lib Go.Proofs.YtkpngcppijgeeaaW.PrintWords Go.Proofs.YtkpngcppijgeeaaW.PrintLast Go.Proofs.YtkpngcppijgeeaaW.PrintMore Go.Proofs.Ytkpngcppijgeeaa.PFetchExact
set_option maxHeartbeats 1000000 in
set_option maxRecDepth 100000 in
theorem clone100 (A : Option Addr) (n c : Nat) (l : List Int) (w : World) (hr : Kd.C (Kd.int .i64) w A n l) (hl : n * 8 ≤ 140737488355328) :
    Calls Try.prog 100 #[.slice A n c] w fun e w' => ∃ v, e = .returned v ∧ Kd.R (Kd.int .i64) 3 w' w.heap.size (fun _ => True) v l ∧ Below w.heap.size w w' := by
  rcases A with _ | a
  · obtain ⟨rfl, rfl⟩ := len_none hr
    have he := Lib.run_eql_slice_nil (P := Try.prog) w 26 3 none 0 c 0 0 Try.underlying26
    go_enter Try.func100, Try.ntmps100
    go_wp2
    go_ret
    exact ⟨_, rfl, Kd.R_nil _ _ _ _ _, Below.refl _ _⟩
  · have he := Lib.run_eql_slice_nil (P := Try.prog) w 26 3 (some a) n c 0 0 Try.underlying26
    have HR := Lib.hid hr
    clear hr
    go_enter Try.func100, Try.ntmps100
    go_wp2_with (at_builtin; refine Kd.R_append_rows (Kd.int .i64) (Rr := (Kd.int .i64).K (w.alloc (.cells #[] 3))) (w0 := w) w.heap.size rfl _ _ 26 3 (.int .i64 0) 8 rfl Try.underlying26 info3 rfl (by decide) (by decide) _ [] l (some a) n c (fun _ => True) (fun k => w.heap.size < k) rfl rfl (R_empty _ _ _ _ _ (Nat.le_refl _) trivial) (Kd.C_below HR.out ((Below.refl _ _).alloc (Nat.le_refl _) _)) ?_ ?_ ?_ ((Below.refl _ _).alloc (Nat.le_refl _) _) (by simp) (by simpa using hl) ?_)
    case refine_1 => intro x cs h; exact h
    case refine_2 => intro k hk; exact ⟨trivial, by simp [Act.eval, Value.ownBlock]; omega⟩
    case refine_3 => intro _ _; trivial
    intro v1 w1 HO HB hg _
    go_wp2
    go_ret
    exact ⟨_, rfl, HO, HB⟩
/-- A digest. -/
def dig (d : Int) : Bool := decide (1 ≤ d) && decide (d ≤ 65536)
theorem dig_f (d : Int) : committee_Digest.f d = some (dig d) := by
  unfold committee_Digest.f dig
  by_cases h : 1 ≤ d <;> simp [h]
theorem notdig68 (d : Int) (w : World) : Calls Try.prog 68 #[.int .i64 d] w fun e w' => e = .returned (.bool (!dig d)) ∧ Below w.heap.size w w' := by
  go_enter Try.func68, Try.ntmps68
  go_wp2_with (go_at_call 52; refine (committee_Digest.calls d _ _ (dig_f d)).mono ?_; rintro e w' ⟨rfl, hd⟩)
  go_ret
  exact ⟨rfl, hd.below⟩
/-- An element of a list of ints that is read. -/
theorem cInt_cell {w wr : World} {A : Option Addr} {n : Nat} {xs : List Int} (h : Kd.C (Kd.int .i64) w A n xs) (hb : Below w.heap.size w wr) (i : Nat) (hi : i < n) : ∃ ad y, A = some ad ∧ xs[i]? = some y ∧ ∀ z : Later wr, z.W.cell? (ad.add i) = some (.int .i64 y) := by
  have hC := Kd.C_below h hb
  obtain ⟨hl, _, h2⟩ := hC
  have hi' : i < xs.length := by omega
  obtain ⟨ad, e, hh⟩ := h2 (by omega)
  obtain ⟨cs, e2, e1, h3⟩ := hh i xs[i] (List.getElem?_eq_getElem hi')
  refine ⟨ad, xs[i], e, List.getElem?_eq_getElem hi', Later.cell ?_⟩
  have e3 : cs = [.int .i64 xs[i]] := e1
  subst e3
  have h4 := h3 0 _ rfl
  rw [show i * (Kd.int .i64).sz + 0 = i from by show i * 1 + 0 = i; omega] at h4
  exact h4
set_option maxHeartbeats 1000000 in
set_option maxRecDepth 100000 in
theorem index98 (A : Option Addr) (n c : Nat) (xs : List Int) (w : World) (hr : Kd.C (Kd.int .i64) w A n xs) (hn : n ≤ 140737488355328) :
    Calls Try.prog 98 #[.slice A n c, .func (.func 68) #[] #[]] w fun e w' => (∃ i : Int, e = .returned (.int .i64 i) ∧ (decide (0 ≤ i) = xs.any fun d => !dig d)) ∧ Below w.heap.size w w' := by
  have HR := Lib.hid hr; clear hr
  go_enter Try.func98, Try.ntmps98
  go_wp2
  go_loopw [8] (fun i wr => ∃ p : Nat, i = .int .i64 p ∧ p ≤ n ∧ Hid ((xs.take p).any (fun d => !dig d) = false) ∧ Below w.heap.size w wr) (fun i _ => n - (intOf i).toNat)
  case atStart => exact ⟨0, rfl, Nat.zero_le _, Lib.hid (by simp), Below.refl _ _⟩
  case round =>
    obtain ⟨p, rfl, hpn, hA, hB⟩ := hrel
    by_cases hlt : p < n
    · obtain ⟨ad, y, rfl, hy, f0⟩ := cInt_cell HR.out hB p hlt
      have HY := Lib.hid hy
      have f00 : wr.cell? (ad.add p) = some (.int .i64 y) := f0 ⟨wr, Below.refl _ _⟩
      clear hy
      have ht : (xs.take (p + 1)).any (fun d => !dig d) = !dig y := by
        rw [List.take_add_one, HY.out, List.any_append, hA.out]; simp
      have HT := Lib.hid ht; clear ht
      by_cases hd : dig y = true
      · have hq : (!dig y) = false := by rw [hd]; rfl
        go_wp2_with (go_at_call 68; refine (notdig68 y _).mono ?_; rw [hq]; rintro e w' ⟨rfl, hb⟩)
        have hz := below_then hB hB.size hb
        go_roundw
        case rel => exact ⟨p + 1, by go_num, by omega, Lib.hid (HT.out.trans hq), hz⟩
        case measure => simp [intOf]; omega
      · have hq : (!dig y) = true := by simpa using hd
        have hx : Hid (xs.any (fun d => !dig d) = true) := Lib.hid (List.any_eq_true.2 ⟨y, List.mem_of_getElem? HY.out, hq⟩)
        go_wp2_with (go_at_call 68; refine (notdig68 y _).mono ?_; rw [hq]; rintro e w' ⟨rfl, hb⟩)
        go_ret
        exact ⟨⟨_, rfl, by rw [hx.out]; simp⟩, below_then hB hB.size hb⟩
    · obtain rfl : p = n := by omega
      have hx : Hid (xs.any (fun d => !dig d) = false) := Lib.hid (by have := hA.out; rwa [List.take_of_length_le (by rw [HR.out.1]; exact Nat.le_refl _)] at this)
      go_wp2
      go_ret
      exact ⟨⟨_, rfl, by rw [hx.out]; rfl⟩, hB⟩
theorem contains50 (A : Option Addr) (n c : Nat) (xs : List Int) (w : World) (hr : Kd.C (Kd.int .i64) w A n xs) (hn : n ≤ 140737488355328) :
    Calls Try.prog 50 #[.slice A n c, .func (.func 68) #[] #[]] w fun e w' => e = .returned (.bool (xs.any fun d => !dig d)) ∧ Below w.heap.size w w' := by
  go_enter Try.func50, Try.ntmps50
  go_wp2_with (go_at_call 98; refine (index98 A n c xs _ hr hn).mono ?_; rintro e w' ⟨⟨i, rfl, hi⟩, hb⟩)
  go_ret
  exact ⟨by rw [← hi]; rfl, hb⟩
end Go.Proofs.Ytkpngcppijgeeaa.H
