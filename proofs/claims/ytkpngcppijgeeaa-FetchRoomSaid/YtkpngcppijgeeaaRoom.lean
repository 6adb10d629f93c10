/- The statement FetchRoom holds for every input: there is room for so many wants, and beyond it nothing is wanted. No conditions. -/
import Derived.Test.YtkpngcppijgeeaaRows
import Derived.Test.YtkpngcppijgeeaaH15
import Derived.WalkKit
import Derived.ProofKit
import Derived.OpenShut
import Derived.ShutString
import Derived.ChangeOld
import Derived.Below
import Derived.SizedLaws
import Derived.Carry
set_option linter.unusedVariables false
namespace Go.Proofs.Ytkpngcppijgeeaa.H
open Go.ChangeShapes Go.WideShapes Go.ChangeAt Go.RowKit
open Go.ChangeMaps (open_string shut_string)
theorem cells66 : Try.prog.cellsOf 66 = 4 := by kernel_rfl
theorem cells63 : Try.prog.cellsOf 63 = 3 := by kernel_rfl
theorem cells64 : Try.prog.cellsOf 64 = 1 := by kernel_rfl
theorem ownK : ownKnob Try.prog.godebug = none := by kernel_rfl
theorem laidOut : laidOutB Try.prog = true := by kernel_rfl
-- A script as a value: what stands in its last cell.
set_option maxRecDepth 100000 in
theorem script_shape {H : Type} {enc : TypeId × Value → H} {W : World} {base0 base : Nat} {sp : Nat → Bool} {held : Bool} {v : Value} {d : DataW H} {p : List MemPlace} (hv : Value.okWide Try.prog W .any base0 66 v) (h : DataW.Trod enc Try.prog W base sp held 66 v d p) :
    ∃ x0 x1 x2 A n c, v = .agg #[x0, x1, x2, .slice A n c] := by
  obtain ⟨cs, rfl, hs⟩ := okWide_struct Try.underlying66 hv
  obtain ⟨fuel, hf⟩ := h
  obtain ⟨y0, y1, m, _, _, _, h1⟩ := trod_struct2 Try.underlying66 hf
  rw [cells66] at hs
  obtain ⟨x0, x1, x2, x3, rfl⟩ : ∃ x0 x1 x2 x3, cs = #[x0, x1, x2, x3] := by
    match cs, hs with
    | ⟨[x0, x1, x2, x3]⟩, _ => exact ⟨x0, x1, x2, x3, rfl⟩
  have h2 : DataW.trod enc Try.prog W base sp held m 64 [x3] = some y1 := by
    have := h1
    simpa [Value.cells, cells64] using this
  rcases DataW.trod_slice Try.underlying64 h2 with ⟨hc, _⟩ | ⟨a, len, cap, elems, rest, n, _, hcs, _⟩
  · obtain rfl : x3 = .slice none 0 0 := by simpa using hc
    exact ⟨x0, x1, x2, _, _, _, rfl⟩
  · obtain rfl : x3 = .slice (some a) len cap := by simpa using hcs
    exact ⟨x0, x1, x2, _, _, _, rfl⟩
set_option maxRecDepth 100000 in
theorem lifted (os : Os) (started : os.Started) (H : Type) (enc : TypeId × Value → H) :
    ReturnsInHanded {} Try.checked os 4 .any (Rows.fetchRoomSpec.pre6 enc Try.prog Try.f4 Rows.fetchRoomRow.domain false) (Rows.fetchRoomSpec.post enc Try.prog Try.f4 false true false false) := by
  refine returnsInHanded_of_change_sized (C := Try.checked) ownK started (by kernel_rfl) Try.func4
    (ChangeSpec.witness6 (enc := enc) (C := Try.checked) false ⟨#[], #[.agg #[.int .i64 0, .int .i64 0, .slice none 0 0, .slice none 0 0]], []⟩ 8 (by kernel_rfl) (by kernel_rfl) (by kernel_rfl) (by kernel_rfl)) ?_
  intro W base args ds gs before hval0 hW hcnd hsz0 _
  have hval : ∀ (j : Nat) t v, Try.f4.params[j]? = some t → args[j]? = some v → Value.okWide Try.prog W .any base t v := hval0
  have hW' := hW
  obtain ⟨p, q, hA0, hV, rfl, hfz, hnd⟩ := hW
  have hA : DataW.TrodAll enc Try.prog W 0 (fun _ => true) true Try.f4.params.toList args.toList ds p := hA0
  rw [Try.params4] at hA hval
  obtain ⟨v0, vs0, d0, ds0, p0, q0, hargs, rfl, rfl, h0, r0⟩ := trodAll_cons hA
  obtain ⟨rfl, rfl, rfl⟩ := trodAll_nil r0
  obtain rfl : args = #[v0] := by cases args; simp_all
  obtain ⟨rfl, rfl⟩ := trodVars_none hV
  have k0 := h0
  have lt0 : ∀ x ∈ p0, x.block < W.heap.size := by obtain ⟨m, hm⟩ := k0; exact DataW.trod_lt m _ _ _ hm
  obtain ⟨x0, x1, x2, A, n, c, rfl⟩ := script_shape (hval 0 66 v0 rfl rfl) h0
  clear hA0 hval0 hsz0
  refine (room4 x0 x1 x2 A n c W).mono fun e W' ⟨he, bel⟩ => ?_
  subst he
  exact ⟨_, rfl, _, _, _, [], _, [], hW', trodAll_mk1 (shut_bool Try.underlying4 _), (trodAll_cons_mk (Below.trod laidOut (by kernel_rfl) (of_decide_eq_true (by kernel_rfl)) k0 bel lt0) trodAll_mk0), rfl, bel.frame _, fun h => by cases h⟩
theorem over : Rows.fetchRoomRow.holds Try.pinned (OpenSpec.ofChange Rows.fetchRoomSpec) :=
  OpenClaim.holds_of_wide 4 Try.f4 rfl rfl rfl rfl rfl rfl rfl ⟨rfl, rfl, rfl, rfl, rfl⟩ rfl rfl rfl rfl rfl (by kernel_rfl) Try.func4 (by kernel_rfl)
    (of_decide_eq_true (by kernel_rfl)) (by unfold Func.isWrapper; first | (rw [if_pos (by decide +kernel)]; kernel_rfl) | (rw [if_neg (by decide +kernel)]; exact ⟨rfl, rfl⟩))
    (fun os started H enc _ => lifted os started H enc)
end Go.Proofs.Ytkpngcppijgeeaa.H
namespace Go.Proofs.Ytkpngcppijgeeaa
/-- The row, under a short name, for the claim. -/
theorem fetchRoom_holds : Rows.FetchRoomSaid := H.over
#print axioms fetchRoom_holds
end Go.Proofs.Ytkpngcppijgeeaa
