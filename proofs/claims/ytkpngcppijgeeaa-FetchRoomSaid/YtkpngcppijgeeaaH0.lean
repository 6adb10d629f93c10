import Derived.Test.YtkpngcppijgeeaaPFetchExactx0
import Derived.WalkSpells
import Derived.Outline
import Derived.Lib.Hide
namespace Go.Proofs.Ytkpngcppijgeeaa.H
open Go.RowKit Go.Proofs.YtkpngcppijgeeaaW.PrintWords Go.Proofs.YtkpngcppijgeeaaW.PrintLast Go.Proofs.YtkpngcppijgeeaaW.PrintMore Go.Proofs.Ytkpngcppijgeeaa.PFetchExact
/-- A later world: nothing that was has turned. -/
structure Later (w : World) where
  W : World
  h : Below w.heap.size w W
instance (w : World) : Nonempty (Later w) := ⟨⟨w, Below.refl _ _⟩⟩
def CL (w : World) : World → Prop := fun W => ∃ z : Later w, W = z.W
theorem Later.cell {w : World} {ad : Addr} {v : Value} (h : w.cell? ad = some v) : ∀ z : Later w, z.W.cell? ad = some v := fun z => pw_cell_below z.h h
theorem Later.on {w : World} (z : Later w) {W : World} (hb : Below z.W.heap.size z.W W) : ∃ y : Later w, W = y.W := ⟨⟨W, below_then z.h z.h.size hb⟩, rfl⟩
theorem Later.call {P : Program} {f : FuncId} {args : Array Value} {w : World} {z : Later w} {v : Value} (h : Calls P f args z.W fun e W => e = .returned v ∧ Below z.W.heap.size z.W W) :
    Calls P f args z.W fun e W => e = .returned v ∧ ∃ y : Later w, W = y.W := h.mono fun _ _ ⟨he, hb⟩ => ⟨he, z.on hb⟩
/-- A region that draws its order, whose operations read what was there ahead of it and whose callees at the most make memory: one walk. -/
theorem wp_region_later {P : Program} {id : Nat} {Q : Exit → Act → World → Prop} {a : Act} {w : World} {l : List Oper} (hm : P.follows .mixedOrders = true) (hB : Region.lexB .any l.toArray = true)
    (h : wpQuiet P l.toArray (fun W => ∃ z : Later w, W = z.W) (fun a' => ∀ z : Later w, Q .normal a' z.W) l a) : (Code.region id l.toArray true).wp P Q a w := by
  refine wp_region_quiet (C := fun W => ∃ z : Later w, W = z.W) hm hB ⟨⟨w.drew, (Below.refl _ _).drew⟩, rfl⟩ ?_
  have e : (fun a' => ∀ W, (∃ z : Later w, W = z.W) → Q .normal a' W) = (fun a' => ∀ z : Later w, Q .normal a' z.W) := by
    funext a'; exact propext ⟨fun h z => h _ ⟨z, rfl⟩, fun h W ⟨z, hz⟩ => hz ▸ h z⟩
  rw [e]; simpa using h
/-- A new empty row of the call's own. -/
theorem R_empty {α : Type} (d : Kd α) (e : Nat) (W : World) (base : Nat) (ok : Nat → Prop) (hb : base ≤ W.heap.size) (hok : ok W.heap.size) :
    d.R e (W.alloc (.cells #[] e)) base ok (.slice (some ⟨W.heap.size, 0, none⟩) 0 0) [] :=
  ⟨fun k hk => by simp [Value.ownBlock] at hk; subst hk; exact hok, [], World.ownsRow_made W #[] 0 hb (by simp [maxLen]) (by simp), by simp, fun j p hj => by simp at hj⟩
theorem len_none {α : Type} {d : Kd α} {w : World} {n : Nat} {l : List α} (hr : Kd.C d w none n l) : n = 0 ∧ l = [] := by
  have h0 : n = 0 := by
    rcases Nat.eq_zero_or_pos n with h | h
    · exact h
    · obtain ⟨_, h, _⟩ := hr.2.2 h; cases h
  exact ⟨h0, List.eq_nil_of_length_eq_zero (hr.1.trans h0)⟩
set_option maxHeartbeats 1000000 in
set_option maxRecDepth 100000 in
theorem clone81 (A : Option Addr) (n c : Nat) (l : List S86) (w : World) (hr : Kd.C k86 w A n l) (hl : n * 32 ≤ 140737488355328) :
    Calls Try.prog 81 #[.slice A n c] w fun e w' => ∃ v, e = .returned v ∧ Kd.R k86 86 w' w.heap.size (fun _ => True) v l ∧ Below w.heap.size w w' := by
  rcases A with _ | a
  · obtain ⟨rfl, rfl⟩ := len_none hr
    have he := Lib.run_eql_slice_nil (P := Try.prog) w 61 86 none 0 c 0 0 Try.underlying61
    go_enter Try.func81, Try.ntmps81
    go_wp2
    go_ret
    exact ⟨_, rfl, Kd.R_nil _ _ _ _ _, Below.refl _ _⟩
  · have he := Lib.run_eql_slice_nil (P := Try.prog) w 61 86 (some a) n c 0 0 Try.underlying61
    have HR := Lib.hid hr
    clear hr
    go_enter Try.func81, Try.ntmps81
    go_wp2_with (at_builtin; refine Kd.R_append_rows k86 (Rr := k86.K (w.alloc (.cells #[] 86))) (w0 := w) w.heap.size rfl _ _ 61 86 (.agg #[(.int .i64 0), (.int .i64 0), (.int .i64 0), (.int .i64 0)]) 32 rfl Try.underlying61 info86 rfl (by decide) (by decide) _ [] l (some a) n c (fun _ => True) (fun k => w.heap.size < k) rfl rfl (R_empty _ _ _ _ _ (Nat.le_refl _) trivial) (Kd.C_below HR.out ((Below.refl _ _).alloc (Nat.le_refl _) _)) ?_ ?_ ?_ ((Below.refl _ _).alloc (Nat.le_refl _) _) (by simp) (by simpa using hl) ?_)
    case refine_1 => intro x cs h; rw [k86_open h]; exact k86_mkM _ _ _ _
    case refine_2 => intro k hk; exact ⟨trivial, by simp [Act.eval, Value.ownBlock]; omega⟩
    case refine_3 => intro _ _; trivial
    intro v1 w1 HO HB hg _
    go_wp2
    go_ret
    exact ⟨_, rfl, HO, HB⟩
end Go.Proofs.Ytkpngcppijgeeaa.H
