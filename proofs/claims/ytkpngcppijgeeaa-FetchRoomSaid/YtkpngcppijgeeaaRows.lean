/-
  No cell of these rows narrows 'for every input' (looked for: loops, veiled, ifaces, maps, wideKeys, modest, calm, conditions, laid).
  DERIVED. THE GIVEN ROWS OF THIS SEAT. 7 by the template 'for every input the law returns true; each argument reads behind the call as it read before'; 0 by the template 'total and deterministic' (their statements: YtkpngcppijgeeaaTotals.lean).
  GIVEN WITH THE SEED: the statements are not yours to turn. If you find one false, say at which input.
  Laid BY PROGRAM, IN A SANDBOX (cutbox-rows.mjs): the forced cells as the released guide's own fill.sh prints them over the translation aab1c165293a65d0… (all of the seat's roots in one cut). By AI agents, Wed Nov 11 2026. No macro, syntax, notation, axiom, sorry.
-/
import Derived.Test.YtkpngcppijgeeaaChecked
import GoSem.Claim
import GoSem.ClaimJoined
import GoSem.ClaimMapViews
import Derived.JoinedTies
import Derived.KernelRfl
namespace Go.Proofs.Ytkpngcppijgeeaa
/- THE CELL 'sum', in the pinned program and in every row, IS THE sha256 OF THE DUMP (.gsa) THAT YtkpngcppijgeeaaProg.lean LOADS. Nothing in Lean hashes anything: it is a label: what it is worth is what the hold of that sum in a sandbox is worth. -/
noncomputable def Try.pinned : Pinned := { name := "ytkpngcppijgeeaa", sum := "aab1c165293a65d03a833f12d15ed612130d8375fe24f1cbb246ea0baa0f43ec", checked := Try.checked }
namespace Rows
def none {H : Type} : Left H := { results := [], args := [] }

/-- 'droverlaw23.ExecFold': WHATEVER THE INPUT: true; the input reads as it did. -/
def execFoldSpec : ChangeSpec := { name := "execFold", fn := fun _ => fun
  | [d] => { results := [.lit (.bool true)], args := [d] }
  | _ => none }
def execFoldRow : OpenClaim := { program := "ytkpngcppijgeeaa", sum := "aab1c165293a65d03a833f12d15ed612130d8375fe24f1cbb246ea0baa0f43ec", func := "drover/droverlaw23.ExecFold", spec := "execFold", inPlace := ["internal/bytealg.abigen_runtime_cmpstring", "slices.overlaps[drover/api.Account]", "slices.overlaps[drover/api.Pair]"], unfollowed := true, recurses := true, apart := false }
def ExecFoldSaid : Prop := execFoldRow.holds Try.pinned (OpenSpec.ofChange execFoldSpec)

/-- ITS FALSE NEIGHBOUR: 'it returns false'. Refute it at one input. -/
def execFoldWrong : ChangeSpec := { name := "execFold", fn := fun _ => fun
  | [d] => { results := [.lit (.bool false)], args := [d] }
  | _ => none }
def ExecFoldWrongFalsely : Prop := execFoldRow.holds Try.pinned (OpenSpec.ofChange execFoldWrong)

/-- 'droverlaw21.FetchRoom': WHATEVER THE INPUT: true; the input reads as it did. -/
def fetchRoomSpec : ChangeSpec := { name := "fetchRoom", fn := fun _ => fun
  | [d] => { results := [.lit (.bool true)], args := [d] }
  | _ => none }
def fetchRoomRow : OpenClaim := { program := "ytkpngcppijgeeaa", sum := "aab1c165293a65d03a833f12d15ed612130d8375fe24f1cbb246ea0baa0f43ec", func := "drover/droverlaw21.FetchRoom", spec := "fetchRoom", inPlace := ["slices.overlaps[drover/api.Row]"], unfollowed := true, recurses := true, apart := false }
def FetchRoomSaid : Prop := fetchRoomRow.holds Try.pinned (OpenSpec.ofChange fetchRoomSpec)

/-- ITS FALSE NEIGHBOUR: 'it returns false'. Refute it at one input. -/
def fetchRoomWrong : ChangeSpec := { name := "fetchRoom", fn := fun _ => fun
  | [d] => { results := [.lit (.bool false)], args := [d] }
  | _ => none }
def FetchRoomWrongFalsely : Prop := fetchRoomRow.holds Try.pinned (OpenSpec.ofChange fetchRoomWrong)

/-- 'droverlaw21.FetchWants': WHATEVER THE INPUT: true; the input reads as it did. -/
def fetchWantsSpec : ChangeSpec := { name := "fetchWants", fn := fun _ => fun
  | [d] => { results := [.lit (.bool true)], args := [d] }
  | _ => none }
def fetchWantsRow : OpenClaim := { program := "ytkpngcppijgeeaa", sum := "aab1c165293a65d03a833f12d15ed612130d8375fe24f1cbb246ea0baa0f43ec", func := "drover/droverlaw21.FetchWants", spec := "fetchWants", inPlace := ["slices.overlaps[drover/api.Row]"], unfollowed := true, recurses := true, apart := false }
def FetchWantsSaid : Prop := fetchWantsRow.holds Try.pinned (OpenSpec.ofChange fetchWantsSpec)

/-- ITS FALSE NEIGHBOUR: 'it returns false'. Refute it at one input. -/
def fetchWantsWrong : ChangeSpec := { name := "fetchWants", fn := fun _ => fun
  | [d] => { results := [.lit (.bool false)], args := [d] }
  | _ => none }
def FetchWantsWrongFalsely : Prop := fetchWantsRow.holds Try.pinned (OpenSpec.ofChange fetchWantsWrong)

/-- 'droverlaw21.FetchGots': WHATEVER THE INPUT: true; the input reads as it did. -/
def fetchGotsSpec : ChangeSpec := { name := "fetchGots", fn := fun _ => fun
  | [d] => { results := [.lit (.bool true)], args := [d] }
  | _ => none }
def fetchGotsRow : OpenClaim := { program := "ytkpngcppijgeeaa", sum := "aab1c165293a65d03a833f12d15ed612130d8375fe24f1cbb246ea0baa0f43ec", func := "drover/droverlaw21.FetchGots", spec := "fetchGots", inPlace := ["slices.overlaps[drover/api.Row]"], unfollowed := true, recurses := true, apart := false }
def FetchGotsSaid : Prop := fetchGotsRow.holds Try.pinned (OpenSpec.ofChange fetchGotsSpec)

/-- ITS FALSE NEIGHBOUR: 'it returns false'. Refute it at one input. -/
def fetchGotsWrong : ChangeSpec := { name := "fetchGots", fn := fun _ => fun
  | [d] => { results := [.lit (.bool false)], args := [d] }
  | _ => none }
def FetchGotsWrongFalsely : Prop := fetchGotsRow.holds Try.pinned (OpenSpec.ofChange fetchGotsWrong)

/-- 'droverlaw21.FetchTicks': WHATEVER THE INPUT: true; the input reads as it did. -/
def fetchTicksSpec : ChangeSpec := { name := "fetchTicks", fn := fun _ => fun
  | [d] => { results := [.lit (.bool true)], args := [d] }
  | _ => none }
def fetchTicksRow : OpenClaim := { program := "ytkpngcppijgeeaa", sum := "aab1c165293a65d03a833f12d15ed612130d8375fe24f1cbb246ea0baa0f43ec", func := "drover/droverlaw21.FetchTicks", spec := "fetchTicks", inPlace := ["slices.overlaps[drover/api.Row]"], unfollowed := true, recurses := true, apart := false }
def FetchTicksSaid : Prop := fetchTicksRow.holds Try.pinned (OpenSpec.ofChange fetchTicksSpec)

/-- ITS FALSE NEIGHBOUR: 'it returns false'. Refute it at one input. -/
def fetchTicksWrong : ChangeSpec := { name := "fetchTicks", fn := fun _ => fun
  | [d] => { results := [.lit (.bool false)], args := [d] }
  | _ => none }
def FetchTicksWrongFalsely : Prop := fetchTicksRow.holds Try.pinned (OpenSpec.ofChange fetchTicksWrong)

/-- 'droverlaw21.FetchRounds': WHATEVER THE INPUT: true; the input reads as it did. -/
def fetchRoundsSpec : ChangeSpec := { name := "fetchRounds", fn := fun _ => fun
  | [d] => { results := [.lit (.bool true)], args := [d] }
  | _ => none }
def fetchRoundsRow : OpenClaim := { program := "ytkpngcppijgeeaa", sum := "aab1c165293a65d03a833f12d15ed612130d8375fe24f1cbb246ea0baa0f43ec", func := "drover/droverlaw21.FetchRounds", spec := "fetchRounds", inPlace := ["slices.overlaps[drover/api.Row]"], unfollowed := true, recurses := true, apart := false }
def FetchRoundsSaid : Prop := fetchRoundsRow.holds Try.pinned (OpenSpec.ofChange fetchRoundsSpec)

/-- ITS FALSE NEIGHBOUR: 'it returns false'. Refute it at one input. -/
def fetchRoundsWrong : ChangeSpec := { name := "fetchRounds", fn := fun _ => fun
  | [d] => { results := [.lit (.bool false)], args := [d] }
  | _ => none }
def FetchRoundsWrongFalsely : Prop := fetchRoundsRow.holds Try.pinned (OpenSpec.ofChange fetchRoundsWrong)

/-- 'droverlaw21.FetchExact': WHATEVER THE INPUT: true; the input reads as it did. -/
def fetchExactSpec : ChangeSpec := { name := "fetchExact", fn := fun _ => fun
  | [d] => { results := [.lit (.bool true)], args := [d] }
  | _ => none }
def fetchExactRow : OpenClaim := { program := "ytkpngcppijgeeaa", sum := "aab1c165293a65d03a833f12d15ed612130d8375fe24f1cbb246ea0baa0f43ec", func := "drover/droverlaw21.FetchExact", spec := "fetchExact", inPlace := ["slices.overlaps[drover/api.Row]"], unfollowed := true, recurses := true, apart := false }
def FetchExactSaid : Prop := fetchExactRow.holds Try.pinned (OpenSpec.ofChange fetchExactSpec)

/-- ITS FALSE NEIGHBOUR: 'it returns false'. Refute it at one input. -/
def fetchExactWrong : ChangeSpec := { name := "fetchExact", fn := fun _ => fun
  | [d] => { results := [.lit (.bool false)], args := [d] }
  | _ => none }
def FetchExactWrongFalsely : Prop := fetchExactRow.holds Try.pinned (OpenSpec.ofChange fetchExactWrong)

/- THE SECOND FORM. 'bulk': how many values and letters a reading holds, each counted each time it is reached (what is shared counts as often as it is met; a slice's spare places count too). A statement '..UptoSaid' is the law's where the arguments, and the package variables that the reading takes, are together of bulk at most 1048576: NARROWER than '..Said'. Prove '..Said' where nothing that the law and all that it calls make is longer than what came in: it says more and counts as full. Else prove '..UptoSaid'. A law counts once. -/
mutual
def uptoBulk {H : Type} : DataW H → Nat
  | .lit (.string bytes) => bytes.length + 1
  | .lit _ => 1
  | .nil => 1
  | .ptr d => uptoBulk d + 1
  | .slice elems spare => uptoBulkAll elems + uptoBulkAll spare + 1
  | .agg parts => uptoBulkAll parts + 1
  | .iface _ d => uptoBulk d + 1
  | .map entries => uptoBulkEntries entries + 1
  | .held _ => 1
def uptoBulkAll {H : Type} : List (DataW H) → Nat
  | [] => 0
  | d :: r => uptoBulk d + uptoBulkAll r
def uptoBulkEntries {H : Type} : List (Lit × DataW H) → Nat
  | [] => 0
  | x :: r => uptoBulkEntry x + uptoBulkEntries r
def uptoBulkEntry {H : Type} : Lit × DataW H → Nat
  | (.string bytes, d) => bytes.length + uptoBulk d + 1
  | (_, d) => uptoBulk d + 1
 end
def uptoSmall : (H : Type) → List (DataW H) → Bool := fun _ ds => decide (uptoBulkAll ds ≤ 1048576)
def OpenSpec.upto (s : _root_.Go.ChangeSpec) : _root_.Go.OpenSpec := { _root_.Go.OpenSpec.ofChange s with cond := some uptoSmall }

/-- 'droverlaw23.ExecFold', WHERE WHAT IT READS IS OF BULK AT MOST 1048576: true; the input reads as it did. -/
def execFoldUptoRow : OpenClaim := { program := "ytkpngcppijgeeaa", sum := "aab1c165293a65d03a833f12d15ed612130d8375fe24f1cbb246ea0baa0f43ec", func := "drover/droverlaw23.ExecFold", spec := "execFold", inPlace := ["internal/bytealg.abigen_runtime_cmpstring", "slices.overlaps[drover/api.Account]", "slices.overlaps[drover/api.Pair]"], unfollowed := true, recurses := true, apart := false, narrowed := true }
def ExecFoldUptoSaid : Prop := execFoldUptoRow.holds Try.pinned (OpenSpec.upto execFoldSpec)

/-- 'droverlaw21.FetchRoom', WHERE WHAT IT READS IS OF BULK AT MOST 1048576: true; the input reads as it did. -/
def fetchRoomUptoRow : OpenClaim := { program := "ytkpngcppijgeeaa", sum := "aab1c165293a65d03a833f12d15ed612130d8375fe24f1cbb246ea0baa0f43ec", func := "drover/droverlaw21.FetchRoom", spec := "fetchRoom", inPlace := ["slices.overlaps[drover/api.Row]"], unfollowed := true, recurses := true, apart := false, narrowed := true }
def FetchRoomUptoSaid : Prop := fetchRoomUptoRow.holds Try.pinned (OpenSpec.upto fetchRoomSpec)

/-- 'droverlaw21.FetchWants', WHERE WHAT IT READS IS OF BULK AT MOST 1048576: true; the input reads as it did. -/
def fetchWantsUptoRow : OpenClaim := { program := "ytkpngcppijgeeaa", sum := "aab1c165293a65d03a833f12d15ed612130d8375fe24f1cbb246ea0baa0f43ec", func := "drover/droverlaw21.FetchWants", spec := "fetchWants", inPlace := ["slices.overlaps[drover/api.Row]"], unfollowed := true, recurses := true, apart := false, narrowed := true }
def FetchWantsUptoSaid : Prop := fetchWantsUptoRow.holds Try.pinned (OpenSpec.upto fetchWantsSpec)

/-- 'droverlaw21.FetchGots', WHERE WHAT IT READS IS OF BULK AT MOST 1048576: true; the input reads as it did. -/
def fetchGotsUptoRow : OpenClaim := { program := "ytkpngcppijgeeaa", sum := "aab1c165293a65d03a833f12d15ed612130d8375fe24f1cbb246ea0baa0f43ec", func := "drover/droverlaw21.FetchGots", spec := "fetchGots", inPlace := ["slices.overlaps[drover/api.Row]"], unfollowed := true, recurses := true, apart := false, narrowed := true }
def FetchGotsUptoSaid : Prop := fetchGotsUptoRow.holds Try.pinned (OpenSpec.upto fetchGotsSpec)

/-- 'droverlaw21.FetchTicks', WHERE WHAT IT READS IS OF BULK AT MOST 1048576: true; the input reads as it did. -/
def fetchTicksUptoRow : OpenClaim := { program := "ytkpngcppijgeeaa", sum := "aab1c165293a65d03a833f12d15ed612130d8375fe24f1cbb246ea0baa0f43ec", func := "drover/droverlaw21.FetchTicks", spec := "fetchTicks", inPlace := ["slices.overlaps[drover/api.Row]"], unfollowed := true, recurses := true, apart := false, narrowed := true }
def FetchTicksUptoSaid : Prop := fetchTicksUptoRow.holds Try.pinned (OpenSpec.upto fetchTicksSpec)

/-- 'droverlaw21.FetchRounds', WHERE WHAT IT READS IS OF BULK AT MOST 1048576: true; the input reads as it did. -/
def fetchRoundsUptoRow : OpenClaim := { program := "ytkpngcppijgeeaa", sum := "aab1c165293a65d03a833f12d15ed612130d8375fe24f1cbb246ea0baa0f43ec", func := "drover/droverlaw21.FetchRounds", spec := "fetchRounds", inPlace := ["slices.overlaps[drover/api.Row]"], unfollowed := true, recurses := true, apart := false, narrowed := true }
def FetchRoundsUptoSaid : Prop := fetchRoundsUptoRow.holds Try.pinned (OpenSpec.upto fetchRoundsSpec)

/-- 'droverlaw21.FetchExact', WHERE WHAT IT READS IS OF BULK AT MOST 1048576: true; the input reads as it did. -/
def fetchExactUptoRow : OpenClaim := { program := "ytkpngcppijgeeaa", sum := "aab1c165293a65d03a833f12d15ed612130d8375fe24f1cbb246ea0baa0f43ec", func := "drover/droverlaw21.FetchExact", spec := "fetchExact", inPlace := ["slices.overlaps[drover/api.Row]"], unfollowed := true, recurses := true, apart := false, narrowed := true }
def FetchExactUptoSaid : Prop := fetchExactUptoRow.holds Try.pinned (OpenSpec.upto fetchExactSpec)

end Rows
end Go.Proofs.Ytkpngcppijgeeaa
