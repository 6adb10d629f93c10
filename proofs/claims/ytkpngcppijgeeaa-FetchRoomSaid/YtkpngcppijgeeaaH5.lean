import Derived.Test.YtkpngcppijgeeaaH2
import Derived.Test.YtkpngcppijgeeaaH4
import Derived.Test.YtkpngcppijgeeaaShelf
import Derived.Shelf.SlSortCmp.NoneTotal
set_option linter.unusedVariables false
set_option linter.unusedSimpArgs false
namespace Go.Proofs.Ytkpngcppijgeeaa.H
open Go.Shelf Go.Lib Go.Sort Go.RowKit Go.Proofs.YtkpngcppijgeeaaW.PrintWords Go.Proofs.YtkpngcppijgeeaaW.PrintLast Go.Proofs.YtkpngcppijgeeaaW.PrintMore Go.Proofs.Ytkpngcppijgeeaa.PFetchExact
instance : Inhabited S86 := ⟨z86⟩
theorem flat_get (a : Array Value) (t : Nat) (h : t < a.size) : a.toList[t]? = some a[t]! := by
  rw [getElem!_pos a t h]; simp [h]
theorem reps_flat {xs : List S86} {w : World} {base : Nat} {ok : Nat → Prop} {inner : List Value} (h : Reps (k86.M w base ok) 4 xs inner) : inner = (flatK n86 4 xs.toArray).toList := by
  have hl : inner.length = xs.length * 4 := h.1
  apply List.ext_getElem?
  intro t
  rcases Nat.lt_or_ge t (xs.length * 4) with ht | ht
  · have hq : t / 4 < xs.length := by omega
    have h1 : (inner.drop (t / 4 * 4)).take 4 = n86 xs[t / 4] := k86_openM (h.2 (t / 4) _ (List.getElem?_eq_getElem hq))
    have h2 : inner[t]? = (n86 xs[t / 4])[t % 4]? := by
      rw [← h1, List.getElem?_take, if_pos (Nat.mod_lt _ (by omega)), List.getElem?_drop]
      congr 1; omega
    have h3 := get_flatK n86 4 xs.toArray t (by simpa using ht)
    have hs : t < (flatK n86 4 xs.toArray).size := by simpa using ht
    rw [h2, flat_get _ _ hs, h3]
    have hm : t % 4 < 4 := Nat.mod_lt _ (by omega)
    rw [getElem!_pos xs.toArray (t / 4) (by simpa using hq)]
    simp only [List.getElem_toArray]
    rw [getElem!_pos _ (t % 4) (by simpa [n86] using hm), List.getElem?_eq_getElem (by simpa [n86] using hm)]
  · rw [List.getElem?_eq_none (by omega), List.getElem?_eq_none (by simpa using ht)]
theorem flat_reps (xs : List S86) (w : World) (base : Nat) (ok : Nat → Prop) : Reps (k86.M w base ok) 4 xs (flatK n86 4 xs.toArray).toList := by
  refine ⟨by simp, fun j p hj => ?_⟩
  obtain ⟨hlt, rfl⟩ := List.getElem?_eq_some_iff.1 hj
  have : ((flatK n86 4 xs.toArray).toList.drop (j * 4)).take 4 = n86 xs[j] := by
    apply List.ext_getElem?
    intro t
    rcases Nat.lt_or_ge t 4 with ht | ht
    · rw [List.getElem?_take, if_pos ht, List.getElem?_drop]
      have hs : j * 4 + t < (flatK n86 4 xs.toArray).size := by simp; omega
      have h3 := get_flatK n86 4 xs.toArray (j * 4 + t) (by simpa using hs)
      rw [flat_get _ _ hs, h3]
      have e1 : (j * 4 + t) / 4 = j := by omega
      have e2 : (j * 4 + t) % 4 = t := by omega
      rw [e1, e2, getElem!_pos xs.toArray j (by simpa using hlt)]
      simp only [List.getElem_toArray]
      rw [getElem!_pos _ t (by simpa [n86] using ht), List.getElem?_eq_getElem (by simpa [n86] using ht)]
    · rw [List.getElem?_take, if_neg (by omega), List.getElem?_eq_none (by simpa [n86] using ht)]
  rw [this]
  exact k86_mkM _ _ _ _
theorem ltOf_cmpK (x y : S86) : ltOf cmpK x y = ltK x y := by
  unfold ltOf cmpK
  by_cases h : ltK x y = true
  · simp [h]
  · rw [if_neg h]
    have h2 : ltK x y = false := by simpa using h
    rw [h2]; split <;> simp
theorem swoK : SWO (ltOf cmpK) where
  irrefl x := by rw [ltOf_cmpK]; simp [ltK]
  trans x y z h1 h2 := by rw [ltOf_cmpK] at *; exact ltK_trans h1 h2
  ntrans x y z h1 h2 := by rw [ltOf_cmpK] at *; simp [ltK] at *; omega
theorem lays79 (blk off size : Nat) (w : World) : CmpLays Try.prog 79 #[] n86 4 cmpK blk off size w := fun m os dk _ x y => less79x x y _
set_option maxHeartbeats 1000000 in
theorem sort113 {base : Nat} {ok : Nat → Prop} (v : Value) (xs : List S86) (w : World) (HO : k86.R 86 w base ok v xs) (hl : xs.length < 4611686018427387904) (hfr : ∀ k, w.heap.size ≤ k → ok k) :
    Calls Try.prog 113 #[v, .func (.func 79) #[] #[]] w fun e w' => ∃ ys : List S86, e = .returned (.tuple #[]) ∧ k86.R 86 w' base ok v ys ∧ w.grownBy w' v.ownBlock ∧ ys.Perm xs ∧ (∀ i j, i < j → j < ys.length → ∀ a b, ys[i]? = some a → ys[j]? = some b → ltK b a = false) := by
  obtain ⟨hok, inner, hown, hreps⟩ := HO
  have hown : w.ownsRow base 86 4 v xs.length inner := hown
  have hreps : Reps (k86.M w base (fun k => ok k ∧ some k ≠ v.ownBlock)) 4 xs inner := hreps
  rcases Nat.eq_zero_or_pos xs.length with h0 | hpos
  · obtain rfl : xs = [] := List.eq_nil_of_length_eq_zero h0
    obtain ⟨A, c, rfl⟩ := own_slice hown
    have hcon := AnyF.slices_SortFunc_none Try.sortRow A c (.func (.func 79) #[] #[]) w
    change Calls Try.prog 113 _ _ _ at hcon
    exact hcon.mono fun e w' ⟨he, hw⟩ => by subst hw; exact ⟨[], he, ⟨hok, inner, hown, hreps⟩, World.grownBy.refl _ _, List.Perm.refl _, fun i j _ hj => by simp at hj⟩
  · rcases hown.2 with ⟨_, h0⟩ | ⟨g, cap, cur, rfl, hg, hh, hnc, hcm, hcs, htk⟩
    · omega
    have hin := reps_flat hreps
    have hgl : g < w.heap.size := blk_lt hh
    have hH : HoldsK n86 4 w g 0 xs.toArray := by
      intro j hj
      have hj' : j < xs.length * 4 := by simpa using hj
      refine ⟨?_, blk_frozen hh _⟩
      have := hown.cells (g := g) rfl j ((flatK n86 4 xs.toArray)[j]!) (by
        rw [hin, flat_get _ _ hj])
      rw [Addr.add_lit] at this
      exact this
    have hcon := AnyQ.slices_SortFunc Try.sortRow 4 Try.isAgg86 Try.sizeOf86 n86 (fun _ => rfl) n86_one cmpK swoK 79 #[] g 0 cap xs.toArray w (enters_of Try.func79 (by kernel_rfl) rfl) (lays79 _ _ _ _) hH hgl (by simpa using hl)
    change Calls Try.prog 113 _ _ _ at hcon
    refine hcon.mono fun e w' ⟨he, d', n, os, hp, hs, hw⟩ => ?_
    have hsz : d'.size = xs.length := by simpa using hp.1
    have hdl : d'.toList.length = xs.length := by simpa using hsz
    have hperm : d'.toList.Perm xs := by
      have h := hp.2.2
      have e1 : d'.extract 0 xs.toArray.size = d' := by rw [List.size_toArray, ← hsz]; exact Array.extract_size
      have e2 : xs.toArray.extract 0 xs.toArray.size = xs.toArray := Array.extract_size
      rw [e1, e2] at h
      simpa using h
    have hHW : HoldsK n86 4 w' g 0 d' := by rw [hw]; exact holdsK_sortWorldK_c n86 4 w g 0 xs.toArray d' n os hH hgl (by simpa using hsz)
    have hblk : ∃ cur', w'.heap[g]? = some (.cells cur' 86 (0, 0)) ∧ cur'.size = cur.size := by
      refine ⟨putCells id 0 (flatK n86 4 d') cur, ?_, by simp [putCells]⟩
      rw [hw]
      unfold sortWorldK
      rw [heap_grow_old _ _ (by unfold putRowK; rw [size_putRow]; exact hgl)]
      show (w.heap.modify g (onCells (putCells id 0 (flatK n86 4 d'))))[g]? = _
      rw [Array.getElem?_modify, if_pos rfl, hh]; rfl
    obtain ⟨cur', hh', hs'⟩ := hblk
    have hgr : w.grownBy w' (some g) := by
      rw [hw]
      refine ⟨rfl, rfl, rfl, ?_, fun k hk hne => ?_⟩
      · show _ ≤ ((putRowK n86 4 (Sort.ahead w n) g 0 d').heap ++ os).size
        unfold putRowK
        rw [Array.size_append, size_putRow]; exact Nat.le_add_right _ _
      · have hkg : k ≠ g := fun e => hne (by rw [e])
        unfold sortWorldK
        rw [heap_grow_old _ _ (by unfold putRowK; rw [size_putRow]; exact hk)]
        show (w.heap.modify g (onCells (putCells id 0 (flatK n86 4 d'))))[k]? = _
        rw [Array.getElem?_modify, if_neg (fun e => hkg e.symm)]
    have hown' : w'.ownsRow base 86 4 (.slice (some ⟨g, 0, none⟩) xs.length cap) xs.length (flatK n86 4 d').toList := by
      refine ⟨by simp [hsz], .inr ⟨g, cap, cur', rfl, hg, hh', hnc, hcm, by rw [hs', hcs], ?_⟩⟩
      apply List.ext_getElem?
      intro t
      rcases Nat.lt_or_ge t (xs.length * 4) with ht | ht
      · have hf : t < (flatK n86 4 d').size := by simp [hsz]; exact ht
        have h1 := (hHW t hf).1
        rw [cell_of_row w' g _ cur' 86 (0, 0) hh', Nat.zero_add] at h1
        rw [List.getElem?_take, if_pos ht, flat_get _ _ hf, Array.getElem?_toList, h1]; rfl
      · rw [List.getElem?_take, if_neg (by omega), List.getElem?_eq_none (by simp [hsz]; exact ht)]
    refine ⟨d'.toList, he, R_of_cells k86 (n := xs.length) hdl hown' (flat_reps d'.toList w base (fun k => ok k ∧ some k ≠ (Value.slice (some ⟨g, 0, none⟩) xs.length cap).ownBlock)) hgr (.inl rfl) hok hfr, hgr, hperm, fun i j hij hj a b ha hb => ?_⟩
    have h := hs i j (Nat.zero_le _) hij (by simpa using (show j < xs.length by omega))
    rw [ltOf_cmpK] at h
    obtain ⟨hi', rfl⟩ := List.getElem?_eq_some_iff.1 ha
    obtain ⟨hj', rfl⟩ := List.getElem?_eq_some_iff.1 hb
    rw [getElem!_pos d' j (by simpa using hj'), getElem!_pos d' i (by simpa using hi')] at h
    simpa using h
end Go.Proofs.Ytkpngcppijgeeaa.H
