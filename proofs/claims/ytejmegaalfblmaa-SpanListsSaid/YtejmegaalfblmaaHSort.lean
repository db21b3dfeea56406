/- sort.Slice as span.Join calls it: a row of spans becomes ascending; for rows of fewer than 2^62 spans. -/
import Derived.Test.YtejmegaalfblmaaHRow
import Derived.Test.YtejmegaalfblmaaHMerge
import Derived.Test.YtejmegaalfblmaaHShelf
import Derived.Shelf.SlSortFuncK.WholeK
import Derived.Shelf.GgSortFunc.Tiny
namespace Go.Proofs.Ytejmegaalfblmaa.H
open Go.RowKit Go.Proofs.YtejmegaalfblmaaW.PrintWords Go.Proofs.YtejmegaalfblmaaW.PrintLast Go.Proofs.YtejmegaalfblmaaW.PrintMore
open Go.Shelf Go.Lib
noncomputable def svT : TypeInfo := (Try.prog.info? 22).get (by kernel_rfl)
noncomputable def svE : TypeInfo := (Try.prog.info? 25).get (by kernel_rfl)
theorem svK (n : Nat) (h2 : 2 ≤ n) : Lib.swapperK n svE 25 = 9 := by
  have a : svE.hasPointers = false := by kernel_rfl
  have b : svE.bytes = 16 := by kernel_rfl
  have c : (n == 0) = false := by simp; omega
  have d : (n == 1) = false := by simp; omega
  simp [Lib.swapperK, a, b, c, d]
def ltF (a b : S25) : Bool := decide (a.f0 < b.f0)
theorem swo_ltF : Sort.SWO ltF where
  irrefl := fun x => by simp [ltF]
  trans := fun x y z h1 h2 => by simp [ltF] at *; omega
  ntrans := fun x y z h1 h2 => by simp [ltF] at *; omega
set_option maxHeartbeats 2000000 in
theorem less27 (blk off c Bs size : Nat) (W : World) (G : Nat → Int) (hs : W.cell? ⟨Bs, 0, none⟩ = some (.slice (some ⟨blk, off, none⟩) size c))
    (hc : ∀ t, t < size → W.cell? ⟨blk, off + t * 2, none⟩ = some (.int .i64 (G t))) (i j : Nat) (hi : i < size) (hj : j < size) (_hsz : size < 4611686018427387904) :
    Calls Try.prog 27 #[.int .i64 i, .int .i64 j, .pointer (some ⟨Bs, 0, none⟩)] W fun e w' => e = .returned (.bool (decide (G i < G j))) ∧ ∃ q, w' = W.drewN q := by
  have ci := hc i hi
  have cj := hc j hj
  go_enter Try.func27, Try.ntmps27
  go_wp2
  go_quiet (fail)
  go_wp2
  go_ret
  exact ⟨rfl, nq, rfl⟩
theorem sort_two (blk off c Bs : Nat) (d : Array S25) (h2 : 2 ≤ d.size) (hsz : d.size < 4611686018427387904) (w : World) (hH : Sort.HoldsK encS 2 w blk off d) (hblk : blk < w.heap.size)
    (hBs : w.cell? ⟨Bs, 0, none⟩ = some (.slice (some ⟨blk, off, none⟩) d.size c)) (hB1 : Bs < w.heap.size) (hB2 : Bs ≠ blk) :
    Calls Try.prog 26 #[.iface 22 (.slice (some ⟨blk, off, none⟩) d.size c), .func (.func 27) #[] #[.pointer (some ⟨Bs, 0, none⟩)]] w fun e w' =>
      e = .returned (.tuple #[]) ∧ ∃ d' n os, Sort.PermIn 0 d.size d d' ∧ Sort.SortedIn ltF 0 d.size d' ∧ w' = Sort.grow (Sort.putRowK encS 2 (Sort.ahead w n) blk off d') os := by
  have hless : LessReadsK Try.prog 27 #[.pointer (some ⟨Bs, 0, none⟩)] encS 2 ltF blk off d.size w := by
    intro m os dk hs i j hi hj
    have e : sortWorldK encS 2 w blk off m dk os = Sort.putRowK encS 2 (Sort.grow (Sort.ahead w m) os) blk off dk := by
      unfold sortWorldK
      rw [Sort.putRowK_grow _ _ (Sort.ahead w m) _ blk off _ hblk]
    have hHg : Sort.HoldsK encS 2 (Sort.grow (Sort.ahead w m) os) blk off d := Sort.holdsK_grow _ _ _ _ blk off d hblk (Sort.holdsK_ahead _ _ _ _ _ _ _ hH)
    refine less27 blk off c Bs d.size _ (fun t => dk[t]!.f0) ?_ (fun t ht => ?_) i j hi hj (by omega)
    · rw [e, Sort.cell?_putRowK_other _ _ _ blk off dk _ (by exact hB2), Sort.cell?_grow _ _ _ (by exact hB1)]
      exact hBs
    · rw [e]
      exact ((Sort.holdsK_putRowK _ _ _ blk off d dk hHg hs).cell (i := t) (c := 0) (by omega) (by omega)).1
  exact Any.sort_Slice_cells_sorted Try.laysGg6 22 25 svT svE (by kernel_rfl) (by kernel_rfl) (by kernel_rfl) (by kernel_rfl) 25 (fun _ => by kernel_rfl) encS 2 (fun _ => rfl) (by kernel_rfl) (fun _ => by kernel_rfl)
    (fun x v hv => by simp [encS] at hv; rcases hv with rfl | rfl <;> rfl) ltF swo_ltF 27 _
    (enters_of Try.func27 (by kernel_rfl) rfl) blk off c d h2 hsz 47 (by rw [svK _ h2]; kernel_rfl) false
    (fun args W => run_callFunc_extern Try.func47 (by kernel_rfl) (by kernel_rfl) (by kernel_rfl) (e := Extern.ReflectliteSwapper.swap false) (by kernel_rfl) args W) w hless hH hblk
theorem sort_tiny (p : Option Addr) (n c : Nat) (h1 : n ≤ 1) (lf : Fn) (la lb : Array Value) (w : World) :
    Calls Try.prog 26 #[.iface 22 (.slice p n c), .func lf la lb] w fun e w' => e = .returned (.tuple #[]) ∧ ∃ os, w' = Sort.grow w os := by
  have hK : Lib.swapperK n svE 25 = n + 1 := by
    rcases Nat.eq_zero_or_pos n with h | h
    · subst h; simp [Lib.swapperK]
    · obtain rfl : n = 1 := by omega
      simp [Lib.swapperK]
  exact Any.sort_Slice_tiny Try.laysGg6 22 25 svT svE (by kernel_rfl) (by kernel_rfl) (by kernel_rfl) (by kernel_rfl) 25 (fun _ => by kernel_rfl) p n c h1 (39 + n) (by
    rw [hK]
    rcases Nat.eq_zero_or_pos n with h | h
    · subst h; kernel_rfl
    · obtain rfl : n = 1 := by omega
      kernel_rfl) lf la lb w
theorem below_grow {base : Nat} {w0 w : World} (hB : Below base w0 w) (hb : base ≤ w.heap.size) (os : Array Obj) : Below base w0 (Sort.grow w os) := by
  refine ⟨hB.os, hB.tape, hB.output, ?_, fun k hk => ?_⟩
  · refine Nat.le_trans hB.size ?_
    unfold Sort.grow
    simp only [Array.size_append]
    omega
  · rw [Sort.heap_grow_old _ _ (by omega)]
    exact hB.block k hk
theorem asc_of {d : Array S25} (h : Sort.SortedIn ltF 0 d.size d) : Asc d.toList := by
  unfold Asc
  rw [List.pairwise_iff_getElem]
  intro i j hi hj hij
  have hi' : i < d.size := by simpa using hi
  have hj' : j < d.size := by simpa using hj
  have := h i j (Nat.zero_le _) hij hj'
  rw [getElem!_pos d i hi', getElem!_pos d j hj'] at this
  simp only [Array.getElem_toList]
  simp [ltF] at this
  omega
set_option maxHeartbeats 1000000 in
theorem sort_any (base Bs : Nat) (w0 W : World) (v : Value) (xs : List S25) (hR : k25.R 25 W base (fun k => k ≠ Bs) v xs) (hB : Below base w0 W) (hbase : base ≤ W.heap.size) (hsz : xs.length < 4611686018427387904)
    (hBs : W.heap[Bs]? = some (.cells #[v] 22 (0, 0))) :
    Calls Try.prog 26 #[.iface 22 v, .func (.func 27) #[] #[.pointer (some ⟨Bs, 0, none⟩)]] W fun e w' =>
      e = .returned (.tuple #[]) ∧ ∃ d : List S25, (∀ x, x ∈ d ↔ x ∈ xs) ∧ Asc d ∧ d.length = xs.length ∧ k25.R 25 w' base (fun _ => True) v d ∧ Below base w0 w' ∧ w'.heap[Bs]? = some (.cells #[v] 22 (0, 0)) := by
  by_cases h2 : 2 ≤ xs.length
  · obtain ⟨g, cap, cur, hv, hg, hc, h1, h3, h4, h0, hx⟩ := R_cells hR (by omega)
    have hne : Bs ≠ g := fun e => (h0 g (by rw [hv]; rfl)) e.symm
    have hs : xs.toArray.size = xs.length := by simp
    have hcell : W.cell? ⟨Bs, 0, none⟩ = some (.slice (some ⟨g, 0, none⟩) xs.toArray.size cap) := by
      rw [blk_cell hBs, hs, ← hv]
      rfl
    have := sort_two g 0 cap Bs xs.toArray (by omega) (by omega) W (holds_of_R hc hx) (blk_lt hc) hcell (blk_lt hBs) hne
    rw [hs, ← hv] at this
    refine this.mono fun e w' ⟨he, d', n, os, hp, hso, hw⟩ => ?_
    have hds : d'.size = xs.length := by rw [hp.1, hs]
    refine ⟨he, d'.toList, fun x => ?_, asc_of (by rw [hds]; exact hso), by simpa using hds, ?_, ?_, ?_⟩
    · have hq := hp.2.2
      have e1 : d'.extract 0 xs.length = d' := by rw [← hds]; exact Array.extract_size
      have e2 : xs.toArray.extract 0 xs.length = xs.toArray := by rw [← hs]; exact Array.extract_size
      rw [e1, e2] at hq
      exact hq.mem_iff
    · rw [hw]
      exact Kd.R_mono (R_sorted hR (by omega) hv d' hds n os) (fun _ _ => trivial)
    · rw [hw]
      exact below_sorted hB hg hbase d' n os
    · rw [hw, ← hBs, Sort.heap_grow_old _ _ (by unfold Sort.putRowK; rw [Sort.size_putRow]; exact blk_lt hBs)]
      unfold Sort.putRowK Sort.putRow Sort.mapBlock Sort.ahead
      simp only [Array.getElem?_modify]
      rw [if_neg (fun e => hne e.symm)]
  · obtain ⟨A, c, hv⟩ := Kd.R_slice hR
    have := sort_tiny A xs.length c (by omega) (.func 27) #[] #[.pointer (some ⟨Bs, 0, none⟩)] W
    rw [← hv] at this
    refine this.mono fun e w' ⟨he, os, hw⟩ => ⟨he, xs, fun _ => Iff.rfl, ?_, rfl, ?_, ?_, ?_⟩
    · unfold Asc
      match xs, h2 with
      | [], _ => exact List.Pairwise.nil
      | [x], _ => exact List.pairwise_singleton _ _
      | x :: y :: l, h2 => simp at h2
    · rw [hw]
      exact Kd.R_mono (Kd.R_below hR (below_grow (Below.refl _ _) (Nat.le_refl _) os)) (fun _ _ => trivial)
    · rw [hw]
      exact below_grow hB hbase os
    · rw [hw, Sort.heap_grow_old _ _ (blk_lt hBs)]
      exact hBs
end Go.Proofs.Ytejmegaalfblmaa.H
