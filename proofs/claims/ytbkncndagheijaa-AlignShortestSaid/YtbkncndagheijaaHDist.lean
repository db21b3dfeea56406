/- align.Distance, with its two rows in an array: what it returns, for any two lists; no condition. -/
import Derived.Test.YtbkncndagheijaaH2
import Derived.StillTailTactics
namespace Go.Proofs.Ytbkncndagheijaa.H
open Go.RowKit Go.Proofs.YtbkncndagheijaaW.PrintWords Go.Proofs.YtbkncndagheijaaW.PrintLast Go.Proofs.YtbkncndagheijaaW.PrintMore
attribute [local go_sem] max2_int min2_int max_two min_two
/-- the distance of the first i elements of a and the first k of b, as the program's rows hold it -/
def pd (a b : List ByteArray) : Nat → Nat → Nat
  | 0, k => k
  | i + 1, 0 => i + 1
  | i + 1, k + 1 => if (a.getD i ByteArray.empty).toList = (b.getD k ByteArray.empty).toList then pd a b i k else 1 + min (pd a b i (k + 1)) (pd a b (i + 1) k)
termination_by i k => i + k
theorem pd_le (a b : List ByteArray) (i k : Nat) : pd a b i k ≤ i + k := by
  induction i, k using pd.induct a b with
  | case1 k => rw [pd]; omega
  | case2 i => rw [pd]; omega
  | case3 i k h ih => rw [pd, if_pos h]; omega
  | case4 i k h ih1 ih2 => rw [pd, if_neg h]; omega
theorem pd_step (x y : Nat) (s t : Nat) (hx : x ≤ s) (hy : y ≤ t) (h : s + t ≤ 4000) : wrap64 (1 + if (y : Int) < (x : Int) then (y : Int) else (x : Int)) = ((1 + min x y : Nat) : Int) := by
  unfold wrap64
  split <;> omega
/-- the cells of the two rows -/
def rowsA (F : Nat → Int) : Array Value := ((List.range 1026).map fun j => Value.int .i64 (F j)).toArray
theorem rowsA_get (F : Nat → Int) (j : Nat) (h : j < 1026) : (rowsA F)[j]? = some (.int .i64 (F j)) := by
  simp [rowsA, List.getElem?_range h]
theorem rowsA_size (F : Nat → Int) : (rowsA F).size = 1026 := by
  unfold rowsA
  rw [List.size_toArray, List.length_map, List.length_range]
theorem rowsA_none (F : Nat → Int) (j : Nat) (h : ¬ j < 1026) : (rowsA F)[j]? = none := by
  rw [Array.getElem?_eq_none]; rw [rowsA_size]; omega
theorem rowsA_set (F : Nat → Int) (j : Nat) (v : Int) : (rowsA F).setIfInBounds j (.int .i64 v) = rowsA (fun i => if i = j then v else F i) := by
  apply Array.ext_getElem?
  intro i
  rw [Array.getElem?_setIfInBounds, rowsA_size]
  by_cases hi : i < 1026
  · rw [rowsA_get _ _ hi, rowsA_get _ _ hi]
    by_cases e : j = i
    · subst e; rw [if_pos rfl, if_pos hi, if_pos rfl]
    · rw [if_neg e, if_neg (fun h => e h.symm)]
  · rw [rowsA_none _ _ hi, rowsA_none _ _ hi]
    by_cases e : j = i
    · subst e; rw [if_pos rfl, if_neg hi]
    · rw [if_neg e]
theorem zero45 (w : World) : (zeroValue 45).run Try.prog w = .ok (.agg (rowsA fun _ => 0)) w := by
  have h : (Try.prog.info? 45).map (fun i => i.zero) = some (some (.agg (Array.replicate 1026 (.int .i64 0)))) := by kernel_rfl
  have e : rowsA (fun _ => 0) = Array.replicate 1026 (.int .i64 0) := by
    apply Array.ext
    · simp [rowsA]
    · intro i h1 h2; simp [rowsA]
  obtain ⟨i, hi, hz⟩ := Option.map_eq_some_iff.1 h
  simp [zeroValue, typeInfo, hi, hz, e]
theorem blk_new45 (w : World) (F : Nat → Int) : (w.alloc (.cells (rowsA F) 45)).heap[w.heap.size]? = some (.cells (rowsA F) 45 (0, 0)) := blk_new w _
theorem blk_put45 {w : World} {g : Nat} {F : Nat → Int} (h : w.heap[g]? = some (.cells (rowsA F) 45 (0, 0))) (j : Nat) (v : Int) : (w.setCell ⟨g, j, none⟩ (.int .i64 v)).heap[g]? = some (.cells (rowsA fun i => if i = j then v else F i) 45 (0, 0)) := by
  rw [blk_set h, rowsA_set]
theorem blk_at45 {w : World} {g : Nat} {F : Nat → Int} (h : w.heap[g]? = some (.cells (rowsA F) 45 (0, 0))) (j : Nat) (hj : j < 1026) : w.cell? ⟨g, j, none⟩ = some (.int .i64 (F j)) := by
  rw [blk_cell h, rowsA_get _ _ hj]
theorem blk_fr45 {w : World} {g : Nat} {F : Nat → Int} (h : w.heap[g]? = some (.cells (rowsA F) 45 (0, 0))) (j : Nat) : w.frozen? ⟨g, j, none⟩ = false := blk_frozen h j
set_option maxHeartbeats 1000000 in
set_option maxRecDepth 100000 in
theorem dist_yes (A0 : Option Addr) (c0 : Nat) (l0 : List ByteArray) (A1 : Option Addr) (c1 : Nat) (l1 : List ByteArray) (w : World) (hr0 : Kd.C Kd.string w A0 l0.length l0) (hc0 : l0.length ≤ c0) (hr1 : Kd.C Kd.string w A1 l1.length l1) (hc1 : l1.length ≤ c1)
    (b0 : l0.length ≤ 512) (b1 : l1.length ≤ 512) (hf : align_fits.f l0 l1 = some true) :
    Calls Try.prog 11 #[.slice A0 l0.length c0, .slice A1 l1.length c1] w fun e w' => e = .returned (.tuple #[.int .i64 (pd l0 l1 l0.length l1.length : Int), .int .i64 0]) ∧ Below w.heap.size w w' := by
  have HR0 := Aside0.mk hr0
  have HC0 := Aside0.mk hc0
  clear hr0 hc0
  have HR1 := Aside0.mk hr1
  have HC1 := Aside0.mk hc1
  clear hr1 hc1
  have HF := Aside0.mk hf
  clear hf
  have hz45 := zero45
  go_enter Try.func11, Try.ntmps11
  go_wp2_with (first | (go_at_call 23; refine (align_fits.calls _ _ l0 _ _ l1 true w HR0.out HC0.out HR1.out HC1.out HF.out).mono ?_; rintro e w1 ⟨rfl, hd⟩))
  have HB : Below w.heap.size w w1 := hd.below
  have hB0 : w.heap.size ≤ w1.heap.size := HB.size
  go_loopw [19] (fun k wr => ∃ (n : Nat) (F : Nat → Int), n ≤ l1.length + 1 ∧ k = .int .i64 n ∧ Aside0 (wr.heap[w1.heap.size]? = some (.cells (rowsA F) 45 (0, 0))) ∧ Aside0 (∀ j, j < n → F j = j) ∧ Aside0 (Below w.heap.size w wr)) (fun k _ => l1.length + 1 - (intOf k).toNat)
  case atStart => exact ⟨0, _, by omega, rfl, ⟨blk_new45 _ _⟩, ⟨fun j hj => by omega⟩, ⟨HB.alloc hB0 _⟩⟩
  case round =>
    obtain ⟨n, F, hn, rfl, HBL, HFJ, HBB⟩ := hrel
    by_cases hlt : n < l1.length + 1
    · have hcell := blk_at45 HBL.out n (by omega)
      have hfr := blk_fr45 HBL.out n
      have hm : n ≤ 512 := by omega
      go_wp2
      go_roundw
      case rel => exact ⟨n + 1, _, by omega, by go_num, ⟨blk_put45 HBL.out n n⟩, ⟨fun j hj => by
          by_cases e : j = n
          · rw [if_pos e, e]
          · rw [if_neg e]; exact HFJ.out j (by omega)⟩, ⟨HBB.out.setCell hB0 _⟩⟩
      case measure => simp [intOf]; omega
    · have hlen : n = l1.length + 1 := by omega
      subst hlen
      go_wp2
      rw [show ((l1.length + 1 : Nat) : Int) = (l1.length : Int) + 1 from by omega]
      go_loopw [29] (fun k wr => ∃ (n : Nat) (F : Nat → Int), n ≤ l0.length ∧ k = .int .i64 n ∧ Aside0 (wr.heap[w1.heap.size]? = some (.cells (rowsA F) 45 (0, 0))) ∧ Aside0 (∀ j, j ≤ l1.length → F (n % 2 * 513 + j) = pd l0 l1 n j) ∧ Aside0 (Below w.heap.size w wr)) (fun k _ => l0.length - (intOf k).toNat)
      case atStart => exact ⟨0, F, by omega, rfl, ⟨HBL.out⟩, ⟨fun j hj => by rw [pd, Nat.zero_mod, Nat.zero_mul, Nat.zero_add]; exact HFJ.out j (by omega)⟩, ⟨HBB.out⟩⟩
      case round =>
        clear HBL HFJ HBB
        obtain ⟨n, F, hn, rfl, HBL, HFJ, HBB⟩ := hrel
        by_cases hlt : n < l0.length
        · have hm : n ≤ 512 := by omega
          rcases Nat.mod_two_eq_zero_or_one n with hp | hp
          · have e0 : ((n : Int) % 2) = 0 := by omega
            have e1 : (((n : Int) + 1) % 2) = 1 := by omega
            have HP := Aside0.mk hp
            clear hp
            have hcell := blk_at45 HBL.out 513 (by omega)
            have hfr := blk_fr45 HBL.out 513
            go_wp2
            rw [e0, e1]
            go_loopw [44] (fun k wr => ∃ (m : Nat) (G : Nat → Int), m ≤ l1.length ∧ k = .int .i64 m ∧ Aside0 (wr.heap[w1.heap.size]? = some (.cells (rowsA G) 45 (0, 0))) ∧ Aside0 (∀ j, j ≤ l1.length → G j = pd l0 l1 n j) ∧ Aside0 (∀ j, j ≤ m → G (513 + j) = pd l0 l1 (n + 1) j) ∧ Aside0 (Below w.heap.size w wr)) (fun k _ => l1.length - (intOf k).toNat)
            case atStart => exact ⟨0, _, by omega, rfl, ⟨blk_put45 HBL.out 513 (n + 1)⟩, ⟨fun j hj => by
              have h := HFJ.out j hj
              rw [HP.out] at h
              rw [if_neg (by omega)]
              refine (congrArg F ?_).trans h; omega⟩, ⟨fun j hj => by
              obtain rfl : j = 0 := by omega
              rw [if_pos rfl, pd]; omega⟩, ⟨HBB.out.setCell hB0 _⟩⟩
            case round =>
              clear HBL HFJ HBB hcell hfr
              obtain ⟨m, G, hk, rfl, HBL, HG0, HG1, HBB⟩ := hrel
              by_cases hmt : m < l1.length
              · have hm2 : m ≤ 512 := by omega
                obtain ⟨ad0, e0_, hx0⟩ := Kd.at_string (Kd.C_below HR0.out HBB.out) (n : Int) (by omega) (by omega)
                obtain ⟨ad1, e1_, hx1⟩ := Kd.at_string (Kd.C_below HR1.out HBB.out) (m : Int) (by omega) (by omega)
                rw [Int.toNat_natCast] at hx0 hx1
                subst e0_ e1_
                by_cases hs : (rdOf ByteArray.empty l0 n).toList = (rdOf ByteArray.empty l1 m).toList
                · have hsb : ((rdOf ByteArray.empty l0 n).toList == (rdOf ByteArray.empty l1 m).toList) = true := beq_iff_eq.2 hs
                  have HS := Aside0.mk hs
                  clear hs
                  go_wp2
                  go_quiet (fail)
                  go_wp2
                  obtain ⟨wq, hwq⟩ : ∃ wq, wq = wr.drewN nq := ⟨_, rfl⟩
                  rw [← hwq]
                  have HBL1 := Aside0.mk (show wq.heap[w1.heap.size]? = some (.cells (rowsA G) 45 (0, 0)) by rw [hwq]; exact HBL.out)
                  have HBB1 := Aside0.mk (show Below w.heap.size w wq by rw [hwq]; exact pw_below_drewN HBB.out nq)
                  clear hwq HBL HBB hx0 hx1
                  have hA := blk_at45 HBL1.out m (by omega)
                  have i0 : (m : Int) < 513 := by omega
                  have i1 : (m : Int) + 1 < 513 := by omega
                  have i2 : (0 : Int) ≤ (m : Int) + 1 := by omega
                  have i3 : ((m : Int) + 1).toNat = m + 1 := by omega
                  have i4 : IntKind.i64.wrap ((m : Int) + 1) = (m : Int) + 1 := IntWalk.i64_in _ (by omega)
                  go_still_tail 10, (by kernel_rfl)
                  change wpList _ _ _ _ _ wq.drew
                  obtain ⟨w2, hw2⟩ : ∃ w2, w2 = wq.drew := ⟨_, rfl⟩
                  rw [← hw2]
                  have HBL2 := Aside0.mk (show w2.heap[w1.heap.size]? = some (.cells (rowsA G) 45 (0, 0)) by rw [hw2]; exact HBL1.out)
                  have HBB2 := Aside0.mk (show Below w.heap.size w w2 by rw [hw2]; exact below_drew HBB1.out)
                  clear hw2 HBL1 HBB1 hA i0 i1 i2 i3 i4
                  have hD := blk_at45 HBL2.out (513 + (m + 1)) (by omega)
                  have hFr := blk_fr45 HBL2.out (513 + (m + 1))
                  go_wp2
                  go_roundw
                  case rel => exact ⟨m + 1, _, by omega, by go_num, ⟨blk_put45 HBL2.out (513 + (m + 1)) (G m)⟩, ⟨fun j hj => by rw [if_neg (by omega)]; exact HG0.out j hj⟩, ⟨fun j hj => by
                    by_cases e : j = m + 1
                    · rw [if_pos (by omega), e, pd, if_pos (show (l0.getD n ByteArray.empty).toList = (l1.getD m ByteArray.empty).toList from HS.out), HG0.out m (by omega)]
                    · rw [if_neg (by omega)]; exact HG1.out j (by omega)⟩, ⟨HBB2.out.setCell hB0 _⟩⟩
                  case measure => simp [intOf]; omega
                · have hsb : ((rdOf ByteArray.empty l0 n).toList == (rdOf ByteArray.empty l1 m).toList) = false := beq_eq_false_iff_ne.2 hs
                  have HS := Aside0.mk hs
                  clear hs
                  go_wp2
                  go_quiet (fail)
                  go_wp2
                  obtain ⟨wq, hwq⟩ : ∃ wq, wq = wr.drewN nq := ⟨_, rfl⟩
                  rw [← hwq]
                  have HBL1 := Aside0.mk (show wq.heap[w1.heap.size]? = some (.cells (rowsA G) 45 (0, 0)) by rw [hwq]; exact HBL.out)
                  have HBB1 := Aside0.mk (show Below w.heap.size w wq by rw [hwq]; exact pw_below_drewN HBB.out nq)
                  clear hwq HBL HBB hx0 hx1
                  have hA := blk_at45 HBL1.out (m + 1) (by omega)
                  have hC := blk_at45 HBL1.out (513 + m) (by omega)
                  have i0 : (m : Int) < 513 := by omega
                  have i1 : (m : Int) + 1 < 513 := by omega
                  have i2 : (0 : Int) ≤ (m : Int) + 1 := by omega
                  have i3 : ((m : Int) + 1).toNat = m + 1 := by omega
                  have i4 : IntKind.i64.wrap ((m : Int) + 1) = (m : Int) + 1 := IntWalk.i64_in _ (by omega)
                  go_still_tail 18, (by kernel_rfl)
                  change wpList _ _ _ _ _ wq.drew
                  obtain ⟨w2, hw2⟩ : ∃ w2, w2 = wq.drew := ⟨_, rfl⟩
                  rw [← hw2]
                  have HBL2 := Aside0.mk (show w2.heap[w1.heap.size]? = some (.cells (rowsA G) 45 (0, 0)) by rw [hw2]; exact HBL1.out)
                  have HBB2 := Aside0.mk (show Below w.heap.size w w2 by rw [hw2]; exact below_drew HBB1.out)
                  clear hw2 HBL1 HBB1 hA hC i0 i1 i2 i3 i4
                  have hD := blk_at45 HBL2.out (513 + (m + 1)) (by omega)
                  have hFr := blk_fr45 HBL2.out (513 + (m + 1))
                  go_wp2
                  go_roundw
                  case rel => exact ⟨m + 1, _, by omega, by go_num, ⟨blk_put45 HBL2.out (513 + (m + 1)) _⟩, ⟨fun j hj => by rw [if_neg (by omega)]; exact HG0.out j hj⟩, ⟨fun j hj => by
                    by_cases e : j = m + 1
                    · have hva := HG0.out (m + 1) (by omega)
                      have hvc := HG1.out m (by omega)
                      rw [if_pos (by omega), e, pd, if_neg (show ¬ (l0.getD n ByteArray.empty).toList = (l1.getD m ByteArray.empty).toList from HS.out), hva, hvc]; exact pd_step _ _ _ _ (pd_le l0 l1 n (m + 1)) (pd_le l0 l1 (n + 1) m) (by omega)
                    · rw [if_neg (by omega)]; exact HG1.out j (by omega)⟩, ⟨HBB2.out.setCell hB0 _⟩⟩
                  case measure => simp [intOf]; omega
              · obtain rfl : m = l1.length := by omega
                clear hk
                go_wp2
                go_roundw
                case rel => exact ⟨n + 1, G, by omega, by go_num, ⟨HBL.out⟩, ⟨fun j hj => by
                  have h := HG1.out j hj
                  have hq := HP.out
                  rw [show (n + 1) % 2 = 1 from by omega]
                  refine (congrArg G ?_).trans h; omega⟩, ⟨HBB.out⟩⟩
                case measure => simp [intOf]; omega
          · have e0 : ((n : Int) % 2) = 1 := by omega
            have e1 : (((n : Int) + 1) % 2) = 0 := by omega
            have HP := Aside0.mk hp
            clear hp
            have hcell := blk_at45 HBL.out 0 (by omega)
            have hfr := blk_fr45 HBL.out 0
            go_wp2
            rw [e0, e1]
            go_loopw [44] (fun k wr => ∃ (m : Nat) (G : Nat → Int), m ≤ l1.length ∧ k = .int .i64 m ∧ Aside0 (wr.heap[w1.heap.size]? = some (.cells (rowsA G) 45 (0, 0))) ∧ Aside0 (∀ j, j ≤ l1.length → G (513 + j) = pd l0 l1 n j) ∧ Aside0 (∀ j, j ≤ m → G j = pd l0 l1 (n + 1) j) ∧ Aside0 (Below w.heap.size w wr)) (fun k _ => l1.length - (intOf k).toNat)
            case atStart => exact ⟨0, _, by omega, rfl, ⟨blk_put45 HBL.out 0 (n + 1)⟩, ⟨fun j hj => by
              have h := HFJ.out j hj
              rw [HP.out] at h
              rw [if_neg (by omega)]
              refine (congrArg F ?_).trans h; omega⟩, ⟨fun j hj => by
              obtain rfl : j = 0 := by omega
              rw [if_pos rfl, pd]; omega⟩, ⟨HBB.out.setCell hB0 _⟩⟩
            case round =>
              clear HBL HFJ HBB hcell hfr
              obtain ⟨m, G, hk, rfl, HBL, HG0, HG1, HBB⟩ := hrel
              by_cases hmt : m < l1.length
              · have hm2 : m ≤ 512 := by omega
                obtain ⟨ad0, e0_, hx0⟩ := Kd.at_string (Kd.C_below HR0.out HBB.out) (n : Int) (by omega) (by omega)
                obtain ⟨ad1, e1_, hx1⟩ := Kd.at_string (Kd.C_below HR1.out HBB.out) (m : Int) (by omega) (by omega)
                rw [Int.toNat_natCast] at hx0 hx1
                subst e0_ e1_
                by_cases hs : (rdOf ByteArray.empty l0 n).toList = (rdOf ByteArray.empty l1 m).toList
                · have hsb : ((rdOf ByteArray.empty l0 n).toList == (rdOf ByteArray.empty l1 m).toList) = true := beq_iff_eq.2 hs
                  have HS := Aside0.mk hs
                  clear hs
                  go_wp2
                  go_quiet (fail)
                  go_wp2
                  obtain ⟨wq, hwq⟩ : ∃ wq, wq = wr.drewN nq := ⟨_, rfl⟩
                  rw [← hwq]
                  have HBL1 := Aside0.mk (show wq.heap[w1.heap.size]? = some (.cells (rowsA G) 45 (0, 0)) by rw [hwq]; exact HBL.out)
                  have HBB1 := Aside0.mk (show Below w.heap.size w wq by rw [hwq]; exact pw_below_drewN HBB.out nq)
                  clear hwq HBL HBB hx0 hx1
                  have hA := blk_at45 HBL1.out (513 + m) (by omega)
                  have i0 : (m : Int) < 513 := by omega
                  have i1 : (m : Int) + 1 < 513 := by omega
                  have i2 : (0 : Int) ≤ (m : Int) + 1 := by omega
                  have i3 : ((m : Int) + 1).toNat = m + 1 := by omega
                  have i4 : IntKind.i64.wrap ((m : Int) + 1) = (m : Int) + 1 := IntWalk.i64_in _ (by omega)
                  go_still_tail 10, (by kernel_rfl)
                  change wpList _ _ _ _ _ wq.drew
                  obtain ⟨w2, hw2⟩ : ∃ w2, w2 = wq.drew := ⟨_, rfl⟩
                  rw [← hw2]
                  have HBL2 := Aside0.mk (show w2.heap[w1.heap.size]? = some (.cells (rowsA G) 45 (0, 0)) by rw [hw2]; exact HBL1.out)
                  have HBB2 := Aside0.mk (show Below w.heap.size w w2 by rw [hw2]; exact below_drew HBB1.out)
                  clear hw2 HBL1 HBB1 hA i0 i1 i2 i3 i4
                  have hD := blk_at45 HBL2.out (m + 1) (by omega)
                  have hFr := blk_fr45 HBL2.out (m + 1)
                  go_wp2
                  go_roundw
                  case rel => exact ⟨m + 1, _, by omega, by go_num, ⟨blk_put45 HBL2.out (m + 1) (G (513 + m))⟩, ⟨fun j hj => by rw [if_neg (by omega)]; exact HG0.out j hj⟩, ⟨fun j hj => by
                    by_cases e : j = m + 1
                    · rw [if_pos (by omega), e, pd, if_pos (show (l0.getD n ByteArray.empty).toList = (l1.getD m ByteArray.empty).toList from HS.out), HG0.out m (by omega)]
                    · rw [if_neg (by omega)]; exact HG1.out j (by omega)⟩, ⟨HBB2.out.setCell hB0 _⟩⟩
                  case measure => simp [intOf]; omega
                · have hsb : ((rdOf ByteArray.empty l0 n).toList == (rdOf ByteArray.empty l1 m).toList) = false := beq_eq_false_iff_ne.2 hs
                  have HS := Aside0.mk hs
                  clear hs
                  go_wp2
                  go_quiet (fail)
                  go_wp2
                  obtain ⟨wq, hwq⟩ : ∃ wq, wq = wr.drewN nq := ⟨_, rfl⟩
                  rw [← hwq]
                  have HBL1 := Aside0.mk (show wq.heap[w1.heap.size]? = some (.cells (rowsA G) 45 (0, 0)) by rw [hwq]; exact HBL.out)
                  have HBB1 := Aside0.mk (show Below w.heap.size w wq by rw [hwq]; exact pw_below_drewN HBB.out nq)
                  clear hwq HBL HBB hx0 hx1
                  have hA := blk_at45 HBL1.out (513 + (m + 1)) (by omega)
                  have hC := blk_at45 HBL1.out m (by omega)
                  have i0 : (m : Int) < 513 := by omega
                  have i1 : (m : Int) + 1 < 513 := by omega
                  have i2 : (0 : Int) ≤ (m : Int) + 1 := by omega
                  have i3 : ((m : Int) + 1).toNat = m + 1 := by omega
                  have i4 : IntKind.i64.wrap ((m : Int) + 1) = (m : Int) + 1 := IntWalk.i64_in _ (by omega)
                  go_still_tail 18, (by kernel_rfl)
                  change wpList _ _ _ _ _ wq.drew
                  obtain ⟨w2, hw2⟩ : ∃ w2, w2 = wq.drew := ⟨_, rfl⟩
                  rw [← hw2]
                  have HBL2 := Aside0.mk (show w2.heap[w1.heap.size]? = some (.cells (rowsA G) 45 (0, 0)) by rw [hw2]; exact HBL1.out)
                  have HBB2 := Aside0.mk (show Below w.heap.size w w2 by rw [hw2]; exact below_drew HBB1.out)
                  clear hw2 HBL1 HBB1 hA hC i0 i1 i2 i3 i4
                  have hD := blk_at45 HBL2.out (m + 1) (by omega)
                  have hFr := blk_fr45 HBL2.out (m + 1)
                  go_wp2
                  go_roundw
                  case rel => exact ⟨m + 1, _, by omega, by go_num, ⟨blk_put45 HBL2.out (m + 1) _⟩, ⟨fun j hj => by rw [if_neg (by omega)]; exact HG0.out j hj⟩, ⟨fun j hj => by
                    by_cases e : j = m + 1
                    · have hva := HG0.out (m + 1) (by omega)
                      have hvc := HG1.out m (by omega)
                      rw [if_pos (by omega), e, pd, if_neg (show ¬ (l0.getD n ByteArray.empty).toList = (l1.getD m ByteArray.empty).toList from HS.out), hva, hvc]; exact pd_step _ _ _ _ (pd_le l0 l1 n (m + 1)) (pd_le l0 l1 (n + 1) m) (by omega)
                    · rw [if_neg (by omega)]; exact HG1.out j (by omega)⟩, ⟨HBB2.out.setCell hB0 _⟩⟩
                  case measure => simp [intOf]; omega
              · obtain rfl : m = l1.length := by omega
                clear hk
                go_wp2
                go_roundw
                case rel => exact ⟨n + 1, G, by omega, by go_num, ⟨HBL.out⟩, ⟨fun j hj => by
                  have h := HG1.out j hj
                  have hq := HP.out
                  rw [show (n + 1) % 2 = 0 from by omega]
                  refine (congrArg G ?_).trans h; omega⟩, ⟨HBB.out⟩⟩
                case measure => simp [intOf]; omega
        · obtain rfl : n = l0.length := by omega
          have hb := HFJ.out l1.length (Nat.le_refl _)
          rcases Nat.mod_two_eq_zero_or_one l0.length with hp | hp
          · have e0 : ((l0.length : Int) % 2) = 0 := by omega
            rw [hp] at hb
            have hcell := blk_at45 HBL.out l1.length (by omega)
            rw [show l1.length = 0 * 513 + l1.length from by omega, hb] at hcell
            rw [← show l1.length = 0 * 513 + l1.length from by omega] at hcell
            clear hb hp
            go_wp2
            go_ret2
            exact ⟨rfl, HBB.out⟩
          · have e0 : ((l0.length : Int) % 2) = 1 := by omega
            rw [hp, Nat.one_mul] at hb
            have hcell := blk_at45 HBL.out (513 + l1.length) (by omega)
            rw [hb] at hcell
            clear hb hp
            go_wp2
            go_ret2
            exact ⟨rfl, HBB.out⟩
def align_Distance.f (l0 l1 : List ByteArray) : Option (Int × Int) :=
  if l0.length ≤ 512 ∧ l1.length ≤ 512 then some ((pd l0 l1 l0.length l1.length : Int), 0) else some (0, 6)
set_option maxHeartbeats 1000000 in
theorem align_Distance.calls (A0 : Option Addr) (c0 : Nat) (l0 : List ByteArray) (A1 : Option Addr) (c1 : Nat) (l1 : List ByteArray) (r1 : Int) (r2 : Int) (w : World) (hr0 : Kd.C Kd.string w A0 l0.length l0) (hc0 : l0.length ≤ c0) (hr1 : Kd.C Kd.string w A1 l1.length l1) (hc1 : l1.length ≤ c1) (h : align_Distance.f l0 l1 = some (r1, r2)) :
    Calls Try.prog 11 #[.slice A0 l0.length c0, .slice A1 l1.length c1] w fun e w' => e = .returned (.tuple #[.int .i64 r1, .int .i64 r2]) ∧ Below w.heap.size w w' := by
  unfold align_Distance.f at h
  by_cases c : l0.length ≤ 512 ∧ l1.length ≤ 512
  · rw [if_pos c] at h
    obtain ⟨h1, h2⟩ := Prod.mk.inj (Option.some.inj h)
    subst h1 h2
    refine dist_yes A0 c0 l0 A1 c1 l1 w hr0 hc0 hr1 hc1 c.1 c.2 ?_
    unfold align_fits.f
    rw [if_pos (by omega), decide_eq_true (by omega)]
  · rw [if_neg c] at h
    obtain ⟨h1, h2⟩ := Prod.mk.inj (Option.some.inj h)
    subst h1 h2
    have hf : align_fits.f l0 l1 = some false := by
      unfold align_fits.f
      by_cases c2 : (l0.length : Int) ≤ 512
      · rw [if_pos c2, decide_eq_false (by omega)]
      · rw [if_neg c2]
    have HR0 := Aside0.mk hr0
    have HC0 := Aside0.mk hc0
    have HR1 := Aside0.mk hr1
    have HC1 := Aside0.mk hc1
    have HF := Aside0.mk hf
    clear hr0 hc0 hr1 hc1 hf c h
    go_enter Try.func11, Try.ntmps11
    go_wp2_with (first | (go_at_call 23; refine (align_fits.calls _ _ l0 _ _ l1 false w HR0.out HC0.out HR1.out HC1.out HF.out).mono ?_; rintro e w1 ⟨rfl, hd⟩))
    go_ret2
    exact ⟨rfl, hd.below⟩
end Go.Proofs.Ytbkncndagheijaa.H
