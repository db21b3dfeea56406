/- slices.Repeat of [x]: n times x in memory of the call's own, for n from 1 to 1000. -/
import Derived.Test.YtgdjiphljadlcaaK0
import Derived.Test.YtgdjiphljadlcaaKShelf2
import Derived.Laws.CopyOwn
import Derived.DataReads
import Derived.Test.YtgdjiphljadlcaaKClone
namespace Go.Proofs.Ytgdjiphljadlcaa.K
open Go.RowKit Go.Proofs.YtgdjiphljadlcaaW.PrintWords Go.Proofs.YtgdjiphljadlcaaW.PrintLast Go.Proofs.YtgdjiphljadlcaaW.PrintMore
def slices_Repeat_int_int.f (l : List Int) (n : Int) : Option (List Int) := if l.length = 1 ∧ 1 ≤ n ∧ n ≤ 1000 then some (List.replicate n.toNat (l.getD 0 0)) else none
theorem mul1 (m : Nat) (hm : m ≤ 1000) (w : World) : Calls Try.prog 87 #[.int .u64 1, .int .u64 (m : Int)] w fun e w' => e = .returned (.tuple #[.int .u64 0, .int .u64 (m : Int)]) ∧ w' = w :=
  (Try.bits_Mul 1 m (by omega) (by omega) w).mono fun e w' ⟨he, hw⟩ => ⟨by
    rw [he, Nat.one_mul, Nat.div_eq_of_lt (by omega), Nat.mod_eq_of_lt (by omega)]
    rfl, hw⟩
/-- a row of one's own whose first q cells hold x -/
def Rep (x : Int) (g m cap q : Nat) (w : World) : Prop := ∃ cur : List Value, w.heap[g]? = some (.cells cur.toArray 3 (0, 0)) ∧ cur.length = cap ∧ cur.take q = List.replicate q (Value.int .i64 x) ∧ q ≤ m
theorem own_open {w : World} {base : Nat} {ok : Nat → Prop} {v : Value} {xs : List Int} (h : (Kd.int .i64).R 3 w base ok v xs) (hx : 1 ≤ xs.length) :
    ∃ g cap cur, v = .slice (some ⟨g, 0, none⟩) xs.length cap ∧ base ≤ g ∧ w.heap[g]? = some (.cells (List.toArray cur) 3 (0, 0)) ∧ xs.length ≤ cap ∧ cap ≤ maxLen ∧ cur.length = cap := by
  obtain ⟨inner, _, hh⟩ := Kd.R_own h
  rcases hh with ⟨_, h0⟩ | ⟨g, cap, cur, e, hb, hc, h1, h2, h3, _⟩
  · omega
  · refine ⟨g, cap, cur.toList, e, hb, ?_, h1, h2, ?_⟩
    · rw [Array.toArray_toList]; exact hc
    · have : cur.size = cap * 1 := h3
      rw [Array.length_toList]; omega
theorem row_cell {w : World} {g : Nat} {cur : List Value} {fr : Nat × Nat} (h : w.heap[g]? = some (.cells cur.toArray 3 fr)) (j : Nat) (v : Value) (hj : cur[j]? = some v) : w.cell? ((⟨g, 0, none⟩ : Addr).add j) = some v := by
  by_cases e : j = 0
  · subst e; simp [World.cell?, Addr.add, h, hj]
  · simp [World.cell?, Addr.add, h, hj, e]
theorem wrap_add (q c : Nat) (h : q + c ≤ 100000) : IntKind.i64.wrap ((q : Int) + (c : Int)) = ((q + c : Nat) : Int) := by
  rw [i64_w]
  unfold wrap64
  omega
theorem take_rep {cur : List Value} {q : Nat} {u : Value} (h : cur.take q = List.replicate q u) (j : Nat) (hj : j < q) : cur[j]? = some u := by
  have := congrArg (fun l => l[j]?) h
  simp only [List.getElem?_take, if_pos hj, List.getElem?_replicate] at this
  exact this
set_option maxRecDepth 100000 in
set_option maxHeartbeats 4000000 in
theorem slices_Repeat_int_int.calls (A0 : Option Addr) (c0 : Nat) (l0 : List Int) (n : Int) (r : List Int) (w : World) (hr0 : Kd.C (Kd.int .i64) w A0 l0.length l0) (hc0 : l0.length ≤ c0) (h : slices_Repeat_int_int.f l0 n = some r) :
    Calls Try.prog 79 #[.slice A0 l0.length c0, .int .i64 n] w fun e w' => ∃ v0_ : Value, e = .returned (v0_) ∧ Kd.R (Kd.int .i64) 3 w' w.heap.size (fun _ => True) v0_ r ∧ Below w.heap.size w w' := by
  unfold slices_Repeat_int_int.f at h
  by_cases hb : l0.length = 1 ∧ 1 ≤ n ∧ n ≤ 1000
  · rw [if_pos hb] at h
    obtain rfl := Option.some.inj h
    clear h
    obtain ⟨h1, h2, h3⟩ := hb
    obtain ⟨m, rfl⟩ : ∃ m : Nat, n = (m : Int) := ⟨n.toNat, by omega⟩
    obtain ⟨x, rfl⟩ : ∃ x, l0 = [x] := by
      cases l0 with
      | nil => simp at h1
      | cons a t =>
        cases t with
        | nil => exact ⟨a, rfl⟩
        | cons b t => simp at h1
    clear h1
    rw [Int.toNat_natCast]
    simp only [List.length_singleton, List.getD_cons_zero] at hr0 ⊢
    have HR := Aside0.mk hr0
    clear hr0 hc0
    have hm1 : 1 ≤ m := by omega
    have hm2 : m ≤ 1000 := by omega
    clear h2 h3
    go_enter Try.func79, Try.ntmps79
    go_wp2_with (first | (go_at_call 87; refine (mul1 m hm2 _).mono ?_; rintro e w_ ⟨rfl, hw_⟩; obtain rfl := hw_.symm; clear hw_) | ((with_reducible refine gate_dst (N := 30) rfl ?_); refine Kd.R_make (Kd.int .i64) _ 3 rfl (N := 30) rfl 52 _ _ rfl (m : Int) rfl rfl Try.underlying52 (.int .i64 0) 8 info3 rfl (by decide) (by omega) 0 (ok := fun _ => True) (okp := fun _ => True) rfl (fun _ hk => hk) trivial (by omega) (by omega) (Below.refl _ _) (Nat.le_refl _) ?_; intro v1 w1 ho1 hb1 hg1 hn1; obtain ⟨g, cap, cur, rfl, hgb, hgh, hmc, hcm, hcl⟩ := own_open ho1 (by rw [List.length_replicate]; omega); clear ho1 hg1 hn1; rw [List.length_replicate, Int.toNat_natCast] at *; have hsrc := reads_of_C (Kd.C_below HR.out hb1); have HB1 := Aside0.mk hb1; clear hb1) | ((with_reducible refine gate_builtin (b := .copy) (xs := #[.tmp 31, .tmp 32]) rfl ?_); refine wpList_copy_splice rfl (.tmp 31) (.tmp 32) 52 52 rfl 3 Try.underlying52 (by kernel_rfl) _ _ _ _ _ _ rfl rfl g 0 cur 3 hgh [.int .i64 x] (by rw [List.length_singleton]; show 1 = min 1 m; omega) (fun _ => ⟨rfl, by obtain ⟨ad, e, hc⟩ := hsrc.2.2 (by decide); refine ⟨ad, e, fun j v hj => ?_⟩; cases j with | zero => (cases hj; exact hc 0 (by decide)) | succ j => (simp at hj)⟩) (by rw [List.length_singleton]; omega) (by intro v hv; simp at hv; subst hv; rfl) w.heap.size w HB1.out hgb ?_; intro w2 hh2 hb2))
    have hr0 : Rep x g m cap 1 w2 := ⟨splice cur 0 [Value.int .i64 x], hh2, by rw [length_splice _ _ _ (by rw [List.length_singleton]; omega)]; exact hcl, by simp [splice], hm1⟩
    have HR0 := Aside0.mk hr0
    have HB2 := Aside0.mk hb2
    clear hr0 hb2 hh2 hsrc hgh hcl HB1
    go_loopg [8] m (fun kq v8 w' => ∃ q : Nat, v8 = .int .i64 (q : Int) ∧ Aside0 (1 ≤ q ∧ q ≤ m ∧ kq + q = m + 1) ∧ Aside0 (Rep x g m cap q w') ∧ Aside0 (Below w.heap.size w w'))
    case atStart => exact ⟨1, rfl, ⟨by omega, by omega, rfl⟩, HR0, HB2⟩
    case round =>
      obtain ⟨q, rfl, HQ, HP, HB⟩ := hrel
      by_cases c : (q : Int) < (m : Int)
      · have cb : decide ((q : Int) < (m : Int)) = true := decide_eq_true c
        go_wp2_with fail
        obtain ⟨cur2, hc2, hl2, ht2, _⟩ := HP.out
        have hq := HQ.out
        have s1 : (0 : Int) ≤ (q : Int) := by omega
        have s2 : (q : Int) ≤ (m : Int) := by omega
        have s3 : q ≤ m := by omega
        have s4 : q ≤ cap := by omega
        have s5 : (q : Int) ≤ (cap : Int) := by omega
        have s6 : (m : Int) ≤ (cap : Int) := by omega
        have hne : ¬ cap = q := by omega
        have hbd : Below w.heap.size w wr.drew := by first | exact below_drew1 HB.out | (apply below_drew1; exact HB.out)
        have hlenr : (List.replicate (min q (m - q)) (Value.int .i64 x)).length = min q (m - q) := List.length_replicate
        have hcells : ∀ j v, (List.replicate (min q (m - q)) (Value.int .i64 x))[j]? = some v → wr.drew.cell? ((⟨g, 0, none⟩ : Addr).add j) = some v := fun j v hj => by
          have hjl : j < min q (m - q) := by
            rcases Nat.lt_or_ge j (min q (m - q)) with h | h
            · exact h
            · rw [List.getElem?_eq_none (by rw [hlenr]; exact h)] at hj
              cases hj
          rw [List.getElem?_replicate, if_pos hjl] at hj
          obtain rfl := Option.some.inj hj
          exact row_cell (w := wr.drew) (show wr.drew.heap[g]? = _ from hc2) j _ (take_rep ht2 j (by omega))
        have hfit : q + (List.replicate (min q (m - q)) (Value.int .i64 x)).length ≤ cur2.length := by rw [hlenr, hl2]; omega
        have hone : ∀ v ∈ List.replicate (min q (m - q)) (Value.int .i64 x), v.oneCell' = true := fun v hv => by rw [List.eq_of_mem_replicate hv]; rfl
        have hnm : (List.replicate (min q (m - q)) (Value.int .i64 x)).length = Nat.min q (m - q) := hlenr
        generalize hcs : List.replicate (min q (m - q)) (Value.int .i64 x) = cs at hlenr hcells hfit hone hnm
        go_region_law (refine step_copy_splice rfl (.tmp 41) (.tmp 44) 52 52 rfl 3 Try.underlying52 (by kernel_rfl) (some ⟨g, q, none⟩) (some ⟨g, 0, none⟩) (m - q) (cap - q) q cap (by simp [Act.eval, Act.put]) (by simp [Act.eval, Act.put]) g q cur2 3 hc2 cs hnm (fun _ => ⟨rfl, ⟨g, 0, none⟩, rfl, hcells⟩) hfit hone w.heap.size w hbd hgb ?_; intro w3 hh3 hb3)
        have hmn : min q (m - q) ≤ q ∧ min q (m - q) ≤ m - q ∧ 1 ≤ min q (m - q) := by omega
        have hwr : IntKind.i64.wrap ((q : Int) + ((min q (m - q) : Nat) : Int)) = ((q + min q (m - q) : Nat) : Int) := wrap_add q _ (by omega)
        have hrep : Rep x g m cap (q + min q (m - q)) w3 := ⟨splice cur2 q cs, hh3, by rw [length_splice _ _ _ hfit]; exact hl2, by
          unfold splice
          have e1 : (cur2.take q ++ (cs ++ cur2.drop (q + cs.length))).take (q + min q (m - q)) = cur2.take q ++ cs := by
            have hl : (cur2.take q ++ cs).length = q + min q (m - q) := by rw [List.length_append, List.length_take, hlenr]; omega
            rw [← List.append_assoc, List.take_append_of_le_length (by omega), List.take_of_length_le (by omega)]
          rw [e1, ht2, ← hcs, List.replicate_append_replicate], by omega⟩
        go_wp2_with fail
        go_roundg (gk - min q (m - q))
        case measure => omega
        case rel => exact ⟨q + min q (m - q), by first | (rw [← hwr]; rfl) | (simp [hwr]; done), ⟨by omega, by omega, by omega⟩, ⟨hrep⟩, ⟨hb3⟩⟩
      · have cb : decide ((q : Int) < (m : Int)) = false := decide_eq_false c
        go_wp2
        obtain ⟨cur2, hc2, hl2, ht2, _⟩ := HP.out
        have hq := HQ.out
        obtain rfl : q = m := by omega
        have hR : Kd.R (Kd.int .i64) 3 wr w.heap.size (fun _ => True) (.slice (some ⟨g, 0, none⟩) q cap) (List.replicate q x) := by
         refine (Kd.R_of_own (enc := Value.int .i64) (xs := List.replicate q x) ?_ (fun _ _ => trivial))
         rw [List.length_replicate]
         refine ⟨?_, Or.inr ⟨g, cap, cur2.toArray, rfl, hgb, hc2, hmc, hcm, ?_, ?_⟩⟩
         · simp [encs]
         · simp [hl2]
         · simp [encs]; exact ht2
        go_ret
        exact ⟨_, rfl, hR, HB.out⟩
  · rw [if_neg hb] at h
    cases h
end Go.Proofs.Ytgdjiphljadlcaa.K
