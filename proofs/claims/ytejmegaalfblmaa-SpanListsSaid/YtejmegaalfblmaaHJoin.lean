/- span.Join: the union as separate spans, for lists of at most a million. -/
import Derived.Test.YtejmegaalfblmaaHSort
import Derived.Test.YtejmegaalfblmaaHLatest
import Derived.Test.YtejmegaalfblmaaH3
namespace Go.Proofs.Ytejmegaalfblmaa.H
open Go.RowKit Go.Proofs.YtejmegaalfblmaaW.PrintWords Go.Proofs.YtejmegaalfblmaaW.PrintLast Go.Proofs.YtejmegaalfblmaaW.PrintMore
attribute [local go_sem] max2_int min2_int max_two min_two max_three min_three max_four min_four
set_option linter.unusedVariables false
set_option linter.unusedSimpArgs false
theorem wrap_id {x : Int} (h0 : -9223372036854775808 ≤ x) (h1 : x < 9223372036854775808) : wrap64 x = x := by unfold wrap64; omega
def span_Join.f (l0 : List S25) : Option (List S25) := if l0.length ≤ 1000000 then some (joinS (sortS (validS l0))) else none
def span_Join.l0 : Nat → List (S25) → List (S25) → Int → Int → Option ((List (S25)))
 | 0, _, _, _, _ => none
 | k + 1, x6, x27, x28, x29 => if x29 < x28 then (if 0 ≤ x29 then (if x29 < (x27.length : Int) then (if (x6.length : Int) > 0 then (if 0 ≤ (wrap64 ((x6.length : Int) - 1)) then (if (wrap64 ((x6.length : Int) - 1)) < (x6.length : Int) then (if ((rd_T25 x27 x29).f0) ≤ ((rd_T25 x6 (wrap64 ((x6.length : Int) - 1))).f1) then ((span_latest.f k ((rd_T25 x6 (wrap64 ((x6.length : Int) - 1))).f1) (([(rd_T25 x27 x29).f1] : List Int))).bind fun t115 => (span_Join.l0 k (x6.set ((wrap64 ((x6.length : Int) - 1)) : Int).toNat (⟨(rd_T25 x6 (wrap64 ((x6.length : Int) - 1))).f0, t115⟩ : S25)) x27 x28 (wrap64 (x29 + 1)))) else (if x6.length < 8796093022208 then (span_Join.l0 k (x6 ++ [(⟨(rd_T25 x27 x29).f0, (rd_T25 x27 x29).f1⟩ : S25)]) x27 x28 (wrap64 (x29 + 1))) else (none))) else (none)) else (none)) else (if x6.length < 8796093022208 then (span_Join.l0 k (x6 ++ [(⟨(rd_T25 x27 x29).f0, (rd_T25 x27 x29).f1⟩ : S25)]) x27 x28 (wrap64 (x29 + 1))) else (none))) else (none)) else (none)) else (some x6)
theorem rd_at (xs : List S25) (i : Nat) (h : i < xs.length) : rd_T25 xs (i : Int) = xs[i] := by
  unfold rd_T25
  rw [Int.toNat_natCast, List.getD_eq_getElem?_getD, List.getElem?_eq_getElem h]
  rfl
theorem join_loop (xs : List S25) (hx : xs.length ≤ 1000000) : ∀ (m i : Nat) (out : List S25) (k : Nat), xs.length - i = m → i ≤ xs.length → out.length ≤ i → m + 3 ≤ k →
    span_Join.l0 k out xs (xs.length : Int) (i : Int) = some ((xs.drop i).foldl stepJ out) := by
  intro m
  induction m with
  | zero =>
    intro i out k h1 h2 _ hk
    obtain ⟨k, rfl⟩ : ∃ q, k = q + 1 := ⟨k - 1, by omega⟩
    rw [span_Join.l0, if_neg (by omega), List.drop_eq_nil_of_le (by omega)]
    rfl
  | succ m ih =>
    intro i out k h1 h2 h3 hk
    obtain ⟨k, rfl⟩ : ∃ q, k = q + 1 := ⟨k - 1, by omega⟩
    obtain ⟨q, rfl⟩ : ∃ q, k = q + 2 := ⟨k - 2, by omega⟩
    have hi : i < xs.length := by omega
    have hr := rd_at xs i hi
    have hw : wrap64 ((i : Int) + 1) = ((i + 1 : Nat) : Int) := by rw [wrap_id (by omega) (by omega)]; rfl
    have hd : xs.drop i = xs[i] :: xs.drop (i + 1) := List.drop_eq_getElem_cons hi
    rw [span_Join.l0, if_pos (by omega), if_pos (by omega), if_pos (by omega), hr, hw, hd, List.foldl_cons]
    have hrec : ∀ o : List S25, o.length ≤ i + 1 → span_Join.l0 (q + 2) o xs (xs.length : Int) ((i + 1 : Nat) : Int) = some ((xs.drop (i + 1)).foldl stepJ o) := fun o ho => ih (i + 1) o (q + 2) (by omega) (by omega) ho (by omega)
    rcases List.eq_nil_or_concat out with rfl | ⟨a, z, rfl⟩
    · rw [if_neg (by simp), if_pos (by simp)]
      exact hrec _ (by simp)
    · rw [List.concat_eq_append] at *
      have hl : (a ++ [z]).length = a.length + 1 := by simp
      have hw2 : wrap64 (((a ++ [z]).length : Int) - 1) = (a.length : Int) := by rw [wrap_id (by omega) (by omega)]; omega
      have hz : rd_T25 (a ++ [z]) (a.length : Int) = z := by rw [rd_at _ _ (by omega)]; simp
      rw [hw2, hz, if_pos (by omega), if_pos (by omega), if_pos (by omega)]
      have e : stepJ (a ++ [z]) xs[i] = if xs[i].f0 ≤ z.f1 then a ++ [⟨z.f0, mx z.f1 xs[i].f1⟩] else (a ++ [z]) ++ [xs[i]] := by
        unfold stepJ
        simp only [List.getLast?_concat, List.dropLast_concat]
      rw [e]
      by_cases c : xs[i].f0 ≤ z.f1
      · rw [if_pos c, if_pos c, latest_one, Option.bind_some]
        have hs : (a ++ [z]).set ((a.length : Int)).toNat (⟨z.f0, mx z.f1 xs[i].f1⟩ : S25) = a ++ [⟨z.f0, mx z.f1 xs[i].f1⟩] := by
          rw [Int.toNat_natCast, List.set_append_right _ _ (Nat.le_refl _)]
          simp
        rw [hs]
        exact hrec _ (by simp; omega)
      · rw [if_neg c, if_neg c, if_pos (by omega)]
        exact hrec _ (by simp; omega)
theorem join_run (d l : List S25) (hd : ∀ x, x ∈ d ↔ x ∈ validS l) (ha : Asc d) (hl : d.length ≤ 1000000) (k : Nat) (hk : 1000010 ≤ k) : span_Join.l0 k [] d (d.length : Int) 0 = some (joinS (sortS (validS l))) := by
  have := join_loop d hl d.length 0 [] k rfl (Nat.zero_le _) (Nat.zero_le _) (by omega)
  rw [List.drop_zero] at this
  rw [← join_sorted hd ha]
  exact this
theorem valid_snoc (l : List S25) (j : Nat) (h : j < l.length) : validS (l.take (j + 1)) = if vld (l[j]).f0 (l[j]).f1 = true then validS (l.take j) ++ [l[j]] else validS (l.take j) := by
  unfold validS
  rw [List.take_succ_eq_append_getElem h, List.filter_append]
  by_cases c : vld (l[j]).f0 (l[j]).f1 = true
  · rw [if_pos c, List.filter_cons, if_pos c]
    rfl
  · rw [if_neg c, List.filter_cons, if_neg c]
    simp
def JInv (l0 x3 : List S25) (x12 : Int) (kq : Nat) : Prop := ∃ j : Nat, x12 = j ∧ kq + j = l0.length + 1 ∧ j ≤ l0.length ∧ x3 = validS (l0.take j)
theorem JInv.next {l0 x3 : List S25} {x12 : Int} {k1 : Nat} (h : JInv l0 x3 x12 (k1 + 1)) (hl : l0.length ≤ 1000000) (hx : x12 < (l0.length : Int)) :
    JInv l0 (if vld (rd_T25 l0 x12).f0 (rd_T25 l0 x12).f1 = true then x3 ++ [⟨(rd_T25 l0 x12).f0, (rd_T25 l0 x12).f1⟩] else x3) (wrap64 (x12 + 1)) k1 := by
  obtain ⟨j, rfl, h1, h2, rfl⟩ := h
  have hj : j < l0.length := by omega
  refine ⟨j + 1, by rw [wrap_id (by omega) (by omega)]; rfl, by omega, by omega, ?_⟩
  rw [rd_at l0 j hj, valid_snoc l0 j hj]
theorem JInv.le {l0 x3 : List S25} {x12 : Int} {kq : Nat} (h : JInv l0 x3 x12 kq) : 0 ≤ x12 ∧ x3.length ≤ l0.length := by
  obtain ⟨j, rfl, _, _, rfl⟩ := h
  refine ⟨by omega, ?_⟩
  unfold validS
  have := List.length_filter_le (fun s : S25 => vld s.f0 s.f1) (l0.take j)
  have := List.length_take_le' j l0
  omega
theorem JInv.done {l0 x3 : List S25} {x12 : Int} {kq : Nat} (h : JInv l0 x3 x12 kq) (hx : ¬ x12 < (l0.length : Int)) : x3 = validS l0 := by
  obtain ⟨j, rfl, _, h2, rfl⟩ := h
  rw [List.take_of_length_le (by omega)]
theorem JInv.zero (l0 : List S25) : JInv l0 [] 0 (l0.length + 1) := ⟨0, rfl, rfl, Nat.zero_le _, by simp [validS]⟩
theorem JInv.dead {l0 x3 : List S25} {x12 : Int} (h : JInv l0 x3 x12 0) : False := by
  obtain ⟨j, _, h1, h2, _⟩ := h
  omega
def span_Join.T14 : Bool × List (List Nat × List Nat) := (true, [([], []), ([0], [0]), ([1], [1]), ([2], [2]), ([3, 2], [2, 3]), ([2], [2]), ([2], [2]), ([6, 2], [2, 6]), ([5, 7, 2], [2, 5, 7]), ([8, 2], [2, 8]), ([9, 2], [2, 9]), ([4, 10, 2], [2, 4, 10]), ([2, 11], [2, 11])])
def span_Join.B14 : List Nat := [0, 1, 3, 7, 15, 7, 7, 71, 231, 487, 999, 2047, 4095]
theorem span_Join.tab14 : rtab .any (opsOf Try.f10 14) = span_Join.T14 := by kernel_rfl
theorem span_Join.bits14 : waitsOk span_Join.T14.2 span_Join.B14 = true := by kernel_rfl
def span_Join.T15 : Bool × List (List Nat × List Nat) := (true, [([], []), ([], []), ([1], [1]), ([], []), ([], []), ([4], [4]), ([3, 5], [3, 5]), ([6], [6]), ([7], [7]), ([], []), ([9], [9]), ([10], [10]), ([8, 11], [8, 11]), ([0, 2, 0, 1, 2, 3, 4, 5, 6, 7, 8, 9, 10, 11, 12], [0, 2]), ([13, 0, 1, 2, 3, 4, 5, 6, 7, 8, 9, 10, 11, 12], [13]), ([14, 12, 12, 0, 1, 2, 3, 4, 5, 6, 7, 8, 9, 10, 11, 12], [12, 14])])
def span_Join.B15 : List Nat := [0, 0, 2, 0, 0, 16, 56, 120, 248, 0, 512, 1536, 4088, 8191, 16383, 32767]
theorem span_Join.tab15 : rtab .any (opsOf Try.f10 15) = span_Join.T15 := by kernel_rfl
theorem span_Join.bits15 : waitsOk span_Join.T15.2 span_Join.B15 = true := by kernel_rfl
set_option maxHeartbeats 8000000 in
set_option maxRecDepth 100000 in
theorem span_Join.calls (A0 : Option Addr) (c0 : Nat) (l0 : List (S25)) (r : List (S25)) (w : World) (hr0 : Kd.C k25 w A0 l0.length l0) (hc0 : l0.length ≤ c0) (h : span_Join.f l0 = some r) :
  Calls Try.prog 10 #[.slice A0 l0.length c0] w fun e w' => ∃ v0_ : Value, e = .returned (v0_) ∧ Kd.R k25 25 w' w.heap.size (fun _ => True) v0_ r ∧ Below w.heap.size w w' := by
 by_cases hlen : l0.length ≤ 1000000
 case neg =>
  unfold span_Join.f at h
  rw [if_neg hlen] at h
  exact absurd h (by simp)
 unfold span_Join.f at h
 rw [if_pos hlen] at h
 have hre := Option.some.inj h
 have HRE := Aside0.mk hre
 clear hre h
 have HL := Aside0.mk hlen
 clear hlen
 have hu25 := Try.underlying25
 have HR0 := Aside0.mk hr0
 have HC0 := Aside0.mk hc0
 clear hr0 hc0
 have HB := Aside0.mk (Below.refl w.heap.size w)
 go_enter Try.func10, Try.ntmps10
 go_wp2_with (first | ((with_reducible refine gate_dst (N := 3) rfl ?_); refine box_event ?hg (N := 3) ?hd (cs := #[.slice none 0 0]) (t := 22) ?hr ?_; (case hd => rfl); (case hg => rfl); (case hr => first | (go_simp; done) | (go_simp; rfl)); intro gbv hg w8 hbox hb; have n0_ := Aside0.mk (below_step (bs HB.out) hb); have BKv := Aside0.mk (hbox); have GWv := Aside0.mk ((by rw [hg]; exact (below_size (bs HB.out)) : w.heap.size ≤ gbv)); clear HB; have HB := n0_; clear n0_; clear hb hbox hg))
 obtain ⟨K, hK⟩ : ∃ K, K = l0.length + 1 := ⟨_, rfl⟩
 have HZ : Aside0 (JInv l0 [] 0 K) := ⟨by rw [hK]; exact JInv.zero l0⟩
 clear hK
 go_loopg [12] K (fun kq v12 w' => ∃ (x3_1 : List S25) (v3 : Value) (x12_1 : Int), v12 = .int .i64 x12_1 ∧ Aside0 (JInv l0 x3_1 x12_1 kq) ∧ Aside0 (Kd.R k25 25 w' w.heap.size (fun k_ => k_ ≠ gbv) v3 x3_1) ∧ Aside0 (w'.heap[gbv]? = some (.cells #[v3] 22 (0, 0))) ∧ Aside0 (Below w.heap.size w w'))
 case atStart => exact ⟨[], .slice none 0 0, 0, rfl, HZ, ⟨Kd.R_nil _ _ _ _ _⟩, ⟨bg BKv.out⟩, ⟨bs HB.out⟩⟩
 case round =>
  clear HZ BKv HB
  obtain ⟨x3_1, v3, x12_1, rfl, HA, HO_3, BKv, HB⟩ := hrel
  cases gk with
  | zero => exact (JInv.dead HA.out).elim
  | succ k1 =>
   by_cases c2 : x12_1 < (l0.length : Int)
   ·
    have HN := Aside0.mk (JInv.next HA.out HL.out c2)
    have c2b0 : decide (x12_1 < (l0.length : Int)) = true := decide_eq_true c2
    have c3b0 : decide (0 ≤ x12_1) = true := decide_eq_true (JInv.le HA.out).1
    have LMc7 : Aside0 (x3_1.length < 8796093022208) := ⟨by have := (JInv.le HA.out).2; have := HL.out; omega⟩
    clear c2
    obtain ⟨t107, ht107⟩ : ∃ t, t = vld (rd_T25 l0 x12_1).f0 (rd_T25 l0 x12_1).f1 := ⟨_, rfl⟩
    have A5 : Aside0 (span_Valid.f (rd_T25 l0 x12_1).f0 (rd_T25 l0 x12_1).f1 = some t107) := ⟨by rw [ht107]; exact valid_f _ _⟩
    have HN2 : Aside0 (JInv l0 (if t107 = true then x3_1 ++ [⟨(rd_T25 l0 x12_1).f0, (rd_T25 l0 x12_1).f1⟩] else x3_1) (wrap64 (x12_1 + 1)) k1) := ⟨by rw [ht107]; exact HN.out⟩
    clear HN HA ht107
    by_cases c6 : t107 = true
    ·
     subst c6
     obtain ⟨y108, hy108⟩ : ∃ y_ : List (S25), y_ = (x3_1 ++ [(⟨(rd_T25 l0 x12_1).f0, (rd_T25 l0 x12_1).f1⟩ : S25)]) := ⟨_, rfl⟩
     have HN : Aside0 (JInv l0 y108 (wrap64 (x12_1 + 1)) k1) := ⟨by have := HN2.out; rw [if_pos rfl] at this; rw [hy108]; exact this⟩
     clear HN2
     have Ny108 := Aside0.mk hy108
     clear hy108
     have p105 : 0 ≤ (x12_1 : Int) := of_decide_eq_true c3b0
     have q105 : x12_1 < (l0.length : Int) := of_decide_eq_true c2b0
     obtain ⟨ad105, e105, hx105_0, hx105_1⟩ := at_T25 HR0.out x12_1 p105 q105
     cases e105
     replace hx105_0 := pw_cell_below HB.out hx105_0
     replace hx105_1 := pw_cell_below HB.out hx105_1
     replace p105 := eq_true p105
     replace q105 := eq_true q105
     have hczo : _ = some v3 := (blk_cell BKv.out 0).trans rfl
     go_wp2_with (first | ((with_reducible refine gate_dst (N := 5) rfl ?_); refine box_event ?hg (N := 5) ?hd (cs := #[.int .i64 0, .int .i64 0]) (t := 25) ?hr ?_; (case hd => rfl); (case hg => rfl); (case hr => first | (go_simp; done) | (go_simp; rfl)); intro gb106 hg w8 hbox hb; have n0_ := Aside0.mk (Kd.R_below (Kd.R_elderB (rq HO_3.out) gb106 (Nat.le_of_eq hg.symm)) hb); have n1_ := Aside0.mk (below_step (bs HB.out) hb); have n2_ := Aside0.mk (hbox); have n3_ := Aside0.mk ((by rw [hg]; exact (below_size (bs HB.out)) : w.heap.size ≤ gb106)); have n4_ := n3_; have nv_ := Aside0.mk (blk_below (bg BKv.out) hb); have NBv := Aside0.mk ((by rw [hg]; exact Nat.ne_of_lt (blk_lt (bg BKv.out)) : gbv ≠ gb106)); clear BKv; have BKv := nv_; clear nv_; clear HO_3; clear HB; have HO_3 := n0_; have HB := n1_; have BK106 := n2_; have GW106 := n3_; have GE106 := n4_; clear n0_ n1_ n2_ n3_ n4_; clear hb hbox hg; obtain ⟨hcz9_0, hcz9_1⟩ := bc2 BK106.out; obtain ⟨hfz9_0, hfz9_1⟩ := bf2 BK106.out) | ((with_reducible refine gate_callee (f := 14) rfl ?_); refine goesL_ (some 17) rfl rfl Try.func14 (by kernel_rfl) rfl #[.agg #[.int .i64 ((rd_T25 l0 x12_1).f0), .int .i64 ((rd_T25 l0 x12_1).f1)]] rfl (by (try simp only [List.map_toArray, List.map_cons, List.map_nil]); first | done | rfl | (simp only [List.length_drop, List.length_take]; rfl)) ?_; (with_reducible refine (span_Valid.calls ((rd_T25 l0 x12_1).f0) ((rd_T25 l0 x12_1).f1) true _ A5.out).mono ?_); rintro e w10 ⟨rfl, hb⟩; refine ⟨_, rfl, ?_⟩; have n0_ := Aside0.mk (Kd.R_below (by (with_reducible repeat (first | apply Kd.R_alloc | apply Kd.R_drewN | apply Kd.R_drew)); exact (Kd.R_mono (Kd.R_far (p := ⟨gb106, 1, none⟩) (Kd.R_far (p := ⟨gb106, 0, none⟩) (Kd.R_mono HO_3.out (fun k_ hk => (⟨hk, hk.2⟩ : _ ∧ k_ ≠ gb106))) (fun _ hk => hk.2) (.int .i64 ((rd_T25 l0 x12_1).f0))) (fun _ hk => hk.2) (.int .i64 ((rd_T25 l0 x12_1).f1))) (fun _ h_ => h_.1))) hb); have n1_ := Aside0.mk (blk_below (g := gb106) (o := .cells #[.int .i64 ((rd_T25 l0 x12_1).f0), .int .i64 ((rd_T25 l0 x12_1).f1)] 25 (0, 0)) (by exact pt2 (bg BK106.out)) hb); have n2_ := Aside0.mk (below_step (bs HB.out) hb); have nv_ := Aside0.mk (blk_below (g := gbv) (o := .cells #[v3] 22 (0, 0)) (by (iterate 2 ((with_reducible repeat (first | refine blk_drewN ?_ _ | refine blk_drew ?_ | refine blk_alloc ?_ _)); refine blk_far ?_ NBv.out _)); exact bg BKv.out) hb); clear BKv; have BKv := nv_; clear nv_; have hczv : _ = some v3 := (blk_cell BKv.out 0).trans rfl; have hfzv := blk_frozen BKv.out 0; clear HO_3; clear BK106; clear HB; have HO_3 := n0_; have BK106 := n1_; have HB := n2_; clear n0_ n1_ n2_; (try clear hb); (try clear hb2); (try clear hk); (try clear hi); obtain ⟨hcz11_0, hcz11_1⟩ := bc2 BK106.out; obtain ⟨hfz11_0, hfz11_1⟩ := bf2 BK106.out) | ((with_reducible refine gate_builtin (b := .append) (xs := #[.tmp 18, .tmp 20]) rfl ?_); at_builtin; refine Kd.R_append k25 (w0 := w) w.heap.size rfl (.tmp 18) (.tmp 20) 22 25 (.agg #[(.int .i64 0), (.int .i64 0)]) 16 rfl Try.underlying22 info25 rfl (by decide) (by omega) v3 x3_1 (⟨(rd_T25 l0 x12_1).f0, (rd_T25 l0 x12_1).f1⟩ : S25) [.int .i64 ((rd_T25 l0 x12_1).f0), .int .i64 ((rd_T25 l0 x12_1).f1)] (fun k_ => k_ ≠ gbv ∧ k_ ≠ gb106) (fun _ => False) rfl rfl ?aP (fun _ hk => hk.elim) ?aF ?aO ?aB ?aS ?aL ?_; (case aP => exact k25_mkM _ _ _ (⟨(rd_T25 l0 x12_1).f0, (rd_T25 l0 x12_1).f1⟩ : S25)); (case aB => exact (bs HB.out)); (case aF => exact (fun k_ hk => ⟨Kd.freshB (g := gbv) (o := .cells #[v3] 22 (0, 0)) (bg BKv.out) k_ hk, Kd.freshB (g := gb106) (o := .cells #[.int .i64 ((rd_T25 l0 x12_1).f0), .int .i64 ((rd_T25 l0 x12_1).f1)] 25 (0, 0)) (bg BK106.out) k_ hk⟩)); (case aO => exact (by (with_reducible repeat (first | apply Kd.R_alloc | apply Kd.R_drewN | apply Kd.R_drew)); exact HO_3.out)); (case aS => exact (below_size (bs HB.out))); (case aL => have := LMc7.out; omega); intro v109 w12 ho hb hg hat; rw [← Ny108.out] at ho; have n0_ := Aside0.mk (blk_grown (g := gb106) (o := .cells #[.int .i64 ((rd_T25 l0 x12_1).f0), .int .i64 ((rd_T25 l0 x12_1).f1)] 25 (0, 0)) (bg BK106.out) hg (Kd.R_away HO_3.out (fun _ hk => hk.2))); have nv_ := Aside0.mk (blk_grown (g := gbv) (o := .cells #[v3] 22 (0, 0)) (bg BKv.out) hg (Kd.R_away HO_3.out (fun _ hk => hk.1))); clear BKv hczv hfzv; have BKv := nv_; clear nv_; have hczw : _ = some v3 := (blk_cell BKv.out 0).trans rfl; have hfzw := blk_frozen BKv.out 0; have n1_ := Aside0.mk (hb); have n2_ := Aside0.mk (ho); clear BK106; clear HB; clear HO_3; have BK106 := n0_; have HB := n1_; have HO110 := n2_; clear n0_ n1_ n2_; clear ho hb hg hat; obtain ⟨Av, cv, ev⟩ := Kd.R_slice HO110.out; subst ev))
     go_roundg k1
     case measure => exact Nat.lt_succ_self _
     case rel => exact ⟨y108, _, (wrap64 (x12_1 + 1)), (by first | rfl | (simp; done) | (simp [*]; done)), HN, ⟨Kd.R_far (p := ⟨gbv, 0, none⟩) (Kd.R_mono HO110.out (fun _ hk => hk.1)) (fun _ hk => hk) _⟩, ⟨blk_put (cs' := #[_]) (bg BKv.out) 0 _ rfl⟩, ⟨bs HB.out⟩⟩
    ·
     replace c6 := Bool.eq_false_iff.mpr c6
     subst c6
     have HN : Aside0 (JInv l0 x3_1 (wrap64 (x12_1 + 1)) k1) := ⟨by have := HN2.out; rw [if_neg (by decide)] at this; exact this⟩
     clear HN2
     have p105 : 0 ≤ (x12_1 : Int) := of_decide_eq_true c3b0
     have q105 : x12_1 < (l0.length : Int) := of_decide_eq_true c2b0
     obtain ⟨ad105, e105, hx105_0, hx105_1⟩ := at_T25 HR0.out x12_1 p105 q105
     cases e105
     replace hx105_0 := pw_cell_below HB.out hx105_0
     replace hx105_1 := pw_cell_below HB.out hx105_1
     replace p105 := eq_true p105
     replace q105 := eq_true q105
     have hczo : _ = some v3 := (blk_cell BKv.out 0).trans rfl
     go_wp2_with (first | ((with_reducible refine gate_dst (N := 5) rfl ?_); refine box_event ?hg (N := 5) ?hd (cs := #[.int .i64 0, .int .i64 0]) (t := 25) ?hr ?_; (case hd => rfl); (case hg => rfl); (case hr => first | (go_simp; done) | (go_simp; rfl)); intro gb106 hg w13 hbox hb; have n0_ := Aside0.mk (Kd.R_below (Kd.R_elderB (rq HO_3.out) gb106 (Nat.le_of_eq hg.symm)) hb); have n1_ := Aside0.mk (below_step (bs HB.out) hb); have n2_ := Aside0.mk (hbox); have n3_ := Aside0.mk ((by rw [hg]; exact (below_size (bs HB.out)) : w.heap.size ≤ gb106)); have n4_ := n3_; have nv_ := Aside0.mk (blk_below (bg BKv.out) hb); have NBv := Aside0.mk ((by rw [hg]; exact Nat.ne_of_lt (blk_lt (bg BKv.out)) : gbv ≠ gb106)); clear BKv; have BKv := nv_; clear nv_; clear HO_3; clear HB; have HO_3 := n0_; have HB := n1_; have BK106 := n2_; have GW106 := n3_; have GE106 := n4_; clear n0_ n1_ n2_ n3_ n4_; clear hb hbox hg; obtain ⟨hcz14_0, hcz14_1⟩ := bc2 BK106.out; obtain ⟨hfz14_0, hfz14_1⟩ := bf2 BK106.out) | ((with_reducible refine gate_callee (f := 14) rfl ?_); refine goesL_ (some 17) rfl rfl Try.func14 (by kernel_rfl) rfl #[.agg #[.int .i64 ((rd_T25 l0 x12_1).f0), .int .i64 ((rd_T25 l0 x12_1).f1)]] rfl (by (try simp only [List.map_toArray, List.map_cons, List.map_nil]); first | done | rfl | (simp only [List.length_drop, List.length_take]; rfl)) ?_; (with_reducible refine (span_Valid.calls ((rd_T25 l0 x12_1).f0) ((rd_T25 l0 x12_1).f1) false _ A5.out).mono ?_); rintro e w15 ⟨rfl, hb⟩; refine ⟨_, rfl, ?_⟩; have n0_ := Aside0.mk (Kd.R_below (by (with_reducible repeat (first | apply Kd.R_alloc | apply Kd.R_drewN | apply Kd.R_drew)); exact (Kd.R_mono (Kd.R_far (p := ⟨gb106, 1, none⟩) (Kd.R_far (p := ⟨gb106, 0, none⟩) (Kd.R_mono HO_3.out (fun k_ hk => (⟨hk, hk.2⟩ : _ ∧ k_ ≠ gb106))) (fun _ hk => hk.2) (.int .i64 ((rd_T25 l0 x12_1).f0))) (fun _ hk => hk.2) (.int .i64 ((rd_T25 l0 x12_1).f1))) (fun _ h_ => h_.1))) hb); have n1_ := Aside0.mk (blk_below (g := gb106) (o := .cells #[.int .i64 ((rd_T25 l0 x12_1).f0), .int .i64 ((rd_T25 l0 x12_1).f1)] 25 (0, 0)) (by exact pt2 (bg BK106.out)) hb); have n2_ := Aside0.mk (below_step (bs HB.out) hb); have nv_ := Aside0.mk (blk_below (g := gbv) (o := .cells #[v3] 22 (0, 0)) (by (iterate 2 ((with_reducible repeat (first | refine blk_drewN ?_ _ | refine blk_drew ?_ | refine blk_alloc ?_ _)); refine blk_far ?_ NBv.out _)); exact bg BKv.out) hb); clear BKv; have BKv := nv_; clear nv_; have hczv : _ = some v3 := (blk_cell BKv.out 0).trans rfl; have hfzv := blk_frozen BKv.out 0; clear HO_3; clear BK106; clear HB; have HO_3 := n0_; have BK106 := n1_; have HB := n2_; clear n0_ n1_ n2_; (try clear hb); (try clear hb2); (try clear hk); (try clear hi)))
     go_roundg k1
     case measure => exact Nat.lt_succ_self _
     case rel => exact ⟨x3_1, v3, (wrap64 (x12_1 + 1)), (by first | rfl | (simp; done) | (simp [*]; done)), HN, ⟨by (with_reducible repeat (first | apply Kd.R_alloc | apply Kd.R_drewN | apply Kd.R_drew)); exact Kd.R_mono HO_3.out (fun _ hk => hk.1)⟩, ⟨bg BKv.out⟩, ⟨bs HB.out⟩⟩
   ·
    obtain rfl := JInv.done HA.out c2
    have c2b0 : decide (x12_1 < (l0.length : Int)) = false := decide_eq_false c2
    have hszv : (validS l0).length < 4611686018427387904 := by have := (JInv.le HA.out).2; have := HL.out; omega
    have HSZ := Aside0.mk hszv
    clear c2 hszv HA
    have hczv : _ = some v3 := (blk_cell BKv.out 0).trans rfl
    obtain ⟨k, hk0⟩ : ∃ k : Nat, k = 1000010 := ⟨_, rfl⟩
    have HK0 := Aside0.mk hk0
    clear hk0
    go_wp2_with fail
    refine (sort_any w.heap.size gbv w _ v3 (validS l0) HO_3.out HB.out (below_size HB.out) HSZ.out BKv.out).mono ?_
    rintro e w13 ⟨rfl, t105, hd1, hd2, hd3, hd4, hd5, hd6⟩
    have HO107 := Aside0.mk hd4
    clear HB
    have HB := Aside0.mk hd5
    clear BKv
    have BKv := Aside0.mk hd6
    have HD1 := Aside0.mk hd1
    have HD2 := Aside0.mk hd2
    have HD3 := Aside0.mk hd3
    clear hd1 hd2 hd3 hd4 hd5 hd6 hczv HO_3
    obtain ⟨Ao4, co4, eo4⟩ := Kd.R_slice HO107.out
    subst eo4
    have hczx : _ = some (Value.slice Ao4 t105.length co4) := (blk_cell BKv.out 0).trans rfl
    go_wp2
    have H' : Aside0 (span_Join.l0 k ([] : List (S25)) t105 (t105.length : Int) 0 = some r) := ⟨by rw [← HRE.out]; exact join_run t105 l0 HD1.out HD2.out (by rw [HD3.out]; have := HL.out; unfold validS; have := List.length_filter_le (fun s : S25 => vld s.f0 s.f1) l0; omega) k (by rw [HK0.out]; exact Nat.le_refl _)⟩
    clear HD1 HD2 HD3 HK0 hczx BKv
    clear HRE
    go_loopg [6, 29] k (fun kq v6 v29 w' => ∃ (x6_1 : List (S25)) (x27_1 : List (S25)) (x29_1 : Int), v29 = .int .i64 x29_1 ∧ Aside0 (span_Join.l0 kq x6_1 x27_1 (t105.length : Int) x29_1 = some r) ∧ Aside0 (kq ≤ k) ∧ Aside0 (Kd.R k25 25 w' w.heap.size (fun k_ => some k_ ≠ ((.slice Ao4 t105.length co4) : Value).ownBlock) v6 x6_1) ∧ Aside0 (Kd.R k25 25 w' w.heap.size (fun k_ => some k_ ≠ (v6 : Value).ownBlock) (.slice Ao4 t105.length co4) x27_1) ∧ Aside0 (Below w.heap.size w w'))
    case atStart => exact ⟨(([] : List (S25))), (t105), (0), (by first | rfl | (simp; done) | (simp [*]; done)), H', ⟨Nat.le_refl _⟩, ⟨by first | exact Kd.R_nil _ _ _ _ _ | exact Kd.N_nil _ _ _ _ _ | exact Kd.V_nil _ _ _ _ _ | exact Kd.Q_nil _ _ _ _ _ | exact Kd.S_nil _ _ _ _ _⟩, ⟨by (with_reducible repeat (first | apply Kd.R_alloc | apply Kd.R_drewN | apply Kd.R_drew)); exact Kd.R_mono HO107.out (fun _ hk => (by simp [Value.ownBlock]))⟩, ⟨bs HB.out⟩⟩
    case round =>
     clear H'
     try clear c1
     try clear c2
     try clear p2
     obtain ⟨x6_1, x27_1, x29_1, rfl, HA, HK1, HO_6, HO_27, HB⟩ := hrel
     have hl27_1 := (Kd.R_reads' HO_27.out).1
     rw [hl27_1] at HO_27
     (try simp only [hl27_1])
     (try simp only [hl27_1] at HO_6)
     cases gk with
     | zero => exact absurd HA.out (by simp [span_Join.l0])
     | succ k1 =>
      have H := HA.out
      clear HA
      simp only [span_Join.l0] at H
      by_cases c5 : x29_1 < (t105.length : Int)
      ·
       rw [if_pos c5] at H
       have c5b0 : decide (x29_1 < (t105.length : Int)) = true := decide_eq_true c5
       clear c5
       by_cases c6 : 0 ≤ x29_1
       ·
        rw [if_pos c6] at H
        have c6b0 : decide (0 ≤ x29_1) = true := decide_eq_true c6
        clear c6
        by_cases c7 : x29_1 < (x27_1.length : Int)
        ·
         rw [if_pos c7] at H
         have c7b0 : decide (x29_1 < (x27_1.length : Int)) = true := decide_eq_true c7
         clear c7
         by_cases c8 : (x6_1.length : Int) > 0
         ·
          rw [if_pos c8] at H
          have c8b0 : decide (0 < (x6_1.length : Int)) = true := decide_eq_true c8
          have c8b1 : decide (0 < x6_1.length) = true := decide_eq_true (by omega)
          clear c8
          obtain ⟨ji9, hji9⟩ : ∃ j_ : Int, (wrap64 ((x6_1.length : Int) - 1)) = j_ := ⟨_, rfl⟩
          replace H : (if 0 ≤ (ji9) then (if (ji9) < (x6_1.length : Int) then (if ((rd_T25 x27_1 x29_1).f0) ≤ ((rd_T25 x6_1 (ji9)).f1) then ((span_latest.f k1 ((rd_T25 x6_1 (ji9)).f1) (([(rd_T25 x27_1 x29_1).f1] : List Int))).bind fun t115 => (span_Join.l0 k1 (x6_1.set ((ji9) : Int).toNat (⟨(rd_T25 x6_1 (ji9)).f0, t115⟩ : S25)) x27_1 (t105.length : Int) (wrap64 (x29_1 + 1)))) else (if x6_1.length < 8796093022208 then (span_Join.l0 k1 (x6_1 ++ [(⟨(rd_T25 x27_1 x29_1).f0, (rd_T25 x27_1 x29_1).f1⟩ : S25)]) x27_1 (t105.length : Int) (wrap64 (x29_1 + 1))) else (none))) else (none)) else (none)) = some r := by first | (rw [hji9] at H; exact H) | (simp only [hji9] at H ⊢; exact H)
          have hji9w : (IntKind.i64.wrap ((x6_1.length : Int) - 1)) = ji9 := (i64_w _).trans hji9
          by_cases c10 : 0 ≤ (ji9)
          ·
           rw [if_pos c10] at H
           have c10b0 : decide (0 ≤ (ji9)) = true := decide_eq_true c10
           clear c10
           by_cases c11 : (ji9) < (x6_1.length : Int)
           ·
            rw [if_pos c11] at H
            have c11b0 : decide ((ji9) < (x6_1.length : Int)) = true := decide_eq_true c11
            clear c11
            by_cases c12 : ((rd_T25 x27_1 x29_1).f0) ≤ ((rd_T25 x6_1 (ji9)).f1)
            ·
             rw [if_pos c12] at H
             have c12b0 : decide (((rd_T25 x27_1 x29_1).f0) ≤ ((rd_T25 x6_1 (ji9)).f1)) = true := decide_eq_true c12
             clear c12
             obtain ⟨y112, hy112⟩ : ∃ y_ : List Int, y_ = (([(rd_T25 x27_1 x29_1).f1] : List Int)) := ⟨_, rfl⟩
             replace H : ((span_latest.f k1 ((rd_T25 x6_1 (ji9)).f1) y112).bind fun t115 => (span_Join.l0 k1 (x6_1.set ((ji9) : Int).toNat (⟨(rd_T25 x6_1 (ji9)).f0, t115⟩ : S25)) x27_1 (t105.length : Int) (wrap64 (x29_1 + 1)))) = some r := by first | (rw [hy112]; with_reducible exact H) | (have H2_ := (Option.bind_some _ _).symm.trans H; rw [hy112]; with_reducible exact H2_) | (have H2_ := (Option.bind_some _ _).symm.trans H; with_reducible exact H2_) | with_reducible exact H | (rw [hy112]; exact H) | exact H
             have Ny112 := Aside0.mk hy112
             clear hy112
             replace H := Option.bind_eq_some_iff.mp H
             obtain ⟨t115, A130, H⟩ := H
             replace H : (span_Join.l0 k1 (x6_1.set ((ji9) : Int).toNat (⟨(rd_T25 x6_1 (ji9)).f0, t115⟩ : S25)) x27_1 (t105.length : Int) (wrap64 (x29_1 + 1))) = some r := H
             have A13 := Aside0.mk A130
             clear A130
             obtain ⟨y116, hy116⟩ : ∃ y_ : List (S25), y_ = (x6_1.set ((ji9) : Int).toNat (⟨(rd_T25 x6_1 (ji9)).f0, t115⟩ : S25)) := ⟨_, rfl⟩
             replace H : (span_Join.l0 k1 y116 x27_1 (t105.length : Int) (wrap64 (x29_1 + 1))) = some r := by first | (rw [hy116]; with_reducible exact H) | (have H2_ := (Option.bind_some _ _).symm.trans H; rw [hy116]; with_reducible exact H2_) | (have H2_ := (Option.bind_some _ _).symm.trans H; with_reducible exact H2_) | with_reducible exact H | (rw [hy116]; exact H) | exact H
             have Ny116 := Aside0.mk hy116
             clear hy116
             have H' := Aside0.mk H
             clear H
             have p108 : 0 ≤ (x29_1 : Int) := of_decide_eq_true (by first | (with_reducible assumption) | assumption)
             have q108 : x29_1 < (x27_1.length : Int) := of_decide_eq_true (by first | (with_reducible assumption) | assumption)
             obtain ⟨ad108, e108, hx108_0, hx108_1⟩ := at_T25 (Kd.R_reads' HO_27.out).2.2 x29_1 p108 q108
             cases e108
             replace p108 := eq_true p108
             replace q108 := eq_true q108
             try go_wp2_with (first | ((with_reducible refine gate_dst (N := 8) rfl ?_); refine box_event ?hg (N := 8) ?hd (cs := #[.int .i64 0, .int .i64 0]) (t := 25) ?hr ?_; (case hd => rfl); (case hg => rfl); (case hr => first | (go_simp; done) | (go_simp; rfl)); intro gb109 hg w15 hbox hb; have n0_ := Aside0.mk (Kd.R_below (Kd.R_elderB (rq HO_6.out) gb109 (Nat.le_of_eq hg.symm)) hb); have n1_ := Aside0.mk (Kd.R_below (Kd.R_elderB (rq HO_27.out) gb109 (Nat.le_of_eq hg.symm)) hb); have n2_ := Aside0.mk (below_step (bs HB.out) hb); have n3_ := Aside0.mk (hbox); have n4_ := Aside0.mk ((by rw [hg]; exact (below_size (bs HB.out)) : w.heap.size ≤ gb109)); have n5_ := n4_; clear HO_6; clear HO_27; clear HB; have HO_6 := n0_; have HO_27 := n1_; have HB := n2_; have BK109 := n3_; have GW109 := n4_; have GE109 := n5_; clear n0_ n1_ n2_ n3_ n4_ n5_; clear hb hbox hg; obtain ⟨hcz16_0, hcz16_1⟩ := bc2 BK109.out; obtain ⟨hfz16_0, hfz16_1⟩ := bf2 BK109.out; obtain ⟨Ao17, co17, eo17⟩ := Kd.R_slice HO_6.out; subst eo17))
             have n0_ : Aside0 (Kd.R k25 25 ((w15.setCell ⟨gb109, 0, none⟩ (.int .i64 ((rd_T25 x27_1 x29_1).f0))).setCell ⟨gb109, 1, none⟩ (.int .i64 ((rd_T25 x27_1 x29_1).f1))) w.heap.size (fun k_ => some k_ ≠ (.slice (some ad108) x27_1.length co4 : Value).ownBlock ∧ k_ ≠ gb109) (.slice Ao17 x6_1.length co17) x6_1) := ⟨by (with_reducible repeat (first | apply Kd.R_alloc | apply Kd.R_drewN | apply Kd.R_drew)); exact Kd.R_mono (Kd.R_far (p := ⟨gb109, 1, none⟩) (Kd.R_far (p := ⟨gb109, 0, none⟩) (Kd.R_mono HO_6.out (fun k_ hk => (⟨hk, hk.2⟩ : _ ∧ k_ ≠ gb109))) (fun _ hk => hk.2) (.int .i64 ((rd_T25 x27_1 x29_1).f0))) (fun _ hk => hk.2) (.int .i64 ((rd_T25 x27_1 x29_1).f1))) (fun _ hk => ⟨hk.1.1, hk.1.2⟩)⟩
             have n1_ : Aside0 (Kd.R k25 25 ((w15.setCell ⟨gb109, 0, none⟩ (.int .i64 ((rd_T25 x27_1 x29_1).f0))).setCell ⟨gb109, 1, none⟩ (.int .i64 ((rd_T25 x27_1 x29_1).f1))) w.heap.size (fun k_ => some k_ ≠ (.slice Ao17 x6_1.length co17 : Value).ownBlock ∧ k_ ≠ gb109) (.slice (some ad108) x27_1.length co4) x27_1) := ⟨by (with_reducible repeat (first | apply Kd.R_alloc | apply Kd.R_drewN | apply Kd.R_drew)); exact Kd.R_mono (Kd.R_far (p := ⟨gb109, 1, none⟩) (Kd.R_far (p := ⟨gb109, 0, none⟩) (Kd.R_mono HO_27.out (fun k_ hk => (⟨hk, hk.2⟩ : _ ∧ k_ ≠ gb109))) (fun _ hk => hk.2) (.int .i64 ((rd_T25 x27_1 x29_1).f0))) (fun _ hk => hk.2) (.int .i64 ((rd_T25 x27_1 x29_1).f1))) (fun _ hk => ⟨hk.1.1, hk.1.2⟩)⟩
             have n2_ : Aside0 (((w15.setCell ⟨gb109, 0, none⟩ (.int .i64 ((rd_T25 x27_1 x29_1).f0))).setCell ⟨gb109, 1, none⟩ (.int .i64 ((rd_T25 x27_1 x29_1).f1))).heap[gb109]? = some (.cells #[.int .i64 ((rd_T25 x27_1 x29_1).f0), .int .i64 ((rd_T25 x27_1 x29_1).f1)] 25 (0, 0))) := ⟨by exact pt2 (bg BK109.out)⟩
             have n3_ : Aside0 (Below w.heap.size w ((w15.setCell ⟨gb109, 0, none⟩ (.int .i64 ((rd_T25 x27_1 x29_1).f0))).setCell ⟨gb109, 1, none⟩ (.int .i64 ((rd_T25 x27_1 x29_1).f1)))) := ⟨bs HB.out⟩
             (try clear HO_6)
             (try clear HO_27)
             (try clear BK109)
             (try clear HB)
             generalize ((w15.setCell ⟨gb109, 0, none⟩ (.int .i64 ((rd_T25 x27_1 x29_1).f0))).setCell ⟨gb109, 1, none⟩ (.int .i64 ((rd_T25 x27_1 x29_1).f1))) = w18 at n0_ n1_ n2_ n3_ ⊢
             have HO_6 := n0_
             have HO_27 := n1_
             have BK109 := n2_
             have HB := n3_
             clear n0_ n1_ n2_ n3_
             have n0_ := Aside0.mk (Kd.R_drew HO_6.out)
             have n1_ := Aside0.mk (Kd.R_drew HO_27.out)
             have n2_ := Aside0.mk (blk_drew BK109.out)
             have n3_ := Aside0.mk (below_drew1 HB.out)
             clear HO_6
             clear HO_27
             clear BK109
             clear HB
             have HO_6 := n0_
             have HO_27 := n1_
             have BK109 := n2_
             have HB := n3_
             clear n0_ n1_ n2_ n3_
             have p110 : 0 ≤ ((ji9) : Int) := of_decide_eq_true (by first | (with_reducible assumption) | assumption)
             have q110 : (ji9) < (x6_1.length : Int) := of_decide_eq_true (by first | (with_reducible assumption) | assumption)
             obtain ⟨ad110, e110, hx110_0, hx110_1⟩ := at_T25 (Kd.R_reads' HO_6.out).2.2 (ji9) p110 q110
             cases e110
             replace p110 := eq_true p110
             replace q110 := eq_true q110
             refine start_ (n := 13) (S := fun w' => w'.cell? ⟨gb109, 0, none⟩ = some (.int .i64 ((rd_T25 x27_1 x29_1).f0)) ∧ w'.cell? ⟨gb109, 1, none⟩ = some (.int .i64 ((rd_T25 x27_1 x29_1).f1)) ∧ w'.cell? (ad110.add (((ji9)).toNat * 2)) = some (.int .i64 ((rd_T25 x6_1 (ji9)).f0)) ∧ w'.cell? ⟨(ad110.add (((ji9)).toNat * 2)).block, (ad110.add (((ji9)).toNat * 2)).off + 1, none⟩ = some (.int .i64 ((rd_T25 x6_1 (ji9)).f1))) (ds := []) (bsq 0 13) (by kernel_rfl) rfl rfl ⟨(blk_cell BK109.out 0).trans rfl, (blk_cell BK109.out 1).trans rfl, hx110_0, hx110_1⟩ (fun hHeld => ?_); refine with_tabW span_Join.tab14 span_Join.bits14 (fun HT_ HW_ => ?_)
             generalize w18.drew = w19 at HO_6 HO_27 BK109 HB hx110_0 hx110_1 hHeld ⊢
             refine pu 0 35 (bsq 1 12) ?_
             refine pu 1 36 (bsq 2 11) ?_
             refine pu 2 37 (bsq 3 10) ?_
             refine pu 3 38 (bsq 4 9) ?_
             refine pu 5 40 (bls [4, 1, 1, 7]) ?_
             refine pu 6 41 (bls [4, 1, 2, 6]) ?_
             refine pu 7 42 (bls [4, 1, 3, 5]) ?_
             refine pu 8 43 (bls [4, 1, 4, 4]) ?_
             refine pu 9 44 (bls [4, 1, 5, 3]) ?_
             refine tk 4 39 (bsq 10 3) hHeld ?_ (he := by rintro w' ⟨s0, s1, s2, s3⟩; go_simp; with_reducible rfl)
             refine tk 10 45 (bsq 11 2) hHeld ?_ (he := by rintro w' ⟨s0, s1, s2, s3⟩; go_simp; with_reducible rfl)
             refine pu 11 46 (bsq 12 1) ?_
             refine pu 12 47 (bsq 13 0) ?_
             refine done_ (done_of HT_.out (by kernel_rfl)) ?_
             try go_wp2
             have n0_ := Aside0.mk (Kd.R_drew HO_6.out)
             have n1_ := Aside0.mk (Kd.R_drew HO_27.out)
             have n2_ := Aside0.mk (blk_drew BK109.out)
             have n3_ := Aside0.mk (below_drew1 HB.out)
             clear HO_6
             clear HO_27
             clear BK109
             clear HB
             have HO_6 := n0_
             have HO_27 := n1_
             have BK109 := n2_
             have HB := n3_
             clear n0_ n1_ n2_ n3_
             have p111 : 0 ≤ ((ji9) : Int) := of_decide_eq_true (by first | (with_reducible assumption) | assumption)
             have q111 : (ji9) < (x6_1.length : Int) := of_decide_eq_true (by first | (with_reducible assumption) | assumption)
             obtain ⟨ad111, e111, hx111_0, hx111_1⟩ := at_T25 (Kd.R_reads' HO_6.out).2.2 (ji9) p111 q111
             obtain rfl : ad110 = ad111 := (by injection e111)
             replace p111 := eq_true p111
             replace q111 := eq_true q111
             refine start_ (n := 16) (S := fun w' => w'.cell? ⟨gb109, 0, none⟩ = some (.int .i64 ((rd_T25 x27_1 x29_1).f0)) ∧ w'.cell? ⟨gb109, 1, none⟩ = some (.int .i64 ((rd_T25 x27_1 x29_1).f1)) ∧ w'.cell? (ad110.add (((ji9)).toNat * 2)) = some (.int .i64 ((rd_T25 x6_1 (ji9)).f0)) ∧ w'.cell? ⟨(ad110.add (((ji9)).toNat * 2)).block, (ad110.add (((ji9)).toNat * 2)).off + 1, none⟩ = some (.int .i64 ((rd_T25 x6_1 (ji9)).f1))) (ds := [15]) (bsq 0 16) (by kernel_rfl) rfl rfl ⟨(blk_cell BK109.out 0).trans rfl, (blk_cell BK109.out 1).trans rfl, hx111_0, hx111_1⟩ (fun hHeld => ?_); refine with_tabW span_Join.tab15 span_Join.bits15 (fun HT_ HW_ => ?_)
             generalize w19.drew = w20 at HO_6 HO_27 BK109 HB hx111_0 hx111_1 hHeld ⊢
             refine pu 0 48 (bsq 1 15) ?_
             refine pu 1 49 (bsq 2 14) ?_
             refine pu 2 50 (bsq 3 13) ?_
             refine pu 3 51 (bsq 4 12) ?_
             refine pu 4 52 (bsq 5 11) ?_
             refine pu 5 53 (bsq 6 10) ?_
             refine pu 6 54 (bsq 7 9) ?_
             refine pu 7 55 (bsq 8 8) ?_
             refine pu 9 57 (bls [8, 1, 1, 6]) ?_
             refine tk 8 56 (bsq 10 6) hHeld ?_ (he := by rintro w' ⟨s0, s1, s2, s3⟩; go_simp; with_reducible rfl)
             refine tk 10 58 (bsq 11 5) hHeld ?_ (he := by rintro w' ⟨s0, s1, s2, s3⟩; go_simp; with_reducible rfl)
             refine one_ (i := 11) (N := some 59) (bsq 12 4) rfl rfl (one_of HT_.out (by kernel_rfl)) (by decide) (fun K hK => ?_)
             refine Kd.R_lit_step (Kd.int .i64) _ 3 ?hg (N := 59) ?hd (xs := ([(rd_T25 x27_1 x29_1).f1] : List Int)) (inner := [.int .i64 ((rd_T25 x27_1 x29_1).f1)]) (ok := fun _ => True) (okp := fun _ => True) ?hr ?hp (fun _ hk => hk) trivial (Below.refl _ _) (Nat.le_refl _) (by simp) ?_; (case hd => rfl); (case hg => rfl); (case hr => first | (go_simp; done) | (go_simp; rfl)); (case hp => exact (Reps.one (show Kd.M (Kd.int .i64) _ _ _ ((rd_T25 x27_1 x29_1).f1) [.int .i64 ((rd_T25 x27_1 x29_1).f1)] from rfl) (Reps.none _ _)))
             intro v113 w21 ho22 hb hg_ hnew_
             have HS2_ := (hb.cell (World.block_lt_of_cell? _ _ (hHeld.2.2.1))).trans (hHeld.2.2.1)
             have HS3_ := (hb.cell (World.block_lt_of_cell? _ _ (hHeld.2.2.2))).trans (hHeld.2.2.2)
             clear hg_ hnew_
             (first | rw [← Ny112.out] at ho22 | (simp only [Int.reduceToNat] at ho22; rw [← Ny112.out] at ho22))
             have n0_ := Aside0.mk (Kd.R_below (rq HO_6.out) hb)
             have n1_ := Aside0.mk (Kd.R_below (rq HO_27.out) hb)
             have n2_ := Aside0.mk (Kd.R_lower ho22 (below_size (bs HB.out)))
             have n3_ := Aside0.mk (blk_below (bg BK109.out) hb)
             have n4_ := Aside0.mk (below_step (bs HB.out) hb)
             clear HO_6
             clear HO_27
             clear BK109
             clear HB
             have HO_6 := n0_
             have HO_27 := n1_
             have HO114 := n2_
             have BK109 := n3_
             have HB := n4_
             clear n0_ n1_ n2_ n3_ n4_
             clear hb ho22
             obtain ⟨Ao23, co23, eo23⟩ := Kd.R_slice HO114.out
             (first | subst eo23 | (injection eo23 with f1_ f2_ f3_; have f4_ := f1_.symm; have f5_ := f3_.symm; clear f1_ f2_ f3_; subst f4_; subst f5_))
             refine hK.out _ _ ⟨(blk_cell BK109.out 0).trans rfl, (blk_cell BK109.out 1).trans rfl, HS2_, HS3_⟩ (fun hHeld => ?_)
             clear hK K
             refine norm_ (a' := ?_) ?_ ?_
             rotate_left
             ·
              show Act.put _ (some 59) _ = _
              simp only [Act.put, List.setIfInBounds_toArray, List.set_cons_zero, List.set_cons_succ, i64_w, i32_w]
              rfl
             refine one_ (i := 12) (N := some 60) (bsq 13 3) rfl rfl (one_of HT_.out (by kernel_rfl)) (by decide) (fun K hK => ?_)
             refine goes_ Try.func28 (by kernel_rfl) rfl #[.int .i64 ((rd_T25 x6_1 (ji9)).f1), .slice Ao23 y112.length co23] (by rfl) rfl rfl (by (try simp only [List.map_toArray, List.map_cons, List.map_nil]); first | done | (simp only [hji9]; rfl) | rfl | (simp only [List.length_drop, List.length_take]; rfl)) ?_
             with_reducible refine (span_latest.calls k1 ((rd_T25 x6_1 (ji9)).f1) _ _ y112 t115 _ ?side1 ?side2 A13.out).mono ?_
             (case side1 => repeat (first | exact (Kd.R_reads' HO114.out).2.2 | (with_reducible refine Kd.C_alloc ?_ _) | (with_reducible refine Kd.C_drewN ?_ _) | (with_reducible refine Kd.C_drew ?_)))
             (case side2 => exact (Kd.R_reads' HO114.out).2.1)
             rintro e w24 ⟨rfl, hb⟩
             have HS2_ := (hb.cell (World.block_lt_of_cell? _ _ (hHeld.2.2.1))).trans (hHeld.2.2.1)
             have HS3_ := (hb.cell (World.block_lt_of_cell? _ _ (hHeld.2.2.2))).trans (hHeld.2.2.2)
             refine ⟨_, rfl, ?_⟩
             have n0_ := Aside0.mk (Kd.R_below (rq HO_6.out) hb)
             have n1_ := Aside0.mk (Kd.R_below (rq HO_27.out) hb)
             have n2_ := Aside0.mk (Kd.R_below (rq HO114.out) hb)
             have n3_ := Aside0.mk (blk_below (bg BK109.out) hb)
             have n4_ := Aside0.mk (below_step (bs HB.out) hb)
             clear HO_6
             clear HO_27
             clear HO114
             clear BK109
             clear HB
             have HO_6 := n0_
             have HO_27 := n1_
             have HO114 := n2_
             have BK109 := n3_
             have HB := n4_
             clear n0_ n1_ n2_ n3_ n4_
             (try clear hb)
             (try clear hb2)
             (try clear hk)
             (try clear hi)
             have p14 : 0 ≤ ((ji9) : Int) := of_decide_eq_true (by first | (with_reducible assumption) | assumption)
             have q14 : ((ji9) : Int) < ((x6_1.length : Int) : Int) := of_decide_eq_true (by first | (with_reducible assumption) | assumption)
             obtain ⟨go14, co14, eo14, gb14, gl14, cl14, HG14⟩ := Kd.R_form HO_6.out (by omega)
             (first | cases eo14 | (injection eo14 with ea_ en_ ec_; (first | subst ea_ | (injection ea_ with ea_; subst ea_)); subst ec_; clear en_))
             have GB14 := Aside0.mk gb14
             have GG14 := Aside0.mk HG14
             clear gb14 gl14 HG14
             (first | simp only [add_plain] at hx110_0 | skip)
             (first | simp only [add_plain] at hx110_1 | skip)
             (first | simp only [add_plain] at hx111_0 | skip)
             (first | simp only [add_plain] at hx111_1 | skip)
             obtain ⟨ce14, hcl14, hM14, hcc14, hfr14⟩ := Kd.R_elem HO_6.out z25 ((ji9) : Int) p14 q14
             obtain rfl := k25_openM hM14
             have hx14_0 : World.cell? _ ⟨go14, ((ji9) : Int).toNat * 2, none⟩ = some (.int .i64 ((rd_T25 x6_1 (ji9)).f0)) := hcc14 0 _ rfl
             have hx14_1 : World.cell? _ ⟨go14, ((ji9) : Int).toNat * 2 + 1, none⟩ = some (.int .i64 ((rd_T25 x6_1 (ji9)).f1)) := hcc14 1 _ rfl
             have hf14_0 : World.frozen? _ ⟨go14, ((ji9) : Int).toNat * 2, none⟩ = false := hfr14 0
             have hf14_1 : World.frozen? _ ⟨go14, ((ji9) : Int).toNat * 2 + 1, none⟩ = false := hfr14 1
             clear hcl14 hcc14 hfr14; (try clear hM14)
             replace p14 := eq_true p14
             replace q14 := eq_true q14
             obtain ⟨ce25, hcl25, hM25, hcc25, hfr25⟩ := Kd.R_elem HO_6.out z25 ((ji9) : Int) (of_decide_eq_true (by first | (with_reducible assumption) | assumption)) (by have h_ : ((ji9) : Int) < ((x6_1.length : Int) : Int) := of_decide_eq_true (by first | (with_reducible assumption) | assumption); first | exact h_ | (have e_ := (Kd.R_reads' HO_6.out).1; omega) | simpa using h_)
             obtain rfl := k25_openM hM25
             have HP25 := (Kd.R_seg HO_6.out ((ji9) : Int) (of_decide_eq_true (by first | (with_reducible assumption) | assumption)) (by have h_ : ((ji9) : Int) < ((x6_1.length : Int) : Int) := of_decide_eq_true (by first | (with_reducible assumption) | assumption); first | exact h_ | (have e_ := (Kd.R_reads' HO_6.out).1; omega) | simpa using h_) (seg := [.int .i64 t115]) (j := 1) hcl25 hcc25 (show 2 ≤ 2 from by decide) (x' := (⟨(rd_T25 x6_1 (ji9)).f0, t115⟩ : S25)) (k25_mkM _ _ _ (⟨(rd_T25 x6_1 (ji9)).f0, t115⟩ : S25) ) (fun _ hk => hk)).1
             rw [← Ny116.out] at HP25
             have HQ25 := Aside0.mk HP25
             clear hcl25 hcc25 hfr25 HP25; (try clear hM25)
             refine hK.out _ _ ⟨(blk_cell BK109.out 0).trans rfl, (blk_cell BK109.out 1).trans rfl, HS2_, HS3_⟩ (fun hHeld => ?_)
             clear hK K
             refine norm_ (a' := ?_) ?_ ?_
             rotate_left
             ·
              show Act.put _ (some 60) _ = _
              simp only [Act.put, List.setIfInBounds_toArray, List.set_cons_zero, List.set_cons_succ, i64_w, i32_w]
              rfl
             refine pu 13 61 (bsq 14 2) ?_
             refine pu 14 62 (bsq 15 1) ?_
             refine last_ (i := 15) (N := none) (bsq 16 0) rfl rfl (one_of HT_.out (by kernel_rfl)) (by decide) (fun K hK => ?_)
             refine skip_ (w1 := ?_) (by rfl) rfl ?_ ?_
             rotate_left
             ·
              go_simp
              rfl
             refine hK.out _ _ ?_
             clear hK K
             refine done_ (done_of HT_.out (by kernel_rfl)) ?_
             try go_wp2
             (try simp only [← hl27_1])
             go_roundg k1
             case measure => have := HK1.out; omega
             case rel => exact ⟨(y116), (x27_1), (wrap64 (x29_1 + 1)), (by first | rfl | (simp; done) | (simp [*]; done)), H', ⟨by have := HK1.out; omega⟩, ⟨by (try simp only [hl27_1]); (with_reducible repeat (first | apply Kd.R_alloc | apply Kd.R_drewN | apply Kd.R_drew)); exact Kd.R_mono HQ25.out (fun _ hk => hk.1)⟩, ⟨by (try simp only [hl27_1]); (with_reducible repeat (first | apply Kd.R_alloc | apply Kd.R_drewN | apply Kd.R_drew)); exact Kd.R_mono (Kd.R_far (p := ⟨go14, ((ji9) : Int).toNat * 2 + 1, none⟩) (Kd.R_mono HO_27.out (fun k_ hk => (⟨hk, fun e_ => hk.1 (by rw [e_]; rfl)⟩ : _ ∧ k_ ≠ go14))) (fun _ hk => hk.2) (.int .i64 t115)) (fun _ hk => hk.1.1)⟩, ⟨by repeat (first | (with_reducible first | exact HB.out | apply below_alloc | apply pw_below_drewN | apply below_drew1 | refine below_set ?_ GB14.out | refine below_set ?_ GE109.out) | exact HB.out)⟩⟩
            ·
             rw [if_neg c12] at H
             have c12b0 : decide (((rd_T25 x27_1 x29_1).f0) ≤ ((rd_T25 x6_1 (ji9)).f1)) = false := decide_eq_false c12
             clear c12
             by_cases c26 : x6_1.length < 8796093022208
             ·
              rw [if_pos c26] at H
              have LMc26 := Aside0.mk c26
              clear c26
              obtain ⟨y117, hy117⟩ : ∃ y_ : List (S25), y_ = (x6_1 ++ [(⟨(rd_T25 x27_1 x29_1).f0, (rd_T25 x27_1 x29_1).f1⟩ : S25)]) := ⟨_, rfl⟩
              replace H : (span_Join.l0 k1 y117 x27_1 (t105.length : Int) (wrap64 (x29_1 + 1))) = some r := by first | (rw [hy117]; with_reducible exact H) | (have H2_ := (Option.bind_some _ _).symm.trans H; rw [hy117]; with_reducible exact H2_) | (have H2_ := (Option.bind_some _ _).symm.trans H; with_reducible exact H2_) | with_reducible exact H | (rw [hy117]; exact H) | exact H
              have Ny117 := Aside0.mk hy117
              clear hy117
              have H' := Aside0.mk H
              clear H
              have p108 : 0 ≤ (x29_1 : Int) := of_decide_eq_true (by first | (with_reducible assumption) | assumption)
              have q108 : x29_1 < (x27_1.length : Int) := of_decide_eq_true (by first | (with_reducible assumption) | assumption)
              obtain ⟨ad108, e108, hx108_0, hx108_1⟩ := at_T25 (Kd.R_reads' HO_27.out).2.2 x29_1 p108 q108
              cases e108
              replace p108 := eq_true p108
              replace q108 := eq_true q108
              try go_wp2_with (first | ((with_reducible refine gate_dst (N := 8) rfl ?_); refine box_event ?hg (N := 8) ?hd (cs := #[.int .i64 0, .int .i64 0]) (t := 25) ?hr ?_; (case hd => rfl); (case hg => rfl); (case hr => first | (go_simp; done) | (go_simp; rfl)); intro gb109 hg w27 hbox hb; have n0_ := Aside0.mk (Kd.R_below (Kd.R_elderB (rq HO_6.out) gb109 (Nat.le_of_eq hg.symm)) hb); have n1_ := Aside0.mk (Kd.R_below (Kd.R_elderB (rq HO_27.out) gb109 (Nat.le_of_eq hg.symm)) hb); have n2_ := Aside0.mk (below_step (bs HB.out) hb); have n3_ := Aside0.mk (hbox); have n4_ := Aside0.mk ((by rw [hg]; exact (below_size (bs HB.out)) : w.heap.size ≤ gb109)); have n5_ := n4_; clear HO_6; clear HO_27; clear HB; have HO_6 := n0_; have HO_27 := n1_; have HB := n2_; have BK109 := n3_; have GW109 := n4_; have GE109 := n5_; clear n0_ n1_ n2_ n3_ n4_ n5_; clear hb hbox hg; obtain ⟨hcz28_0, hcz28_1⟩ := bc2 BK109.out; obtain ⟨hfz28_0, hfz28_1⟩ := bf2 BK109.out; obtain ⟨Ao29, co29, eo29⟩ := Kd.R_slice HO_6.out; subst eo29))
              have n0_ : Aside0 (Kd.R k25 25 ((w27.setCell ⟨gb109, 0, none⟩ (.int .i64 ((rd_T25 x27_1 x29_1).f0))).setCell ⟨gb109, 1, none⟩ (.int .i64 ((rd_T25 x27_1 x29_1).f1))) w.heap.size (fun k_ => some k_ ≠ (.slice (some ad108) x27_1.length co4 : Value).ownBlock ∧ k_ ≠ gb109) (.slice Ao29 x6_1.length co29) x6_1) := ⟨by (with_reducible repeat (first | apply Kd.R_alloc | apply Kd.R_drewN | apply Kd.R_drew)); exact Kd.R_mono (Kd.R_far (p := ⟨gb109, 1, none⟩) (Kd.R_far (p := ⟨gb109, 0, none⟩) (Kd.R_mono HO_6.out (fun k_ hk => (⟨hk, hk.2⟩ : _ ∧ k_ ≠ gb109))) (fun _ hk => hk.2) (.int .i64 ((rd_T25 x27_1 x29_1).f0))) (fun _ hk => hk.2) (.int .i64 ((rd_T25 x27_1 x29_1).f1))) (fun _ hk => ⟨hk.1.1, hk.1.2⟩)⟩
              have n1_ : Aside0 (Kd.R k25 25 ((w27.setCell ⟨gb109, 0, none⟩ (.int .i64 ((rd_T25 x27_1 x29_1).f0))).setCell ⟨gb109, 1, none⟩ (.int .i64 ((rd_T25 x27_1 x29_1).f1))) w.heap.size (fun k_ => some k_ ≠ (.slice Ao29 x6_1.length co29 : Value).ownBlock ∧ k_ ≠ gb109) (.slice (some ad108) x27_1.length co4) x27_1) := ⟨by (with_reducible repeat (first | apply Kd.R_alloc | apply Kd.R_drewN | apply Kd.R_drew)); exact Kd.R_mono (Kd.R_far (p := ⟨gb109, 1, none⟩) (Kd.R_far (p := ⟨gb109, 0, none⟩) (Kd.R_mono HO_27.out (fun k_ hk => (⟨hk, hk.2⟩ : _ ∧ k_ ≠ gb109))) (fun _ hk => hk.2) (.int .i64 ((rd_T25 x27_1 x29_1).f0))) (fun _ hk => hk.2) (.int .i64 ((rd_T25 x27_1 x29_1).f1))) (fun _ hk => ⟨hk.1.1, hk.1.2⟩)⟩
              have n2_ : Aside0 (((w27.setCell ⟨gb109, 0, none⟩ (.int .i64 ((rd_T25 x27_1 x29_1).f0))).setCell ⟨gb109, 1, none⟩ (.int .i64 ((rd_T25 x27_1 x29_1).f1))).heap[gb109]? = some (.cells #[.int .i64 ((rd_T25 x27_1 x29_1).f0), .int .i64 ((rd_T25 x27_1 x29_1).f1)] 25 (0, 0))) := ⟨by exact pt2 (bg BK109.out)⟩
              have n3_ : Aside0 (Below w.heap.size w ((w27.setCell ⟨gb109, 0, none⟩ (.int .i64 ((rd_T25 x27_1 x29_1).f0))).setCell ⟨gb109, 1, none⟩ (.int .i64 ((rd_T25 x27_1 x29_1).f1)))) := ⟨bs HB.out⟩
              (try clear HO_6)
              (try clear HO_27)
              (try clear BK109)
              (try clear HB)
              generalize ((w27.setCell ⟨gb109, 0, none⟩ (.int .i64 ((rd_T25 x27_1 x29_1).f0))).setCell ⟨gb109, 1, none⟩ (.int .i64 ((rd_T25 x27_1 x29_1).f1))) = w30 at n0_ n1_ n2_ n3_ ⊢
              have HO_6 := n0_
              have HO_27 := n1_
              have BK109 := n2_
              have HB := n3_
              clear n0_ n1_ n2_ n3_
              have n0_ := Aside0.mk (Kd.R_drew HO_6.out)
              have n1_ := Aside0.mk (Kd.R_drew HO_27.out)
              have n2_ := Aside0.mk (blk_drew BK109.out)
              have n3_ := Aside0.mk (below_drew1 HB.out)
              clear HO_6
              clear HO_27
              clear BK109
              clear HB
              have HO_6 := n0_
              have HO_27 := n1_
              have BK109 := n2_
              have HB := n3_
              clear n0_ n1_ n2_ n3_
              have p110 : 0 ≤ ((ji9) : Int) := of_decide_eq_true (by first | (with_reducible assumption) | assumption)
              have q110 : (ji9) < (x6_1.length : Int) := of_decide_eq_true (by first | (with_reducible assumption) | assumption)
              obtain ⟨ad110, e110, hx110_0, hx110_1⟩ := at_T25 (Kd.R_reads' HO_6.out).2.2 (ji9) p110 q110
              cases e110
              replace p110 := eq_true p110
              replace q110 := eq_true q110
              refine start_ (n := 13) (S := fun w' => w'.cell? ⟨gb109, 0, none⟩ = some (.int .i64 ((rd_T25 x27_1 x29_1).f0)) ∧ w'.cell? ⟨gb109, 1, none⟩ = some (.int .i64 ((rd_T25 x27_1 x29_1).f1)) ∧ w'.cell? (ad110.add (((ji9)).toNat * 2)) = some (.int .i64 ((rd_T25 x6_1 (ji9)).f0)) ∧ w'.cell? ⟨(ad110.add (((ji9)).toNat * 2)).block, (ad110.add (((ji9)).toNat * 2)).off + 1, none⟩ = some (.int .i64 ((rd_T25 x6_1 (ji9)).f1))) (ds := []) (bsq 0 13) (by kernel_rfl) rfl rfl ⟨(blk_cell BK109.out 0).trans rfl, (blk_cell BK109.out 1).trans rfl, hx110_0, hx110_1⟩ (fun hHeld => ?_); refine with_tabW span_Join.tab14 span_Join.bits14 (fun HT_ HW_ => ?_)
              generalize w30.drew = w31 at HO_6 HO_27 BK109 HB hx110_0 hx110_1 hHeld ⊢
              refine pu 0 35 (bsq 1 12) ?_
              refine pu 1 36 (bsq 2 11) ?_
              refine pu 2 37 (bsq 3 10) ?_
              refine pu 3 38 (bsq 4 9) ?_
              refine pu 5 40 (bls [4, 1, 1, 7]) ?_
              refine pu 6 41 (bls [4, 1, 2, 6]) ?_
              refine pu 7 42 (bls [4, 1, 3, 5]) ?_
              refine pu 8 43 (bls [4, 1, 4, 4]) ?_
              refine pu 9 44 (bls [4, 1, 5, 3]) ?_
              refine tk 4 39 (bsq 10 3) hHeld ?_ (he := by rintro w' ⟨s0, s1, s2, s3⟩; go_simp; with_reducible rfl)
              refine tk 10 45 (bsq 11 2) hHeld ?_ (he := by rintro w' ⟨s0, s1, s2, s3⟩; go_simp; with_reducible rfl)
              refine pu 11 46 (bsq 12 1) ?_
              refine pu 12 47 (bsq 13 0) ?_
              refine done_ (done_of HT_.out (by kernel_rfl)) ?_
              obtain ⟨hcz32_0, hcz32_1⟩ := bc2 BK109.out
              obtain ⟨hfz32_0, hfz32_1⟩ := bf2 BK109.out
              try go_wp2_with (first | ((with_reducible refine gate_builtin (b := .append) (xs := #[.tmp 63, .tmp 65]) rfl ?_); at_builtin; refine Kd.R_append k25 (w0 := w) w.heap.size rfl (.tmp 63) (.tmp 65) 22 25 (.agg #[(.int .i64 0), (.int .i64 0)]) 16 rfl Try.underlying22 info25 rfl (by decide) (by omega) (.slice (some ad110) x6_1.length co29) x6_1 (⟨(rd_T25 x27_1 x29_1).f0, (rd_T25 x27_1 x29_1).f1⟩ : S25) [.int .i64 ((rd_T25 x27_1 x29_1).f0), .int .i64 ((rd_T25 x27_1 x29_1).f1)] (fun k_ => some k_ ≠ (.slice (some ad108) x27_1.length co4 : Value).ownBlock ∧ k_ ≠ gb109) (fun _ => False) rfl rfl ?aP (fun _ hk => hk.elim) ?aF ?aO ?aB ?aS ?aL ?_; (case aP => exact k25_mkM _ _ _ (⟨(rd_T25 x27_1 x29_1).f0, (rd_T25 x27_1 x29_1).f1⟩ : S25)); (case aB => exact (bs HB.out)); (case aF => exact (fun k_ hk => ⟨Kd.fresh' (Kd.R_lt (rq HO_27.out)) k_ hk, Kd.freshB (g := gb109) (o := .cells #[.int .i64 ((rd_T25 x27_1 x29_1).f0), .int .i64 ((rd_T25 x27_1 x29_1).f1)] 25 (0, 0)) (bg BK109.out) k_ hk⟩)); (case aO => exact (rq HO_6.out)); (case aS => exact (below_size (bs HB.out))); (case aL => have := LMc26.out; omega); intro v118 w33 ho hb hg hat; rw [← Ny117.out] at ho; have n0_ := Aside0.mk (Kd.R_after (ok := (fun k_ => k_ ≠ gb109)) (by (with_reducible repeat (first | apply Kd.R_alloc | apply Kd.R_drewN | apply Kd.R_drew)); exact Kd.R_mono HO_27.out (fun _ hk => ⟨hk.2, hk.1⟩)) hg hat); have n1_ := Aside0.mk (blk_grown (g := gb109) (o := .cells #[.int .i64 ((rd_T25 x27_1 x29_1).f0), .int .i64 ((rd_T25 x27_1 x29_1).f1)] 25 (0, 0)) (bg BK109.out) hg (Kd.R_away HO_6.out (fun _ hk => hk.2))); have n2_ := Aside0.mk (hb); have n3_ := Aside0.mk (ho); clear HO_27; clear BK109; clear HB; clear HO_6; have HO_27 := n0_; have BK109 := n1_; have HB := n2_; have HO119 := n3_; clear n0_ n1_ n2_ n3_; clear ho hb hg hat))
              (try simp only [← hl27_1])
              go_roundg k1
              case measure => have := HK1.out; omega
              case rel => exact ⟨(y117), (x27_1), (wrap64 (x29_1 + 1)), (by first | rfl | (simp; done) | (simp [*]; done)), H', ⟨by have := HK1.out; omega⟩, ⟨by (try simp only [hl27_1]); (with_reducible repeat (first | apply Kd.R_alloc | apply Kd.R_drewN | apply Kd.R_drew)); exact Kd.R_mono HO119.out (fun _ hk => hk.1)⟩, ⟨by (try simp only [hl27_1]); (with_reducible repeat (first | apply Kd.R_alloc | apply Kd.R_drewN | apply Kd.R_drew)); exact Kd.R_mono HO_27.out (fun _ hk => hk.2)⟩, ⟨bs HB.out⟩⟩
             ·
              rw [if_neg c26] at H
              exact absurd H (by simp)
           ·
            rw [if_neg c11] at H
            exact absurd H (by simp)
          ·
           rw [if_neg c10] at H
           exact absurd H (by simp)
         ·
          rw [if_neg c8] at H
          have c8b0 : decide (0 < (x6_1.length : Int)) = false := decide_eq_false c8
          have c8b1 : decide (0 < x6_1.length) = false := decide_eq_false (by omega)
          clear c8
          by_cases c34 : x6_1.length < 8796093022208
          ·
           rw [if_pos c34] at H
           have LMc34 := Aside0.mk c34
           clear c34
           obtain ⟨y120, hy120⟩ : ∃ y_ : List (S25), y_ = (x6_1 ++ [(⟨(rd_T25 x27_1 x29_1).f0, (rd_T25 x27_1 x29_1).f1⟩ : S25)]) := ⟨_, rfl⟩
           replace H : (span_Join.l0 k1 y120 x27_1 (t105.length : Int) (wrap64 (x29_1 + 1))) = some r := by first | (rw [hy120]; with_reducible exact H) | (have H2_ := (Option.bind_some _ _).symm.trans H; rw [hy120]; with_reducible exact H2_) | (have H2_ := (Option.bind_some _ _).symm.trans H; with_reducible exact H2_) | with_reducible exact H | (rw [hy120]; exact H) | exact H
           have Ny120 := Aside0.mk hy120
           clear hy120
           have H' := Aside0.mk H
           clear H
           have p108 : 0 ≤ (x29_1 : Int) := of_decide_eq_true (by first | (with_reducible assumption) | assumption)
           have q108 : x29_1 < (x27_1.length : Int) := of_decide_eq_true (by first | (with_reducible assumption) | assumption)
           obtain ⟨ad108, e108, hx108_0, hx108_1⟩ := at_T25 (Kd.R_reads' HO_27.out).2.2 x29_1 p108 q108
           cases e108
           replace p108 := eq_true p108
           replace q108 := eq_true q108
           try go_wp2_with (first | ((with_reducible refine gate_dst (N := 8) rfl ?_); refine box_event ?hg (N := 8) ?hd (cs := #[.int .i64 0, .int .i64 0]) (t := 25) ?hr ?_; (case hd => rfl); (case hg => rfl); (case hr => first | (go_simp; done) | (go_simp; rfl)); intro gb109 hg w35 hbox hb; have n0_ := Aside0.mk (Kd.R_below (Kd.R_elderB (rq HO_6.out) gb109 (Nat.le_of_eq hg.symm)) hb); have n1_ := Aside0.mk (Kd.R_below (Kd.R_elderB (rq HO_27.out) gb109 (Nat.le_of_eq hg.symm)) hb); have n2_ := Aside0.mk (below_step (bs HB.out) hb); have n3_ := Aside0.mk (hbox); have n4_ := Aside0.mk ((by rw [hg]; exact (below_size (bs HB.out)) : w.heap.size ≤ gb109)); have n5_ := n4_; clear HO_6; clear HO_27; clear HB; have HO_6 := n0_; have HO_27 := n1_; have HB := n2_; have BK109 := n3_; have GW109 := n4_; have GE109 := n5_; clear n0_ n1_ n2_ n3_ n4_ n5_; clear hb hbox hg; obtain ⟨hcz36_0, hcz36_1⟩ := bc2 BK109.out; obtain ⟨hfz36_0, hfz36_1⟩ := bf2 BK109.out; obtain ⟨Ao37, co37, eo37⟩ := Kd.R_slice HO_6.out; subst eo37))
           have n0_ : Aside0 (Kd.R k25 25 ((w35.setCell ⟨gb109, 0, none⟩ (.int .i64 ((rd_T25 x27_1 x29_1).f0))).setCell ⟨gb109, 1, none⟩ (.int .i64 ((rd_T25 x27_1 x29_1).f1))) w.heap.size (fun k_ => some k_ ≠ (.slice (some ad108) x27_1.length co4 : Value).ownBlock ∧ k_ ≠ gb109) (.slice Ao37 x6_1.length co37) x6_1) := ⟨by (with_reducible repeat (first | apply Kd.R_alloc | apply Kd.R_drewN | apply Kd.R_drew)); exact Kd.R_mono (Kd.R_far (p := ⟨gb109, 1, none⟩) (Kd.R_far (p := ⟨gb109, 0, none⟩) (Kd.R_mono HO_6.out (fun k_ hk => (⟨hk, hk.2⟩ : _ ∧ k_ ≠ gb109))) (fun _ hk => hk.2) (.int .i64 ((rd_T25 x27_1 x29_1).f0))) (fun _ hk => hk.2) (.int .i64 ((rd_T25 x27_1 x29_1).f1))) (fun _ hk => ⟨hk.1.1, hk.1.2⟩)⟩
           have n1_ : Aside0 (Kd.R k25 25 ((w35.setCell ⟨gb109, 0, none⟩ (.int .i64 ((rd_T25 x27_1 x29_1).f0))).setCell ⟨gb109, 1, none⟩ (.int .i64 ((rd_T25 x27_1 x29_1).f1))) w.heap.size (fun k_ => some k_ ≠ (.slice Ao37 x6_1.length co37 : Value).ownBlock ∧ k_ ≠ gb109) (.slice (some ad108) x27_1.length co4) x27_1) := ⟨by (with_reducible repeat (first | apply Kd.R_alloc | apply Kd.R_drewN | apply Kd.R_drew)); exact Kd.R_mono (Kd.R_far (p := ⟨gb109, 1, none⟩) (Kd.R_far (p := ⟨gb109, 0, none⟩) (Kd.R_mono HO_27.out (fun k_ hk => (⟨hk, hk.2⟩ : _ ∧ k_ ≠ gb109))) (fun _ hk => hk.2) (.int .i64 ((rd_T25 x27_1 x29_1).f0))) (fun _ hk => hk.2) (.int .i64 ((rd_T25 x27_1 x29_1).f1))) (fun _ hk => ⟨hk.1.1, hk.1.2⟩)⟩
           have n2_ : Aside0 (((w35.setCell ⟨gb109, 0, none⟩ (.int .i64 ((rd_T25 x27_1 x29_1).f0))).setCell ⟨gb109, 1, none⟩ (.int .i64 ((rd_T25 x27_1 x29_1).f1))).heap[gb109]? = some (.cells #[.int .i64 ((rd_T25 x27_1 x29_1).f0), .int .i64 ((rd_T25 x27_1 x29_1).f1)] 25 (0, 0))) := ⟨by exact pt2 (bg BK109.out)⟩
           have n3_ : Aside0 (Below w.heap.size w ((w35.setCell ⟨gb109, 0, none⟩ (.int .i64 ((rd_T25 x27_1 x29_1).f0))).setCell ⟨gb109, 1, none⟩ (.int .i64 ((rd_T25 x27_1 x29_1).f1)))) := ⟨bs HB.out⟩
           (try clear HO_6)
           (try clear HO_27)
           (try clear BK109)
           (try clear HB)
           generalize ((w35.setCell ⟨gb109, 0, none⟩ (.int .i64 ((rd_T25 x27_1 x29_1).f0))).setCell ⟨gb109, 1, none⟩ (.int .i64 ((rd_T25 x27_1 x29_1).f1))) = w38 at n0_ n1_ n2_ n3_ ⊢
           have HO_6 := n0_
           have HO_27 := n1_
           have BK109 := n2_
           have HB := n3_
           clear n0_ n1_ n2_ n3_
           have n0_ := Aside0.mk (Kd.R_drew HO_6.out)
           have n1_ := Aside0.mk (Kd.R_drew HO_27.out)
           have n2_ := Aside0.mk (blk_drew BK109.out)
           have n3_ := Aside0.mk (below_drew1 HB.out)
           clear HO_6
           clear HO_27
           clear BK109
           clear HB
           have HO_6 := n0_
           have HO_27 := n1_
           have BK109 := n2_
           have HB := n3_
           clear n0_ n1_ n2_ n3_
           refine start_ (n := 13) (S := fun w' => True) (ds := []) (bsq 0 13) (by kernel_rfl) rfl rfl trivial (fun hHeld => ?_); refine with_tabW span_Join.tab14 span_Join.bits14 (fun HT_ HW_ => ?_)
           generalize w38.drew = w39 at HO_6 HO_27 BK109 HB hHeld ⊢
           refine pu 0 35 (bsq 1 12) ?_
           refine pu 1 36 (bsq 2 11) ?_
           refine pu 2 37 (bsq 3 10) ?_
           refine un 3 38 (bsq 4 9) ?_
           refine un 4 39 (bsq 5 8) ?_
           refine un 5 40 (bsq 6 7) ?_
           refine un 6 41 (bsq 7 6) ?_
           refine un 7 42 (bsq 8 5) ?_
           refine un 8 43 (bsq 9 4) ?_
           refine un 9 44 (bsq 10 3) ?_
           refine un 10 45 (bsq 11 2) ?_
           refine un 11 46 (bsq 12 1) ?_
           refine pu 12 47 (bsq 13 0) ?_
           refine done_ (done_of HT_.out (by kernel_rfl)) ?_
           obtain ⟨hcz40_0, hcz40_1⟩ := bc2 BK109.out
           obtain ⟨hfz40_0, hfz40_1⟩ := bf2 BK109.out
           try go_wp2_with (first | ((with_reducible refine gate_builtin (b := .append) (xs := #[.tmp 63, .tmp 65]) rfl ?_); at_builtin; refine Kd.R_append k25 (w0 := w) w.heap.size rfl (.tmp 63) (.tmp 65) 22 25 (.agg #[(.int .i64 0), (.int .i64 0)]) 16 rfl Try.underlying22 info25 rfl (by decide) (by omega) (.slice Ao37 x6_1.length co37) x6_1 (⟨(rd_T25 x27_1 x29_1).f0, (rd_T25 x27_1 x29_1).f1⟩ : S25) [.int .i64 ((rd_T25 x27_1 x29_1).f0), .int .i64 ((rd_T25 x27_1 x29_1).f1)] (fun k_ => some k_ ≠ (.slice (some ad108) x27_1.length co4 : Value).ownBlock ∧ k_ ≠ gb109) (fun _ => False) rfl rfl ?aP (fun _ hk => hk.elim) ?aF ?aO ?aB ?aS ?aL ?_; (case aP => exact k25_mkM _ _ _ (⟨(rd_T25 x27_1 x29_1).f0, (rd_T25 x27_1 x29_1).f1⟩ : S25)); (case aB => exact (bs HB.out)); (case aF => exact (fun k_ hk => ⟨Kd.fresh' (Kd.R_lt (rq HO_27.out)) k_ hk, Kd.freshB (g := gb109) (o := .cells #[.int .i64 ((rd_T25 x27_1 x29_1).f0), .int .i64 ((rd_T25 x27_1 x29_1).f1)] 25 (0, 0)) (bg BK109.out) k_ hk⟩)); (case aO => exact (rq HO_6.out)); (case aS => exact (below_size (bs HB.out))); (case aL => have := LMc34.out; omega); intro v121 w41 ho hb hg hat; rw [← Ny120.out] at ho; have n0_ := Aside0.mk (Kd.R_after (ok := (fun k_ => k_ ≠ gb109)) (by (with_reducible repeat (first | apply Kd.R_alloc | apply Kd.R_drewN | apply Kd.R_drew)); exact Kd.R_mono HO_27.out (fun _ hk => ⟨hk.2, hk.1⟩)) hg hat); have n1_ := Aside0.mk (blk_grown (g := gb109) (o := .cells #[.int .i64 ((rd_T25 x27_1 x29_1).f0), .int .i64 ((rd_T25 x27_1 x29_1).f1)] 25 (0, 0)) (bg BK109.out) hg (Kd.R_away HO_6.out (fun _ hk => hk.2))); have n2_ := Aside0.mk (hb); have n3_ := Aside0.mk (ho); clear HO_27; clear BK109; clear HB; clear HO_6; have HO_27 := n0_; have BK109 := n1_; have HB := n2_; have HO122 := n3_; clear n0_ n1_ n2_ n3_; clear ho hb hg hat))
           (try simp only [← hl27_1])
           go_roundg k1
           case measure => have := HK1.out; omega
           case rel => exact ⟨(y120), (x27_1), (wrap64 (x29_1 + 1)), (by first | rfl | (simp; done) | (simp [*]; done)), H', ⟨by have := HK1.out; omega⟩, ⟨by (try simp only [hl27_1]); (with_reducible repeat (first | apply Kd.R_alloc | apply Kd.R_drewN | apply Kd.R_drew)); exact Kd.R_mono HO122.out (fun _ hk => hk.1)⟩, ⟨by (try simp only [hl27_1]); (with_reducible repeat (first | apply Kd.R_alloc | apply Kd.R_drewN | apply Kd.R_drew)); exact Kd.R_mono HO_27.out (fun _ hk => hk.2)⟩, ⟨bs HB.out⟩⟩
          ·
           rw [if_neg c34] at H
           exact absurd H (by simp)
        ·
         rw [if_neg c7] at H
         exact absurd H (by simp)
       ·
        rw [if_neg c6] at H
        exact absurd H (by simp)
      ·
       rw [if_neg c5] at H
       have c5b0 : decide (x29_1 < (t105.length : Int)) = false := decide_eq_false c5
       have c5b9 : decide (x29_1 < (x27_1.length : Int)) = false := by rw [← hl27_1]; exact c5b0
       clear c5
       obtain rfl := Option.some.inj H
       go_wp2
       go_ret
       exact ⟨_, by first | rfl | (simp [errW_none, errW_some] <;> rfl) | (simp [*, errW_none, errW_some] <;> rfl), by (with_reducible repeat (first | apply Kd.R_alloc | apply Kd.R_drewN | apply Kd.R_drew)); exact Kd.R_mono HO_6.out (fun _ hk => trivial), bs HB.out⟩
end Go.Proofs.Ytejmegaalfblmaa.H
