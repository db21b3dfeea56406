/- FeedSelects, in plain words; no condition. -/
import Derived.Test.YtioedeglgljblaaHQLevels
import Derived.Test.YtioedeglgljblaaH30
namespace Go.Proofs.Ytioedeglgljblaa.H
open Go.RowKit Go.Proofs.YtioedeglgljblaaW.PrintWords Go.Proofs.YtioedeglgljblaaW.PrintLast Go.Proofs.YtioedeglgljblaaW.PrintMore
set_option linter.unusedSimpArgs false
theorem levels_ok (ns : List ByteArray) (rs : List S46) (l : List ByteArray) (hc : Ev (fun k => capture_Check.f k ns rs) 0) (hn : ns.length ≤ 16) (hrs : rs.length ≤ 262144) (hok : RunsOk (maskOf ns.length) 1099511627776 rs) (hl : l.length ≤ 16) (hl0 : 0 < l.length) (hd : Distinct l) (hp : ∀ x ∈ l, 0 ≤ idxL x ns 0) :
    Ev (fun k => feed_Levels.f k ns rs l) (spansF (plOf ns l) rs 0, 0) := by
  unfold feed_Levels.f
  refine hc.bind ?_
  have hmm : ∀ x ∈ rs, 0 ≤ x.f0 ∧ x.f0 < 65536 := fun x hx => by
    have := runsOk_mem rs _ hok x hx
    have := mask_lt hn
    omega
  rcases places_loop ns hn rs hrs l (by omega) l.length 0 rfl (Nat.zero_le _) (by simp) (fun i' h => by omega) with ⟨r, g1, g0, g2, g3⟩ | ⟨g1, g2, g3, g4⟩
  · exact absurd ⟨hd, hp⟩ g0
  · simp only [if_true, if_neg (show ¬ (l.length : Int) = 0 by omega)]
    refine Ev.bind (g := fun k => feed_places.f k ns rs l) g3 ?_
    simp only [if_true]
    have := code_spans (plOf ns l) (by unfold plOf; rw [List.length_map]; omega) (fun p hp => by
      unfold plOf at hp
      obtain ⟨s, hs, rfl⟩ := List.mem_map.1 hp
      have := g2 s hs
      have := idx_lt ns s
      omega) rs hrs hmm rs.length 0 [] 0 rfl (Nat.zero_le _) (by simp)
    rw [List.drop_zero, List.nil_append] at this
    exact this
theorem idx_self (ns : List ByteArray) (hd : Distinct ns) (i : Nat) (hi : i < ns.length) : idxL ns[i] ns 0 = (i : Int) := by
  rcases idxL_law ns[i] ns 0 with ⟨_, h⟩ | ⟨j, hj, h1, h2, h3⟩
  · exact absurd rfl (h ns[i] (List.getElem_mem hi))
  · by_cases c : j < i
    · exact absurd h2 (hd i j hi c)
    · by_cases c2 : i < j
      · exact absurd rfl (h3 i c2)
      · rw [h1]; omega
theorem val_all (ns : List ByteArray) (hd : Distinct ns) (level : Nat) : ∀ (m i : Nat), ns.length - i = m → i ≤ ns.length → valF level (plOf ns (ns.drop i)) i + level % 2 ^ i = level % 2 ^ ns.length := by
  intro m
  induction m with
  | zero =>
    intro i h1 h2
    have he : i = ns.length := by omega
    subst he
    rw [List.drop_eq_nil_of_le (Nat.le_refl _), plOf, List.map_nil, valF, Nat.zero_add]
  | succ m ih =>
    intro i h1 h2
    have hi : i < ns.length := by omega
    have := ih (i + 1) (by omega) (by omega)
    rw [Nat.mod_pow_succ] at this
    rw [List.drop_eq_getElem_cons hi, show plOf ns (ns[i] :: ns.drop (i + 1)) = idxL ns[i] ns 0 :: plOf ns (ns.drop (i + 1)) from rfl, valF, idx_self ns hd i hi, Int.toNat_natCast]
    omega
theorem mask_eq {n : Nat} (h : n ≤ 16) : maskOf n = ((2 ^ n : Nat) : Int) - 1 := by
  have h2 := pow_le16 h
  have h3 := shl_nat 1 n (by omega) (by omega)
  rw [show ((1 : Nat) : Int) = 1 from rfl] at h3
  have h4 : 0 < 2 ^ n := Nat.two_pow_pos n
  unfold maskOf
  rw [h3, wrap_id (by omega) (by omega)]
  omega
theorem spansF_at : ∀ (rs : List S46) (b : Int) (n : Nat) (h : n < rs.length), ∃ B : Int, ∀ ps, (spansF ps rs b)[n]? = some (⟨1, B, wrap64 (B + rs[n].f1), ((valF rs[n].f0.toNat ps 0 : Nat) : Int), 0, (⟨#[]⟩ : ByteArray), 0⟩ : S48)
  | r :: rs, b, 0, _ => ⟨b, fun ps => rfl⟩
  | r :: rs, b, n + 1, h => by
    obtain ⟨B, hB⟩ := spansF_at rs (wrap64 (b + r.f1)) n (by simpa using h)
    exact ⟨B, fun ps => by rw [spansF, List.getElem?_cons_succ, hB ps, List.getElem_cons_succ]⟩
theorem rd_spans (ps : List Int) (rs : List S46) (b : Int) (n : Nat) (x : S48) (h : (spansF ps rs b)[n]? = some x) : rd_T48 (spansF ps rs b) (n : Int) = x := by
  unfold rd_T48
  rw [Int.toNat_natCast, List.getD_eq_getElem?_getD, h]
  rfl
theorem back_wrap (B w : Int) (h0 : -9223372036854775808 ≤ w) (h1 : w < 9223372036854775808) : wrap64 (wrap64 (B + w) - B) = w := by unfold wrap64; omega
theorem runsOk_w {mask : Int} : ∀ (l : List S46) (left : Int), RunsOk mask left l → ∀ x ∈ l, 1 ≤ x.f1 ∧ x.f1 ≤ left
  | [], _, _, x, hx => by simp at hx
  | y :: l, left, h, x, hx => by
    rcases List.mem_cons.1 hx with rfl | hx
    · exact ⟨h.2.2.1, h.2.2.2.1⟩
    · have := runsOk_w l _ h.2.2.2.2 x hx
      have := h.2.2.1
      omega
theorem tmod_two (q : Nat) (h : q < 65536) : Int.tmod (wrap64 (q : Int)) 2 = ((q % 2 : Nat) : Int) := by
  rw [wrap_id (by omega) (by omega), Int.tmod_eq_emod_of_nonneg (by omega)]
  rfl
theorem sel_loop (ns : List ByteArray) (hd : Distinct ns) (hn : ns.length ≤ 16) (rs : List S46) (hok : RunsOk (maskOf ns.length) 1099511627776 rs) (c : Nat) (hc : c < ns.length) (n : Nat) (hnr : n < rs.length) : ∀ (m j k : Nat), c - j = m → j ≤ c → m + 1 ≤ k →
    signalbenchlaw14_FeedSelects.l0 k (c : Int) (n : Int) (spansF (plOf ns [ns[c]]) rs 0) (spansF (plOf ns ns) rs 0) ((2 ^ j : Nat) : Int) (j : Int) ns rs = some true := by
  intro m
  induction m with
  | zero =>
    intro j k h1 h2 hk
    obtain ⟨k, rfl⟩ : ∃ q, k = q + 1 := ⟨k - 1, by omega⟩
    have he : j = c := by omega
    subst he
    obtain ⟨B, hB⟩ := spansF_at rs 0 n hnr
    have m1 := runsOk_mem rs _ hok rs[n] (List.getElem_mem hnr)
    have m2 := runsOk_w rs _ hok rs[n] (List.getElem_mem hnr)
    have hw := pow_le16 (show j ≤ 16 by omega)
    have hp := Nat.two_pow_pos j
    have hlt := mask_lt hn
    rw [mask_eq hn] at m1 hlt
    obtain ⟨level, hle⟩ := Int.eq_ofNat_of_zero_le m1.1
    have hpl : plOf ns [ns[j]] = [(j : Int)] := by unfold plOf; rw [List.map_singleton, idx_self ns hd j hc]
    have hva := val_all ns hd level ns.length 0 (by omega) (Nat.zero_le _)
    rw [List.drop_zero, Nat.pow_zero, Nat.mod_one, Nat.add_zero, Nat.mod_eq_of_lt (by omega)] at hva
    have q1 := rd_spans _ rs 0 n _ (hB (plOf ns [ns[j]]))
    have q2 := rd_spans _ rs 0 n _ (hB (plOf ns ns))
    rw [hle, Int.toNat_natCast] at q1 q2
    rw [hva] at q2
    have hv1 : valF level [(j : Int)] 0 = level / 2 ^ j % 2 := by
      rw [valF, valF, Int.toNat_natCast, Nat.pow_zero, Nat.one_mul, Nat.add_zero]
    rw [hpl, hv1] at q1
    have hdiv : Int.tdiv (level : Int) ((2 ^ j : Nat) : Int) = ((level / 2 ^ j : Nat) : Int) := by rw [Int.tdiv_eq_ediv_of_nonneg (by omega), Int.natCast_ediv]
    have hdl : level / 2 ^ j ≤ level := Nat.div_le_self _ _
    have hmod := tmod_two (level / 2 ^ j) (by clear hdiv; omega)
    have hlen : ∀ ps, ((n : Nat) : Int) < ((spansF ps rs 0).length : Int) := fun ps => by rw [spansF_len]; omega
    rw [hpl]
    unfold signalbenchlaw14_FeedSelects.l0
    rw [if_neg (by omega), if_pos (by omega), if_pos (by omega), if_neg (by omega), if_pos (hlen _), rd46 rs n hnr, q1, q2, hle, hdiv, hmod]
    simp only [if_true, hlen, back_wrap B rs[n].f1 (by omega) (by omega), signalbenchlaw14_awake.f, Option.bind_some]
  | succ m ih =>
    intro j k h1 h2 hk
    obtain ⟨k, rfl⟩ : ∃ q, k = q + 1 := ⟨k - 1, by omega⟩
    have hw := pow_le16 (show j + 1 ≤ 16 by omega)
    have hm : 2 ^ (j + 1) = 2 ^ j * 2 := Nat.pow_succ ..
    rw [signalbenchlaw14_FeedSelects.l0, if_pos (by omega), next_i j c (by omega) (by omega), wrap_id (x := ((2 ^ j : Nat) : Int) * 2) (by omega) (by omega), show ((2 ^ j : Nat) : Int) * 2 = ((2 ^ (j + 1) : Nat) : Int) by omega]
    exact ih (j + 1) k (by omega) (by omega) (by omega)
theorem sel_true (ns : List ByteArray) (rs : List S46) (a1 a2 : Int) : Ev (fun k => signalbenchlaw14_FeedSelects.j0 k a1 a2 true ns rs) true :=
  Ev.le 1 (fun k => by rw [signalbenchlaw14_FeedSelects.j0, if_pos rfl, signalbenchlaw14_awake.f]; rfl)
theorem selects_pure (ns : List ByteArray) (rs : List S46) (a1 a2 : Int) : ∃ k, signalbenchlaw14_FeedSelects.f k ns rs a1 a2 = some true := by
  refine Ev.rounds (g := fun k => signalbenchlaw14_FeedSelects.f k ns rs a1 a2) ?_
  have ht := sel_true ns rs a1 a2
  unfold signalbenchlaw14_FeedSelects.f
  by_cases c1 : (rs.length : Int) > 2000
  · simp only [if_pos c1]; exact ht
  · simp only [if_neg c1]
    obtain ⟨r, hr, e1, e2⟩ := check_ev ns rs
    have eg : Ev (fun k => signalbenchref09_Good.f k ns rs) (r == 0) := by
      unfold signalbenchref09_Good.f
      exact e2.bind (Ev.now _)
    refine eg.bind ?_
    rcases hr with ⟨hr0, hd, hn0, hn, hrs, hok⟩ | hr0
    · subst hr0
      simp only [beq_self_eq_true, if_true]
      by_cases c2 : a1 < 0
      · simp only [if_pos c2]; exact ht
      · by_cases c3 : a1 ≥ (ns.length : Int)
        · simp only [if_neg c2, if_pos c3]; exact ht
        · by_cases c4 : a2 < 0
          · simp only [if_neg c2, if_neg c3, if_pos c4]; exact ht
          · simp only [if_neg c2, if_neg c3, if_neg c4]
            by_cases c5 : a2 ≥ (rs.length : Int)
            · simp only [decide_eq_true c5]; exact ht
            · simp only [decide_eq_false c5]
              obtain ⟨c, rfl⟩ := Int.eq_ofNat_of_zero_le (show 0 ≤ a1 by omega)
              obtain ⟨n, rfl⟩ := Int.eq_ofNat_of_zero_le (show 0 ≤ a2 by omega)
              have hc : c < ns.length := by omega
              have hnr : n < rs.length := by omega
              have l1 := levels_ok ns rs [ns[c]] e1 hn hrs hok (by simp) (by simp) (fun i j hi hj => by simp at hi; omega) (fun x hx => by
                rw [List.mem_singleton] at hx
                subst hx
                rw [idx_self ns hd c hc]
                omega)
              have l2 := levels_ok ns rs ns e1 hn hrs hok hn hn0 hd (fun x hx => by
                obtain ⟨i, hi, rfl⟩ := List.mem_iff_getElem.1 hx
                rw [idx_self ns hd i hi]
                omega)
              refine Ev.step (fun k => by rw [signalbenchlaw14_FeedSelects.j0, if_neg (by simp), if_pos (by omega), if_pos (by omega), rdB ns c hc]) (l1.bind (l2.bind ?_))
              simp only [if_true, spansF_len]
              refine Ev.step (fun k => by rw [signalbenchlaw14_FeedSelects.j1, if_neg (by simp)]) ?_
              exact ⟨c + 1, fun k hk => sel_loop ns hd hn rs hok c hc n hnr c 0 k rfl (Nat.zero_le _) hk⟩
    · rw [show (r == 0) = false from beq_eq_false_iff_ne.2 hr0]
      simp only [Bool.false_eq_true, if_false]
      exact ht
end Go.Proofs.Ytioedeglgljblaa.H
