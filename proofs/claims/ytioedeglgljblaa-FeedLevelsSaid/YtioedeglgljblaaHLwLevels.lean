/- What feed.Levels and the specification's Levels come to, and FeedLevels in plain words; no condition beyond a list's own length. -/
import Derived.Test.YtioedeglgljblaaHQCheck
import Derived.Test.YtioedeglgljblaaH19
namespace Go.Proofs.Ytioedeglgljblaa.H
open Go.RowKit Go.Proofs.YtioedeglgljblaaW.PrintWords Go.Proofs.YtioedeglgljblaaW.PrintLast Go.Proofs.YtioedeglgljblaaW.PrintMore
set_option linter.unusedSimpArgs false
theorem wraps_i64 (n : Int) (h0 : 0 ≤ n) (h1 : n < 2 ^ 63) : IntKind.i64.wrap n = n := by rw [IntKind.wrap_i64]; omega
theorem pow_le16 {i : Nat} (h : i ≤ 16) : 2 ^ i ≤ 65536 := Nat.le_trans (Nat.pow_le_pow_right (by decide) h) (by decide)
theorem pow_lt16 {i : Nat} (h : i < 16) : 2 ^ i ≤ 32768 := Nat.le_trans (Nat.pow_le_pow_right (by decide) (show i ≤ 15 by omega)) (by decide)
theorem shr_nat (a p : Nat) (hp : p ≤ 64) : shr .i64 (a : Int) (p : Int) = ((a / 2 ^ p : Nat) : Int) := by
  unfold shr
  rw [Int.toNat_natCast, show min p IntKind.i64.bits = p from Nat.min_eq_left hp, Int.natCast_ediv, Int.natCast_pow]
  rfl
theorem shl_nat (a i : Nat) (hi : i ≤ 64) (h : a * 2 ^ i < 9223372036854775808) : shl .i64 (a : Int) (i : Int) = ((a * 2 ^ i : Nat) : Int) := by
  unfold shl
  rw [Int.toNat_natCast, show min i IntKind.i64.bits = i from Nat.min_eq_left hi, show ((a : Int) * 2 ^ i) = ((a * 2 ^ i : Nat) : Int) by rw [Int.natCast_mul, Int.natCast_pow]; rfl]
  exact wraps_i64 _ (by omega) (by omega)
theorem and_one (a : Nat) (h : a < 9223372036854775808) : Go.bits .and .i64 (a : Int) 1 = ((a % 2 : Nat) : Int) := by
  have := Go.bits_mask .i64 63 (by decide) wraps_i64 1 (by decide) (a : Int) (by omega) (by omega)
  rw [show ((2 : Int) ^ 1 - 1) = 1 by decide] at this
  rw [this]
  omega
theorem bit_step (level p i v : Nat) (hl : level < 65536) (hp : p < 16) (hi : i < 16) (hv : v < 2 ^ i) :
    Go.bits .or .i64 (v : Int) (shl .i64 (Go.bits .and .i64 (shr .i64 (level : Int) (p : Int)) 1) (i : Int)) = ((v + 2 ^ i * ((level / 2 ^ p) % 2) : Nat) : Int) := by
  have hd : level / 2 ^ p ≤ level := Nat.div_le_self _ _
  have h2 := pow_lt16 hi
  have hb : (level / 2 ^ p) % 2 * 2 ^ i ≤ 1 * 32768 := Nat.mul_le_mul (by omega) h2
  rw [shr_nat _ _ (by omega), and_one _ (by omega), shl_nat _ _ (by omega) (by omega)]
  have hc := (Go.bits_nat .i64 63 (by decide) wraps_i64 v ((level / 2 ^ p) % 2 * 2 ^ i) (by omega) (by omega)).2
  have hc2 := (Go.bits_nat .i64 63 (by decide) wraps_i64 ((level / 2 ^ p) % 2 * 2 ^ i) v (by omega) (by omega)).2
  rw [hc, Nat.or_comm, ← hc2, Go.bits_join .i64 63 (by decide) wraps_i64 i _ _ (by omega) ?_ (by omega) (by omega) ?_ (by omega)]
  · rw [Nat.mul_comm (2 ^ i)]
    omega
  · rw [show ((2 : Int) ^ i) = ((2 ^ i : Nat) : Int) by rw [Int.natCast_pow]; rfl, ← Int.natCast_emod, Nat.mul_mod_left]
    rfl
  · rw [show ((2 : Int) ^ i) = ((2 ^ i : Nat) : Int) by rw [Int.natCast_pow]; rfl]
    omega
theorem bit_loop (p : Nat) (hp : p < 65536) : ∀ (m n j k : Nat), p - j = m → j ≤ p → n < 65536 → m + 1 ≤ k → signalbenchref14_bit.l0 k (p : Int) (n : Int) (j : Int) = some ((n / 2 ^ m % 2 : Nat) : Int) := by
  intro m
  induction m with
  | zero =>
    intro n j k h1 h2 h3 hk
    obtain ⟨k, rfl⟩ : ∃ q, k = q + 1 := ⟨k - 1, by omega⟩
    rw [signalbenchref14_bit.l0, if_neg (by omega), Int.tmod_eq_emod_of_nonneg (by omega), Nat.pow_zero, Nat.div_one]
    congr 1
  | succ m ih =>
    intro n j k h1 h2 h3 hk
    obtain ⟨k, rfl⟩ : ∃ q, k = q + 1 := ⟨k - 1, by omega⟩
    rw [signalbenchref14_bit.l0, if_pos (by omega), Int.tdiv_eq_ediv_of_nonneg (by omega), next_i j p (by omega) (by omega), show wrap64 ((n : Int) / 2) = ((n / 2 : Nat) : Int) by rw [wrap_id (by omega) (by omega)]; omega]
    rw [ih (n / 2) (j + 1) k (by omega) (by omega) (by omega) (by omega), Nat.div_div_eq_div_mul, Nat.pow_succ']
theorem bit_f (n p : Nat) (hn : n < 65536) (hp : p < 16) (k : Nat) (hk : 17 ≤ k) : signalbenchref14_bit.f k (n : Int) (p : Int) = some ((n / 2 ^ p % 2 : Nat) : Int) :=
  bit_loop p (by omega) p n 0 k rfl (Nat.zero_le _) hn (by omega)
/-- the value of a level in the chosen order -/
def valF (level : Nat) : List Int → Nat → Nat
 | [], _ => 0
 | p :: ps, i => 2 ^ i * ((level / 2 ^ p.toNat) % 2) + valF level ps (i + 1)
theorem step_lt {v i b : Nat} (h : v < 2 ^ i) : v + 2 ^ i * (b % 2) < 2 ^ (i + 1) := by
  have : b % 2 = 0 ∨ b % 2 = 1 := by omega
  rw [Nat.pow_succ]
  rcases this with e | e <;> rw [e] <;> omega
/-- the places of the names -/
def plOf (ns l : List ByteArray) : List Int := l.map (fun s => idxL s ns 0)
theorem idx_lt (ns : List ByteArray) (s : ByteArray) : idxL s ns 0 < ns.length := by
  rcases idxL_law s ns 0 with ⟨h, _⟩ | ⟨j, h, h1, _⟩
  · omega
  · omega
theorem value_loop (ns : List ByteArray) (hn : ns.length ≤ 16) (rs : List S46) (l : List ByteArray) (hl : l.length ≤ 16) (hp : ∀ x ∈ l, 0 ≤ idxL x ns 0) (level : Nat) (hlv : level < 65536) : ∀ (m i v k : Nat), l.length - i = m → i ≤ l.length → v < 2 ^ i → m + 20 ≤ k →
    signalbenchref14_value.l0 k (level : Int) l (v : Int) ((2 ^ i : Nat) : Int) (i : Int) ns rs = some ((v + valF level (plOf ns (l.drop i)) i : Nat) : Int) := by
  intro m
  induction m with
  | zero =>
    intro i v k h1 h2 h3 hk
    obtain ⟨k, rfl⟩ : ∃ q, k = q + 1 := ⟨k - 1, by omega⟩
    rw [signalbenchref14_value.l0, if_neg (by omega), List.drop_eq_nil_of_le (by omega)]
    rfl
  | succ m ih =>
    intro i v k h1 h2 h3 hk
    obtain ⟨k, rfl⟩ : ∃ q, k = q + 1 := ⟨k - 1, by omega⟩
    have hi : i < l.length := by omega
    have h0 := hp l[i] (List.getElem_mem hi)
    have h16 := idx_lt ns l[i]
    obtain ⟨p, hpe⟩ := Int.eq_ofNat_of_zero_le h0
    have hs := step_lt (b := level / 2 ^ p) h3
    have hw := pow_le16 (show i + 1 ≤ 16 by omega)
    have hm : 2 ^ (i + 1) = 2 ^ i * 2 := Nat.pow_succ ..
    rw [signalbenchref14_value.l0, if_pos (by omega), if_pos (by omega), rdB l i hi, place_f ns _ (by omega) k (by omega), Option.bind_some, hpe, bit_f level p hlv (by omega) k (by omega), Option.bind_some, next_i i _ hi (by omega)]
    have e1 : ((2 ^ i : Nat) : Int) * ((level / 2 ^ p % 2 : Nat) : Int) = ((2 ^ i * (level / 2 ^ p % 2) : Nat) : Int) := by rw [Int.natCast_mul]
    rw [e1]
    generalize hq : 2 ^ i * (level / 2 ^ p % 2) = q at hs ⊢
    rw [wrap_id (x := (q : Int)) (by omega) (by omega), wrap_id (x := (v : Int) + (q : Int)) (by omega) (by omega), wrap_id (x := ((2 ^ i : Nat) : Int) * 2) (by omega) (by omega)]
    rw [show (v : Int) + (q : Int) = ((v + q : Nat) : Int) by omega, show ((2 ^ i : Nat) : Int) * 2 = ((2 ^ (i + 1) : Nat) : Int) by omega]
    rw [ih (i + 1) (v + q) k (by omega) (by omega) hs (by omega), List.drop_eq_getElem_cons hi, show plOf ns (l[i] :: l.drop (i + 1)) = idxL l[i] ns 0 :: plOf ns (l.drop (i + 1)) from rfl, valF, hpe, Int.toNat_natCast, hq]
    congr 2
    omega
theorem value_f (ns : List ByteArray) (hn : ns.length ≤ 16) (rs : List S46) (l : List ByteArray) (hl : l.length ≤ 16) (hp : ∀ x ∈ l, 0 ≤ idxL x ns 0) (level : Nat) (hlv : level < 65536) (k : Nat) (hk : 40 ≤ k) :
    signalbenchref14_value.f k (level : Int) ns rs l = some ((valF level (plOf ns l) 0 : Nat) : Int) := by
  have := value_loop ns hn rs l hl hp level hlv l.length 0 0 k rfl (Nat.zero_le _) (by decide) (by omega)
  rw [List.drop_zero, Nat.zero_add] at this
  exact this
theorem code_value (ps : List Int) (hl : ps.length ≤ 16) (hp : ∀ p ∈ ps, 0 ≤ p ∧ p < 16) (level : Nat) (hlv : level < 65536) (out : List S48) (hout : out.length < 2199023255552) (b : Int) (rs : List S46) (len j w : Int) (R : List S48 × Int) : ∀ (m i v : Nat), ps.length - i = m → i ≤ ps.length → v < 2 ^ i →
    Ev (fun k => feed_Levels.l0 k ps (out ++ [(⟨1, b, wrap64 (b + w), ((v + valF level (ps.drop i) i : Nat) : Int), 0, (⟨#[]⟩ : ByteArray), 0⟩ : S48)]) (wrap64 (b + w)) rs len (wrap64 (j + 1))) R →
    Ev (fun k => feed_Levels.l1 k ps out b (v : Int) rs len j ps (ps.length : Int) (i : Int) (level : Int) w) R := by
  intro m
  induction m with
  | zero =>
    intro i v h1 h2 h3 h4
    rw [List.drop_eq_nil_of_le (by omega), valF, Nat.add_zero] at h4
    exact Ev.step (fun k => by rw [feed_Levels.l1, if_neg (by omega), if_pos hout]) h4
  | succ m ih =>
    intro i v h1 h2 h3 h4
    have hi : i < ps.length := by omega
    obtain ⟨h0, h16⟩ := hp ps[i] (List.getElem_mem hi)
    obtain ⟨p, hpe⟩ := Int.eq_ofNat_of_zero_le h0
    refine Ev.step (fun k => by rw [feed_Levels.l1, if_pos (by omega), if_pos (by omega), if_pos (by omega), rdI ps i hi, if_pos h0, next_i i _ hi (by omega), hpe, bit_step level p i v hlv (by omega) (by omega) h3]) (ih (i + 1) (v + 2 ^ i * ((level / 2 ^ p) % 2)) (by omega) (by omega) (step_lt h3) ?_)
    rw [List.drop_eq_getElem_cons hi, valF, hpe, Int.toNat_natCast, ← Nat.add_assoc] at h4
    exact h4
theorem runsOk_mem {mask : Int} : ∀ (l : List S46) (left : Int), RunsOk mask left l → ∀ x ∈ l, 0 ≤ x.f0 ∧ x.f0 ≤ mask
  | [], _, _, x, hx => by simp at hx
  | y :: l, left, h, x, hx => by
    rcases List.mem_cons.1 hx with rfl | hx
    · exact ⟨h.1, h.2.1⟩
    · exact runsOk_mem l _ h.2.2.2.2 x hx
theorem mask_lt {n : Nat} (h : n ≤ 16) : maskOf n < 65536 := by
  have h2 := pow_le16 h
  have h3 := shl_nat 1 n (by omega) (by omega)
  rw [show ((1 : Nat) : Int) = 1 from rfl] at h3
  have h4 : 0 < 2 ^ n := Nat.two_pow_pos n
  unfold maskOf
  rw [h3, wrap_id (by omega) (by omega)]
  omega
/-- the spans that both come to -/
def spansF (ps : List Int) : List S46 → Int → List S48
 | [], _ => []
 | r :: rs, b => ⟨1, b, wrap64 (b + r.f1), ((valF r.f0.toNat ps 0 : Nat) : Int), 0, (⟨#[]⟩ : ByteArray), 0⟩ :: spansF ps rs (wrap64 (b + r.f1))
theorem spansF_len (ps : List Int) : ∀ (rs : List S46) (b : Int), (spansF ps rs b).length = rs.length
  | [], _ => rfl
  | r :: rs, b => by rw [spansF, List.length_cons, List.length_cons, spansF_len ps rs]
theorem code_spans (ps : List Int) (hl : ps.length ≤ 16) (hp : ∀ p ∈ ps, 0 ≤ p ∧ p < 16) (rs : List S46) (hr : rs.length ≤ 262144) (hm : ∀ x ∈ rs, 0 ≤ x.f0 ∧ x.f0 < 65536) : ∀ (m j : Nat) (out : List S48) (b : Int), rs.length - j = m → j ≤ rs.length → out.length ≤ j →
    Ev (fun k => feed_Levels.l0 k ps out b rs (rs.length : Int) (j : Int)) (out ++ spansF ps (rs.drop j) b, 0) := by
  intro m
  induction m with
  | zero =>
    intro j out b h1 h2 h3
    rw [List.drop_eq_nil_of_le (by omega), spansF, List.append_nil]
    exact Ev.le 1 (fun k => by rw [feed_Levels.l0, if_neg (by omega)])
  | succ m ih =>
    intro j out b h1 h2 h3
    have hj : j < rs.length := by omega
    obtain ⟨h0, h16⟩ := hm rs[j] (List.getElem_mem hj)
    obtain ⟨level, hle⟩ := Int.eq_ofNat_of_zero_le h0
    rw [List.drop_eq_getElem_cons hj, spansF]
    refine Ev.step (fun k => by rw [feed_Levels.l0, if_pos (by omega), if_pos (by omega), if_pos (by omega), rd46 rs j hj, hle]; rfl) (code_value ps hl hp level (by omega) out (by omega) b rs (rs.length : Int) (j : Int) rs[j].f1 _ ps.length 0 0 rfl (Nat.zero_le _) (by decide) ?_)
    rw [next_i j _ hj (by omega), List.drop_zero, Nat.zero_add, hle, Int.toNat_natCast]
    have := ih (j + 1) (out ++ [(⟨1, b, wrap64 (b + rs[j].f1), ((valF level ps 0 : Nat) : Int), 0, (⟨#[]⟩ : ByteArray), 0⟩ : S48)]) (wrap64 (b + rs[j].f1)) (by omega) (by omega) (by rw [List.length_append, List.length_singleton]; omega)
    rw [List.append_assoc, List.singleton_append] at this
    exact this
theorem ref_spans (ns : List ByteArray) (hn : ns.length ≤ 16) (l : List ByteArray) (hl : l.length ≤ 16) (hp : ∀ x ∈ l, 0 ≤ idxL x ns 0) (rs : List S46) (hr : rs.length ≤ 262144) (hm : ∀ x ∈ rs, 0 ≤ x.f0 ∧ x.f0 < 65536) : ∀ (m j : Nat) (out : List S48) (b : Int), rs.length - j = m → j ≤ rs.length → out.length ≤ j →
    Ev (fun k => signalbenchref14_Levels.l1 k l out b (j : Int) ns rs) (out ++ spansF (plOf ns l) (rs.drop j) b, 0) := by
  intro m
  induction m with
  | zero =>
    intro j out b h1 h2 h3
    rw [List.drop_eq_nil_of_le (by omega), spansF, List.append_nil]
    exact Ev.le 1 (fun k => by rw [signalbenchref14_Levels.l1, if_neg (by omega)])
  | succ m ih =>
    intro j out b h1 h2 h3
    have hj : j < rs.length := by omega
    obtain ⟨h0, h16⟩ := hm rs[j] (List.getElem_mem hj)
    obtain ⟨level, hle⟩ := Int.eq_ofNat_of_zero_le h0
    rw [List.drop_eq_getElem_cons hj, spansF]
    have := ih (j + 1) (out ++ [(⟨1, b, wrap64 (b + rs[j].f1), ((valF level (plOf ns l) 0 : Nat) : Int), 0, (⟨#[]⟩ : ByteArray), 0⟩ : S48)]) (wrap64 (b + rs[j].f1)) (by omega) (by omega) (by rw [List.length_append, List.length_singleton]; omega)
    rw [List.append_assoc, List.singleton_append] at this
    rw [hle, Int.toNat_natCast]
    refine Ev.step (fun k => by rw [signalbenchref14_Levels.l1, if_pos (by omega), if_pos (by omega), rd46 rs j hj, next_i j _ hj (by omega), hle]) (Ev.bind (g := fun k => signalbenchref14_value.f k (level : Int) ns rs l) ⟨40, fun k hk => value_f ns hn rs l hl hp level (by omega) k hk⟩ ?_)
    simp only [if_pos (show out.length < 2199023255552 by omega)]
    exact this
/-- as many different numbers as there is room for -/
theorem nodup_len : ∀ (n : Nat) (l : List Nat), l.Nodup → (∀ x ∈ l, x < n) → l.length ≤ n
  | 0, l, _, h => by
    cases l with
    | nil => simp
    | cons x l => exact absurd (h x (by simp)) (by omega)
  | n + 1, l, hd, h => by
    have h1 := nodup_len n (l.erase n) (hd.erase n) (fun x hx => by
      have := (hd.mem_erase_iff).1 hx
      have := h x this.2
      omega)
    by_cases c : n ∈ l
    · have := List.length_erase_of_mem c
      omega
    · rw [List.erase_of_not_mem c] at h1
      omega
theorem distinct_len (ns l : List ByteArray) (hd : Distinct l) (hp : ∀ x ∈ l, 0 ≤ idxL x ns 0) : l.length ≤ ns.length := by
  have := nodup_len ns.length (l.map (fun s => (idxL s ns 0).toNat)) (by
    rw [List.nodup_iff_pairwise_ne, List.pairwise_iff_getElem]
    intro i j hi hj hij he
    rw [List.length_map] at hi hj
    rw [List.getElem_map, List.getElem_map] at he
    have g1 := hp l[i] (List.getElem_mem hi)
    have g2 := hp l[j] (List.getElem_mem hj)
    rcases idxL_law l[i] ns 0 with ⟨h1, _⟩ | ⟨a, ha, h1, h2, _⟩
    · omega
    · rcases idxL_law l[j] ns 0 with ⟨h3, _⟩ | ⟨b, hb, h3, h4, _⟩
      · omega
      · have hab : a = b := by omega
        subst hab
        exact hd j i hj hij (h2.symm.trans h4)) (fun x hx => by
    obtain ⟨s, hs, rfl⟩ := List.mem_map.1 hx
    have := hp s hs
    have := idx_lt ns s
    omega)
  rwa [List.length_map] at this
theorem places_loop (ns : List ByteArray) (hn : ns.length ≤ 16) (rs : List S46) (hr : rs.length ≤ 262144) (l : List ByteArray) (hl : l.length ≤ 8796093022208) : ∀ (m i : Nat), l.length - i = m → (hil : i ≤ l.length) → (∀ x ∈ l.take i, 0 ≤ idxL x ns 0) → (∀ i', (h : i' < i) → ∀ j, (hj : j < i') → (l[j]'(by omega)).toList ≠ (l[i']'(by omega)).toList) →
    (∃ r, r ≠ 0 ∧ Ev (fun k => feed_places.l0 k l (plOf ns (l.take i)) l (l.length : Int) (i : Int) ns rs) ([], r) ∧ Ev (fun k => signalbenchref14_Levels.l0 k l (i : Int) ns rs) ([], r)) ∨
    (Distinct l ∧ (∀ x ∈ l, 0 ≤ idxL x ns 0) ∧ Ev (fun k => feed_places.l0 k l (plOf ns (l.take i)) l (l.length : Int) (i : Int) ns rs) (plOf ns l, 0) ∧ ∀ R, Ev (fun k => signalbenchref14_Levels.l1 k l [] 0 0 ns rs) R → Ev (fun k => signalbenchref14_Levels.l0 k l (i : Int) ns rs) R) := by
  intro m
  induction m with
  | zero =>
    intro i h1 h2 h3 hd
    have he : i = l.length := by omega
    subst he
    rw [List.take_length] at h3 ⊢
    refine .inr ⟨fun i' j hi hj => hd i' (by omega) j hj, h3, Ev.le 1 (fun k => by rw [feed_places.l0, if_neg (by omega)]), fun R hR => Ev.step (fun k => by rw [signalbenchref14_Levels.l0, if_neg (by omega), if_pos (by omega), if_pos (by rw [Int.toNat_natCast]; omega)]) hR⟩
  | succ m ih =>
    intro i h1 h2 h3 hd
    have hi : i < l.length := by omega
    have hidx := idx_take l i hi
    have hplen : (plOf ns (l.take i)).length = i := by unfold plOf; rw [List.length_map, List.length_take]; omega
    have hcode : ∀ k, feed_places.l0 (k + 1) l (plOf ns (l.take i)) l (l.length : Int) (i : Int) ns rs = ((slices_Index_string_string.f k ns l[i]).bind fun t118 => (if t118 < 0 then (some (([] : List Int), 8)) else ((slices_Contains_string_string.f k (l.take i) l[i]).bind fun t120 => (if t120 = true then (some (([] : List Int), 9)) else (feed_places.l0 k l ((plOf ns (l.take i)) ++ [t118]) l (l.length : Int) ((i + 1 : Nat) : Int) ns rs))))) := fun k => by
      rw [feed_places.l0, if_pos (by omega), if_pos (by omega), if_pos (by omega), rdB l i hi]
      simp only [if_pos (show (i : Int) ≤ (l.length : Int) by omega), Int.toNat_natCast, if_pos (show (plOf ns (l.take i)).length < 17592186044416 by omega), next_i i _ hi (show l.length ≤ 4611686018427387904 by omega)]
    have hE : Ev (fun k => slices_Index_string_string.f k ns l[i]) (idxL l[i] ns 0) := ⟨ns.length + 1, fun k hk => index_f ns _ (by omega) k hk⟩
    have hC : Ev (fun k => slices_Contains_string_string.f k (l.take i) l[i]) (decide (idxL l[i] (l.take i) 0 ≥ 0)) := ⟨l.length + 1, fun k hk => contains_f _ _ (by rw [List.length_take]; omega) k (by rw [List.length_take]; omega)⟩
    have hP : Ev (fun k => signalbenchref14_place.f k ns l[i]) (idxL l[i] ns 0) := ⟨ns.length + 1, fun k hk => place_f ns _ (by omega) k hk⟩
    have hQ : Ev (fun k => signalbenchref14_place.f k l l[i]) (idxL l[i] l 0) := ⟨l.length + 1, fun k hk => place_f l _ (by omega) k hk⟩
    have hdup : idxL l[i] l 0 < i ↔ ∃ j, ∃ (hj : j < i), (l[j]'(by omega)).toList = l[i].toList := by
      rcases idxL_law l[i] l 0 with ⟨_, h⟩ | ⟨j, h, g1, g2, g3⟩
      · exact absurd rfl (h l[i] (List.getElem_mem hi))
      · rw [g1]
        refine ⟨fun h => ⟨j, by omega, g2⟩, fun ⟨j', hj', he⟩ => ?_⟩
        by_cases c : j' < j
        · exact absurd he (g3 j' c)
        · omega
    by_cases c1 : idxL l[i] ns 0 < 0
    · refine .inl ⟨8, by decide, Ev.step hcode (hE.bind ?_), Ev.step (f := fun k => (signalbenchref14_place.f k ns l[i]).bind _) (fun k => by rw [signalbenchref14_Levels.l0, if_pos (by omega), if_pos (by omega), rdB l i hi]) (hP.bind ?_)⟩
      · simp only [if_pos c1]; exact Ev.now _
      · simp only [if_pos c1]; exact Ev.now _
    · by_cases c2 : idxL l[i] l 0 < i
      · refine .inl ⟨9, by decide, Ev.step hcode (hE.bind ?_), Ev.step (f := fun k => (signalbenchref14_place.f k ns l[i]).bind _) (fun k => by rw [signalbenchref14_Levels.l0, if_pos (by omega), if_pos (by omega), rdB l i hi]) (hP.bind ?_)⟩
        · simp only [if_neg c1]
          refine hC.bind ?_
          simp only [decide_eq_true (hidx.2 (hdup.1 c2)), if_true]
          exact Ev.now _
        · simp only [if_neg c1]
          refine hQ.bind ?_
          simp only [if_pos c2]
          exact Ev.now _
      · have hnd : ¬ (0 ≤ idxL l[i] (l.take i) 0) := fun h => c2 (hdup.2 (hidx.1 h))
        have htake : l.take (i + 1) = l.take i ++ [l[i]] := by rw [List.take_succ_eq_append_getElem hi]
        have hpl : plOf ns (l.take (i + 1)) = plOf ns (l.take i) ++ [idxL l[i] ns 0] := by rw [htake]; unfold plOf; rw [List.map_append]; rfl
        have kc : ∀ R, Ev (fun k => feed_places.l0 k l (plOf ns (l.take (i + 1))) l (l.length : Int) ((i + 1 : Nat) : Int) ns rs) R → Ev (fun k => feed_places.l0 k l (plOf ns (l.take i)) l (l.length : Int) (i : Int) ns rs) R := fun R hR => by
          refine Ev.step hcode (hE.bind ?_)
          simp only [if_neg c1]
          refine hC.bind ?_
          simp only [decide_eq_false hnd, Bool.false_eq_true, if_false]
          rw [hpl] at hR
          exact hR
        have kr : ∀ R, Ev (fun k => signalbenchref14_Levels.l0 k l ((i + 1 : Nat) : Int) ns rs) R → Ev (fun k => signalbenchref14_Levels.l0 k l (i : Int) ns rs) R := fun R hR => by
          refine Ev.step (f := fun k => (signalbenchref14_place.f k ns l[i]).bind _) (fun k => by rw [signalbenchref14_Levels.l0, if_pos (by omega), if_pos (by omega), rdB l i hi, next_i i _ hi (by omega)]) (hP.bind ?_)
          simp only [if_neg c1]
          refine hQ.bind ?_
          simp only [if_neg c2]
          exact hR
        rcases ih (i + 1) (by omega) (by omega) (fun x hx => by
          rw [htake] at hx
          rcases List.mem_append.1 hx with hx | hx
          · exact h3 x hx
          · rw [List.mem_singleton] at hx
            subst hx
            omega) (fun i' hi' j hj => by
          by_cases e : i' = i
          · subst e
            exact fun he => c2 (hdup.2 ⟨j, hj, he⟩)
          · exact hd i' (by omega) j hj) with ⟨r, g1, g2, g3⟩ | ⟨g1, g2, g3, g4⟩
        · exact .inl ⟨r, g1, kc _ g2, kr _ g3⟩
        · exact .inr ⟨g1, g2, kc _ g3, fun R hR => kr _ (g4 R hR)⟩
theorem levels_ev (ns : List ByteArray) (rs : List S46) (l : List ByteArray) (hl : l.length ≤ 8796093022208) : ∃ E : List S48 × Int, E.1.length ≤ 262144 ∧ (E.2 ≠ 0 ∨ Distinct ns ∧ 0 < ns.length ∧ ns.length ≤ 16 ∧ rs.length ≤ 262144 ∧ RunsOk (maskOf ns.length) 1099511627776 rs ∧ 0 < l.length ∧ l.length ≤ ns.length ∧ (∀ x ∈ l, 0 ≤ idxL x ns 0) ∧ E = (spansF (plOf ns l) rs 0, 0)) ∧ Ev (fun k => feed_Levels.f k ns rs l) E ∧ Ev (fun k => signalbenchref14_Levels.f k ns rs l) E := by
  obtain ⟨r, hr, e1, e2⟩ := check_ev ns rs
  unfold feed_Levels.f signalbenchref14_Levels.f
  rcases hr with ⟨hr0, hd, hn0, hn, hrs, hok⟩ | hr0
  · subst hr0
    by_cases c : (l.length : Int) = 0
    · refine ⟨([], 1), by simp, .inl (by decide), e1.bind ?_, e2.bind ?_⟩
      · simp only [if_true, if_pos c]; exact Ev.now _
      · simp only [if_true, if_pos c]; exact Ev.now _
    · rcases places_loop ns hn rs hrs l hl l.length 0 rfl (Nat.zero_le _) (by simp) (fun i' h => by omega) with ⟨r, g1, g2, g3⟩ | ⟨g1, g2, g3, g4⟩
      · refine ⟨([], r), by simp, .inl g1, e1.bind ?_, e2.bind ?_⟩
        · simp only [if_true, if_neg c]
          refine Ev.bind (g := fun k => feed_places.f k ns rs l) g2 ?_
          simp only [if_neg g1]; exact Ev.now _
        · simp only [if_true, if_neg c]
          exact g3
      · have hlen := distinct_len ns l g1 g2
        have hmm : ∀ x ∈ rs, 0 ≤ x.f0 ∧ x.f0 < 65536 := fun x hx => by
          have := runsOk_mem rs _ hok x hx
          have := mask_lt hn
          omega
        refine ⟨(spansF (plOf ns l) rs 0, 0), by rw [spansF_len]; exact hrs, .inr ⟨hd, hn0, hn, hrs, hok, by omega, hlen, g2, rfl⟩, e1.bind ?_, e2.bind ?_⟩
        · simp only [if_true, if_neg c]
          refine Ev.bind (g := fun k => feed_places.f k ns rs l) g3 ?_
          simp only [if_true]
          have := code_spans (plOf ns l) (by unfold plOf; rw [List.length_map]; omega) (fun p hp => by
            unfold plOf at hp
            obtain ⟨s, hs, rfl⟩ := List.mem_map.1 hp
            have := g2 s hs
            have := idx_lt ns s
            omega) rs hrs hmm rs.length 0 [] 0 rfl (Nat.zero_le _) (by simp)
          rw [List.drop_zero, List.nil_append] at this
          exact this
        · simp only [if_true, if_neg c]
          have := ref_spans ns hn l (by omega) g2 rs hrs hmm rs.length 0 [] 0 rfl (Nat.zero_le _) (by simp)
          rw [List.drop_zero, List.nil_append] at this
          exact g4 _ this
  · refine ⟨([], r), by simp, .inl hr0, e1.bind ?_, e2.bind ?_⟩
    · simp only [if_neg hr0]; exact Ev.now _
    · simp only [if_neg hr0]; exact Ev.now _

theorem levels_pure (ns : List ByteArray) (rs : List S46) (l : List ByteArray) (hl : l.length ≤ 9223372036854775807 ∧ l.length * 16 ≤ 140737488351232 ∧ ∀ z ∈ l, z.size ≤ 140737488351232) : ∃ k, signalbenchlaw14_FeedLevels.f k ns rs l = some true := by
  refine Ev.rounds (g := fun k => signalbenchlaw14_FeedLevels.f k ns rs l) ?_
  obtain ⟨E, h1, _, h2, h3⟩ := levels_ev ns rs l (by omega)
  unfold signalbenchlaw14_FeedLevels.f signalbenchlaw14_awake.f
  refine h2.bind (h3.bind ?_)
  simp only [if_true]
  refine (same_ev E.1 (by omega)).bind ?_
  simp only [if_true, Option.bind_some]
  exact Ev.now true
end Go.Proofs.Ytioedeglgljblaa.H
