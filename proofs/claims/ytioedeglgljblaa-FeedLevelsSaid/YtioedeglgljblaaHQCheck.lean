/- Whether a capture is valid, in the code and in the specification; no condition. -/
import Derived.Test.YtioedeglgljblaaHQBase
import Derived.Test.YtioedeglgljblaaH6
import Derived.Test.YtioedeglgljblaaH12
namespace Go.Proofs.Ytioedeglgljblaa.H
open Go.RowKit Go.Proofs.YtioedeglgljblaaW.PrintWords Go.Proofs.YtioedeglgljblaaW.PrintLast Go.Proofs.YtioedeglgljblaaW.PrintMore
set_option linter.unusedSimpArgs false
theorem bt_lt (s : ByteArray) (i : Int) : 0 ≤ bt s i ∧ bt s i < 256 := by
  unfold bt
  split
  · rename_i h
    have := UInt8.toNat_lt (s[i.toNat]'h)
    omega
  · omega
theorem wrap32_bt (s : ByteArray) (i : Int) : wrap32 (bt s i) = bt s i := by
  have := bt_lt s i
  unfold wrap32
  omega
def wordP (b : Int) : Prop := (97 ≤ b ∧ b ≤ 122) ∨ (48 ≤ b ∧ b ≤ 57) ∨ b = 95
instance (b : Int) : Decidable (wordP b) := by unfold wordP; infer_instance
theorem word_f (b : Int) : lex_word.f b = some (decide (wordP b)) := by
  unfold lex_word.f lex_letter.f lex_digit.f wordP
  by_cases h1 : 97 ≤ b
  · by_cases h2 : b ≤ 122
    · simp [h1, h2]
    · by_cases h3 : b = 95
      · omega
      · have h4 : ¬ b ≤ 57 := by omega
        simp [h1, h2, h3, h4, show 48 ≤ b by omega]
  · by_cases h4 : b = 95
    · subst h4
      decide
    · by_cases h2 : 48 ≤ b
      · by_cases h3 : b ≤ 57 <;> simp [h1, h2, h3, h4]
      · simp [h1, h2, h4]
theorem rname_step {α : Type} (b : Int) (R F : α) : (if b ≥ 97 then (if b ≥ 48 then (if (b ≤ 122) then R else (if (b ≤ 57) then R else (if b = 95 then R else F))) else (if (b ≤ 122) then R else (if b = 95 then R else F))) else (if b ≥ 48 then (if (b ≤ 57) then R else (if b = 95 then R else F)) else (if b = 95 then R else F))) = if wordP b then R else F := by
  by_cases h1 : b ≥ 97
  · rw [if_pos h1, if_pos (show b ≥ 48 by omega)]
    by_cases h2 : b ≤ 122
    · rw [if_pos h2, if_pos (show wordP b by unfold wordP; omega)]
    · rw [if_neg h2, if_neg (by omega), if_neg (by omega), if_neg (show ¬ wordP b by unfold wordP; omega)]
  · rw [if_neg h1]
    by_cases h2 : b ≥ 48
    · rw [if_pos h2]
      by_cases h3 : b ≤ 57
      · rw [if_pos h3, if_pos (show wordP b by unfold wordP; omega)]
      · rw [if_neg h3]
        by_cases h4 : b = 95
        · rw [if_pos h4, if_pos (show wordP b by unfold wordP; omega)]
        · rw [if_neg h4, if_neg (show ¬ wordP b by unfold wordP; omega)]
    · rw [if_neg h2]
      by_cases h4 : b = 95
      · rw [if_pos h4, if_pos (show wordP b by unfold wordP; omega)]
      · rw [if_neg h4, if_neg (show ¬ wordP b by unfold wordP; omega)]
theorem name_loop (s : ByteArray) (hs : s.size ≤ 16) : ∀ (m i : Nat), s.size - i = m → i ≤ s.size → ∃ r, ∀ k, m + 1 ≤ k → lex_Name.l0 k s (s.size : Int) (i : Int) = some r ∧ signalbenchref09_name.l0 k s (i : Int) = some r := by
  intro m
  induction m with
  | zero =>
    intro i h1 h2
    refine ⟨true, fun k hk => ?_⟩
    obtain ⟨k, rfl⟩ : ∃ q, k = q + 1 := ⟨k - 1, by omega⟩
    rw [lex_Name.l0, if_neg (by omega), signalbenchref09_name.l0, if_neg (by omega)]
    exact ⟨rfl, rfl⟩
  | succ m ih =>
    intro i h1 h2
    have hi : i < s.size := by omega
    obtain ⟨r, hr⟩ := ih (i + 1) (by omega) (by omega)
    refine ⟨if wordP (bt s i) then r else false, fun k hk => ?_⟩
    obtain ⟨k, rfl⟩ : ∃ q, k = q + 1 := ⟨k - 1, by omega⟩
    have hh := hr k (by omega)
    refine ⟨?_, ?_⟩
    · rw [lex_Name.l0, if_pos (by omega), if_pos (by omega), if_pos (by omega), wrap32_bt, word_f, Option.bind_some, next_i i _ hi (by omega)]
      by_cases c : wordP (bt s i)
      · rw [if_pos c, if_pos (decide_eq_true c)]
        exact hh.1
      · rw [if_neg c, if_neg (by simpa using c)]
    · rw [signalbenchref09_name.l0, if_pos (by omega), if_pos (by omega), next_i i _ hi (by omega), rname_step]
      by_cases c : wordP (bt s i)
      · rw [if_pos c, if_pos c]
        exact hh.2
      · rw [if_neg c, if_neg c]
theorem toList_nil_of {s : ByteArray} (h : s.size = 0) : s.toList = [] := by
  unfold ByteArray.toList ByteArray.toList.loop
  rw [if_neg (by omega)]
  rfl
theorem name_ev (s : ByteArray) : ∃ r, Ev (fun k => lex_Name.f k s) r ∧ Ev (fun k => signalbenchref09_name.f k s) r := by
  have hF : Ev (fun k => lex_Name.j0 k s true) false := Ev.le 1 (fun k => by rw [lex_Name.j0, if_pos rfl])
  have hG : Ev (fun k => signalbenchref09_name.j0 k s true) false := Ev.le 1 (fun k => by rw [signalbenchref09_name.j0, if_pos rfl])
  unfold lex_Name.f signalbenchref09_name.f
  by_cases c1 : s.toList = []
  · simp only [if_pos c1]
    exact ⟨false, hF, hG⟩
  simp only [if_neg c1]
  by_cases c2 : (s.size : Int) > 16
  · simp only [if_pos c2]
    exact ⟨false, hF, hG⟩
  simp only [if_neg c2]
  by_cases c3 : 0 < (s.size : Int)
  case neg =>
    exfalso
    apply c1
    have : s.size = 0 := by omega
    exact toList_nil_of this
  simp only [if_pos c3, wrap32_bt]
  obtain ⟨r, hr⟩ := name_loop s (by omega) s.size 0 rfl (Nat.zero_le _)
  have h1 : Ev (fun k => lex_Name.j0 k s false) r := ⟨s.size + 2, fun k hk => by
    obtain ⟨k, rfl⟩ : ∃ q, k = q + 1 := ⟨k - 1, by omega⟩
    show lex_Name.j0 (k + 1) s false = _
    rw [lex_Name.j0, if_neg (by simp)]
    exact (hr k (by omega)).1⟩
  have h2 : Ev (fun k => signalbenchref09_name.j0 k s false) r := ⟨s.size + 2, fun k hk => by
    obtain ⟨k, rfl⟩ : ∃ q, k = q + 1 := ⟨k - 1, by omega⟩
    show signalbenchref09_name.j0 (k + 1) s false = _
    rw [signalbenchref09_name.j0, if_neg (by simp)]
    exact (hr k (by omega)).2⟩
  unfold lex_letter.f
  by_cases c4 : 97 ≤ bt s 0
  · simp only [if_pos c4, Option.bind_some, if_neg (show ¬ bt s 0 < 97 by omega)]
    by_cases c5 : bt s 0 ≤ 122
    · rw [decide_eq_true c5, decide_eq_false (show ¬ bt s 0 > 122 by omega)]
      exact ⟨r, h1, h2⟩
    · rw [decide_eq_false c5, decide_eq_true (show bt s 0 > 122 by omega)]
      exact ⟨false, hF, hG⟩
  · simp only [if_neg c4, Option.bind_some, if_pos (show bt s 0 < 97 by omega)]
    exact ⟨false, hF, hG⟩
theorem rdB (xs : List ByteArray) (i : Nat) (h : i < xs.length) : rdOf ByteArray.empty xs (i : Int) = xs[i] := by
  unfold rdOf
  rw [Int.toNat_natCast, List.getD_eq_getElem?_getD, List.getElem?_eq_getElem h]
  rfl
/-- the first place from i on of a text, or -1 -/
def idxL (s : ByteArray) : List ByteArray → Nat → Int
 | [], _ => -1
 | x :: l, i => if x.toList = s.toList then (i : Int) else idxL s l (i + 1)
theorem idxL_law (s : ByteArray) : ∀ (l : List ByteArray) (i : Nat), (idxL s l i = -1 ∧ ∀ x ∈ l, x.toList ≠ s.toList) ∨ ∃ (j : Nat) (h : j < l.length), idxL s l i = ((i + j : Nat) : Int) ∧ l[j].toList = s.toList ∧ ∀ j', (h' : j' < j) → (l[j']'(by omega)).toList ≠ s.toList
  | [], _ => .inl ⟨rfl, fun x h => by simp at h⟩
  | x :: l, i => by
    unfold idxL
    by_cases c : x.toList = s.toList
    · rw [if_pos c]
      exact .inr ⟨0, by simp, rfl, c, fun j' h' => by omega⟩
    · rw [if_neg c]
      rcases idxL_law s l (i + 1) with ⟨h1, h2⟩ | ⟨j, h, h1, h2, h3⟩
      · refine .inl ⟨h1, fun y hy => ?_⟩
        rcases List.mem_cons.1 hy with rfl | hy
        · exact c
        · exact h2 y hy
      · refine .inr ⟨j + 1, by simpa using h, by rw [h1]; omega, by simpa using h2, fun j' h' => ?_⟩
        rcases j' with _ | j'
        · exact c
        · simpa using h3 j' (by omega)
theorem index_loop (l : List ByteArray) (s : ByteArray) (hl : l.length ≤ 4611686018427387904) : ∀ (m i : Nat) (k : Nat), l.length - i = m → i ≤ l.length → m + 1 ≤ k →
    slices_Index_string_string.l0 k l s (l.length : Int) (i : Int) = some (idxL s (l.drop i) i) := by
  intro m
  induction m with
  | zero =>
    intro i k h1 h2 hk
    obtain ⟨k, rfl⟩ : ∃ q, k = q + 1 := ⟨k - 1, by omega⟩
    rw [slices_Index_string_string.l0, if_neg (by omega), List.drop_eq_nil_of_le (by omega)]
    rfl
  | succ m ih =>
    intro i k h1 h2 hk
    obtain ⟨k, rfl⟩ : ∃ q, k = q + 1 := ⟨k - 1, by omega⟩
    have hi : i < l.length := by omega
    rw [slices_Index_string_string.l0, if_pos (by omega), if_pos (by omega), if_pos (by omega), rdB l i hi, next_i i _ hi hl, List.drop_eq_getElem_cons hi, idxL]
    by_cases c : s.toList = l[i].toList
    · rw [if_pos c, if_pos c.symm]
    · rw [if_neg c, if_neg (fun h => c h.symm)]
      exact ih (i + 1) k (by omega) (by omega) (by omega)
theorem index_f (l : List ByteArray) (s : ByteArray) (hl : l.length ≤ 4611686018427387904) (k : Nat) (hk : l.length + 1 ≤ k) : slices_Index_string_string.f k l s = some (idxL s l 0) := by
  have := index_loop l s hl l.length 0 k rfl (Nat.zero_le _) hk
  rw [List.drop_zero] at this
  exact this
theorem contains_f (l : List ByteArray) (s : ByteArray) (hl : l.length ≤ 4611686018427387904) (k : Nat) (hk : l.length + 1 ≤ k) : slices_Contains_string_string.f k l s = some (decide (idxL s l 0 ≥ 0)) := by
  unfold slices_Contains_string_string.f
  rw [index_f l s hl k hk]
  rfl
theorem place_loop (l : List ByteArray) (s : ByteArray) (hl : l.length ≤ 4611686018427387904) : ∀ (m i : Nat) (k : Nat), l.length - i = m → i ≤ l.length → m + 1 ≤ k →
    signalbenchref14_place.l0 k l s (i : Int) = some (idxL s (l.drop i) i) := by
  intro m
  induction m with
  | zero =>
    intro i k h1 h2 hk
    obtain ⟨k, rfl⟩ : ∃ q, k = q + 1 := ⟨k - 1, by omega⟩
    rw [signalbenchref14_place.l0, if_neg (by omega), List.drop_eq_nil_of_le (by omega)]
    rfl
  | succ m ih =>
    intro i k h1 h2 hk
    obtain ⟨k, rfl⟩ : ∃ q, k = q + 1 := ⟨k - 1, by omega⟩
    have hi : i < l.length := by omega
    rw [signalbenchref14_place.l0, if_pos (by omega), if_pos (by omega), rdB l i hi, next_i i _ hi hl, List.drop_eq_getElem_cons hi, idxL]
    by_cases c : l[i].toList = s.toList
    · rw [if_pos c, if_pos c]
    · rw [if_neg c, if_neg c]
      exact ih (i + 1) k (by omega) (by omega) (by omega)
theorem place_f (l : List ByteArray) (s : ByteArray) (hl : l.length ≤ 4611686018427387904) (k : Nat) (hk : l.length + 1 ≤ k) : signalbenchref14_place.f k l s = some (idxL s l 0) := by
  have := place_loop l s hl l.length 0 k rfl (Nat.zero_le _) hk
  rw [List.drop_zero] at this
  exact this
/-- no text twice -/
def Distinct (l : List ByteArray) : Prop := ∀ i j, (hi : i < l.length) → (hj : j < i) → (l[j]'(by omega)).toList ≠ l[i].toList
theorem idx_take (l : List ByteArray) (i : Nat) (hi : i < l.length) : (0 ≤ idxL l[i] (l.take i) 0 ↔ ∃ j, ∃ (hj : j < i), (l[j]'(by omega)).toList = l[i].toList) := by
  rcases idxL_law l[i] (l.take i) 0 with ⟨h1, h2⟩ | ⟨j, h, h1, h2, _⟩
  · rw [h1]
    refine ⟨fun h => by omega, fun ⟨j, hj, he⟩ => absurd he (h2 _ ?_)⟩
    rw [List.mem_take_iff_getElem]
    exact ⟨j, by omega, rfl⟩
  · rw [h1]
    rw [List.length_take] at h
    refine ⟨fun _ => ⟨j, by omega, ?_⟩, fun _ => by omega⟩
    rw [List.getElem_take] at h2
    exact h2
/-- the second loops: is any text there twice? -/
theorem dup_loop (l : List ByteArray) (hl : l.length ≤ 16) : ∀ (m i : Nat), l.length - i = m → (hil : i ≤ l.length) → (∀ i', (h : i' < i) → ∀ j, (hj : j < i') → (l[j]'(by omega)).toList ≠ (l[i']'(by omega)).toList) →
    ∃ r, (r = 0 ∧ Distinct l ∨ r = 9) ∧ Ev (fun k => capture_checkNames.l1 k l l (l.length : Int) (i : Int)) r ∧ Ev (fun k => signalbenchref09_names.l1 k l (i : Int)) r := by
  intro m
  induction m with
  | zero =>
    intro i h1 h2 hd
    refine ⟨0, .inl ⟨rfl, fun i' j hi hj => hd i' (by omega) j hj⟩, Ev.le 1 (fun k => by rw [capture_checkNames.l1, if_neg (by omega)]), Ev.le 1 (fun k => by rw [signalbenchref09_names.l1, if_neg (by omega)])⟩
  | succ m ih =>
    intro i h1 h2 hd
    have hi : i < l.length := by omega
    have hidx := idx_take l i hi
    -- the specification's inner loop
    have inner : ∀ (m' j : Nat), i - j = m' → (hji : j ≤ i) → (∀ j', (h : j' < j) → (l[j']'(by omega)).toList ≠ l[i].toList) → ∀ r, (¬ (∃ j, ∃ (hj : j < i), (l[j]'(by omega)).toList = l[i].toList) → Ev (fun k => signalbenchref09_names.l1 k l ((i + 1 : Nat) : Int)) r) →
        ((∃ j, ∃ (hj : j < i), (l[j]'(by omega)).toList = l[i].toList) → r = 9) → Ev (fun k => signalbenchref09_names.l2 k l (i : Int) (j : Int)) r := by
      intro m'
      induction m' with
      | zero =>
        intro j g1 g2 g3 r g4 _
        refine Ev.step (fun k => by rw [signalbenchref09_names.l2, if_neg (by omega), next_i i _ hi (by omega)]) (g4 ?_)
        rintro ⟨j', hj', he⟩
        exact g3 j' (by omega) he
      | succ m' ih' =>
        intro j g1 g2 g3 r g4 g5
        have hj : j < i := by omega
        by_cases c : l[i].toList = (l[j]'(by omega)).toList
        · rw [g5 ⟨j, hj, c.symm⟩]
          exact Ev.le 1 (fun k => by rw [signalbenchref09_names.l2, if_pos (by omega), if_pos (by omega), if_pos (by omega), if_pos (by omega), if_pos (by omega), rdB l i hi, rdB l j (by omega), if_pos c])
        · refine Ev.step (fun k => by rw [signalbenchref09_names.l2, if_pos (by omega), if_pos (by omega), if_pos (by omega), if_pos (by omega), if_pos (by omega), rdB l i hi, rdB l j (by omega), if_neg c, next_i j _ hj (by omega)]) (ih' (j + 1) (by omega) (by omega) (fun j' hj' => ?_) r g4 g5)
          by_cases e : j' = j
          · subst e
            exact fun h => c h.symm
          · exact g3 j' (by omega)
    by_cases c : ∃ j, ∃ (hj : j < i), (l[j]'(by omega)).toList = l[i].toList
    · refine ⟨9, .inr rfl, ⟨l.length + 2, fun k hk => ?_⟩, ?_⟩
      · obtain ⟨k, rfl⟩ : ∃ q, k = q + 1 := ⟨k - 1, by omega⟩
        show capture_checkNames.l1 (k + 1) l l (l.length : Int) (i : Int) = _
        rw [capture_checkNames.l1, if_pos (by omega), if_pos (by omega), if_pos (by omega), if_pos (by omega), rdB l i hi, Int.toNat_natCast, contains_f _ _ (by rw [List.length_take]; omega) k (by rw [List.length_take]; omega), Option.bind_some, decide_eq_true (hidx.2 c), if_pos rfl]
      · refine Ev.step (f := fun k => signalbenchref09_names.l2 k l (i : Int) 0) (fun k => by rw [signalbenchref09_names.l1, if_pos (by omega)]) ?_
        exact inner i 0 rfl (Nat.zero_le _) (fun j' h => by omega) 9 (fun h => absurd c h) (fun _ => rfl)
    · obtain ⟨r, hr, e1, e2⟩ := ih (i + 1) (by omega) (by omega) (fun i' h j hj => by
        by_cases e : i' = i
        · subst e
          exact fun h => c ⟨j, hj, h⟩
        · exact hd i' (by omega) j hj)
      refine ⟨r, hr, ?_, ?_⟩
      · obtain ⟨K, hK⟩ := e1
        refine ⟨K + l.length + 2, fun k hk => ?_⟩
        obtain ⟨k, rfl⟩ : ∃ q, k = q + 1 := ⟨k - 1, by omega⟩
        show capture_checkNames.l1 (k + 1) l l (l.length : Int) (i : Int) = _
        rw [capture_checkNames.l1, if_pos (by omega), if_pos (by omega), if_pos (by omega), if_pos (by omega), rdB l i hi, Int.toNat_natCast, contains_f _ _ (by rw [List.length_take]; omega) k (by rw [List.length_take]; omega), Option.bind_some, decide_eq_false (fun h => c (hidx.1 h)), if_neg (by simp), next_i i _ hi (by omega)]
        exact hK k (by omega)
      · refine Ev.step (f := fun k => signalbenchref09_names.l2 k l (i : Int) 0) (fun k => by rw [signalbenchref09_names.l1, if_pos (by omega)]) ?_
        exact inner i 0 rfl (Nat.zero_le _) (fun j' h => by omega) r (fun _ => e2) (fun h => absurd h c)
theorem names_loop (l : List ByteArray) (hl : l.length ≤ 16) : ∀ (m i : Nat), l.length - i = m → i ≤ l.length →
    ∃ r, (r = 0 ∧ Distinct l ∨ r = 9 ∨ r = 4) ∧ Ev (fun k => capture_checkNames.l0 k l l (l.length : Int) (i : Int)) r ∧ Ev (fun k => signalbenchref09_names.l0 k l (i : Int)) r := by
  intro m
  induction m with
  | zero =>
    intro i h1 h2
    obtain ⟨r, hr, e1, e2⟩ := dup_loop l hl l.length 0 rfl (Nat.zero_le _) (fun i' h => by omega)
    refine ⟨r, hr.imp id .inl, Ev.step (fun k => by rw [capture_checkNames.l0, if_neg (by omega)]; rfl) e1, Ev.step (fun k => by rw [signalbenchref09_names.l0, if_neg (by omega)]; rfl) e2⟩
  | succ m ih =>
    intro i h1 h2
    have hi : i < l.length := by omega
    obtain ⟨b, n1, n2⟩ := name_ev l[i]
    obtain ⟨r, hr, e1, e2⟩ := ih (i + 1) (by omega) (by omega)
    refine ⟨if b = true then r else 4, ?_, ?_, ?_⟩
    · by_cases c : b = true
      · rw [if_pos c]; exact hr
      · rw [if_neg c]; exact .inr (.inr rfl)
    · refine Ev.step (f := fun k => (lex_Name.f k l[i]).bind fun t108 => (if t108 = true then (capture_checkNames.l0 k l l (l.length : Int) ((i + 1 : Nat) : Int)) else (some 4))) (fun k => by rw [capture_checkNames.l0, if_pos (by omega), if_pos (by omega), if_pos (by omega), rdB l i hi, next_i i _ hi (by omega)]) (n1.bind ?_)
      by_cases c : b = true
      · simp only [if_pos c]; exact e1
      · simp only [if_neg c]; exact Ev.now 4
    · refine Ev.step (f := fun k => (signalbenchref09_name.f k l[i]).bind fun t137 => (if t137 = true then (signalbenchref09_names.l0 k l ((i + 1 : Nat) : Int)) else (some 4))) (fun k => by rw [signalbenchref09_names.l0, if_pos (by omega), if_pos (by omega), rdB l i hi, next_i i _ hi (by omega)]) (n2.bind ?_)
      by_cases c : b = true
      · simp only [if_pos c]; exact e2
      · simp only [if_neg c]; exact Ev.now 4
theorem names_ev (l : List ByteArray) (hl : l.length ≤ 16) : ∃ r, (r = 0 ∧ Distinct l ∧ 0 < l.length ∨ r ≠ 0) ∧ Ev (fun k => capture_checkNames.f k l) r ∧ Ev (fun k => signalbenchref09_names.f k l) r := by
  unfold capture_checkNames.f signalbenchref09_names.f
  simp only [if_neg (show ¬ (l.length : Int) > 16 by omega)]
  by_cases c : (l.length : Int) = 0
  · simp only [if_pos c]
    exact ⟨1, .inr (by decide), Ev.now 1, Ev.now 1⟩
  · simp only [if_neg c]
    obtain ⟨r, hr, e1, e2⟩ := names_loop l hl l.length 0 rfl (Nat.zero_le _)
    refine ⟨r, ?_, e1, e2⟩
    rcases hr with ⟨h1, h2⟩ | h1 | h1
    · exact .inl ⟨h1, h2, by omega⟩
    · exact .inr (by omega)
    · exact .inr (by omega)
-- ---- the runs
/-- runs with levels up to a mask and possible numbers of ticks -/
def RunsOk (mask : Int) : Int → List S46 → Prop
 | _, [] => True
 | left, x :: l => 0 ≤ x.f0 ∧ x.f0 ≤ mask ∧ 1 ≤ x.f1 ∧ x.f1 ≤ left ∧ RunsOk mask (left - x.f1) l
theorem runs_check (l : List S46) (hl : l.length ≤ 262144) (mask : Int) : ∀ (m i : Nat) (left : Int), l.length - i = m → i ≤ l.length → 0 ≤ left → left ≤ 1099511627776 →
    ∃ b : Bool, (b = true ↔ RunsOk mask left (l.drop i)) ∧ ∀ k, m + 1 ≤ k → capture_Check.l0 k mask left l (l.length : Int) (i : Int) = some (if b = true then 0 else 2) ∧ signalbenchref09_runs.l0 k l mask left (i : Int) = some b := by
  intro m
  induction m with
  | zero =>
    intro i left h1 h2 h3 h4
    refine ⟨true, ?_, fun k hk => ?_⟩
    · rw [List.drop_eq_nil_of_le (by omega)]
      simp [RunsOk]
    · obtain ⟨k, rfl⟩ : ∃ q, k = q + 1 := ⟨k - 1, by omega⟩
      refine ⟨?_, ?_⟩
      · rw [capture_Check.l0, if_neg (by omega)]
        rfl
      · rw [signalbenchref09_runs.l0, if_neg (by omega)]
  | succ m ih =>
    intro i left h1 h2 h3 h4
    have hi : i < l.length := by omega
    have hd := List.drop_eq_getElem_cons hi
    by_cases c : 0 ≤ l[i].f0 ∧ l[i].f0 ≤ mask ∧ 1 ≤ l[i].f1 ∧ l[i].f1 ≤ left
    · obtain ⟨b, hb, hh⟩ := ih (i + 1) (left - l[i].f1) (by omega) (by omega) (by omega) (by omega)
      have hw : wrap64 (left - l[i].f1) = left - l[i].f1 := wrap_id (by omega) (by omega)
      refine ⟨b, ?_, fun k hk => ?_⟩
      · rw [hb, hd, RunsOk]
        exact ⟨fun h => ⟨c.1, c.2.1, c.2.2.1, c.2.2.2, h⟩, fun h => h.2.2.2.2⟩
      · obtain ⟨k, rfl⟩ : ∃ q, k = q + 1 := ⟨k - 1, by omega⟩
        have hk2 := hh k (by omega)
        refine ⟨?_, ?_⟩
        · rw [capture_Check.l0, if_pos (by omega), if_pos (by omega), if_pos (by omega), rd46 l i hi, next_i i _ hi (by omega), hw, if_neg (by omega), if_neg (by omega), if_neg (by omega), if_neg (by omega)]
          exact hk2.1
        · rw [signalbenchref09_runs.l0, if_pos (by omega), if_pos (by omega), rd46 l i hi, next_i i _ hi (by omega), hw, if_neg (by omega), if_neg (by omega), if_neg (by omega), if_neg (by omega)]
          exact hk2.2
    · refine ⟨false, ?_, fun k hk => ?_⟩
      · rw [hd, RunsOk]
        exact ⟨fun h => by simp at h, fun h => absurd ⟨h.1, h.2.1, h.2.2.1, h.2.2.2.1⟩ c⟩
      · obtain ⟨k, rfl⟩ : ∃ q, k = q + 1 := ⟨k - 1, by omega⟩
        refine ⟨?_, ?_⟩
        · rw [capture_Check.l0, if_pos (by omega), if_pos (by omega), if_pos (by omega), rd46 l i hi]
          by_cases d1 : l[i].f0 < 0
          · rw [if_pos d1]; rfl
          · rw [if_neg d1]
            by_cases d2 : l[i].f0 > mask
            · rw [if_pos d2]; rfl
            · rw [if_neg d2]
              by_cases d3 : l[i].f1 < 1
              · rw [if_pos d3]; rfl
              · rw [if_neg d3, if_pos (by omega)]
                rfl
        · rw [signalbenchref09_runs.l0, if_pos (by omega), if_pos (by omega), rd46 l i hi]
          by_cases d1 : l[i].f0 < 0
          · rw [if_pos d1]
          · rw [if_neg d1]
            by_cases d2 : l[i].f0 > mask
            · rw [if_pos d2]
            · rw [if_neg d2]
              by_cases d3 : l[i].f1 < 1
              · rw [if_pos d3]
              · rw [if_neg d3, if_pos (by omega)]
/-- the mask of a number of channels -/
def maskOf (n : Nat) : Int := wrap64 ((shl .i64 1 (n : Int)) - 1)
theorem check_ev (ns : List ByteArray) (rs : List S46) : ∃ r, (r = 0 ∧ Distinct ns ∧ 0 < ns.length ∧ ns.length ≤ 16 ∧ rs.length ≤ 262144 ∧ RunsOk (maskOf ns.length) 1099511627776 rs ∨ r ≠ 0) ∧ Ev (fun k => capture_Check.f k ns rs) r ∧ Ev (fun k => signalbenchref09_Check.f k ns rs) r := by
  have h6 : Ev (fun k => capture_Check.j0 k true ns rs) 6 := Ev.le 1 (fun k => by rw [capture_Check.j0, if_pos rfl])
  unfold capture_Check.f signalbenchref09_Check.f
  by_cases c1 : (rs.length : Int) > 262144
  · simp only [if_pos c1]
    refine ⟨6, .inr (by decide), ?_, Ev.now 6⟩
    by_cases c2 : (ns.length : Int) > 16
    · simp only [if_pos c2]; exact h6
    · simp only [if_neg c2, decide_eq_true c1]; exact h6
  · simp only [if_neg c1, decide_eq_false c1]
    by_cases c2 : (ns.length : Int) > 16
    · simp only [if_pos c2]
      refine ⟨6, .inr (by decide), h6, ?_⟩
      unfold signalbenchref09_names.f
      simp only [if_pos c2, Option.bind_some]
      simp only [if_neg (show ¬ (6 : Int) = 0 by decide)]
      exact Ev.now 6
    · simp only [if_neg c2]
      obtain ⟨r, hr, e1, e2⟩ := names_ev ns (by omega)
      obtain ⟨b, hb, hh⟩ := runs_check rs (by omega) (maskOf ns.length) rs.length 0 1099511627776 rfl (Nat.zero_le _) (by omega) (by omega)
      rw [List.drop_zero] at hb
      have g1 : Ev (fun k => capture_Check.l0 k (maskOf ns.length) 1099511627776 rs (rs.length : Int) 0) (if b = true then 0 else 2) := ⟨rs.length + 1, fun k hk => (hh k hk).1⟩
      have g2 : Ev (fun k => signalbenchref09_runs.f k rs (maskOf ns.length)) b := ⟨rs.length + 1, fun k hk => (hh k hk).2⟩
      refine ⟨if r = 0 then (if b = true then 0 else 2) else r, ?_, ?_, ?_⟩
      · rcases hr with ⟨h1, h2, h3⟩ | h1
        · rw [if_pos h1]
          by_cases c3 : b = true
          · rw [if_pos c3]
            exact .inl ⟨rfl, h2, h3, by omega, by omega, hb.1 c3⟩
          · rw [if_neg c3]
            exact .inr (by decide)
        · rw [if_neg h1]
          exact .inr h1
      · refine Ev.step (f := fun k => (capture_checkNames.f k ns).bind fun t113 => (if t113 = 0 then (capture_Check.l0 k (wrap64 ((shl .i64 1 (ns.length : Int)) - 1)) 1099511627776 rs (rs.length : Int) 0) else (some t113))) (fun k => by rw [capture_Check.j0, if_neg (by simp)]) (e1.bind ?_)
        by_cases c3 : r = 0
        · simp only [if_pos c3]; exact g1
        · simp only [if_neg c3]; exact Ev.now r
      · refine e2.bind ?_
        by_cases c3 : r = 0
        · simp only [if_pos c3]
          refine Ev.bind g2 ?_
          by_cases c4 : b = true
          · simp only [if_pos c4]; exact Ev.now 0
          · simp only [if_neg c4]; exact Ev.now 2
        · simp only [if_neg c3]; exact Ev.now r
end Go.Proofs.Ytioedeglgljblaa.H
