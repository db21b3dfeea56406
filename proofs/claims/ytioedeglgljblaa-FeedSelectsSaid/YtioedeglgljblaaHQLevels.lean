/- Whether a capture is valid, and what the spans of chosen channels come to, in the code and in the specification; no condition beyond a list's own length. -/
import Derived.Test.YtioedeglgljblaaHQBase
import Derived.Test.YtioedeglgljblaaH6
import Derived.Test.YtioedeglgljblaaH8
import Derived.Test.YtioedeglgljblaaH12
import Derived.Test.YtioedeglgljblaaH14
namespace Go.Proofs.Ytioedeglgljblaa.H
open Go.RowKit Go.Proofs.YtioedeglgljblaaW.PrintWords Go.Proofs.YtioedeglgljblaaW.PrintLast Go.Proofs.YtioedeglgljblaaW.PrintMore
set_option linter.unusedSimpArgs false
theorem bt_lt (s : ByteArray) (i : Int) : 0 ≤ bt s i ∧ bt s i < 256 := by
  unfold bt
  split
  · rename_i h
    have := UInt8.toNat_lt (s[i.toNat]'h)
    omega
  · omega
theorem wrap32_bt (s : ByteArray) (i : Int) : wrap32 (bt s i) = bt s i := by
  have := bt_lt s i
  unfold wrap32
  omega
def wordP (b : Int) : Prop := (97 ≤ b ∧ b ≤ 122) ∨ (48 ≤ b ∧ b ≤ 57) ∨ b = 95
instance (b : Int) : Decidable (wordP b) := by unfold wordP; infer_instance
theorem word_f (b : Int) : lex_word.f b = some (decide (wordP b)) := by
  unfold lex_word.f lex_letter.f lex_digit.f wordP
  by_cases h1 : 97 ≤ b
  · by_cases h2 : b ≤ 122
    · simp [h1, h2]
    · by_cases h3 : b = 95
      · omega
      · have h4 : ¬ b ≤ 57 := by omega
        simp [h1, h2, h3, h4, show 48 ≤ b by omega]
  · by_cases h4 : b = 95
    · subst h4
      decide
    · by_cases h2 : 48 ≤ b
      · by_cases h3 : b ≤ 57 <;> simp [h1, h2, h3, h4]
      · simp [h1, h2, h4]
theorem rname_step {α : Type} (b : Int) (R F : α) : (if b ≥ 97 then (if b ≥ 48 then (if (b ≤ 122) then R else (if (b ≤ 57) then R else (if b = 95 then R else F))) else (if (b ≤ 122) then R else (if b = 95 then R else F))) else (if b ≥ 48 then (if (b ≤ 57) then R else (if b = 95 then R else F)) else (if b = 95 then R else F))) = if wordP b then R else F := by
  by_cases h1 : b ≥ 97
  · rw [if_pos h1, if_pos (show b ≥ 48 by omega)]
    by_cases h2 : b ≤ 122
    · rw [if_pos h2, if_pos (show wordP b by unfold wordP; omega)]
    · rw [if_neg h2, if_neg (by omega), if_neg (by omega), if_neg (show ¬ wordP b by unfold wordP; omega)]
  · rw [if_neg h1]
    by_cases h2 : b ≥ 48
    · rw [if_pos h2]
      by_cases h3 : b ≤ 57
      · rw [if_pos h3, if_pos (show wordP b by unfold wordP; omega)]
      · rw [if_neg h3]
        by_cases h4 : b = 95
        · rw [if_pos h4, if_pos (show wordP b by unfold wordP; omega)]
        · rw [if_neg h4, if_neg (show ¬ wordP b by unfold wordP; omega)]
    · rw [if_neg h2]
      by_cases h4 : b = 95
      · rw [if_pos h4, if_pos (show wordP b by unfold wordP; omega)]
      · rw [if_neg h4, if_neg (show ¬ wordP b by unfold wordP; omega)]
theorem name_loop (s : ByteArray) (hs : s.size ≤ 16) : ∀ (m i : Nat), s.size - i = m → i ≤ s.size → ∃ r, ∀ k, m + 1 ≤ k → lex_Name.l0 k s (s.size : Int) (i : Int) = some r ∧ signalbenchref09_name.l0 k s (i : Int) = some r := by
  intro m
  induction m with
  | zero =>
    intro i h1 h2
    refine ⟨true, fun k hk => ?_⟩
    obtain ⟨k, rfl⟩ : ∃ q, k = q + 1 := ⟨k - 1, by omega⟩
    rw [lex_Name.l0, if_neg (by omega), signalbenchref09_name.l0, if_neg (by omega)]
    exact ⟨rfl, rfl⟩
  | succ m ih =>
    intro i h1 h2
    have hi : i < s.size := by omega
    obtain ⟨r, hr⟩ := ih (i + 1) (by omega) (by omega)
    refine ⟨if wordP (bt s i) then r else false, fun k hk => ?_⟩
    obtain ⟨k, rfl⟩ : ∃ q, k = q + 1 := ⟨k - 1, by omega⟩
    have hh := hr k (by omega)
    refine ⟨?_, ?_⟩
    · rw [lex_Name.l0, if_pos (by omega), if_pos (by omega), if_pos (by omega), wrap32_bt, word_f, Option.bind_some, next_i i _ hi (by omega)]
      by_cases c : wordP (bt s i)
      · rw [if_pos c, if_pos (decide_eq_true c)]
        exact hh.1
      · rw [if_neg c, if_neg (by simpa using c)]
    · rw [signalbenchref09_name.l0, if_pos (by omega), if_pos (by omega), next_i i _ hi (by omega), rname_step]
      by_cases c : wordP (bt s i)
      · rw [if_pos c, if_pos c]
        exact hh.2
      · rw [if_neg c, if_neg c]
theorem toList_nil_of {s : ByteArray} (h : s.size = 0) : s.toList = [] := by
  unfold ByteArray.toList ByteArray.toList.loop
  rw [if_neg (by omega)]
  rfl
theorem name_ev (s : ByteArray) : ∃ r, Ev (fun k => lex_Name.f k s) r ∧ Ev (fun k => signalbenchref09_name.f k s) r := by
  have hF : Ev (fun k => lex_Name.j0 k s true) false := Ev.le 1 (fun k => by rw [lex_Name.j0, if_pos rfl])
  have hG : Ev (fun k => signalbenchref09_name.j0 k s true) false := Ev.le 1 (fun k => by rw [signalbenchref09_name.j0, if_pos rfl])
  unfold lex_Name.f signalbenchref09_name.f
  by_cases c1 : s.toList = []
  · simp only [if_pos c1]
    exact ⟨false, hF, hG⟩
  simp only [if_neg c1]
  by_cases c2 : (s.size : Int) > 16
  · simp only [if_pos c2]
    exact ⟨false, hF, hG⟩
  simp only [if_neg c2]
  by_cases c3 : 0 < (s.size : Int)
  case neg =>
    exfalso
    apply c1
    have : s.size = 0 := by omega
    exact toList_nil_of this
  simp only [if_pos c3, wrap32_bt]
  obtain ⟨r, hr⟩ := name_loop s (by omega) s.size 0 rfl (Nat.zero_le _)
  have h1 : Ev (fun k => lex_Name.j0 k s false) r := ⟨s.size + 2, fun k hk => by
    obtain ⟨k, rfl⟩ : ∃ q, k = q + 1 := ⟨k - 1, by omega⟩
    show lex_Name.j0 (k + 1) s false = _
    rw [lex_Name.j0, if_neg (by simp)]
    exact (hr k (by omega)).1⟩
  have h2 : Ev (fun k => signalbenchref09_name.j0 k s false) r := ⟨s.size + 2, fun k hk => by
    obtain ⟨k, rfl⟩ : ∃ q, k = q + 1 := ⟨k - 1, by omega⟩
    show signalbenchref09_name.j0 (k + 1) s false = _
    rw [signalbenchref09_name.j0, if_neg (by simp)]
    exact (hr k (by omega)).2⟩
  unfold lex_letter.f
  by_cases c4 : 97 ≤ bt s 0
  · simp only [if_pos c4, Option.bind_some, if_neg (show ¬ bt s 0 < 97 by omega)]
    by_cases c5 : bt s 0 ≤ 122
    · rw [decide_eq_true c5, decide_eq_false (show ¬ bt s 0 > 122 by omega)]
      exact ⟨r, h1, h2⟩
    · rw [decide_eq_false c5, decide_eq_true (show bt s 0 > 122 by omega)]
      exact ⟨false, hF, hG⟩
  · simp only [if_neg c4, Option.bind_some, if_pos (show bt s 0 < 97 by omega)]
    exact ⟨false, hF, hG⟩
theorem rdB (xs : List ByteArray) (i : Nat) (h : i < xs.length) : rdOf ByteArray.empty xs (i : Int) = xs[i] := by
  unfold rdOf
  rw [Int.toNat_natCast, List.getD_eq_getElem?_getD, List.getElem?_eq_getElem h]
  rfl
/-- the first place from i on of a text, or -1 -/
def idxL (s : ByteArray) : List ByteArray → Nat → Int
 | [], _ => -1
 | x :: l, i => if x.toList = s.toList then (i : Int) else idxL s l (i + 1)
theorem idxL_law (s : ByteArray) : ∀ (l : List ByteArray) (i : Nat), (idxL s l i = -1 ∧ ∀ x ∈ l, x.toList ≠ s.toList) ∨ ∃ (j : Nat) (h : j < l.length), idxL s l i = ((i + j : Nat) : Int) ∧ l[j].toList = s.toList ∧ ∀ j', (h' : j' < j) → (l[j']'(by omega)).toList ≠ s.toList
  | [], _ => .inl ⟨rfl, fun x h => by simp at h⟩
  | x :: l, i => by
    unfold idxL
    by_cases c : x.toList = s.toList
    · rw [if_pos c]
      exact .inr ⟨0, by simp, rfl, c, fun j' h' => by omega⟩
    · rw [if_neg c]
      rcases idxL_law s l (i + 1) with ⟨h1, h2⟩ | ⟨j, h, h1, h2, h3⟩
      · refine .inl ⟨h1, fun y hy => ?_⟩
        rcases List.mem_cons.1 hy with rfl | hy
        · exact c
        · exact h2 y hy
      · refine .inr ⟨j + 1, by simpa using h, by rw [h1]; omega, by simpa using h2, fun j' h' => ?_⟩
        rcases j' with _ | j'
        · exact c
        · simpa using h3 j' (by omega)
theorem index_loop (l : List ByteArray) (s : ByteArray) (hl : l.length ≤ 4611686018427387904) : ∀ (m i : Nat) (k : Nat), l.length - i = m → i ≤ l.length → m + 1 ≤ k →
    slices_Index_string_string.l0 k l s (l.length : Int) (i : Int) = some (idxL s (l.drop i) i) := by
  intro m
  induction m with
  | zero =>
    intro i k h1 h2 hk
    obtain ⟨k, rfl⟩ : ∃ q, k = q + 1 := ⟨k - 1, by omega⟩
    rw [slices_Index_string_string.l0, if_neg (by omega), List.drop_eq_nil_of_le (by omega)]
    rfl
  | succ m ih =>
    intro i k h1 h2 hk
    obtain ⟨k, rfl⟩ : ∃ q, k = q + 1 := ⟨k - 1, by omega⟩
    have hi : i < l.length := by omega
    rw [slices_Index_string_string.l0, if_pos (by omega), if_pos (by omega), if_pos (by omega), rdB l i hi, next_i i _ hi hl, List.drop_eq_getElem_cons hi, idxL]
    by_cases c : s.toList = l[i].toList
    · rw [if_pos c, if_pos c.symm]
    · rw [if_neg c, if_neg (fun h => c h.symm)]
      exact ih (i + 1) k (by omega) (by omega) (by omega)
theorem index_f (l : List ByteArray) (s : ByteArray) (hl : l.length ≤ 4611686018427387904) (k : Nat) (hk : l.length + 1 ≤ k) : slices_Index_string_string.f k l s = some (idxL s l 0) := by
  have := index_loop l s hl l.length 0 k rfl (Nat.zero_le _) hk
  rw [List.drop_zero] at this
  exact this
theorem contains_f (l : List ByteArray) (s : ByteArray) (hl : l.length ≤ 4611686018427387904) (k : Nat) (hk : l.length + 1 ≤ k) : slices_Contains_string_string.f k l s = some (decide (idxL s l 0 ≥ 0)) := by
  unfold slices_Contains_string_string.f
  rw [index_f l s hl k hk]
  rfl
theorem place_loop (l : List ByteArray) (s : ByteArray) (hl : l.length ≤ 4611686018427387904) : ∀ (m i : Nat) (k : Nat), l.length - i = m → i ≤ l.length → m + 1 ≤ k →
    signalbenchref14_place.l0 k l s (i : Int) = some (idxL s (l.drop i) i) := by
  intro m
  induction m with
  | zero =>
    intro i k h1 h2 hk
    obtain ⟨k, rfl⟩ : ∃ q, k = q + 1 := ⟨k - 1, by omega⟩
    rw [signalbenchref14_place.l0, if_neg (by omega), List.drop_eq_nil_of_le (by omega)]
    rfl
  | succ m ih =>
    intro i k h1 h2 hk
    obtain ⟨k, rfl⟩ : ∃ q, k = q + 1 := ⟨k - 1, by omega⟩
    have hi : i < l.length := by omega
    rw [signalbenchref14_place.l0, if_pos (by omega), if_pos (by omega), rdB l i hi, next_i i _ hi hl, List.drop_eq_getElem_cons hi, idxL]
    by_cases c : l[i].toList = s.toList
    · rw [if_pos c, if_pos c]
    · rw [if_neg c, if_neg c]
      exact ih (i + 1) k (by omega) (by omega) (by omega)
theorem place_f (l : List ByteArray) (s : ByteArray) (hl : l.length ≤ 4611686018427387904) (k : Nat) (hk : l.length + 1 ≤ k) : signalbenchref14_place.f k l s = some (idxL s l 0) := by
  have := place_loop l s hl l.length 0 k rfl (Nat.zero_le _) hk
  rw [List.drop_zero] at this
  exact this
/-- no text twice -/
def Distinct (l : List ByteArray) : Prop := ∀ i j, (hi : i < l.length) → (hj : j < i) → (l[j]'(by omega)).toList ≠ l[i].toList
theorem idx_take (l : List ByteArray) (i : Nat) (hi : i < l.length) : (0 ≤ idxL l[i] (l.take i) 0 ↔ ∃ j, ∃ (hj : j < i), (l[j]'(by omega)).toList = l[i].toList) := by
  rcases idxL_law l[i] (l.take i) 0 with ⟨h1, h2⟩ | ⟨j, h, h1, h2, _⟩
  · rw [h1]
    refine ⟨fun h => by omega, fun ⟨j, hj, he⟩ => absurd he (h2 _ ?_)⟩
    rw [List.mem_take_iff_getElem]
    exact ⟨j, by omega, rfl⟩
  · rw [h1]
    rw [List.length_take] at h
    refine ⟨fun _ => ⟨j, by omega, ?_⟩, fun _ => by omega⟩
    rw [List.getElem_take] at h2
    exact h2
/-- the second loops: is any text there twice? -/
theorem dup_loop (l : List ByteArray) (hl : l.length ≤ 16) : ∀ (m i : Nat), l.length - i = m → (hil : i ≤ l.length) → (∀ i', (h : i' < i) → ∀ j, (hj : j < i') → (l[j]'(by omega)).toList ≠ (l[i']'(by omega)).toList) →
    ∃ r, (r = 0 ∧ Distinct l ∨ r = 9) ∧ Ev (fun k => capture_checkNames.l1 k l l (l.length : Int) (i : Int)) r ∧ Ev (fun k => signalbenchref09_names.l1 k l (i : Int)) r := by
  intro m
  induction m with
  | zero =>
    intro i h1 h2 hd
    refine ⟨0, .inl ⟨rfl, fun i' j hi hj => hd i' (by omega) j hj⟩, Ev.le 1 (fun k => by rw [capture_checkNames.l1, if_neg (by omega)]), Ev.le 1 (fun k => by rw [signalbenchref09_names.l1, if_neg (by omega)])⟩
  | succ m ih =>
    intro i h1 h2 hd
    have hi : i < l.length := by omega
    have hidx := idx_take l i hi
    -- the specification's inner loop
    have inner : ∀ (m' j : Nat), i - j = m' → (hji : j ≤ i) → (∀ j', (h : j' < j) → (l[j']'(by omega)).toList ≠ l[i].toList) → ∀ r, (¬ (∃ j, ∃ (hj : j < i), (l[j]'(by omega)).toList = l[i].toList) → Ev (fun k => signalbenchref09_names.l1 k l ((i + 1 : Nat) : Int)) r) →
        ((∃ j, ∃ (hj : j < i), (l[j]'(by omega)).toList = l[i].toList) → r = 9) → Ev (fun k => signalbenchref09_names.l2 k l (i : Int) (j : Int)) r := by
      intro m'
      induction m' with
      | zero =>
        intro j g1 g2 g3 r g4 _
        refine Ev.step (fun k => by rw [signalbenchref09_names.l2, if_neg (by omega), next_i i _ hi (by omega)]) (g4 ?_)
        rintro ⟨j', hj', he⟩
        exact g3 j' (by omega) he
      | succ m' ih' =>
        intro j g1 g2 g3 r g4 g5
        have hj : j < i := by omega
        by_cases c : l[i].toList = (l[j]'(by omega)).toList
        · rw [g5 ⟨j, hj, c.symm⟩]
          exact Ev.le 1 (fun k => by rw [signalbenchref09_names.l2, if_pos (by omega), if_pos (by omega), if_pos (by omega), if_pos (by omega), if_pos (by omega), rdB l i hi, rdB l j (by omega), if_pos c])
        · refine Ev.step (fun k => by rw [signalbenchref09_names.l2, if_pos (by omega), if_pos (by omega), if_pos (by omega), if_pos (by omega), if_pos (by omega), rdB l i hi, rdB l j (by omega), if_neg c, next_i j _ hj (by omega)]) (ih' (j + 1) (by omega) (by omega) (fun j' hj' => ?_) r g4 g5)
          by_cases e : j' = j
          · subst e
            exact fun h => c h.symm
          · exact g3 j' (by omega)
    by_cases c : ∃ j, ∃ (hj : j < i), (l[j]'(by omega)).toList = l[i].toList
    · refine ⟨9, .inr rfl, ⟨l.length + 2, fun k hk => ?_⟩, ?_⟩
      · obtain ⟨k, rfl⟩ : ∃ q, k = q + 1 := ⟨k - 1, by omega⟩
        show capture_checkNames.l1 (k + 1) l l (l.length : Int) (i : Int) = _
        rw [capture_checkNames.l1, if_pos (by omega), if_pos (by omega), if_pos (by omega), if_pos (by omega), rdB l i hi, Int.toNat_natCast, contains_f _ _ (by rw [List.length_take]; omega) k (by rw [List.length_take]; omega), Option.bind_some, decide_eq_true (hidx.2 c), if_pos rfl]
      · refine Ev.step (f := fun k => signalbenchref09_names.l2 k l (i : Int) 0) (fun k => by rw [signalbenchref09_names.l1, if_pos (by omega)]) ?_
        exact inner i 0 rfl (Nat.zero_le _) (fun j' h => by omega) 9 (fun h => absurd c h) (fun _ => rfl)
    · obtain ⟨r, hr, e1, e2⟩ := ih (i + 1) (by omega) (by omega) (fun i' h j hj => by
        by_cases e : i' = i
        · subst e
          exact fun h => c ⟨j, hj, h⟩
        · exact hd i' (by omega) j hj)
      refine ⟨r, hr, ?_, ?_⟩
      · obtain ⟨K, hK⟩ := e1
        refine ⟨K + l.length + 2, fun k hk => ?_⟩
        obtain ⟨k, rfl⟩ : ∃ q, k = q + 1 := ⟨k - 1, by omega⟩
        show capture_checkNames.l1 (k + 1) l l (l.length : Int) (i : Int) = _
        rw [capture_checkNames.l1, if_pos (by omega), if_pos (by omega), if_pos (by omega), if_pos (by omega), rdB l i hi, Int.toNat_natCast, contains_f _ _ (by rw [List.length_take]; omega) k (by rw [List.length_take]; omega), Option.bind_some, decide_eq_false (fun h => c (hidx.1 h)), if_neg (by simp), next_i i _ hi (by omega)]
        exact hK k (by omega)
      · refine Ev.step (f := fun k => signalbenchref09_names.l2 k l (i : Int) 0) (fun k => by rw [signalbenchref09_names.l1, if_pos (by omega)]) ?_
        exact inner i 0 rfl (Nat.zero_le _) (fun j' h => by omega) r (fun _ => e2) (fun h => absurd h c)
theorem names_loop (l : List ByteArray) (hl : l.length ≤ 16) : ∀ (m i : Nat), l.length - i = m → i ≤ l.length →
    ∃ r, (r = 0 ∧ Distinct l ∨ r = 9 ∨ r = 4) ∧ Ev (fun k => capture_checkNames.l0 k l l (l.length : Int) (i : Int)) r ∧ Ev (fun k => signalbenchref09_names.l0 k l (i : Int)) r := by
  intro m
  induction m with
  | zero =>
    intro i h1 h2
    obtain ⟨r, hr, e1, e2⟩ := dup_loop l hl l.length 0 rfl (Nat.zero_le _) (fun i' h => by omega)
    refine ⟨r, hr.imp id .inl, Ev.step (fun k => by rw [capture_checkNames.l0, if_neg (by omega)]; rfl) e1, Ev.step (fun k => by rw [signalbenchref09_names.l0, if_neg (by omega)]; rfl) e2⟩
  | succ m ih =>
    intro i h1 h2
    have hi : i < l.length := by omega
    obtain ⟨b, n1, n2⟩ := name_ev l[i]
    obtain ⟨r, hr, e1, e2⟩ := ih (i + 1) (by omega) (by omega)
    refine ⟨if b = true then r else 4, ?_, ?_, ?_⟩
    · by_cases c : b = true
      · rw [if_pos c]; exact hr
      · rw [if_neg c]; exact .inr (.inr rfl)
    · refine Ev.step (f := fun k => (lex_Name.f k l[i]).bind fun t108 => (if t108 = true then (capture_checkNames.l0 k l l (l.length : Int) ((i + 1 : Nat) : Int)) else (some 4))) (fun k => by rw [capture_checkNames.l0, if_pos (by omega), if_pos (by omega), if_pos (by omega), rdB l i hi, next_i i _ hi (by omega)]) (n1.bind ?_)
      by_cases c : b = true
      · simp only [if_pos c]; exact e1
      · simp only [if_neg c]; exact Ev.now 4
    · refine Ev.step (f := fun k => (signalbenchref09_name.f k l[i]).bind fun t137 => (if t137 = true then (signalbenchref09_names.l0 k l ((i + 1 : Nat) : Int)) else (some 4))) (fun k => by rw [signalbenchref09_names.l0, if_pos (by omega), if_pos (by omega), rdB l i hi, next_i i _ hi (by omega)]) (n2.bind ?_)
      by_cases c : b = true
      · simp only [if_pos c]; exact e2
      · simp only [if_neg c]; exact Ev.now 4
theorem names_ev (l : List ByteArray) (hl : l.length ≤ 16) : ∃ r, (r = 0 ∧ Distinct l ∧ 0 < l.length ∨ r ≠ 0) ∧ Ev (fun k => capture_checkNames.f k l) r ∧ Ev (fun k => signalbenchref09_names.f k l) r := by
  unfold capture_checkNames.f signalbenchref09_names.f
  simp only [if_neg (show ¬ (l.length : Int) > 16 by omega)]
  by_cases c : (l.length : Int) = 0
  · simp only [if_pos c]
    exact ⟨1, .inr (by decide), Ev.now 1, Ev.now 1⟩
  · simp only [if_neg c]
    obtain ⟨r, hr, e1, e2⟩ := names_loop l hl l.length 0 rfl (Nat.zero_le _)
    refine ⟨r, ?_, e1, e2⟩
    rcases hr with ⟨h1, h2⟩ | h1 | h1
    · exact .inl ⟨h1, h2, by omega⟩
    · exact .inr (by omega)
    · exact .inr (by omega)
-- ---- the runs
/-- runs with levels up to a mask and possible numbers of ticks -/
def RunsOk (mask : Int) : Int → List S46 → Prop
 | _, [] => True
 | left, x :: l => 0 ≤ x.f0 ∧ x.f0 ≤ mask ∧ 1 ≤ x.f1 ∧ x.f1 ≤ left ∧ RunsOk mask (left - x.f1) l
theorem runs_check (l : List S46) (hl : l.length ≤ 262144) (mask : Int) : ∀ (m i : Nat) (left : Int), l.length - i = m → i ≤ l.length → 0 ≤ left → left ≤ 1099511627776 →
    ∃ b : Bool, (b = true ↔ RunsOk mask left (l.drop i)) ∧ ∀ k, m + 1 ≤ k → capture_Check.l0 k mask left l (l.length : Int) (i : Int) = some (if b = true then 0 else 2) ∧ signalbenchref09_runs.l0 k l mask left (i : Int) = some b := by
  intro m
  induction m with
  | zero =>
    intro i left h1 h2 h3 h4
    refine ⟨true, ?_, fun k hk => ?_⟩
    · rw [List.drop_eq_nil_of_le (by omega)]
      simp [RunsOk]
    · obtain ⟨k, rfl⟩ : ∃ q, k = q + 1 := ⟨k - 1, by omega⟩
      refine ⟨?_, ?_⟩
      · rw [capture_Check.l0, if_neg (by omega)]
        rfl
      · rw [signalbenchref09_runs.l0, if_neg (by omega)]
  | succ m ih =>
    intro i left h1 h2 h3 h4
    have hi : i < l.length := by omega
    have hd := List.drop_eq_getElem_cons hi
    by_cases c : 0 ≤ l[i].f0 ∧ l[i].f0 ≤ mask ∧ 1 ≤ l[i].f1 ∧ l[i].f1 ≤ left
    · obtain ⟨b, hb, hh⟩ := ih (i + 1) (left - l[i].f1) (by omega) (by omega) (by omega) (by omega)
      have hw : wrap64 (left - l[i].f1) = left - l[i].f1 := wrap_id (by omega) (by omega)
      refine ⟨b, ?_, fun k hk => ?_⟩
      · rw [hb, hd, RunsOk]
        exact ⟨fun h => ⟨c.1, c.2.1, c.2.2.1, c.2.2.2, h⟩, fun h => h.2.2.2.2⟩
      · obtain ⟨k, rfl⟩ : ∃ q, k = q + 1 := ⟨k - 1, by omega⟩
        have hk2 := hh k (by omega)
        refine ⟨?_, ?_⟩
        · rw [capture_Check.l0, if_pos (by omega), if_pos (by omega), if_pos (by omega), rd46 l i hi, next_i i _ hi (by omega), hw, if_neg (by omega), if_neg (by omega), if_neg (by omega), if_neg (by omega)]
          exact hk2.1
        · rw [signalbenchref09_runs.l0, if_pos (by omega), if_pos (by omega), rd46 l i hi, next_i i _ hi (by omega), hw, if_neg (by omega), if_neg (by omega), if_neg (by omega), if_neg (by omega)]
          exact hk2.2
    · refine ⟨false, ?_, fun k hk => ?_⟩
      · rw [hd, RunsOk]
        exact ⟨fun h => by simp at h, fun h => absurd ⟨h.1, h.2.1, h.2.2.1, h.2.2.2.1⟩ c⟩
      · obtain ⟨k, rfl⟩ : ∃ q, k = q + 1 := ⟨k - 1, by omega⟩
        refine ⟨?_, ?_⟩
        · rw [capture_Check.l0, if_pos (by omega), if_pos (by omega), if_pos (by omega), rd46 l i hi]
          by_cases d1 : l[i].f0 < 0
          · rw [if_pos d1]; rfl
          · rw [if_neg d1]
            by_cases d2 : l[i].f0 > mask
            · rw [if_pos d2]; rfl
            · rw [if_neg d2]
              by_cases d3 : l[i].f1 < 1
              · rw [if_pos d3]; rfl
              · rw [if_neg d3, if_pos (by omega)]
                rfl
        · rw [signalbenchref09_runs.l0, if_pos (by omega), if_pos (by omega), rd46 l i hi]
          by_cases d1 : l[i].f0 < 0
          · rw [if_pos d1]
          · rw [if_neg d1]
            by_cases d2 : l[i].f0 > mask
            · rw [if_pos d2]
            · rw [if_neg d2]
              by_cases d3 : l[i].f1 < 1
              · rw [if_pos d3]
              · rw [if_neg d3, if_pos (by omega)]
/-- the mask of a number of channels -/
def maskOf (n : Nat) : Int := wrap64 ((shl .i64 1 (n : Int)) - 1)
theorem check_ev (ns : List ByteArray) (rs : List S46) : ∃ r, (r = 0 ∧ Distinct ns ∧ 0 < ns.length ∧ ns.length ≤ 16 ∧ rs.length ≤ 262144 ∧ RunsOk (maskOf ns.length) 1099511627776 rs ∨ r ≠ 0) ∧ Ev (fun k => capture_Check.f k ns rs) r ∧ Ev (fun k => signalbenchref09_Check.f k ns rs) r := by
  have h6 : Ev (fun k => capture_Check.j0 k true ns rs) 6 := Ev.le 1 (fun k => by rw [capture_Check.j0, if_pos rfl])
  unfold capture_Check.f signalbenchref09_Check.f
  by_cases c1 : (rs.length : Int) > 262144
  · simp only [if_pos c1]
    refine ⟨6, .inr (by decide), ?_, Ev.now 6⟩
    by_cases c2 : (ns.length : Int) > 16
    · simp only [if_pos c2]; exact h6
    · simp only [if_neg c2, decide_eq_true c1]; exact h6
  · simp only [if_neg c1, decide_eq_false c1]
    by_cases c2 : (ns.length : Int) > 16
    · simp only [if_pos c2]
      refine ⟨6, .inr (by decide), h6, ?_⟩
      unfold signalbenchref09_names.f
      simp only [if_pos c2, Option.bind_some]
      simp only [if_neg (show ¬ (6 : Int) = 0 by decide)]
      exact Ev.now 6
    · simp only [if_neg c2]
      obtain ⟨r, hr, e1, e2⟩ := names_ev ns (by omega)
      obtain ⟨b, hb, hh⟩ := runs_check rs (by omega) (maskOf ns.length) rs.length 0 1099511627776 rfl (Nat.zero_le _) (by omega) (by omega)
      rw [List.drop_zero] at hb
      have g1 : Ev (fun k => capture_Check.l0 k (maskOf ns.length) 1099511627776 rs (rs.length : Int) 0) (if b = true then 0 else 2) := ⟨rs.length + 1, fun k hk => (hh k hk).1⟩
      have g2 : Ev (fun k => signalbenchref09_runs.f k rs (maskOf ns.length)) b := ⟨rs.length + 1, fun k hk => (hh k hk).2⟩
      refine ⟨if r = 0 then (if b = true then 0 else 2) else r, ?_, ?_, ?_⟩
      · rcases hr with ⟨h1, h2, h3⟩ | h1
        · rw [if_pos h1]
          by_cases c3 : b = true
          · rw [if_pos c3]
            exact .inl ⟨rfl, h2, h3, by omega, by omega, hb.1 c3⟩
          · rw [if_neg c3]
            exact .inr (by decide)
        · rw [if_neg h1]
          exact .inr h1
      · refine Ev.step (f := fun k => (capture_checkNames.f k ns).bind fun t113 => (if t113 = 0 then (capture_Check.l0 k (wrap64 ((shl .i64 1 (ns.length : Int)) - 1)) 1099511627776 rs (rs.length : Int) 0) else (some t113))) (fun k => by rw [capture_Check.j0, if_neg (by simp)]) (e1.bind ?_)
        by_cases c3 : r = 0
        · simp only [if_pos c3]; exact g1
        · simp only [if_neg c3]; exact Ev.now r
      · refine e2.bind ?_
        by_cases c3 : r = 0
        · simp only [if_pos c3]
          refine Ev.bind g2 ?_
          by_cases c4 : b = true
          · simp only [if_pos c4]; exact Ev.now 0
          · simp only [if_neg c4]; exact Ev.now 2
        · simp only [if_neg c3]; exact Ev.now r
theorem wraps_i64 (n : Int) (h0 : 0 ≤ n) (h1 : n < 2 ^ 63) : IntKind.i64.wrap n = n := by rw [IntKind.wrap_i64]; omega
theorem pow_le16 {i : Nat} (h : i ≤ 16) : 2 ^ i ≤ 65536 := Nat.le_trans (Nat.pow_le_pow_right (by decide) h) (by decide)
theorem pow_lt16 {i : Nat} (h : i < 16) : 2 ^ i ≤ 32768 := Nat.le_trans (Nat.pow_le_pow_right (by decide) (show i ≤ 15 by omega)) (by decide)
theorem shr_nat (a p : Nat) (hp : p ≤ 64) : shr .i64 (a : Int) (p : Int) = ((a / 2 ^ p : Nat) : Int) := by
  unfold shr
  rw [Int.toNat_natCast, show min p IntKind.i64.bits = p from Nat.min_eq_left hp, Int.natCast_ediv, Int.natCast_pow]
  rfl
theorem shl_nat (a i : Nat) (hi : i ≤ 64) (h : a * 2 ^ i < 9223372036854775808) : shl .i64 (a : Int) (i : Int) = ((a * 2 ^ i : Nat) : Int) := by
  unfold shl
  rw [Int.toNat_natCast, show min i IntKind.i64.bits = i from Nat.min_eq_left hi, show ((a : Int) * 2 ^ i) = ((a * 2 ^ i : Nat) : Int) by rw [Int.natCast_mul, Int.natCast_pow]; rfl]
  exact wraps_i64 _ (by omega) (by omega)
theorem and_one (a : Nat) (h : a < 9223372036854775808) : Go.bits .and .i64 (a : Int) 1 = ((a % 2 : Nat) : Int) := by
  have := Go.bits_mask .i64 63 (by decide) wraps_i64 1 (by decide) (a : Int) (by omega) (by omega)
  rw [show ((2 : Int) ^ 1 - 1) = 1 by decide] at this
  rw [this]
  omega
theorem bit_step (level p i v : Nat) (hl : level < 65536) (hp : p < 16) (hi : i < 16) (hv : v < 2 ^ i) :
    Go.bits .or .i64 (v : Int) (shl .i64 (Go.bits .and .i64 (shr .i64 (level : Int) (p : Int)) 1) (i : Int)) = ((v + 2 ^ i * ((level / 2 ^ p) % 2) : Nat) : Int) := by
  have hd : level / 2 ^ p ≤ level := Nat.div_le_self _ _
  have h2 := pow_lt16 hi
  have hb : (level / 2 ^ p) % 2 * 2 ^ i ≤ 1 * 32768 := Nat.mul_le_mul (by omega) h2
  rw [shr_nat _ _ (by omega), and_one _ (by omega), shl_nat _ _ (by omega) (by omega)]
  have hc := (Go.bits_nat .i64 63 (by decide) wraps_i64 v ((level / 2 ^ p) % 2 * 2 ^ i) (by omega) (by omega)).2
  have hc2 := (Go.bits_nat .i64 63 (by decide) wraps_i64 ((level / 2 ^ p) % 2 * 2 ^ i) v (by omega) (by omega)).2
  rw [hc, Nat.or_comm, ← hc2, Go.bits_join .i64 63 (by decide) wraps_i64 i _ _ (by omega) ?_ (by omega) (by omega) ?_ (by omega)]
  · rw [Nat.mul_comm (2 ^ i)]
    omega
  · rw [show ((2 : Int) ^ i) = ((2 ^ i : Nat) : Int) by rw [Int.natCast_pow]; rfl, ← Int.natCast_emod, Nat.mul_mod_left]
    rfl
  · rw [show ((2 : Int) ^ i) = ((2 ^ i : Nat) : Int) by rw [Int.natCast_pow]; rfl]
    omega
theorem bit_loop (p : Nat) (hp : p < 65536) : ∀ (m n j k : Nat), p - j = m → j ≤ p → n < 65536 → m + 1 ≤ k → signalbenchref14_bit.l0 k (p : Int) (n : Int) (j : Int) = some ((n / 2 ^ m % 2 : Nat) : Int) := by
  intro m
  induction m with
  | zero =>
    intro n j k h1 h2 h3 hk
    obtain ⟨k, rfl⟩ : ∃ q, k = q + 1 := ⟨k - 1, by omega⟩
    rw [signalbenchref14_bit.l0, if_neg (by omega), Int.tmod_eq_emod_of_nonneg (by omega), Nat.pow_zero, Nat.div_one]
    congr 1
  | succ m ih =>
    intro n j k h1 h2 h3 hk
    obtain ⟨k, rfl⟩ : ∃ q, k = q + 1 := ⟨k - 1, by omega⟩
    rw [signalbenchref14_bit.l0, if_pos (by omega), Int.tdiv_eq_ediv_of_nonneg (by omega), next_i j p (by omega) (by omega), show wrap64 ((n : Int) / 2) = ((n / 2 : Nat) : Int) by rw [wrap_id (by omega) (by omega)]; omega]
    rw [ih (n / 2) (j + 1) k (by omega) (by omega) (by omega) (by omega), Nat.div_div_eq_div_mul, Nat.pow_succ']
theorem bit_f (n p : Nat) (hn : n < 65536) (hp : p < 16) (k : Nat) (hk : 17 ≤ k) : signalbenchref14_bit.f k (n : Int) (p : Int) = some ((n / 2 ^ p % 2 : Nat) : Int) :=
  bit_loop p (by omega) p n 0 k rfl (Nat.zero_le _) hn (by omega)
/-- the value of a level in the chosen order -/
def valF (level : Nat) : List Int → Nat → Nat
 | [], _ => 0
 | p :: ps, i => 2 ^ i * ((level / 2 ^ p.toNat) % 2) + valF level ps (i + 1)
theorem step_lt {v i b : Nat} (h : v < 2 ^ i) : v + 2 ^ i * (b % 2) < 2 ^ (i + 1) := by
  have : b % 2 = 0 ∨ b % 2 = 1 := by omega
  rw [Nat.pow_succ]
  rcases this with e | e <;> rw [e] <;> omega
/-- the places of the names -/
def plOf (ns l : List ByteArray) : List Int := l.map (fun s => idxL s ns 0)
theorem idx_lt (ns : List ByteArray) (s : ByteArray) : idxL s ns 0 < ns.length := by
  rcases idxL_law s ns 0 with ⟨h, _⟩ | ⟨j, h, h1, _⟩
  · omega
  · omega
theorem value_loop (ns : List ByteArray) (hn : ns.length ≤ 16) (rs : List S46) (l : List ByteArray) (hl : l.length ≤ 16) (hp : ∀ x ∈ l, 0 ≤ idxL x ns 0) (level : Nat) (hlv : level < 65536) : ∀ (m i v k : Nat), l.length - i = m → i ≤ l.length → v < 2 ^ i → m + 20 ≤ k →
    signalbenchref14_value.l0 k (level : Int) l (v : Int) ((2 ^ i : Nat) : Int) (i : Int) ns rs = some ((v + valF level (plOf ns (l.drop i)) i : Nat) : Int) := by
  intro m
  induction m with
  | zero =>
    intro i v k h1 h2 h3 hk
    obtain ⟨k, rfl⟩ : ∃ q, k = q + 1 := ⟨k - 1, by omega⟩
    rw [signalbenchref14_value.l0, if_neg (by omega), List.drop_eq_nil_of_le (by omega)]
    rfl
  | succ m ih =>
    intro i v k h1 h2 h3 hk
    obtain ⟨k, rfl⟩ : ∃ q, k = q + 1 := ⟨k - 1, by omega⟩
    have hi : i < l.length := by omega
    have h0 := hp l[i] (List.getElem_mem hi)
    have h16 := idx_lt ns l[i]
    obtain ⟨p, hpe⟩ := Int.eq_ofNat_of_zero_le h0
    have hs := step_lt (b := level / 2 ^ p) h3
    have hw := pow_le16 (show i + 1 ≤ 16 by omega)
    have hm : 2 ^ (i + 1) = 2 ^ i * 2 := Nat.pow_succ ..
    rw [signalbenchref14_value.l0, if_pos (by omega), if_pos (by omega), rdB l i hi, place_f ns _ (by omega) k (by omega), Option.bind_some, hpe, bit_f level p hlv (by omega) k (by omega), Option.bind_some, next_i i _ hi (by omega)]
    have e1 : ((2 ^ i : Nat) : Int) * ((level / 2 ^ p % 2 : Nat) : Int) = ((2 ^ i * (level / 2 ^ p % 2) : Nat) : Int) := by rw [Int.natCast_mul]
    rw [e1]
    generalize hq : 2 ^ i * (level / 2 ^ p % 2) = q at hs ⊢
    rw [wrap_id (x := (q : Int)) (by omega) (by omega), wrap_id (x := (v : Int) + (q : Int)) (by omega) (by omega), wrap_id (x := ((2 ^ i : Nat) : Int) * 2) (by omega) (by omega)]
    rw [show (v : Int) + (q : Int) = ((v + q : Nat) : Int) by omega, show ((2 ^ i : Nat) : Int) * 2 = ((2 ^ (i + 1) : Nat) : Int) by omega]
    rw [ih (i + 1) (v + q) k (by omega) (by omega) hs (by omega), List.drop_eq_getElem_cons hi, show plOf ns (l[i] :: l.drop (i + 1)) = idxL l[i] ns 0 :: plOf ns (l.drop (i + 1)) from rfl, valF, hpe, Int.toNat_natCast, hq]
    congr 2
    omega
theorem value_f (ns : List ByteArray) (hn : ns.length ≤ 16) (rs : List S46) (l : List ByteArray) (hl : l.length ≤ 16) (hp : ∀ x ∈ l, 0 ≤ idxL x ns 0) (level : Nat) (hlv : level < 65536) (k : Nat) (hk : 40 ≤ k) :
    signalbenchref14_value.f k (level : Int) ns rs l = some ((valF level (plOf ns l) 0 : Nat) : Int) := by
  have := value_loop ns hn rs l hl hp level hlv l.length 0 0 k rfl (Nat.zero_le _) (by decide) (by omega)
  rw [List.drop_zero, Nat.zero_add] at this
  exact this
theorem code_value (ps : List Int) (hl : ps.length ≤ 16) (hp : ∀ p ∈ ps, 0 ≤ p ∧ p < 16) (level : Nat) (hlv : level < 65536) (out : List S48) (hout : out.length < 2199023255552) (b : Int) (rs : List S46) (len j w : Int) (R : List S48 × Int) : ∀ (m i v : Nat), ps.length - i = m → i ≤ ps.length → v < 2 ^ i →
    Ev (fun k => feed_Levels.l0 k ps (out ++ [(⟨1, b, wrap64 (b + w), ((v + valF level (ps.drop i) i : Nat) : Int), 0, (⟨#[]⟩ : ByteArray), 0⟩ : S48)]) (wrap64 (b + w)) rs len (wrap64 (j + 1))) R →
    Ev (fun k => feed_Levels.l1 k ps out b (v : Int) rs len j ps (ps.length : Int) (i : Int) (level : Int) w) R := by
  intro m
  induction m with
  | zero =>
    intro i v h1 h2 h3 h4
    rw [List.drop_eq_nil_of_le (by omega), valF, Nat.add_zero] at h4
    exact Ev.step (fun k => by rw [feed_Levels.l1, if_neg (by omega), if_pos hout]) h4
  | succ m ih =>
    intro i v h1 h2 h3 h4
    have hi : i < ps.length := by omega
    obtain ⟨h0, h16⟩ := hp ps[i] (List.getElem_mem hi)
    obtain ⟨p, hpe⟩ := Int.eq_ofNat_of_zero_le h0
    refine Ev.step (fun k => by rw [feed_Levels.l1, if_pos (by omega), if_pos (by omega), if_pos (by omega), rdI ps i hi, if_pos h0, next_i i _ hi (by omega), hpe, bit_step level p i v hlv (by omega) (by omega) h3]) (ih (i + 1) (v + 2 ^ i * ((level / 2 ^ p) % 2)) (by omega) (by omega) (step_lt h3) ?_)
    rw [List.drop_eq_getElem_cons hi, valF, hpe, Int.toNat_natCast, ← Nat.add_assoc] at h4
    exact h4
theorem runsOk_mem {mask : Int} : ∀ (l : List S46) (left : Int), RunsOk mask left l → ∀ x ∈ l, 0 ≤ x.f0 ∧ x.f0 ≤ mask
  | [], _, _, x, hx => by simp at hx
  | y :: l, left, h, x, hx => by
    rcases List.mem_cons.1 hx with rfl | hx
    · exact ⟨h.1, h.2.1⟩
    · exact runsOk_mem l _ h.2.2.2.2 x hx
theorem mask_lt {n : Nat} (h : n ≤ 16) : maskOf n < 65536 := by
  have h2 := pow_le16 h
  have h3 := shl_nat 1 n (by omega) (by omega)
  rw [show ((1 : Nat) : Int) = 1 from rfl] at h3
  have h4 : 0 < 2 ^ n := Nat.two_pow_pos n
  unfold maskOf
  rw [h3, wrap_id (by omega) (by omega)]
  omega
/-- the spans that both come to -/
def spansF (ps : List Int) : List S46 → Int → List S48
 | [], _ => []
 | r :: rs, b => ⟨1, b, wrap64 (b + r.f1), ((valF r.f0.toNat ps 0 : Nat) : Int), 0, (⟨#[]⟩ : ByteArray), 0⟩ :: spansF ps rs (wrap64 (b + r.f1))
theorem spansF_len (ps : List Int) : ∀ (rs : List S46) (b : Int), (spansF ps rs b).length = rs.length
  | [], _ => rfl
  | r :: rs, b => by rw [spansF, List.length_cons, List.length_cons, spansF_len ps rs]
theorem code_spans (ps : List Int) (hl : ps.length ≤ 16) (hp : ∀ p ∈ ps, 0 ≤ p ∧ p < 16) (rs : List S46) (hr : rs.length ≤ 262144) (hm : ∀ x ∈ rs, 0 ≤ x.f0 ∧ x.f0 < 65536) : ∀ (m j : Nat) (out : List S48) (b : Int), rs.length - j = m → j ≤ rs.length → out.length ≤ j →
    Ev (fun k => feed_Levels.l0 k ps out b rs (rs.length : Int) (j : Int)) (out ++ spansF ps (rs.drop j) b, 0) := by
  intro m
  induction m with
  | zero =>
    intro j out b h1 h2 h3
    rw [List.drop_eq_nil_of_le (by omega), spansF, List.append_nil]
    exact Ev.le 1 (fun k => by rw [feed_Levels.l0, if_neg (by omega)])
  | succ m ih =>
    intro j out b h1 h2 h3
    have hj : j < rs.length := by omega
    obtain ⟨h0, h16⟩ := hm rs[j] (List.getElem_mem hj)
    obtain ⟨level, hle⟩ := Int.eq_ofNat_of_zero_le h0
    rw [List.drop_eq_getElem_cons hj, spansF]
    refine Ev.step (fun k => by rw [feed_Levels.l0, if_pos (by omega), if_pos (by omega), if_pos (by omega), rd46 rs j hj, hle]; rfl) (code_value ps hl hp level (by omega) out (by omega) b rs (rs.length : Int) (j : Int) rs[j].f1 _ ps.length 0 0 rfl (Nat.zero_le _) (by decide) ?_)
    rw [next_i j _ hj (by omega), List.drop_zero, Nat.zero_add, hle, Int.toNat_natCast]
    have := ih (j + 1) (out ++ [(⟨1, b, wrap64 (b + rs[j].f1), ((valF level ps 0 : Nat) : Int), 0, (⟨#[]⟩ : ByteArray), 0⟩ : S48)]) (wrap64 (b + rs[j].f1)) (by omega) (by omega) (by rw [List.length_append, List.length_singleton]; omega)
    rw [List.append_assoc, List.singleton_append] at this
    exact this
theorem ref_spans (ns : List ByteArray) (hn : ns.length ≤ 16) (l : List ByteArray) (hl : l.length ≤ 16) (hp : ∀ x ∈ l, 0 ≤ idxL x ns 0) (rs : List S46) (hr : rs.length ≤ 262144) (hm : ∀ x ∈ rs, 0 ≤ x.f0 ∧ x.f0 < 65536) : ∀ (m j : Nat) (out : List S48) (b : Int), rs.length - j = m → j ≤ rs.length → out.length ≤ j →
    Ev (fun k => signalbenchref14_Levels.l1 k l out b (j : Int) ns rs) (out ++ spansF (plOf ns l) (rs.drop j) b, 0) := by
  intro m
  induction m with
  | zero =>
    intro j out b h1 h2 h3
    rw [List.drop_eq_nil_of_le (by omega), spansF, List.append_nil]
    exact Ev.le 1 (fun k => by rw [signalbenchref14_Levels.l1, if_neg (by omega)])
  | succ m ih =>
    intro j out b h1 h2 h3
    have hj : j < rs.length := by omega
    obtain ⟨h0, h16⟩ := hm rs[j] (List.getElem_mem hj)
    obtain ⟨level, hle⟩ := Int.eq_ofNat_of_zero_le h0
    rw [List.drop_eq_getElem_cons hj, spansF]
    have := ih (j + 1) (out ++ [(⟨1, b, wrap64 (b + rs[j].f1), ((valF level (plOf ns l) 0 : Nat) : Int), 0, (⟨#[]⟩ : ByteArray), 0⟩ : S48)]) (wrap64 (b + rs[j].f1)) (by omega) (by omega) (by rw [List.length_append, List.length_singleton]; omega)
    rw [List.append_assoc, List.singleton_append] at this
    rw [hle, Int.toNat_natCast]
    refine Ev.step (fun k => by rw [signalbenchref14_Levels.l1, if_pos (by omega), if_pos (by omega), rd46 rs j hj, next_i j _ hj (by omega), hle]) (Ev.bind (g := fun k => signalbenchref14_value.f k (level : Int) ns rs l) ⟨40, fun k hk => value_f ns hn rs l hl hp level (by omega) k hk⟩ ?_)
    simp only [if_pos (show out.length < 2199023255552 by omega)]
    exact this
/-- as many different numbers as there is room for -/
theorem nodup_len : ∀ (n : Nat) (l : List Nat), l.Nodup → (∀ x ∈ l, x < n) → l.length ≤ n
  | 0, l, _, h => by
    cases l with
    | nil => simp
    | cons x l => exact absurd (h x (by simp)) (by omega)
  | n + 1, l, hd, h => by
    have h1 := nodup_len n (l.erase n) (hd.erase n) (fun x hx => by
      have := (hd.mem_erase_iff).1 hx
      have := h x this.2
      omega)
    by_cases c : n ∈ l
    · have := List.length_erase_of_mem c
      omega
    · rw [List.erase_of_not_mem c] at h1
      omega
theorem distinct_len (ns l : List ByteArray) (hd : Distinct l) (hp : ∀ x ∈ l, 0 ≤ idxL x ns 0) : l.length ≤ ns.length := by
  have := nodup_len ns.length (l.map (fun s => (idxL s ns 0).toNat)) (by
    rw [List.nodup_iff_pairwise_ne, List.pairwise_iff_getElem]
    intro i j hi hj hij he
    rw [List.length_map] at hi hj
    rw [List.getElem_map, List.getElem_map] at he
    have g1 := hp l[i] (List.getElem_mem hi)
    have g2 := hp l[j] (List.getElem_mem hj)
    rcases idxL_law l[i] ns 0 with ⟨h1, _⟩ | ⟨a, ha, h1, h2, _⟩
    · omega
    · rcases idxL_law l[j] ns 0 with ⟨h3, _⟩ | ⟨b, hb, h3, h4, _⟩
      · omega
      · have hab : a = b := by omega
        subst hab
        exact hd j i hj hij (h2.symm.trans h4)) (fun x hx => by
    obtain ⟨s, hs, rfl⟩ := List.mem_map.1 hx
    have := hp s hs
    have := idx_lt ns s
    omega)
  rwa [List.length_map] at this
theorem places_loop (ns : List ByteArray) (hn : ns.length ≤ 16) (rs : List S46) (hr : rs.length ≤ 262144) (l : List ByteArray) (hl : l.length ≤ 8796093022208) : ∀ (m i : Nat), l.length - i = m → (hil : i ≤ l.length) → (∀ x ∈ l.take i, 0 ≤ idxL x ns 0) → (∀ i', (h : i' < i) → ∀ j, (hj : j < i') → (l[j]'(by omega)).toList ≠ (l[i']'(by omega)).toList) →
    (∃ r, r ≠ 0 ∧ ¬ (Distinct l ∧ ∀ x ∈ l, 0 ≤ idxL x ns 0) ∧ Ev (fun k => feed_places.l0 k l (plOf ns (l.take i)) l (l.length : Int) (i : Int) ns rs) ([], r) ∧ Ev (fun k => signalbenchref14_Levels.l0 k l (i : Int) ns rs) ([], r)) ∨
    (Distinct l ∧ (∀ x ∈ l, 0 ≤ idxL x ns 0) ∧ Ev (fun k => feed_places.l0 k l (plOf ns (l.take i)) l (l.length : Int) (i : Int) ns rs) (plOf ns l, 0) ∧ ∀ R, Ev (fun k => signalbenchref14_Levels.l1 k l [] 0 0 ns rs) R → Ev (fun k => signalbenchref14_Levels.l0 k l (i : Int) ns rs) R) := by
  intro m
  induction m with
  | zero =>
    intro i h1 h2 h3 hd
    have he : i = l.length := by omega
    subst he
    rw [List.take_length] at h3 ⊢
    refine .inr ⟨fun i' j hi hj => hd i' (by omega) j hj, h3, Ev.le 1 (fun k => by rw [feed_places.l0, if_neg (by omega)]), fun R hR => Ev.step (fun k => by rw [signalbenchref14_Levels.l0, if_neg (by omega), if_pos (by omega), if_pos (by rw [Int.toNat_natCast]; omega)]) hR⟩
  | succ m ih =>
    intro i h1 h2 h3 hd
    have hi : i < l.length := by omega
    have hidx := idx_take l i hi
    have hplen : (plOf ns (l.take i)).length = i := by unfold plOf; rw [List.length_map, List.length_take]; omega
    have hcode : ∀ k, feed_places.l0 (k + 1) l (plOf ns (l.take i)) l (l.length : Int) (i : Int) ns rs = ((slices_Index_string_string.f k ns l[i]).bind fun t118 => (if t118 < 0 then (some (([] : List Int), 8)) else ((slices_Contains_string_string.f k (l.take i) l[i]).bind fun t120 => (if t120 = true then (some (([] : List Int), 9)) else (feed_places.l0 k l ((plOf ns (l.take i)) ++ [t118]) l (l.length : Int) ((i + 1 : Nat) : Int) ns rs))))) := fun k => by
      rw [feed_places.l0, if_pos (by omega), if_pos (by omega), if_pos (by omega), rdB l i hi]
      simp only [if_pos (show (i : Int) ≤ (l.length : Int) by omega), Int.toNat_natCast, if_pos (show (plOf ns (l.take i)).length < 17592186044416 by omega), next_i i _ hi (show l.length ≤ 4611686018427387904 by omega)]
    have hE : Ev (fun k => slices_Index_string_string.f k ns l[i]) (idxL l[i] ns 0) := ⟨ns.length + 1, fun k hk => index_f ns _ (by omega) k hk⟩
    have hC : Ev (fun k => slices_Contains_string_string.f k (l.take i) l[i]) (decide (idxL l[i] (l.take i) 0 ≥ 0)) := ⟨l.length + 1, fun k hk => contains_f _ _ (by rw [List.length_take]; omega) k (by rw [List.length_take]; omega)⟩
    have hP : Ev (fun k => signalbenchref14_place.f k ns l[i]) (idxL l[i] ns 0) := ⟨ns.length + 1, fun k hk => place_f ns _ (by omega) k hk⟩
    have hQ : Ev (fun k => signalbenchref14_place.f k l l[i]) (idxL l[i] l 0) := ⟨l.length + 1, fun k hk => place_f l _ (by omega) k hk⟩
    have hdup : idxL l[i] l 0 < i ↔ ∃ j, ∃ (hj : j < i), (l[j]'(by omega)).toList = l[i].toList := by
      rcases idxL_law l[i] l 0 with ⟨_, h⟩ | ⟨j, h, g1, g2, g3⟩
      · exact absurd rfl (h l[i] (List.getElem_mem hi))
      · rw [g1]
        refine ⟨fun h => ⟨j, by omega, g2⟩, fun ⟨j', hj', he⟩ => ?_⟩
        by_cases c : j' < j
        · exact absurd he (g3 j' c)
        · omega
    by_cases c1 : idxL l[i] ns 0 < 0
    · refine .inl ⟨8, by decide, fun h => by have := h.2 l[i] (List.getElem_mem hi); omega, Ev.step hcode (hE.bind ?_), Ev.step (f := fun k => (signalbenchref14_place.f k ns l[i]).bind _) (fun k => by rw [signalbenchref14_Levels.l0, if_pos (by omega), if_pos (by omega), rdB l i hi]) (hP.bind ?_)⟩
      · simp only [if_pos c1]; exact Ev.now _
      · simp only [if_pos c1]; exact Ev.now _
    · by_cases c2 : idxL l[i] l 0 < i
      · refine .inl ⟨9, by decide, fun h => by obtain ⟨j, hj, he⟩ := hdup.1 c2; exact h.1 i j hi hj he, Ev.step hcode (hE.bind ?_), Ev.step (f := fun k => (signalbenchref14_place.f k ns l[i]).bind _) (fun k => by rw [signalbenchref14_Levels.l0, if_pos (by omega), if_pos (by omega), rdB l i hi]) (hP.bind ?_)⟩
        · simp only [if_neg c1]
          refine hC.bind ?_
          simp only [decide_eq_true (hidx.2 (hdup.1 c2)), if_true]
          exact Ev.now _
        · simp only [if_neg c1]
          refine hQ.bind ?_
          simp only [if_pos c2]
          exact Ev.now _
      · have hnd : ¬ (0 ≤ idxL l[i] (l.take i) 0) := fun h => c2 (hdup.2 (hidx.1 h))
        have htake : l.take (i + 1) = l.take i ++ [l[i]] := by rw [List.take_succ_eq_append_getElem hi]
        have hpl : plOf ns (l.take (i + 1)) = plOf ns (l.take i) ++ [idxL l[i] ns 0] := by rw [htake]; unfold plOf; rw [List.map_append]; rfl
        have kc : ∀ R, Ev (fun k => feed_places.l0 k l (plOf ns (l.take (i + 1))) l (l.length : Int) ((i + 1 : Nat) : Int) ns rs) R → Ev (fun k => feed_places.l0 k l (plOf ns (l.take i)) l (l.length : Int) (i : Int) ns rs) R := fun R hR => by
          refine Ev.step hcode (hE.bind ?_)
          simp only [if_neg c1]
          refine hC.bind ?_
          simp only [decide_eq_false hnd, Bool.false_eq_true, if_false]
          rw [hpl] at hR
          exact hR
        have kr : ∀ R, Ev (fun k => signalbenchref14_Levels.l0 k l ((i + 1 : Nat) : Int) ns rs) R → Ev (fun k => signalbenchref14_Levels.l0 k l (i : Int) ns rs) R := fun R hR => by
          refine Ev.step (f := fun k => (signalbenchref14_place.f k ns l[i]).bind _) (fun k => by rw [signalbenchref14_Levels.l0, if_pos (by omega), if_pos (by omega), rdB l i hi, next_i i _ hi (by omega)]) (hP.bind ?_)
          simp only [if_neg c1]
          refine hQ.bind ?_
          simp only [if_neg c2]
          exact hR
        rcases ih (i + 1) (by omega) (by omega) (fun x hx => by
          rw [htake] at hx
          rcases List.mem_append.1 hx with hx | hx
          · exact h3 x hx
          · rw [List.mem_singleton] at hx
            subst hx
            omega) (fun i' hi' j hj => by
          by_cases e : i' = i
          · subst e
            exact fun he => c2 (hdup.2 ⟨j, hj, he⟩)
          · exact hd i' (by omega) j hj) with ⟨r, g1, g0, g2, g3⟩ | ⟨g1, g2, g3, g4⟩
        · exact .inl ⟨r, g1, g0, kc _ g2, kr _ g3⟩
        · exact .inr ⟨g1, g2, kc _ g3, fun R hR => kr _ (g4 R hR)⟩
theorem levels_ev (ns : List ByteArray) (rs : List S46) (l : List ByteArray) (hl : l.length ≤ 8796093022208) : ∃ E : List S48 × Int, E.1.length ≤ 262144 ∧ (E.2 ≠ 0 ∨ Distinct ns ∧ 0 < ns.length ∧ ns.length ≤ 16 ∧ rs.length ≤ 262144 ∧ RunsOk (maskOf ns.length) 1099511627776 rs ∧ 0 < l.length ∧ l.length ≤ ns.length ∧ (∀ x ∈ l, 0 ≤ idxL x ns 0) ∧ E = (spansF (plOf ns l) rs 0, 0)) ∧ Ev (fun k => feed_Levels.f k ns rs l) E ∧ Ev (fun k => signalbenchref14_Levels.f k ns rs l) E := by
  obtain ⟨r, hr, e1, e2⟩ := check_ev ns rs
  unfold feed_Levels.f signalbenchref14_Levels.f
  rcases hr with ⟨hr0, hd, hn0, hn, hrs, hok⟩ | hr0
  · subst hr0
    by_cases c : (l.length : Int) = 0
    · refine ⟨([], 1), by simp, .inl (by decide), e1.bind ?_, e2.bind ?_⟩
      · simp only [if_true, if_pos c]; exact Ev.now _
      · simp only [if_true, if_pos c]; exact Ev.now _
    · rcases places_loop ns hn rs hrs l hl l.length 0 rfl (Nat.zero_le _) (by simp) (fun i' h => by omega) with ⟨r, g1, _, g2, g3⟩ | ⟨g1, g2, g3, g4⟩
      · refine ⟨([], r), by simp, .inl g1, e1.bind ?_, e2.bind ?_⟩
        · simp only [if_true, if_neg c]
          refine Ev.bind (g := fun k => feed_places.f k ns rs l) g2 ?_
          simp only [if_neg g1]; exact Ev.now _
        · simp only [if_true, if_neg c]
          exact g3
      · have hlen := distinct_len ns l g1 g2
        have hmm : ∀ x ∈ rs, 0 ≤ x.f0 ∧ x.f0 < 65536 := fun x hx => by
          have := runsOk_mem rs _ hok x hx
          have := mask_lt hn
          omega
        refine ⟨(spansF (plOf ns l) rs 0, 0), by rw [spansF_len]; exact hrs, .inr ⟨hd, hn0, hn, hrs, hok, by omega, hlen, g2, rfl⟩, e1.bind ?_, e2.bind ?_⟩
        · simp only [if_true, if_neg c]
          refine Ev.bind (g := fun k => feed_places.f k ns rs l) g3 ?_
          simp only [if_true]
          have := code_spans (plOf ns l) (by unfold plOf; rw [List.length_map]; omega) (fun p hp => by
            unfold plOf at hp
            obtain ⟨s, hs, rfl⟩ := List.mem_map.1 hp
            have := g2 s hs
            have := idx_lt ns s
            omega) rs hrs hmm rs.length 0 [] 0 rfl (Nat.zero_le _) (by simp)
          rw [List.drop_zero, List.nil_append] at this
          exact this
        · simp only [if_true, if_neg c]
          have := ref_spans ns hn l (by omega) g2 rs hrs hmm rs.length 0 [] 0 rfl (Nat.zero_le _) (by simp)
          rw [List.drop_zero, List.nil_append] at this
          exact g4 _ this
  · refine ⟨([], r), by simp, .inl hr0, e1.bind ?_, e2.bind ?_⟩
    · simp only [if_neg hr0]; exact Ev.now _
    · simp only [if_neg hr0]; exact Ev.now _
end Go.Proofs.Ytioedeglgljblaa.H
