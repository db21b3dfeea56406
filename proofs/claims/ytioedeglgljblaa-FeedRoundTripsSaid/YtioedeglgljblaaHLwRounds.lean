/- FeedRoundTrips, in plain words, with all that it needs; no condition. -/
import Derived.Test.YtioedeglgljblaaHParts
import Derived.Test.YtioedeglgljblaaH15
import Derived.Test.YtioedeglgljblaaH16
import Derived.Test.YtioedeglgljblaaH17
import Derived.Test.YtioedeglgljblaaHGood
import Derived.Test.YtioedeglgljblaaH6
import Derived.Test.YtioedeglgljblaaH8
import Derived.Test.YtioedeglgljblaaH12
import Derived.Test.YtioedeglgljblaaHSplit
import Derived.Test.YtioedeglgljblaaH29
namespace Go.Proofs.Ytioedeglgljblaa.H
open Go.RowKit Go.Proofs.YtioedeglgljblaaW.PrintWords Go.Proofs.YtioedeglgljblaaW.PrintLast Go.Proofs.YtioedeglgljblaaW.PrintMore
set_option linter.unusedSimpArgs false
theorem Ev.le {α : Type} {g : Nat → Option α} {r : α} (n : Nat) (h : ∀ k, g (k + n) = some r) : Ev g r :=
  ⟨n, fun k hk => by
    obtain ⟨m, rfl⟩ : ∃ m, k = m + n := ⟨k - n, by omega⟩
    exact h m⟩
theorem wrap_id {x : Int} (h0 : -9223372036854775808 ≤ x) (h1 : x < 9223372036854775808) : wrap64 x = x := by unfold wrap64; omega
theorem rd_at (xs : List S48) (i : Nat) (h : i < xs.length) : rd_T48 xs (i : Int) = xs[i] := by
  unfold rd_T48
  rw [Int.toNat_natCast, List.getD_eq_getElem?_getD, List.getElem?_eq_getElem h]
  rfl
theorem rd46 (xs : List S46) (i : Nat) (h : i < xs.length) : rd_T46 xs (i : Int) = xs[i] := by
  unfold rd_T46
  rw [Int.toNat_natCast, List.getD_eq_getElem?_getD, List.getElem?_eq_getElem h]
  rfl
theorem rdI (xs : List Int) (i : Nat) (h : i < xs.length) : rd xs (i : Int) = xs[i] := by
  unfold rd
  rw [Int.toNat_natCast, List.getD_eq_getElem?_getD, List.getElem?_eq_getElem h]
  rfl
theorem next_i (i n : Nat) (h : i < n) (hn : n ≤ 4611686018427387904) : wrap64 ((i : Int) + 1) = ((i + 1 : Nat) : Int) := by rw [wrap_id (by omega) (by omega)]; rfl
theorem last_i (n : Nat) (h : 0 < n) (hn : n ≤ 4611686018427387904) : wrap64 ((n : Int) - 1) = ((n - 1 : Nat) : Int) := by rw [wrap_id (by omega) (by omega)]; omega
theorem same_loop (l : List S48) (hl : l.length ≤ 4611686018427387904) : ∀ (m i : Nat) (k : Nat), l.length - i = m → i ≤ l.length → m + 1 ≤ k → signalbenchref07_Same.l0 k l l (i : Int) = some true := by
  intro m
  induction m with
  | zero =>
    intro i k h1 h2 hk
    obtain ⟨k, rfl⟩ : ∃ q, k = q + 1 := ⟨k - 1, by omega⟩
    rw [signalbenchref07_Same.l0, if_neg (by omega)]
  | succ m ih =>
    intro i k h1 h2 hk
    obtain ⟨k, rfl⟩ : ∃ q, k = q + 1 := ⟨k - 1, by omega⟩
    have hi : i < l.length := by omega
    rw [signalbenchref07_Same.l0, if_pos (by omega), if_pos (by omega), if_pos (by omega), next_i i _ hi hl, if_neg (by simp)]
    exact ih (i + 1) k (by omega) (by omega) (by omega)
theorem same_ev (l : List S48) (hl : l.length ≤ 4611686018427387904) : Ev (fun k => signalbenchref07_Same.f k l l) true :=
  ⟨l.length + 1, fun k hk => by
    show signalbenchref07_Same.f k l l = _
    unfold signalbenchref07_Same.f
    rw [if_pos rfl]
    exact same_loop l hl l.length 0 k rfl (Nat.zero_le _) (by omega)⟩
theorem S48_eta (x : S48) : (⟨x.f0, x.f1, x.f2, x.f3, x.f4, x.f5, x.f6⟩ : S48) = x := rfl
def joinsB (p x : S48) : Prop := plainB p = true ∧ plainB x = true ∧ p.f3 = x.f3 ∧ p.f2 = x.f1
instance (p x : S48) : Decidable (joinsB p x) := by unfold joinsB; infer_instance
def setTo (out : List S48) (v : Int) : List S48 :=
  match out.getLast? with
  | none => out
  | some z => out.dropLast ++ [⟨z.f0, z.f1, v, z.f3, z.f4, z.f5, z.f6⟩]
def mergeF : S48 → List S48 → List S48 → List S48
 | _, [], out => out
 | p, x :: l, out => mergeF x l (if joinsB p x then setTo out x.f2 else out ++ [x])
def mergeS : List S48 → List S48
 | [] => []
 | x :: l => mergeF x l [x]
theorem setTo_snoc (a : List S48) (z : S48) (v : Int) : setTo (a ++ [z]) v = a ++ [⟨z.f0, z.f1, v, z.f3, z.f4, z.f5, z.f6⟩] := by
  unfold setTo
  simp only [List.getLast?_concat, List.dropLast_concat]
theorem setTo_len (out : List S48) (v : Int) : (setTo out v).length = out.length := by
  rcases List.eq_nil_or_concat out with rfl | ⟨a, z, rfl⟩
  · rfl
  · rw [List.concat_eq_append, setTo_snoc]
    simp
theorem mergeF_len : ∀ (l : List S48) (p : S48) (out : List S48), (mergeF p l out).length ≤ out.length + l.length
  | [], _, _ => by simp [mergeF]
  | x :: l, p, out => by
    unfold mergeF
    have := mergeF_len l x (if joinsB p x then setTo out x.f2 else out ++ [x])
    simp only [List.length_cons]
    by_cases c : joinsB p x
    · rw [if_pos c] at this ⊢
      rw [setTo_len] at this
      omega
    · rw [if_neg c] at this ⊢
      rw [List.length_append] at this
      simp at this
      omega
theorem mergeS_len (l : List S48) : (mergeS l).length ≤ l.length := by
  cases l with
  | nil => exact Nat.le_refl _
  | cons x l =>
    have := mergeF_len l x [x]
    unfold mergeS
    simp only [List.length_cons, List.length_nil] at this ⊢
    omega
theorem set_last (a : List S48) (z : S48) (v : Int) :
    (a ++ [z]).set ((a.length : Nat) : Int).toNat (⟨(rd_T48 (a ++ [z]) (a.length : Int)).f0, (rd_T48 (a ++ [z]) (a.length : Int)).f1, v, (rd_T48 (a ++ [z]) (a.length : Int)).f3, (rd_T48 (a ++ [z]) (a.length : Int)).f4, (rd_T48 (a ++ [z]) (a.length : Int)).f5, (rd_T48 (a ++ [z]) (a.length : Int)).f6⟩ : S48) = setTo (a ++ [z]) v := by
  have hz : rd_T48 (a ++ [z]) (a.length : Int) = z := by rw [rd_at _ _ (by simp)]; simp
  rw [hz, setTo_snoc, Int.toNat_natCast, List.set_append_right _ _ (Nat.le_refl _)]
  simp
theorem merge_loop (l : List S48) (hl : l.length * 64 ≤ 140737488351232) : ∀ (m i : Nat) (k : Nat) (out : List S48), l.length - (i + 1) = m → (h : i < l.length) → 0 < out.length → out.length ≤ i + 1 → m + 1 ≤ k →
    feed_Merge.l0 k l out l (l.length : Int) ((i + 1 : Nat) : Int) = some (mergeF l[i] (l.drop (i + 1)) out) := by
  intro m
  induction m with
  | zero =>
    intro i k out h1 h2 h3 h4 hk
    obtain ⟨k, rfl⟩ : ∃ q, k = q + 1 := ⟨k - 1, by omega⟩
    rw [feed_Merge.l0, if_neg (by omega), List.drop_eq_nil_of_le (by omega)]
    rfl
  | succ m ih =>
    intro i k out h1 h2 h3 h4 hk
    obtain ⟨k, rfl⟩ : ∃ q, k = q + 1 := ⟨k - 1, by omega⟩
    have hi : i + 1 < l.length := by omega
    have hw := next_i (i + 1) _ hi (by omega)
    have hw2 : wrap64 (((i + 1 : Nat) : Int) - 1) = (i : Int) := by rw [wrap_id (by omega) (by omega)]; omega
    have hrec : ∀ o : List S48, 0 < o.length → o.length ≤ i + 2 → feed_Merge.l0 k l o l (l.length : Int) ((i + 1 + 1 : Nat) : Int) = some (mergeF l[i + 1] (l.drop (i + 1 + 1)) o) := fun o ho1 ho2 => ih (i + 1) k o (by omega) hi ho1 ho2 (by omega)
    obtain ⟨a, z, rfl⟩ : ∃ a z, out = a ++ [z] := by
      rcases List.eq_nil_or_concat out with rfl | ⟨a, z, rfl⟩
      · simp at h3
      · exact ⟨a, z, List.concat_eq_append⟩
    have hlz : (a ++ [z]).length = a.length + 1 := by simp
    have hw3 : wrap64 (((a ++ [z]).length : Int) - 1) = (a.length : Int) := by rw [wrap_id (by omega) (by omega)]; omega
    have hap := hrec ((a ++ [z]) ++ [l[i + 1]]) (by simp) (by simp at h4 ⊢; omega)
    have hst := hrec (setTo (a ++ [z]) l[i + 1].f2) (by rw [setTo_len]; exact h3) (by rw [setTo_len]; omega)
    rw [List.drop_eq_getElem_cons hi, mergeF]
    rw [feed_Merge.l0, if_pos (by omega), if_pos (by omega), if_pos (by omega), if_pos (by omega), hw2, if_pos (by omega), if_pos (by omega), rd_at l i h2, rd_at l (i + 1) hi, hw, hw3, plain_f, plain_f, set_last]
    simp only [Option.bind_some, S48_eta]
    have hlim : (a ++ [z]).length < 2199023255552 := by omega
    by_cases c1 : plainB l[i] = true
    · rw [if_pos c1]
      by_cases c2 : plainB l[i + 1] = true
      · rw [if_pos c2]
        by_cases c3 : l[i].f3 = l[i + 1].f3
        · rw [if_pos c3]
          by_cases c4 : l[i].f2 = l[i + 1].f1
          · rw [if_pos c4, if_pos (by omega), if_pos (by omega), if_pos (show joinsB _ _ from ⟨c1, c2, c3, c4⟩)]
            exact hst
          · rw [if_neg c4, if_pos hlim, if_neg (fun c => c4 c.2.2.2)]
            exact hap
        · rw [if_neg c3, if_pos hlim, if_neg (fun c => c3 c.2.2.1)]
          exact hap
      · rw [if_neg c2, if_pos hlim, if_neg (fun c => c2 c.2.1)]
        exact hap
    · rw [if_neg c1, if_pos hlim, if_neg (fun c => c1 c.1)]
      exact hap
theorem merge_ev (l : List S48) (hl : l.length * 64 ≤ 140737488351232) : Ev (fun k => feed_Merge.f k l) (mergeS l) := by
  refine ⟨l.length + 2, fun k hk => ?_⟩
  obtain ⟨k, rfl⟩ : ∃ q, k = q + 1 := ⟨k - 1, by omega⟩
  show feed_Merge.f (k + 1) l = _
  unfold feed_Merge.f
  cases l with
  | nil =>
    rw [feed_Merge.l0, if_neg (by simp)]
    rfl
  | cons x l =>
    have h0 : 0 < (x :: l).length := by simp
    have := merge_loop (x :: l) hl _ 0 k [x] rfl h0 (by simp) (by simp) (by simp at hk ⊢; omega)
    have hr := rd_at (x :: l) 0 h0
    rw [feed_Merge.l0, if_pos (by simp), if_pos (by omega), if_pos (by simp), if_neg (by omega), if_pos (by simp)]
    rw [show ((0 : Nat) : Int) = 0 from rfl] at hr
    rw [hr, show wrap64 (0 + 1) = ((0 + 1 : Nat) : Int) by rw [wrap_id (by omega) (by omega)]; rfl]
    exact this
def runOk (b : Int) (x : S48) : Prop := plainB x = true ∧ x.f1 = b ∧ b < x.f2 ∧ x.f2 ≤ 1099511627776 ∧ 0 ≤ x.f3 ∧ x.f3 ≤ 65535
instance (b : Int) (x : S48) : Decidable (runOk b x) := by unfold runOk; infer_instance
def runsF : Int → List S48 → List S46 → List S46 × Int
 | _, [], out => (out, 0)
 | b, x :: l, out => if runOk b x then runsF x.f2 l (out ++ [⟨x.f3, wrap64 (x.f2 - x.f1)⟩]) else ([], 1)
def runsS (l : List S48) : List S46 × Int := if l.length ≤ 262144 then runsF 0 l [] else ([], 6)
theorem runsF_len : ∀ (l : List S48) (b : Int) (out : List S46), (runsF b l out).1.length ≤ out.length + l.length
  | [], _, _ => by simp [runsF]
  | x :: l, b, out => by
    unfold runsF
    have := runsF_len l x.f2 (out ++ [⟨x.f3, wrap64 (x.f2 - x.f1)⟩])
    simp only [List.length_append, List.length_cons, List.length_nil] at this ⊢
    split
    · omega
    · simp
theorem runs_loop (l : List S48) (hl : l.length ≤ 262144) : ∀ (m i : Nat) (k : Nat) (out : List S46) (b : Int), l.length - i = m → i ≤ l.length → out.length ≤ i → m + 1 ≤ k →
    feed_Runs.l0 k out b l (l.length : Int) (i : Int) = some (runsF b (l.drop i) out) := by
  intro m
  induction m with
  | zero =>
    intro i k out b h1 h2 h3 hk
    obtain ⟨k, rfl⟩ : ∃ q, k = q + 1 := ⟨k - 1, by omega⟩
    rw [feed_Runs.l0, if_neg (by omega), List.drop_eq_nil_of_le (by omega)]
    rfl
  | succ m ih =>
    intro i k out b h1 h2 h3 hk
    obtain ⟨k, rfl⟩ : ∃ q, k = q + 1 := ⟨k - 1, by omega⟩
    have hi : i < l.length := by omega
    have hrec := ih (i + 1) k (out ++ [⟨l[i].f3, wrap64 (l[i].f2 - l[i].f1)⟩]) l[i].f2 (by omega) (by omega) (by simp; omega) (by omega)
    rw [feed_Runs.l0, if_pos (by omega), if_pos (by omega), if_pos (by omega), rd_at l i hi, next_i i _ hi (by omega), List.drop_eq_getElem_cons hi, runsF, plain_f, Option.bind_some]
    by_cases c1 : plainB l[i] = true
    · rw [if_pos c1]
      by_cases c2 : l[i].f1 = b
      · rw [if_pos c2]
        by_cases c3 : l[i].f1 ≥ l[i].f2
        · rw [if_pos c3, if_neg (fun c => by have := c.2.2.1; omega)]
        · rw [if_neg c3]
          by_cases c4 : l[i].f2 > 1099511627776
          · rw [if_pos c4, if_neg (fun c => by have := c.2.2.2.1; omega)]
          · rw [if_neg c4]
            by_cases c5 : l[i].f3 < 0
            · rw [if_pos c5, if_neg (fun c => by have := c.2.2.2.2.1; omega)]
            · rw [if_neg c5]
              by_cases c6 : l[i].f3 ≥ 65536
              · rw [if_pos c6, if_neg (fun c => by have := c.2.2.2.2.2; omega)]
              · rw [if_neg c6, if_pos (by omega), if_pos (show runOk b l[i] from ⟨c1, c2, by omega, by omega, by omega, by omega⟩)]
                exact hrec
      · rw [if_neg c2, if_neg (fun c => c2 c.2.1)]
    · rw [if_neg c1, if_neg (fun c => c1 c.1)]
theorem runs_ev (l : List S48) : Ev (fun k => feed_Runs.f k l) (runsS l) := by
  refine ⟨l.length + 1, fun k hk => ?_⟩
  show feed_Runs.f k l = _
  unfold feed_Runs.f runsS
  by_cases c : l.length ≤ 262144
  · rw [if_neg (by omega), if_pos c]
    have := runs_loop l c l.length 0 k [] 0 rfl (Nat.zero_le _) (Nat.zero_le _) (by omega)
    rw [List.drop_zero] at this
    exact this
  · rw [if_pos (by omega), if_neg c]
theorem runsS_len (l : List S48) : (runsS l).1.length ≤ 262144 := by
  unfold runsS
  split
  · rename_i h
    have := runsF_len l 0 []
    simp at this
    omega
  · simp
theorem same8_loop (l : List S46) (hl : l.length ≤ 4611686018427387904) : ∀ (m i : Nat) (k : Nat), l.length - i = m → i ≤ l.length → m + 1 ≤ k → signalbenchref08_Same.l0 k l l (i : Int) = some true := by
  intro m
  induction m with
  | zero =>
    intro i k h1 h2 hk
    obtain ⟨k, rfl⟩ : ∃ q, k = q + 1 := ⟨k - 1, by omega⟩
    rw [signalbenchref08_Same.l0, if_neg (by omega)]
  | succ m ih =>
    intro i k h1 h2 hk
    obtain ⟨k, rfl⟩ : ∃ q, k = q + 1 := ⟨k - 1, by omega⟩
    have hi : i < l.length := by omega
    rw [signalbenchref08_Same.l0, if_pos (by omega), if_pos (by omega), if_pos (by omega), next_i i _ hi hl, if_neg (by simp)]
    exact ih (i + 1) k (by omega) (by omega) (by omega)
theorem same8_ev (l : List S46) (hl : l.length ≤ 4611686018427387904) : Ev (fun k => signalbenchref08_Same.f k l l) true :=
  ⟨l.length + 1, fun k hk => by
    show signalbenchref08_Same.f k l l = _
    unfold signalbenchref08_Same.f
    rw [if_pos rfl]
    exact same8_loop l hl l.length 0 k rfl (Nat.zero_le _) (by omega)⟩
theorem bt_lt (s : ByteArray) (i : Int) : 0 ≤ bt s i ∧ bt s i < 256 := by
  unfold bt
  split
  · rename_i h
    have := UInt8.toNat_lt (s[i.toNat]'h)
    omega
  · omega
theorem wrap32_bt (s : ByteArray) (i : Int) : wrap32 (bt s i) = bt s i := by
  have := bt_lt s i
  unfold wrap32
  omega
def wordP (b : Int) : Prop := (97 ≤ b ∧ b ≤ 122) ∨ (48 ≤ b ∧ b ≤ 57) ∨ b = 95
instance (b : Int) : Decidable (wordP b) := by unfold wordP; infer_instance
theorem word_f (b : Int) : lex_word.f b = some (decide (wordP b)) := by
  unfold lex_word.f lex_letter.f lex_digit.f wordP
  by_cases h1 : 97 ≤ b
  · by_cases h2 : b ≤ 122
    · simp [h1, h2]
    · by_cases h3 : b = 95
      · omega
      · have h4 : ¬ b ≤ 57 := by omega
        simp [h1, h2, h3, h4, show 48 ≤ b by omega]
  · by_cases h4 : b = 95
    · subst h4
      decide
    · by_cases h2 : 48 ≤ b
      · by_cases h3 : b ≤ 57 <;> simp [h1, h2, h3, h4]
      · simp [h1, h2, h4]
theorem rname_step {α : Type} (b : Int) (R F : α) : (if b ≥ 97 then (if b ≥ 48 then (if (b ≤ 122) then R else (if (b ≤ 57) then R else (if b = 95 then R else F))) else (if (b ≤ 122) then R else (if b = 95 then R else F))) else (if b ≥ 48 then (if (b ≤ 57) then R else (if b = 95 then R else F)) else (if b = 95 then R else F))) = if wordP b then R else F := by
  by_cases h1 : b ≥ 97
  · rw [if_pos h1, if_pos (show b ≥ 48 by omega)]
    by_cases h2 : b ≤ 122
    · rw [if_pos h2, if_pos (show wordP b by unfold wordP; omega)]
    · rw [if_neg h2, if_neg (by omega), if_neg (by omega), if_neg (show ¬ wordP b by unfold wordP; omega)]
  · rw [if_neg h1]
    by_cases h2 : b ≥ 48
    · rw [if_pos h2]
      by_cases h3 : b ≤ 57
      · rw [if_pos h3, if_pos (show wordP b by unfold wordP; omega)]
      · rw [if_neg h3]
        by_cases h4 : b = 95
        · rw [if_pos h4, if_pos (show wordP b by unfold wordP; omega)]
        · rw [if_neg h4, if_neg (show ¬ wordP b by unfold wordP; omega)]
    · rw [if_neg h2]
      by_cases h4 : b = 95
      · rw [if_pos h4, if_pos (show wordP b by unfold wordP; omega)]
      · rw [if_neg h4, if_neg (show ¬ wordP b by unfold wordP; omega)]
theorem name_loop (s : ByteArray) (hs : s.size ≤ 16) : ∀ (m i : Nat), s.size - i = m → i ≤ s.size → ∃ r, ∀ k, m + 1 ≤ k → lex_Name.l0 k s (s.size : Int) (i : Int) = some r ∧ signalbenchref09_name.l0 k s (i : Int) = some r := by
  intro m
  induction m with
  | zero =>
    intro i h1 h2
    refine ⟨true, fun k hk => ?_⟩
    obtain ⟨k, rfl⟩ : ∃ q, k = q + 1 := ⟨k - 1, by omega⟩
    rw [lex_Name.l0, if_neg (by omega), signalbenchref09_name.l0, if_neg (by omega)]
    exact ⟨rfl, rfl⟩
  | succ m ih =>
    intro i h1 h2
    have hi : i < s.size := by omega
    obtain ⟨r, hr⟩ := ih (i + 1) (by omega) (by omega)
    refine ⟨if wordP (bt s i) then r else false, fun k hk => ?_⟩
    obtain ⟨k, rfl⟩ : ∃ q, k = q + 1 := ⟨k - 1, by omega⟩
    have hh := hr k (by omega)
    refine ⟨?_, ?_⟩
    · rw [lex_Name.l0, if_pos (by omega), if_pos (by omega), if_pos (by omega), wrap32_bt, word_f, Option.bind_some, next_i i _ hi (by omega)]
      by_cases c : wordP (bt s i)
      · rw [if_pos c, if_pos (decide_eq_true c)]
        exact hh.1
      · rw [if_neg c, if_neg (by simpa using c)]
    · rw [signalbenchref09_name.l0, if_pos (by omega), if_pos (by omega), next_i i _ hi (by omega), rname_step]
      by_cases c : wordP (bt s i)
      · rw [if_pos c, if_pos c]
        exact hh.2
      · rw [if_neg c, if_neg c]
theorem toList_nil_of {s : ByteArray} (h : s.size = 0) : s.toList = [] := by
  unfold ByteArray.toList ByteArray.toList.loop
  rw [if_neg (by omega)]
  rfl
theorem name_ev (s : ByteArray) : ∃ r, Ev (fun k => lex_Name.f k s) r ∧ Ev (fun k => signalbenchref09_name.f k s) r := by
  have hF : Ev (fun k => lex_Name.j0 k s true) false := Ev.le 1 (fun k => by rw [lex_Name.j0, if_pos rfl])
  have hG : Ev (fun k => signalbenchref09_name.j0 k s true) false := Ev.le 1 (fun k => by rw [signalbenchref09_name.j0, if_pos rfl])
  unfold lex_Name.f signalbenchref09_name.f
  by_cases c1 : s.toList = []
  · simp only [if_pos c1]
    exact ⟨false, hF, hG⟩
  simp only [if_neg c1]
  by_cases c2 : (s.size : Int) > 16
  · simp only [if_pos c2]
    exact ⟨false, hF, hG⟩
  simp only [if_neg c2]
  by_cases c3 : 0 < (s.size : Int)
  case neg =>
    exfalso
    apply c1
    have : s.size = 0 := by omega
    exact toList_nil_of this
  simp only [if_pos c3, wrap32_bt]
  obtain ⟨r, hr⟩ := name_loop s (by omega) s.size 0 rfl (Nat.zero_le _)
  have h1 : Ev (fun k => lex_Name.j0 k s false) r := ⟨s.size + 2, fun k hk => by
    obtain ⟨k, rfl⟩ : ∃ q, k = q + 1 := ⟨k - 1, by omega⟩
    show lex_Name.j0 (k + 1) s false = _
    rw [lex_Name.j0, if_neg (by simp)]
    exact (hr k (by omega)).1⟩
  have h2 : Ev (fun k => signalbenchref09_name.j0 k s false) r := ⟨s.size + 2, fun k hk => by
    obtain ⟨k, rfl⟩ : ∃ q, k = q + 1 := ⟨k - 1, by omega⟩
    show signalbenchref09_name.j0 (k + 1) s false = _
    rw [signalbenchref09_name.j0, if_neg (by simp)]
    exact (hr k (by omega)).2⟩
  unfold lex_letter.f
  by_cases c4 : 97 ≤ bt s 0
  · simp only [if_pos c4, Option.bind_some, if_neg (show ¬ bt s 0 < 97 by omega)]
    by_cases c5 : bt s 0 ≤ 122
    · rw [decide_eq_true c5, decide_eq_false (show ¬ bt s 0 > 122 by omega)]
      exact ⟨r, h1, h2⟩
    · rw [decide_eq_false c5, decide_eq_true (show bt s 0 > 122 by omega)]
      exact ⟨false, hF, hG⟩
  · simp only [if_neg c4, Option.bind_some, if_pos (show bt s 0 < 97 by omega)]
    exact ⟨false, hF, hG⟩
theorem rdB (xs : List ByteArray) (i : Nat) (h : i < xs.length) : rdOf ByteArray.empty xs (i : Int) = xs[i] := by
  unfold rdOf
  rw [Int.toNat_natCast, List.getD_eq_getElem?_getD, List.getElem?_eq_getElem h]
  rfl
/-- the first place from i on of a text, or -1 -/
def idxL (s : ByteArray) : List ByteArray → Nat → Int
 | [], _ => -1
 | x :: l, i => if x.toList = s.toList then (i : Int) else idxL s l (i + 1)
theorem idxL_law (s : ByteArray) : ∀ (l : List ByteArray) (i : Nat), (idxL s l i = -1 ∧ ∀ x ∈ l, x.toList ≠ s.toList) ∨ ∃ (j : Nat) (h : j < l.length), idxL s l i = ((i + j : Nat) : Int) ∧ l[j].toList = s.toList ∧ ∀ j', (h' : j' < j) → (l[j']'(by omega)).toList ≠ s.toList
  | [], _ => .inl ⟨rfl, fun x h => by simp at h⟩
  | x :: l, i => by
    unfold idxL
    by_cases c : x.toList = s.toList
    · rw [if_pos c]
      exact .inr ⟨0, by simp, rfl, c, fun j' h' => by omega⟩
    · rw [if_neg c]
      rcases idxL_law s l (i + 1) with ⟨h1, h2⟩ | ⟨j, h, h1, h2, h3⟩
      · refine .inl ⟨h1, fun y hy => ?_⟩
        rcases List.mem_cons.1 hy with rfl | hy
        · exact c
        · exact h2 y hy
      · refine .inr ⟨j + 1, by simpa using h, by rw [h1]; omega, by simpa using h2, fun j' h' => ?_⟩
        rcases j' with _ | j'
        · exact c
        · simpa using h3 j' (by omega)
theorem index_loop (l : List ByteArray) (s : ByteArray) (hl : l.length ≤ 4611686018427387904) : ∀ (m i : Nat) (k : Nat), l.length - i = m → i ≤ l.length → m + 1 ≤ k →
    slices_Index_string_string.l0 k l s (l.length : Int) (i : Int) = some (idxL s (l.drop i) i) := by
  intro m
  induction m with
  | zero =>
    intro i k h1 h2 hk
    obtain ⟨k, rfl⟩ : ∃ q, k = q + 1 := ⟨k - 1, by omega⟩
    rw [slices_Index_string_string.l0, if_neg (by omega), List.drop_eq_nil_of_le (by omega)]
    rfl
  | succ m ih =>
    intro i k h1 h2 hk
    obtain ⟨k, rfl⟩ : ∃ q, k = q + 1 := ⟨k - 1, by omega⟩
    have hi : i < l.length := by omega
    rw [slices_Index_string_string.l0, if_pos (by omega), if_pos (by omega), if_pos (by omega), rdB l i hi, next_i i _ hi hl, List.drop_eq_getElem_cons hi, idxL]
    by_cases c : s.toList = l[i].toList
    · rw [if_pos c, if_pos c.symm]
    · rw [if_neg c, if_neg (fun h => c h.symm)]
      exact ih (i + 1) k (by omega) (by omega) (by omega)
theorem index_f (l : List ByteArray) (s : ByteArray) (hl : l.length ≤ 4611686018427387904) (k : Nat) (hk : l.length + 1 ≤ k) : slices_Index_string_string.f k l s = some (idxL s l 0) := by
  have := index_loop l s hl l.length 0 k rfl (Nat.zero_le _) hk
  rw [List.drop_zero] at this
  exact this
theorem contains_f (l : List ByteArray) (s : ByteArray) (hl : l.length ≤ 4611686018427387904) (k : Nat) (hk : l.length + 1 ≤ k) : slices_Contains_string_string.f k l s = some (decide (idxL s l 0 ≥ 0)) := by
  unfold slices_Contains_string_string.f
  rw [index_f l s hl k hk]
  rfl
theorem place_loop (l : List ByteArray) (s : ByteArray) (hl : l.length ≤ 4611686018427387904) : ∀ (m i : Nat) (k : Nat), l.length - i = m → i ≤ l.length → m + 1 ≤ k →
    signalbenchref14_place.l0 k l s (i : Int) = some (idxL s (l.drop i) i) := by
  intro m
  induction m with
  | zero =>
    intro i k h1 h2 hk
    obtain ⟨k, rfl⟩ : ∃ q, k = q + 1 := ⟨k - 1, by omega⟩
    rw [signalbenchref14_place.l0, if_neg (by omega), List.drop_eq_nil_of_le (by omega)]
    rfl
  | succ m ih =>
    intro i k h1 h2 hk
    obtain ⟨k, rfl⟩ : ∃ q, k = q + 1 := ⟨k - 1, by omega⟩
    have hi : i < l.length := by omega
    rw [signalbenchref14_place.l0, if_pos (by omega), if_pos (by omega), rdB l i hi, next_i i _ hi hl, List.drop_eq_getElem_cons hi, idxL]
    by_cases c : l[i].toList = s.toList
    · rw [if_pos c, if_pos c]
    · rw [if_neg c, if_neg c]
      exact ih (i + 1) k (by omega) (by omega) (by omega)
theorem place_f (l : List ByteArray) (s : ByteArray) (hl : l.length ≤ 4611686018427387904) (k : Nat) (hk : l.length + 1 ≤ k) : signalbenchref14_place.f k l s = some (idxL s l 0) := by
  have := place_loop l s hl l.length 0 k rfl (Nat.zero_le _) hk
  rw [List.drop_zero] at this
  exact this
/-- no text twice -/
def Distinct (l : List ByteArray) : Prop := ∀ i j, (hi : i < l.length) → (hj : j < i) → (l[j]'(by omega)).toList ≠ l[i].toList
theorem idx_take (l : List ByteArray) (i : Nat) (hi : i < l.length) : (0 ≤ idxL l[i] (l.take i) 0 ↔ ∃ j, ∃ (hj : j < i), (l[j]'(by omega)).toList = l[i].toList) := by
  rcases idxL_law l[i] (l.take i) 0 with ⟨h1, h2⟩ | ⟨j, h, h1, h2, _⟩
  · rw [h1]
    refine ⟨fun h => by omega, fun ⟨j, hj, he⟩ => absurd he (h2 _ ?_)⟩
    rw [List.mem_take_iff_getElem]
    exact ⟨j, by omega, rfl⟩
  · rw [h1]
    rw [List.length_take] at h
    refine ⟨fun _ => ⟨j, by omega, ?_⟩, fun _ => by omega⟩
    rw [List.getElem_take] at h2
    exact h2
/-- the second loops: is any text there twice? -/
theorem dup_loop (l : List ByteArray) (hl : l.length ≤ 16) : ∀ (m i : Nat), l.length - i = m → (hil : i ≤ l.length) → (∀ i', (h : i' < i) → ∀ j, (hj : j < i') → (l[j]'(by omega)).toList ≠ (l[i']'(by omega)).toList) →
    ∃ r, (r = 0 ∧ Distinct l ∨ r = 9) ∧ Ev (fun k => capture_checkNames.l1 k l l (l.length : Int) (i : Int)) r ∧ Ev (fun k => signalbenchref09_names.l1 k l (i : Int)) r := by
  intro m
  induction m with
  | zero =>
    intro i h1 h2 hd
    refine ⟨0, .inl ⟨rfl, fun i' j hi hj => hd i' (by omega) j hj⟩, Ev.le 1 (fun k => by rw [capture_checkNames.l1, if_neg (by omega)]), Ev.le 1 (fun k => by rw [signalbenchref09_names.l1, if_neg (by omega)])⟩
  | succ m ih =>
    intro i h1 h2 hd
    have hi : i < l.length := by omega
    have hidx := idx_take l i hi
    -- the specification's inner loop
    have inner : ∀ (m' j : Nat), i - j = m' → (hji : j ≤ i) → (∀ j', (h : j' < j) → (l[j']'(by omega)).toList ≠ l[i].toList) → ∀ r, (¬ (∃ j, ∃ (hj : j < i), (l[j]'(by omega)).toList = l[i].toList) → Ev (fun k => signalbenchref09_names.l1 k l ((i + 1 : Nat) : Int)) r) →
        ((∃ j, ∃ (hj : j < i), (l[j]'(by omega)).toList = l[i].toList) → r = 9) → Ev (fun k => signalbenchref09_names.l2 k l (i : Int) (j : Int)) r := by
      intro m'
      induction m' with
      | zero =>
        intro j g1 g2 g3 r g4 _
        refine Ev.step (fun k => by rw [signalbenchref09_names.l2, if_neg (by omega), next_i i _ hi (by omega)]) (g4 ?_)
        rintro ⟨j', hj', he⟩
        exact g3 j' (by omega) he
      | succ m' ih' =>
        intro j g1 g2 g3 r g4 g5
        have hj : j < i := by omega
        by_cases c : l[i].toList = (l[j]'(by omega)).toList
        · rw [g5 ⟨j, hj, c.symm⟩]
          exact Ev.le 1 (fun k => by rw [signalbenchref09_names.l2, if_pos (by omega), if_pos (by omega), if_pos (by omega), if_pos (by omega), if_pos (by omega), rdB l i hi, rdB l j (by omega), if_pos c])
        · refine Ev.step (fun k => by rw [signalbenchref09_names.l2, if_pos (by omega), if_pos (by omega), if_pos (by omega), if_pos (by omega), if_pos (by omega), rdB l i hi, rdB l j (by omega), if_neg c, next_i j _ hj (by omega)]) (ih' (j + 1) (by omega) (by omega) (fun j' hj' => ?_) r g4 g5)
          by_cases e : j' = j
          · subst e
            exact fun h => c h.symm
          · exact g3 j' (by omega)
    by_cases c : ∃ j, ∃ (hj : j < i), (l[j]'(by omega)).toList = l[i].toList
    · refine ⟨9, .inr rfl, ⟨l.length + 2, fun k hk => ?_⟩, ?_⟩
      · obtain ⟨k, rfl⟩ : ∃ q, k = q + 1 := ⟨k - 1, by omega⟩
        show capture_checkNames.l1 (k + 1) l l (l.length : Int) (i : Int) = _
        rw [capture_checkNames.l1, if_pos (by omega), if_pos (by omega), if_pos (by omega), if_pos (by omega), rdB l i hi, Int.toNat_natCast, contains_f _ _ (by rw [List.length_take]; omega) k (by rw [List.length_take]; omega), Option.bind_some, decide_eq_true (hidx.2 c), if_pos rfl]
      · refine Ev.step (f := fun k => signalbenchref09_names.l2 k l (i : Int) 0) (fun k => by rw [signalbenchref09_names.l1, if_pos (by omega)]) ?_
        exact inner i 0 rfl (Nat.zero_le _) (fun j' h => by omega) 9 (fun h => absurd c h) (fun _ => rfl)
    · obtain ⟨r, hr, e1, e2⟩ := ih (i + 1) (by omega) (by omega) (fun i' h j hj => by
        by_cases e : i' = i
        · subst e
          exact fun h => c ⟨j, hj, h⟩
        · exact hd i' (by omega) j hj)
      refine ⟨r, hr, ?_, ?_⟩
      · obtain ⟨K, hK⟩ := e1
        refine ⟨K + l.length + 2, fun k hk => ?_⟩
        obtain ⟨k, rfl⟩ : ∃ q, k = q + 1 := ⟨k - 1, by omega⟩
        show capture_checkNames.l1 (k + 1) l l (l.length : Int) (i : Int) = _
        rw [capture_checkNames.l1, if_pos (by omega), if_pos (by omega), if_pos (by omega), if_pos (by omega), rdB l i hi, Int.toNat_natCast, contains_f _ _ (by rw [List.length_take]; omega) k (by rw [List.length_take]; omega), Option.bind_some, decide_eq_false (fun h => c (hidx.1 h)), if_neg (by simp), next_i i _ hi (by omega)]
        exact hK k (by omega)
      · refine Ev.step (f := fun k => signalbenchref09_names.l2 k l (i : Int) 0) (fun k => by rw [signalbenchref09_names.l1, if_pos (by omega)]) ?_
        exact inner i 0 rfl (Nat.zero_le _) (fun j' h => by omega) r (fun _ => e2) (fun h => absurd h c)
theorem names_loop (l : List ByteArray) (hl : l.length ≤ 16) : ∀ (m i : Nat), l.length - i = m → i ≤ l.length →
    ∃ r, (r = 0 ∧ Distinct l ∨ r = 9 ∨ r = 4) ∧ Ev (fun k => capture_checkNames.l0 k l l (l.length : Int) (i : Int)) r ∧ Ev (fun k => signalbenchref09_names.l0 k l (i : Int)) r := by
  intro m
  induction m with
  | zero =>
    intro i h1 h2
    obtain ⟨r, hr, e1, e2⟩ := dup_loop l hl l.length 0 rfl (Nat.zero_le _) (fun i' h => by omega)
    refine ⟨r, hr.imp id .inl, Ev.step (fun k => by rw [capture_checkNames.l0, if_neg (by omega)]; rfl) e1, Ev.step (fun k => by rw [signalbenchref09_names.l0, if_neg (by omega)]; rfl) e2⟩
  | succ m ih =>
    intro i h1 h2
    have hi : i < l.length := by omega
    obtain ⟨b, n1, n2⟩ := name_ev l[i]
    obtain ⟨r, hr, e1, e2⟩ := ih (i + 1) (by omega) (by omega)
    refine ⟨if b = true then r else 4, ?_, ?_, ?_⟩
    · by_cases c : b = true
      · rw [if_pos c]; exact hr
      · rw [if_neg c]; exact .inr (.inr rfl)
    · refine Ev.step (f := fun k => (lex_Name.f k l[i]).bind fun t108 => (if t108 = true then (capture_checkNames.l0 k l l (l.length : Int) ((i + 1 : Nat) : Int)) else (some 4))) (fun k => by rw [capture_checkNames.l0, if_pos (by omega), if_pos (by omega), if_pos (by omega), rdB l i hi, next_i i _ hi (by omega)]) (n1.bind ?_)
      by_cases c : b = true
      · simp only [if_pos c]; exact e1
      · simp only [if_neg c]; exact Ev.now 4
    · refine Ev.step (f := fun k => (signalbenchref09_name.f k l[i]).bind fun t137 => (if t137 = true then (signalbenchref09_names.l0 k l ((i + 1 : Nat) : Int)) else (some 4))) (fun k => by rw [signalbenchref09_names.l0, if_pos (by omega), if_pos (by omega), rdB l i hi, next_i i _ hi (by omega)]) (n2.bind ?_)
      by_cases c : b = true
      · simp only [if_pos c]; exact e2
      · simp only [if_neg c]; exact Ev.now 4
theorem names_ev (l : List ByteArray) (hl : l.length ≤ 16) : ∃ r, (r = 0 ∧ Distinct l ∧ 0 < l.length ∨ r ≠ 0) ∧ Ev (fun k => capture_checkNames.f k l) r ∧ Ev (fun k => signalbenchref09_names.f k l) r := by
  unfold capture_checkNames.f signalbenchref09_names.f
  simp only [if_neg (show ¬ (l.length : Int) > 16 by omega)]
  by_cases c : (l.length : Int) = 0
  · simp only [if_pos c]
    exact ⟨1, .inr (by decide), Ev.now 1, Ev.now 1⟩
  · simp only [if_neg c]
    obtain ⟨r, hr, e1, e2⟩ := names_loop l hl l.length 0 rfl (Nat.zero_le _)
    refine ⟨r, ?_, e1, e2⟩
    rcases hr with ⟨h1, h2⟩ | h1 | h1
    · exact .inl ⟨h1, h2, by omega⟩
    · exact .inr (by omega)
    · exact .inr (by omega)
-- ---- the runs
/-- runs with levels up to a mask and possible numbers of ticks -/
def RunsOk (mask : Int) : Int → List S46 → Prop
 | _, [] => True
 | left, x :: l => 0 ≤ x.f0 ∧ x.f0 ≤ mask ∧ 1 ≤ x.f1 ∧ x.f1 ≤ left ∧ RunsOk mask (left - x.f1) l
theorem runs_check (l : List S46) (hl : l.length ≤ 262144) (mask : Int) : ∀ (m i : Nat) (left : Int), l.length - i = m → i ≤ l.length → 0 ≤ left → left ≤ 1099511627776 →
    ∃ b : Bool, (b = true ↔ RunsOk mask left (l.drop i)) ∧ ∀ k, m + 1 ≤ k → capture_Check.l0 k mask left l (l.length : Int) (i : Int) = some (if b = true then 0 else 2) ∧ signalbenchref09_runs.l0 k l mask left (i : Int) = some b := by
  intro m
  induction m with
  | zero =>
    intro i left h1 h2 h3 h4
    refine ⟨true, ?_, fun k hk => ?_⟩
    · rw [List.drop_eq_nil_of_le (by omega)]
      simp [RunsOk]
    · obtain ⟨k, rfl⟩ : ∃ q, k = q + 1 := ⟨k - 1, by omega⟩
      refine ⟨?_, ?_⟩
      · rw [capture_Check.l0, if_neg (by omega)]
        rfl
      · rw [signalbenchref09_runs.l0, if_neg (by omega)]
  | succ m ih =>
    intro i left h1 h2 h3 h4
    have hi : i < l.length := by omega
    have hd := List.drop_eq_getElem_cons hi
    by_cases c : 0 ≤ l[i].f0 ∧ l[i].f0 ≤ mask ∧ 1 ≤ l[i].f1 ∧ l[i].f1 ≤ left
    · obtain ⟨b, hb, hh⟩ := ih (i + 1) (left - l[i].f1) (by omega) (by omega) (by omega) (by omega)
      have hw : wrap64 (left - l[i].f1) = left - l[i].f1 := wrap_id (by omega) (by omega)
      refine ⟨b, ?_, fun k hk => ?_⟩
      · rw [hb, hd, RunsOk]
        exact ⟨fun h => ⟨c.1, c.2.1, c.2.2.1, c.2.2.2, h⟩, fun h => h.2.2.2.2⟩
      · obtain ⟨k, rfl⟩ : ∃ q, k = q + 1 := ⟨k - 1, by omega⟩
        have hk2 := hh k (by omega)
        refine ⟨?_, ?_⟩
        · rw [capture_Check.l0, if_pos (by omega), if_pos (by omega), if_pos (by omega), rd46 l i hi, next_i i _ hi (by omega), hw, if_neg (by omega), if_neg (by omega), if_neg (by omega), if_neg (by omega)]
          exact hk2.1
        · rw [signalbenchref09_runs.l0, if_pos (by omega), if_pos (by omega), rd46 l i hi, next_i i _ hi (by omega), hw, if_neg (by omega), if_neg (by omega), if_neg (by omega), if_neg (by omega)]
          exact hk2.2
    · refine ⟨false, ?_, fun k hk => ?_⟩
      · rw [hd, RunsOk]
        exact ⟨fun h => by simp at h, fun h => absurd ⟨h.1, h.2.1, h.2.2.1, h.2.2.2.1⟩ c⟩
      · obtain ⟨k, rfl⟩ : ∃ q, k = q + 1 := ⟨k - 1, by omega⟩
        refine ⟨?_, ?_⟩
        · rw [capture_Check.l0, if_pos (by omega), if_pos (by omega), if_pos (by omega), rd46 l i hi]
          by_cases d1 : l[i].f0 < 0
          · rw [if_pos d1]; rfl
          · rw [if_neg d1]
            by_cases d2 : l[i].f0 > mask
            · rw [if_pos d2]; rfl
            · rw [if_neg d2]
              by_cases d3 : l[i].f1 < 1
              · rw [if_pos d3]; rfl
              · rw [if_neg d3, if_pos (by omega)]
                rfl
        · rw [signalbenchref09_runs.l0, if_pos (by omega), if_pos (by omega), rd46 l i hi]
          by_cases d1 : l[i].f0 < 0
          · rw [if_pos d1]
          · rw [if_neg d1]
            by_cases d2 : l[i].f0 > mask
            · rw [if_pos d2]
            · rw [if_neg d2]
              by_cases d3 : l[i].f1 < 1
              · rw [if_pos d3]
              · rw [if_neg d3, if_pos (by omega)]
/-- the mask of a number of channels -/
def maskOf (n : Nat) : Int := wrap64 ((shl .i64 1 (n : Int)) - 1)
theorem check_ev (ns : List ByteArray) (rs : List S46) : ∃ r, (r = 0 ∧ Distinct ns ∧ 0 < ns.length ∧ ns.length ≤ 16 ∧ rs.length ≤ 262144 ∧ RunsOk (maskOf ns.length) 1099511627776 rs ∨ r ≠ 0) ∧ Ev (fun k => capture_Check.f k ns rs) r ∧ Ev (fun k => signalbenchref09_Check.f k ns rs) r := by
  have h6 : Ev (fun k => capture_Check.j0 k true ns rs) 6 := Ev.le 1 (fun k => by rw [capture_Check.j0, if_pos rfl])
  unfold capture_Check.f signalbenchref09_Check.f
  by_cases c1 : (rs.length : Int) > 262144
  · simp only [if_pos c1]
    refine ⟨6, .inr (by decide), ?_, Ev.now 6⟩
    by_cases c2 : (ns.length : Int) > 16
    · simp only [if_pos c2]; exact h6
    · simp only [if_neg c2, decide_eq_true c1]; exact h6
  · simp only [if_neg c1, decide_eq_false c1]
    by_cases c2 : (ns.length : Int) > 16
    · simp only [if_pos c2]
      refine ⟨6, .inr (by decide), h6, ?_⟩
      unfold signalbenchref09_names.f
      simp only [if_pos c2, Option.bind_some]
      simp only [if_neg (show ¬ (6 : Int) = 0 by decide)]
      exact Ev.now 6
    · simp only [if_neg c2]
      obtain ⟨r, hr, e1, e2⟩ := names_ev ns (by omega)
      obtain ⟨b, hb, hh⟩ := runs_check rs (by omega) (maskOf ns.length) rs.length 0 1099511627776 rfl (Nat.zero_le _) (by omega) (by omega)
      rw [List.drop_zero] at hb
      have g1 : Ev (fun k => capture_Check.l0 k (maskOf ns.length) 1099511627776 rs (rs.length : Int) 0) (if b = true then 0 else 2) := ⟨rs.length + 1, fun k hk => (hh k hk).1⟩
      have g2 : Ev (fun k => signalbenchref09_runs.f k rs (maskOf ns.length)) b := ⟨rs.length + 1, fun k hk => (hh k hk).2⟩
      refine ⟨if r = 0 then (if b = true then 0 else 2) else r, ?_, ?_, ?_⟩
      · rcases hr with ⟨h1, h2, h3⟩ | h1
        · rw [if_pos h1]
          by_cases c3 : b = true
          · rw [if_pos c3]
            exact .inl ⟨rfl, h2, h3, by omega, by omega, hb.1 c3⟩
          · rw [if_neg c3]
            exact .inr (by decide)
        · rw [if_neg h1]
          exact .inr h1
      · refine Ev.step (f := fun k => (capture_checkNames.f k ns).bind fun t113 => (if t113 = 0 then (capture_Check.l0 k (wrap64 ((shl .i64 1 (ns.length : Int)) - 1)) 1099511627776 rs (rs.length : Int) 0) else (some t113))) (fun k => by rw [capture_Check.j0, if_neg (by simp)]) (e1.bind ?_)
        by_cases c3 : r = 0
        · simp only [if_pos c3]; exact g1
        · simp only [if_neg c3]; exact Ev.now r
      · refine e2.bind ?_
        by_cases c3 : r = 0
        · simp only [if_pos c3]
          refine Ev.bind g2 ?_
          by_cases c4 : b = true
          · simp only [if_pos c4]; exact Ev.now 0
          · simp only [if_neg c4]; exact Ev.now 2
        · simp only [if_neg c3]; exact Ev.now r
theorem wraps_i64 (n : Int) (h0 : 0 ≤ n) (h1 : n < 2 ^ 63) : IntKind.i64.wrap n = n := by rw [IntKind.wrap_i64]; omega
theorem pow_le16 {i : Nat} (h : i ≤ 16) : 2 ^ i ≤ 65536 := Nat.le_trans (Nat.pow_le_pow_right (by decide) h) (by decide)
theorem pow_lt16 {i : Nat} (h : i < 16) : 2 ^ i ≤ 32768 := Nat.le_trans (Nat.pow_le_pow_right (by decide) (show i ≤ 15 by omega)) (by decide)
theorem shr_nat (a p : Nat) (hp : p ≤ 64) : shr .i64 (a : Int) (p : Int) = ((a / 2 ^ p : Nat) : Int) := by
  unfold shr
  rw [Int.toNat_natCast, show min p IntKind.i64.bits = p from Nat.min_eq_left hp, Int.natCast_ediv, Int.natCast_pow]
  rfl
theorem shl_nat (a i : Nat) (hi : i ≤ 64) (h : a * 2 ^ i < 9223372036854775808) : shl .i64 (a : Int) (i : Int) = ((a * 2 ^ i : Nat) : Int) := by
  unfold shl
  rw [Int.toNat_natCast, show min i IntKind.i64.bits = i from Nat.min_eq_left hi, show ((a : Int) * 2 ^ i) = ((a * 2 ^ i : Nat) : Int) by rw [Int.natCast_mul, Int.natCast_pow]; rfl]
  exact wraps_i64 _ (by omega) (by omega)
theorem and_one (a : Nat) (h : a < 9223372036854775808) : Go.bits .and .i64 (a : Int) 1 = ((a % 2 : Nat) : Int) := by
  have := Go.bits_mask .i64 63 (by decide) wraps_i64 1 (by decide) (a : Int) (by omega) (by omega)
  rw [show ((2 : Int) ^ 1 - 1) = 1 by decide] at this
  rw [this]
  omega
theorem bit_step (level p i v : Nat) (hl : level < 65536) (hp : p < 16) (hi : i < 16) (hv : v < 2 ^ i) :
    Go.bits .or .i64 (v : Int) (shl .i64 (Go.bits .and .i64 (shr .i64 (level : Int) (p : Int)) 1) (i : Int)) = ((v + 2 ^ i * ((level / 2 ^ p) % 2) : Nat) : Int) := by
  have hd : level / 2 ^ p ≤ level := Nat.div_le_self _ _
  have h2 := pow_lt16 hi
  have hb : (level / 2 ^ p) % 2 * 2 ^ i ≤ 1 * 32768 := Nat.mul_le_mul (by omega) h2
  rw [shr_nat _ _ (by omega), and_one _ (by omega), shl_nat _ _ (by omega) (by omega)]
  have hc := (Go.bits_nat .i64 63 (by decide) wraps_i64 v ((level / 2 ^ p) % 2 * 2 ^ i) (by omega) (by omega)).2
  have hc2 := (Go.bits_nat .i64 63 (by decide) wraps_i64 ((level / 2 ^ p) % 2 * 2 ^ i) v (by omega) (by omega)).2
  rw [hc, Nat.or_comm, ← hc2, Go.bits_join .i64 63 (by decide) wraps_i64 i _ _ (by omega) ?_ (by omega) (by omega) ?_ (by omega)]
  · rw [Nat.mul_comm (2 ^ i)]
    omega
  · rw [show ((2 : Int) ^ i) = ((2 ^ i : Nat) : Int) by rw [Int.natCast_pow]; rfl, ← Int.natCast_emod, Nat.mul_mod_left]
    rfl
  · rw [show ((2 : Int) ^ i) = ((2 ^ i : Nat) : Int) by rw [Int.natCast_pow]; rfl]
    omega
/-- the value of a level in the chosen order -/
def valF (level : Nat) : List Int → Nat → Nat
 | [], _ => 0
 | p :: ps, i => 2 ^ i * ((level / 2 ^ p.toNat) % 2) + valF level ps (i + 1)
theorem step_lt {v i b : Nat} (h : v < 2 ^ i) : v + 2 ^ i * (b % 2) < 2 ^ (i + 1) := by
  have : b % 2 = 0 ∨ b % 2 = 1 := by omega
  rw [Nat.pow_succ]
  rcases this with e | e <;> rw [e] <;> omega
/-- the places of the names -/
def plOf (ns l : List ByteArray) : List Int := l.map (fun s => idxL s ns 0)
theorem idx_lt (ns : List ByteArray) (s : ByteArray) : idxL s ns 0 < ns.length := by
  rcases idxL_law s ns 0 with ⟨h, _⟩ | ⟨j, h, h1, _⟩
  · omega
  · omega
theorem code_value (ps : List Int) (hl : ps.length ≤ 16) (hp : ∀ p ∈ ps, 0 ≤ p ∧ p < 16) (level : Nat) (hlv : level < 65536) (out : List S48) (hout : out.length < 2199023255552) (b : Int) (rs : List S46) (len j w : Int) (R : List S48 × Int) : ∀ (m i v : Nat), ps.length - i = m → i ≤ ps.length → v < 2 ^ i →
    Ev (fun k => feed_Levels.l0 k ps (out ++ [(⟨1, b, wrap64 (b + w), ((v + valF level (ps.drop i) i : Nat) : Int), 0, (⟨#[]⟩ : ByteArray), 0⟩ : S48)]) (wrap64 (b + w)) rs len (wrap64 (j + 1))) R →
    Ev (fun k => feed_Levels.l1 k ps out b (v : Int) rs len j ps (ps.length : Int) (i : Int) (level : Int) w) R := by
  intro m
  induction m with
  | zero =>
    intro i v h1 h2 h3 h4
    rw [List.drop_eq_nil_of_le (by omega), valF, Nat.add_zero] at h4
    exact Ev.step (fun k => by rw [feed_Levels.l1, if_neg (by omega), if_pos hout]) h4
  | succ m ih =>
    intro i v h1 h2 h3 h4
    have hi : i < ps.length := by omega
    obtain ⟨h0, h16⟩ := hp ps[i] (List.getElem_mem hi)
    obtain ⟨p, hpe⟩ := Int.eq_ofNat_of_zero_le h0
    refine Ev.step (fun k => by rw [feed_Levels.l1, if_pos (by omega), if_pos (by omega), if_pos (by omega), rdI ps i hi, if_pos h0, next_i i _ hi (by omega), hpe, bit_step level p i v hlv (by omega) (by omega) h3]) (ih (i + 1) (v + 2 ^ i * ((level / 2 ^ p) % 2)) (by omega) (by omega) (step_lt h3) ?_)
    rw [List.drop_eq_getElem_cons hi, valF, hpe, Int.toNat_natCast, ← Nat.add_assoc] at h4
    exact h4
theorem runsOk_mem {mask : Int} : ∀ (l : List S46) (left : Int), RunsOk mask left l → ∀ x ∈ l, 0 ≤ x.f0 ∧ x.f0 ≤ mask
  | [], _, _, x, hx => by simp at hx
  | y :: l, left, h, x, hx => by
    rcases List.mem_cons.1 hx with rfl | hx
    · exact ⟨h.1, h.2.1⟩
    · exact runsOk_mem l _ h.2.2.2.2 x hx
theorem mask_lt {n : Nat} (h : n ≤ 16) : maskOf n < 65536 := by
  have h2 := pow_le16 h
  have h3 := shl_nat 1 n (by omega) (by omega)
  rw [show ((1 : Nat) : Int) = 1 from rfl] at h3
  have h4 : 0 < 2 ^ n := Nat.two_pow_pos n
  unfold maskOf
  rw [h3, wrap_id (by omega) (by omega)]
  omega
/-- the spans that both come to -/
def spansF (ps : List Int) : List S46 → Int → List S48
 | [], _ => []
 | r :: rs, b => ⟨1, b, wrap64 (b + r.f1), ((valF r.f0.toNat ps 0 : Nat) : Int), 0, (⟨#[]⟩ : ByteArray), 0⟩ :: spansF ps rs (wrap64 (b + r.f1))
theorem spansF_len (ps : List Int) : ∀ (rs : List S46) (b : Int), (spansF ps rs b).length = rs.length
  | [], _ => rfl
  | r :: rs, b => by rw [spansF, List.length_cons, List.length_cons, spansF_len ps rs]
theorem code_spans (ps : List Int) (hl : ps.length ≤ 16) (hp : ∀ p ∈ ps, 0 ≤ p ∧ p < 16) (rs : List S46) (hr : rs.length ≤ 262144) (hm : ∀ x ∈ rs, 0 ≤ x.f0 ∧ x.f0 < 65536) : ∀ (m j : Nat) (out : List S48) (b : Int), rs.length - j = m → j ≤ rs.length → out.length ≤ j →
    Ev (fun k => feed_Levels.l0 k ps out b rs (rs.length : Int) (j : Int)) (out ++ spansF ps (rs.drop j) b, 0) := by
  intro m
  induction m with
  | zero =>
    intro j out b h1 h2 h3
    rw [List.drop_eq_nil_of_le (by omega), spansF, List.append_nil]
    exact Ev.le 1 (fun k => by rw [feed_Levels.l0, if_neg (by omega)])
  | succ m ih =>
    intro j out b h1 h2 h3
    have hj : j < rs.length := by omega
    obtain ⟨h0, h16⟩ := hm rs[j] (List.getElem_mem hj)
    obtain ⟨level, hle⟩ := Int.eq_ofNat_of_zero_le h0
    rw [List.drop_eq_getElem_cons hj, spansF]
    refine Ev.step (fun k => by rw [feed_Levels.l0, if_pos (by omega), if_pos (by omega), if_pos (by omega), rd46 rs j hj, hle]; rfl) (code_value ps hl hp level (by omega) out (by omega) b rs (rs.length : Int) (j : Int) rs[j].f1 _ ps.length 0 0 rfl (Nat.zero_le _) (by decide) ?_)
    rw [next_i j _ hj (by omega), List.drop_zero, Nat.zero_add, hle, Int.toNat_natCast]
    have := ih (j + 1) (out ++ [(⟨1, b, wrap64 (b + rs[j].f1), ((valF level ps 0 : Nat) : Int), 0, (⟨#[]⟩ : ByteArray), 0⟩ : S48)]) (wrap64 (b + rs[j].f1)) (by omega) (by omega) (by rw [List.length_append, List.length_singleton]; omega)
    rw [List.append_assoc, List.singleton_append] at this
    exact this
/-- as many different numbers as there is room for -/
theorem places_code (ns : List ByteArray) (hn : ns.length ≤ 16) (rs : List S46) (l : List ByteArray) (hl : l.length ≤ 16) (hd : Distinct l) (hp : ∀ x ∈ l, 0 ≤ idxL x ns 0) : ∀ (m i : Nat), l.length - i = m → (hil : i ≤ l.length) →
    Ev (fun k => feed_places.l0 k l (plOf ns (l.take i)) l (l.length : Int) (i : Int) ns rs) (plOf ns l, 0) := by
  intro m
  induction m with
  | zero =>
    intro i h1 h2
    have he : i = l.length := by omega
    subst he
    rw [List.take_length]
    exact Ev.le 1 (fun k => by rw [feed_places.l0, if_neg (by omega)])
  | succ m ih =>
    intro i h1 h2
    have hi : i < l.length := by omega
    have hidx := idx_take l i hi
    have hplen : (plOf ns (l.take i)).length = i := by unfold plOf; rw [List.length_map, List.length_take]; omega
    have hcode : ∀ k, feed_places.l0 (k + 1) l (plOf ns (l.take i)) l (l.length : Int) (i : Int) ns rs = ((slices_Index_string_string.f k ns l[i]).bind fun t118 => (if t118 < 0 then (some (([] : List Int), 8)) else ((slices_Contains_string_string.f k (l.take i) l[i]).bind fun t120 => (if t120 = true then (some (([] : List Int), 9)) else (feed_places.l0 k l ((plOf ns (l.take i)) ++ [t118]) l (l.length : Int) ((i + 1 : Nat) : Int) ns rs))))) := fun k => by
      rw [feed_places.l0, if_pos (by omega), if_pos (by omega), if_pos (by omega), rdB l i hi]
      simp only [if_pos (show (i : Int) ≤ (l.length : Int) by omega), Int.toNat_natCast, if_pos (show (plOf ns (l.take i)).length < 17592186044416 by omega), next_i i _ hi (show l.length ≤ 4611686018427387904 by omega)]
    have hE : Ev (fun k => slices_Index_string_string.f k ns l[i]) (idxL l[i] ns 0) := ⟨ns.length + 1, fun k hk => index_f ns _ (by omega) k hk⟩
    have hC : Ev (fun k => slices_Contains_string_string.f k (l.take i) l[i]) (decide (idxL l[i] (l.take i) 0 ≥ 0)) := ⟨l.length + 1, fun k hk => contains_f _ _ (by rw [List.length_take]; omega) k (by rw [List.length_take]; omega)⟩
    have h0 := hp l[i] (List.getElem_mem hi)
    have hnd : ¬ (0 ≤ idxL l[i] (l.take i) 0) := fun h => by
      obtain ⟨j, hj, he⟩ := hidx.1 h
      exact hd i j hi hj he
    have htake : l.take (i + 1) = l.take i ++ [l[i]] := by rw [List.take_succ_eq_append_getElem hi]
    have hpl : plOf ns (l.take (i + 1)) = plOf ns (l.take i) ++ [idxL l[i] ns 0] := by rw [htake]; unfold plOf; rw [List.map_append]; rfl
    refine Ev.step hcode (hE.bind ?_)
    simp only [if_neg (show ¬ idxL l[i] ns 0 < 0 by omega)]
    refine hC.bind ?_
    simp only [decide_eq_false hnd, Bool.false_eq_true, if_false]
    have := ih (i + 1) (by omega) (by omega)
    rw [hpl] at this
    exact this
/-- the spans of a row of runs, from a tick on -/
def chainR : List S46 → Int → List S48
 | [], _ => []
 | r :: rs, b => ⟨1, b, b + r.f1, r.f0, 0, (⟨#[]⟩ : ByteArray), 0⟩ :: chainR rs (b + r.f1)
def totR : List S46 → Int
 | [] => 0
 | r :: rs => r.f1 + totR rs
theorem chainR_len : ∀ (rs : List S46) (b : Int), (chainR rs b).length = rs.length
  | [], _ => rfl
  | r :: rs, b => by rw [chainR, List.length_cons, List.length_cons, chainR_len rs]
theorem chainR_app : ∀ (p q : List S46) (b : Int), chainR (p ++ q) b = chainR p b ++ chainR q (b + totR p)
  | [], q, b => by simp [chainR, totR]
  | r :: p, q, b => by rw [List.cons_append, chainR, chainR, chainR_app p q, List.cons_append, totR, Int.add_assoc]
/-- neighbours of one level, put together -/
def grp : Int → Int → List S46 → List S46
 | v, a, [] => [⟨v, a⟩]
 | v, a, x :: l => if v = x.f0 then grp v (a + x.f1) l else ⟨v, a⟩ :: grp x.f0 x.f1 l
def cleanF : List S46 → List S46
 | [] => []
 | x :: l => grp x.f0 x.f1 l
theorem grp_len : ∀ (l : List S46) (v a : Int), (grp v a l).length ≤ l.length + 1
  | [], _, _ => by simp [grp]
  | x :: l, v, a => by
    unfold grp
    split
    · have := grp_len l v (a + x.f1); simp only [List.length_cons]; omega
    · have := grp_len l x.f0 x.f1; simp only [List.length_cons]; omega
theorem cleanF_len (l : List S46) : (cleanF l).length ≤ l.length := by
  cases l with
  | nil => exact Nat.le_refl _
  | cons x l => exact grp_len l _ _
/-- a second time changes nothing -/
theorem clean_grp : ∀ (l : List S46) (v a : Int), cleanF (grp v a l) = grp v a l
  | [], v, a => rfl
  | x :: l, v, a => by
    unfold grp
    by_cases c : v = x.f0
    · rw [if_pos c]; exact clean_grp l v (a + x.f1)
    · rw [if_neg c]
      have ih := clean_grp l x.f0 x.f1
      -- the first group of the rest has the level x.f0
      have hd : ∀ (l : List S46) (u b : Int), ∃ b' t, grp u b l = ⟨u, b'⟩ :: t := by
        intro l
        induction l with
        | nil => exact fun u b => ⟨b, [], rfl⟩
        | cons y l ih2 =>
          intro u b
          unfold grp
          by_cases c2 : u = y.f0
          · rw [if_pos c2]; exact ih2 u _
          · rw [if_neg c2]; exact ⟨b, _, rfl⟩
      obtain ⟨b', t, ht⟩ := hd l x.f0 x.f1
      rw [ht] at ih ⊢
      show grp v a (⟨x.f0, b'⟩ :: t) = _
      rw [grp, if_neg c]
      show _ :: cleanF (⟨x.f0, b'⟩ :: t) = _
      rw [ih]
theorem clean_twice (l : List S46) : cleanF (cleanF l) = cleanF l := by
  cases l with
  | nil => rfl
  | cons x l => exact clean_grp l _ _
theorem runsOk_grp {mask : Int} : ∀ (l : List S46) (v a left : Int), 0 ≤ v → v ≤ mask → 1 ≤ a → a ≤ left → RunsOk mask (left - a) l → RunsOk mask left (grp v a l)
  | [], v, a, left, h1, h2, h3, h4, _ => ⟨h1, h2, h3, h4, trivial⟩
  | x :: l, v, a, left, h1, h2, h3, h4, h5 => by
    unfold RunsOk at h5
    obtain ⟨g1, g2, g3, g4, g5⟩ := h5
    unfold grp
    by_cases c : v = x.f0
    · rw [if_pos c]
      exact runsOk_grp l v (a + x.f1) left h1 h2 (by omega) (by omega) (by rw [show left - (a + x.f1) = left - a - x.f1 by omega]; exact g5)
    · rw [if_neg c]
      exact ⟨h1, h2, h3, h4, runsOk_grp l x.f0 x.f1 (left - a) g1 g2 g3 g4 g5⟩
theorem runsOk_clean {mask left : Int} (l : List S46) (h : RunsOk mask left l) : RunsOk mask left (cleanF l) := by
  cases l with
  | nil => exact h
  | cons x l => exact runsOk_grp l x.f0 x.f1 left h.1 h.2.1 h.2.2.1 h.2.2.2.1 h.2.2.2.2
-- ---- the merge of a chain
theorem plain_chain (b e v : Int) : plainB ⟨1, b, e, v, 0, (⟨#[]⟩ : ByteArray), 0⟩ = true := by
  have h : (⟨#[]⟩ : ByteArray).toList = [] := toList_nil_of rfl
  simp [plainB, h]
theorem merge_chain : ∀ (rs : List S46) (pre : List S48) (b0 c b v : Int),
    mergeF ⟨1, b0, b, v, 0, (⟨#[]⟩ : ByteArray), 0⟩ (chainR rs b) (pre ++ [⟨1, c, b, v, 0, (⟨#[]⟩ : ByteArray), 0⟩]) = pre ++ chainR (grp v (b - c) rs) c
  | [], pre, b0, c, b, v => by
    rw [chainR, mergeF, grp, chainR, chainR, show c + (b - c) = b by omega]
  | r :: rs, pre, b0, c, b, v => by
    rw [chainR, mergeF, grp]
    by_cases h : v = r.f0
    · rw [if_pos (show joinsB ⟨1, b0, b, v, 0, (⟨#[]⟩ : ByteArray), 0⟩ ⟨1, b, b + r.f1, r.f0, 0, (⟨#[]⟩ : ByteArray), 0⟩ from ⟨plain_chain _ _ _, plain_chain _ _ _, h, rfl⟩), if_pos h, setTo_snoc]
      subst h
      rw [merge_chain rs pre b c (b + r.f1) r.f0, show b + r.f1 - c = b - c + r.f1 by omega]
    · rw [if_neg (show ¬ joinsB ⟨1, b0, b, v, 0, (⟨#[]⟩ : ByteArray), 0⟩ ⟨1, b, b + r.f1, r.f0, 0, (⟨#[]⟩ : ByteArray), 0⟩ from fun g => h g.2.2.1), if_neg h]
      rw [merge_chain rs (pre ++ [(⟨1, c, b, v, 0, (⟨#[]⟩ : ByteArray), 0⟩ : S48)]) b b (b + r.f1) r.f0, chainR, show c + (b - c) = b by omega, show b + r.f1 - b = r.f1 by omega, List.append_assoc, List.singleton_append]
theorem merges_chain (rs : List S46) (b : Int) : mergeS (chainR rs b) = chainR (cleanF rs) b := by
  cases rs with
  | nil => rfl
  | cons r rs =>
    rw [chainR, mergeS, cleanF]
    have := merge_chain rs [] b b (b + r.f1) r.f0
    rw [List.nil_append, List.nil_append, show b + r.f1 - b = r.f1 by omega] at this
    exact this
-- ---- the split of a chain
def cutR : Int → Int → Int → List Int → List S46
 | b, e, v, [] => [⟨v, e - b⟩]
 | b, e, v, t :: ts => if t ≤ b ∨ t ≥ e then cutR b e v ts else ⟨v, t - b⟩ :: cutR t e v ts
def refR (ts : List Int) : List S46 → Int → List S46
 | [], _ => []
 | r :: rs, b => cutR b (b + r.f1) r.f0 ts ++ refR ts rs (b + r.f1)
theorem cut_chain (e v : Int) : ∀ (ts : List Int) (b : Int), cutE ⟨1, b, e, v, 0, (⟨#[]⟩ : ByteArray), 0⟩ ts = chainR (cutR b e v ts) b
  | [], b => by rw [cutE, cutR, chainR, chainR, show b + (e - b) = e by omega]
  | t :: ts, b => by
    unfold cutE cutR
    by_cases c : t ≤ b ∨ t ≥ e
    · rw [if_pos c, if_pos c]; exact cut_chain e v ts b
    · rw [if_neg c, if_neg c, chainR, show b + (t - b) = t by omega, cut_chain e v ts t]
theorem cutR_tot (e v : Int) : ∀ (ts : List Int) (b : Int), totR (cutR b e v ts) = e - b
  | [], b => by simp [cutR, totR]
  | t :: ts, b => by
    unfold cutR
    split
    · exact cutR_tot e v ts b
    · rw [totR, cutR_tot e v ts t]
      show t - b + (e - t) = e - b
      omega
theorem cutR_len (e v : Int) : ∀ (ts : List Int) (b : Int), (cutR b e v ts).length ≤ ts.length + 1
  | [], b => by simp [cutR]
  | t :: ts, b => by
    unfold cutR
    split
    · have := cutR_len e v ts b; simp only [List.length_cons]; omega
    · have := cutR_len e v ts t; simp only [List.length_cons]; omega
theorem cutR_pos (e v : Int) : ∀ (ts : List Int) (b : Int), 1 ≤ (cutR b e v ts).length
  | [], b => by simp [cutR]
  | t :: ts, b => by
    unfold cutR
    split
    · exact cutR_pos e v ts b
    · simp
theorem split_chain (ts : List Int) : ∀ (rs : List S46) (b : Int), ((chainR rs b).flatMap fun e => partsE e ts) = chainR (refR ts rs b) b
  | [], b => rfl
  | r :: rs, b => by
    rw [chainR, List.flatMap_cons, refR, chainR_app, cutR_tot, show b + (b + r.f1 - b) = b + r.f1 by omega, split_chain ts rs]
    congr 1
    unfold partsE
    rw [if_pos (plain_chain _ _ _), cut_chain]
theorem refR_len (ts : List Int) : ∀ (rs : List S46) (b : Int), (refR ts rs b).length ≤ rs.length * (ts.length + 1) ∧ rs.length ≤ (refR ts rs b).length
  | [], b => by simp [refR]
  | r :: rs, b => by
    have h1 := refR_len ts rs (b + r.f1)
    have h2 := cutR_len (b + r.f1) r.f0 ts b
    have h3 := cutR_pos (b + r.f1) r.f0 ts b
    rw [refR, List.length_append, List.length_cons, Nat.succ_mul]
    omega
theorem grp_cut (e v : Int) (rest : List S46) : ∀ (ts : List Int) (b a : Int), grp v a (cutR b e v ts ++ rest) = grp v (a + (e - b)) rest
  | [], b, a => by rw [cutR, List.singleton_append, grp, if_pos rfl]
  | t :: ts, b, a => by
    unfold cutR
    split
    · exact grp_cut e v rest ts b a
    · rw [List.cons_append, grp, if_pos rfl, grp_cut e v rest ts t, show a + (t - b) + (e - t) = a + (e - b) by omega]
theorem clean_cut (e v : Int) (rest : List S46) : ∀ (ts : List Int) (b : Int), cleanF (cutR b e v ts ++ rest) = grp v (e - b) rest
  | [], b => by rw [cutR, List.singleton_append, cleanF]
  | t :: ts, b => by
    unfold cutR
    split
    · exact clean_cut e v rest ts b
    · rw [List.cons_append, cleanF, grp_cut, show t - b + (e - t) = e - b by omega]
theorem grp_new (v a u : Int) (h : v ≠ u) (e : Int) (rest : List S46) : ∀ (ts : List Int) (b : Int), grp v a (cutR b e u ts ++ rest) = ⟨v, a⟩ :: grp u (e - b) rest
  | [], b => by rw [cutR, List.singleton_append, grp, if_neg h]
  | t :: ts, b => by
    unfold cutR
    split
    · exact grp_new v a u h e rest ts b
    · rw [List.cons_append, grp, if_neg h, grp_cut, show t - b + (e - t) = e - b by omega]
theorem grp_ref (ts : List Int) : ∀ (rs : List S46) (b v a : Int), grp v a (refR ts rs b) = grp v a rs
  | [], b, v, a => rfl
  | r :: rs, b, v, a => by
    rw [refR, grp]
    by_cases c : v = r.f0
    · subst c
      rw [if_pos rfl, grp_cut, grp_ref ts rs, show b + r.f1 - b = r.f1 by omega]
    · rw [if_neg c, grp_new v a r.f0 c, grp_ref ts rs, show b + r.f1 - b = r.f1 by omega]
theorem clean_ref (ts : List Int) (rs : List S46) (b : Int) : cleanF (refR ts rs b) = cleanF rs := by
  cases rs with
  | nil => rfl
  | cons r rs => rw [refR, clean_cut, grp_ref, show b + r.f1 - b = r.f1 by omega, cleanF]
theorem runsOk_cut {mask : Int} (e v : Int) (h1 : 0 ≤ v) (h2 : v ≤ mask) (rest : List S46) : ∀ (ts : List Int) (b left : Int), b < e → e - b ≤ left → RunsOk mask (left - (e - b)) rest → RunsOk mask left (cutR b e v ts ++ rest)
  | [], b, left, h3, h4, h5 => ⟨h1, h2, by show 1 ≤ e - b; omega, h4, h5⟩
  | t :: ts, b, left, h3, h4, h5 => by
    unfold cutR
    split
    · exact runsOk_cut e v h1 h2 rest ts b left h3 h4 h5
    · refine ⟨h1, h2, by show 1 ≤ t - b; omega, by show t - b ≤ left; omega, runsOk_cut e v h1 h2 rest ts t _ (by omega) ?_ ?_⟩
      · show e - t ≤ left - (t - b); omega
      · show RunsOk mask (left - (t - b) - (e - t)) rest
        rw [show left - (t - b) - (e - t) = left - (e - b) by omega]
        exact h5
theorem runsOk_ref {mask : Int} (ts : List Int) : ∀ (rs : List S46) (b left : Int), RunsOk mask left rs → RunsOk mask left (refR ts rs b)
  | [], b, left, h => h
  | r :: rs, b, left, h => by
    unfold RunsOk at h
    obtain ⟨h1, h2, h3, h4, h5⟩ := h
    exact runsOk_cut (b + r.f1) r.f0 h1 h2 _ ts b left (by omega) (by omega) (by rw [show b + r.f1 - b = r.f1 by omega]; exact runsOk_ref ts rs (b + r.f1) _ h5)
-- ---- the runs of a chain
theorem runs_chain {mask : Int} (hm : mask ≤ 65535) : ∀ (rs : List S46) (b left : Int) (out : List S46), 0 ≤ b → b + left ≤ 1099511627776 → RunsOk mask left rs → runsF b (chainR rs b) out = (out ++ rs, 0)
  | [], b, left, out, _, _, _ => by rw [chainR, runsF, List.append_nil]
  | r :: rs, b, left, out, h0, h1, h => by
    unfold RunsOk at h
    obtain ⟨g1, g2, g3, g4, g5⟩ := h
    rw [chainR, runsF, if_pos (show runOk b ⟨1, b, b + r.f1, r.f0, 0, (⟨#[]⟩ : ByteArray), 0⟩ from ⟨plain_chain _ _ _, rfl, by show b < b + r.f1; omega, by show b + r.f1 ≤ _; omega, g1, by show r.f0 ≤ _; omega⟩)]
    show runsF (b + r.f1) _ (out ++ [⟨r.f0, wrap64 (b + r.f1 - b)⟩]) = _
    rw [show wrap64 (b + r.f1 - b) = r.f1 by rw [wrap_id (by omega) (by omega)]; omega, runs_chain hm rs (b + r.f1) (left - r.f1) _ (by omega) (by omega) g5, List.append_assoc, List.singleton_append]
theorem runs_whole {mask : Int} (hm : mask ≤ 65535) (rs : List S46) (hl : rs.length ≤ 262144) (h : RunsOk mask 1099511627776 rs) : Ev (fun k => feed_Runs.f k (chainR rs 0)) (rs, 0) := by
  have := runs_ev (chainR rs 0)
  unfold runsS at this
  rw [chainR_len, if_pos hl, runs_chain hm rs 0 1099511627776 [] (by omega) (by omega) h, List.nil_append] at this
  exact this
-- ---- the specification's Clean
theorem rd46' (xs : List S46) (i : Nat) (h : i < xs.length) : rd_T46 xs (i : Int) = xs[i] := rd46 xs i h
theorem put_first (r : S46) (h : 1 ≤ r.f1) : signalbenchref09_put.f [] r.f0 r.f1 = some [r] := by
  unfold signalbenchref09_put.f
  rw [if_neg (by omega), if_neg (by simp), if_pos (by simp)]
  rfl
theorem put_more (pre : List S46) (v a : Int) (r : S46) (h : 1 ≤ r.f1) (ha : 0 ≤ a) (hs : a + r.f1 ≤ 1099511627776) (hl : pre.length < 262144) :
    signalbenchref09_put.f (pre ++ [⟨v, a⟩]) r.f0 r.f1 = some (if v = r.f0 then pre ++ [⟨v, a + r.f1⟩] else pre ++ [⟨v, a⟩] ++ [r]) := by
  have hlen : (pre ++ [(⟨v, a⟩ : S46)]).length = pre.length + 1 := by simp
  have hz : rd_T46 (pre ++ [(⟨v, a⟩ : S46)]) (pre.length : Int) = ⟨v, a⟩ := by rw [rd46 _ _ (by simp)]; simp
  unfold signalbenchref09_put.f
  rw [if_neg (by omega), if_pos (by rw [hlen]; omega)]
  rw [show wrap64 (((pre ++ [(⟨v, a⟩ : S46)]).length : Int) - 1) = (pre.length : Int) by rw [hlen, wrap_id (by omega) (by omega)]; omega]
  rw [if_pos (by omega), if_pos (by rw [hlen]; omega), hz]
  by_cases c : v = r.f0
  · rw [if_pos c, if_pos c, Int.toNat_natCast, List.set_append_right _ _ (Nat.le_refl _), wrap_id (by show _ ≤ a + r.f1; omega) (by show a + r.f1 < _; omega)]
    simp
  · rw [if_neg c, if_neg c, if_pos (by rw [hlen]; omega)]
theorem clean_loop (l : List S46) (hl : l.length ≤ 262144) (mask : Int) : ∀ (m i : Nat) (k : Nat) (pre : List S46) (v a left : Int), l.length - i = m → i ≤ l.length → pre.length + 1 ≤ i → 0 ≤ a → a + left ≤ 1099511627776 → RunsOk mask left (l.drop i) → m + 1 ≤ k →
    signalbenchref09_Clean.l0 k l (pre ++ [⟨v, a⟩]) (i : Int) = some (pre ++ grp v a (l.drop i)) := by
  intro m
  induction m with
  | zero =>
    intro i k pre v a left h1 h2 h3 h4 h5 h6 hk
    obtain ⟨k, rfl⟩ : ∃ q, k = q + 1 := ⟨k - 1, by omega⟩
    rw [signalbenchref09_Clean.l0, if_neg (by omega), List.drop_eq_nil_of_le (by omega)]
    rfl
  | succ m ih =>
    intro i k pre v a left h1 h2 h3 h4 h5 h6 hk
    obtain ⟨k, rfl⟩ : ∃ q, k = q + 1 := ⟨k - 1, by omega⟩
    have hi : i < l.length := by omega
    rw [List.drop_eq_getElem_cons hi] at h6 ⊢
    unfold RunsOk at h6
    obtain ⟨g1, g2, g3, g4, g5⟩ := h6
    rw [signalbenchref09_Clean.l0, if_pos (by omega), if_pos (by omega), rd46 l i hi, put_more pre v a l[i] g3 h4 (by omega) (by omega), Option.bind_some, next_i i _ hi (by omega), grp]
    by_cases c : v = l[i].f0
    · rw [if_pos c, if_pos c]
      exact ih (i + 1) k pre v (a + l[i].f1) (left - l[i].f1) (by omega) (by omega) (by omega) (by omega) (by omega) g5 (by omega)
    · rw [if_neg c, if_neg c]
      have := ih (i + 1) k (pre ++ [⟨v, a⟩]) l[i].f0 l[i].f1 (left - l[i].f1) (by omega) (by omega) (by simp; omega) (by omega) (by omega) g5 (by omega)
      rw [List.append_assoc, List.singleton_append] at this ⊢
      rw [show pre ++ (⟨v, a⟩ :: [l[i]]) = pre ++ [⟨v, a⟩] ++ [⟨l[i].f0, l[i].f1⟩] by rw [List.append_assoc]; rfl]
      rw [List.append_assoc, List.singleton_append]
      exact this.trans (by rw [List.append_assoc]; rfl)
theorem clean_ev (l : List S46) (hl : l.length ≤ 262144) (mask : Int) (h : RunsOk mask 1099511627776 l) : Ev (fun k => signalbenchref09_Clean.f k l) (cleanF l) :=
  ⟨l.length + 2, fun k hk => by
    show signalbenchref09_Clean.f k l = _
    unfold signalbenchref09_Clean.f
    obtain ⟨k, rfl⟩ : ∃ q, k = q + 1 := ⟨k - 1, by omega⟩
    cases l with
    | nil => rw [signalbenchref09_Clean.l0, if_neg (by simp)]; rfl
    | cons r l =>
      have h' := h
      unfold RunsOk at h'
      obtain ⟨g1, g2, g3, g4, g5⟩ := h'
      have hr := rd46 (r :: l) 0 (by simp)
      rw [show ((0 : Nat) : Int) = 0 from rfl] at hr
      rw [signalbenchref09_Clean.l0, if_pos (by simp only [List.length_cons]; omega), if_pos (by omega), hr, List.getElem_cons_zero, put_first r g3, Option.bind_some]
      have := clean_loop (r :: l) hl mask l.length 1 k [] r.f0 r.f1 (1099511627776 - r.f1) (by simp) (by simp) (by simp) (by omega) (by omega) (by simpa using g5) (by simp at hk; omega)
      rw [show wrap64 (0 + 1) = ((1 : Nat) : Int) by rw [wrap_id (by omega) (by omega)]; rfl]
      rw [List.nil_append, List.nil_append] at this
      simpa [cleanF] using this⟩
-- ---- the specification's Same
theorem Ev.uniq {α : Type} {g : Nat → Option α} {r r' : α} (h : Ev g r) (h' : Ev g r') : r = r' := by
  obtain ⟨n, h⟩ := h
  obtain ⟨m, h'⟩ := h'
  exact Option.some.inj ((h (n + m) (by omega)).symm.trans (h' (n + m) (by omega)))
theorem names_zero (ns : List ByteArray) (rs : List S46) (hn : ns.length ≤ 16) (hr : rs.length ≤ 262144) (h : Ev (fun k => signalbenchref09_Check.f k ns rs) 0) : Ev (fun k => signalbenchref09_names.f k ns) 0 := by
  obtain ⟨r, _, _, e⟩ := names_ev ns hn
  by_cases c : r = 0
  · rw [c] at e; exact e
  · refine absurd (Ev.uniq ?_ h) c
    unfold signalbenchref09_Check.f
    simp only [if_neg (show ¬ (rs.length : Int) > 262144 by omega)]
    refine e.bind ?_
    simp only [if_neg c]
    exact Ev.now r
theorem good_ev (ns : List ByteArray) (rs : List S46) (hr : rs.length ≤ 262144) (h : Ev (fun k => signalbenchref09_names.f k ns) 0) (hok : RunsOk (maskOf ns.length) 1099511627776 rs) : Ev (fun k => signalbenchref09_Good.f k ns rs) true := by
  obtain ⟨b, hb, hh⟩ := runs_check rs hr (maskOf ns.length) rs.length 0 1099511627776 rfl (Nat.zero_le _) (by omega) (by omega)
  rw [List.drop_zero] at hb
  have hbt := hb.2 hok
  subst hbt
  have g2 : Ev (fun k => signalbenchref09_runs.f k rs (maskOf ns.length)) true := ⟨rs.length + 1, fun k hk => (hh k hk).2⟩
  have hC : Ev (fun k => signalbenchref09_Check.f k ns rs) 0 := by
    unfold signalbenchref09_Check.f
    simp only [if_neg (show ¬ (rs.length : Int) > 262144 by omega)]
    refine h.bind ?_
    simp only [if_true]
    refine g2.bind ?_
    simp only [if_true]
    exact Ev.now 0
  unfold signalbenchref09_Good.f
  exact hC.bind (Ev.now true)
theorem same9_l1 (l : List S46) (hl : l.length ≤ 4611686018427387904) : ∀ (m i : Nat) (k : Nat), l.length - i = m → i ≤ l.length → m + 1 ≤ k → signalbenchref09_Same.l1 k l l (i : Int) = some true := by
  intro m
  induction m with
  | zero =>
    intro i k h1 h2 hk
    obtain ⟨k, rfl⟩ : ∃ q, k = q + 1 := ⟨k - 1, by omega⟩
    rw [signalbenchref09_Same.l1, if_neg (by omega)]
  | succ m ih =>
    intro i k h1 h2 hk
    obtain ⟨k, rfl⟩ : ∃ q, k = q + 1 := ⟨k - 1, by omega⟩
    have hi : i < l.length := by omega
    rw [signalbenchref09_Same.l1, if_pos (by omega), if_pos (by omega), if_pos (by omega), next_i i _ hi hl, if_neg (by simp)]
    exact ih (i + 1) k (by omega) (by omega) (by omega)
theorem same9_l0 (ns : List ByteArray) (hn : ns.length ≤ 16) (r1 r2 : List S46) (e : Ev (fun k => (signalbenchref09_Clean.f k r1).bind fun t419 => ((signalbenchref09_Clean.f k r2).bind fun t422 => (if (t419.length : Int) = (t422.length : Int) then (signalbenchref09_Same.l1 k t419 t422 0) else (some false)))) true) : ∀ (m i : Nat), ns.length - i = m → i ≤ ns.length →
    Ev (fun k => signalbenchref09_Same.l0 k (i : Int) ns r1 ns r2) true := by
  intro m
  induction m with
  | zero =>
    intro i h1 h2
    exact Ev.step (fun k => by rw [signalbenchref09_Same.l0, if_neg (by omega)]) e
  | succ m ih =>
    intro i h1 h2
    exact Ev.step (fun k => by rw [signalbenchref09_Same.l0, if_pos (by omega), if_pos (by omega), if_pos (by omega), if_pos rfl, next_i i ns.length (by omega) (by omega)]) (ih (i + 1) (by omega) (by omega))
theorem same9_ev (ns : List ByteArray) (hn : ns.length ≤ 16) (r1 r2 : List S46) (h1 : r1.length ≤ 262144) (h2 : r2.length ≤ 262144) (hz : Ev (fun k => signalbenchref09_names.f k ns) 0) (ok1 : RunsOk (maskOf ns.length) 1099511627776 r1) (ok2 : RunsOk (maskOf ns.length) 1099511627776 r2) (hc : cleanF r1 = cleanF r2) : Ev (fun k => signalbenchref09_Same.f k ns r1 ns r2) true := by
  unfold signalbenchref09_Same.f
  refine (good_ev ns r1 h1 hz ok1).bind ?_
  simp only [if_true]
  refine (good_ev ns r2 h2 hz ok2).bind ?_
  simp only [if_true, bne_self_eq_false]
  refine Ev.step (fun k => by rw [signalbenchref09_Same.j0, if_neg (by simp)]; rfl) (same9_l0 ns hn r1 r2 ?_ ns.length 0 rfl (Nat.zero_le _))
  refine (clean_ev r1 h1 _ ok1).bind ((clean_ev r2 h2 _ ok2).bind ?_)
  rw [← hc]
  simp only [if_true]
  have hlen := cleanF_len r1
  exact ⟨(cleanF r1).length + 1, fun k hk => same9_l1 (cleanF r1) (by omega) (cleanF r1).length 0 k rfl (Nat.zero_le _) hk⟩
-- ---- the spans of all channels
theorem idx_self (ns : List ByteArray) (hd : Distinct ns) (i : Nat) (hi : i < ns.length) : idxL ns[i] ns 0 = (i : Int) := by
  rcases idxL_law ns[i] ns 0 with ⟨_, h⟩ | ⟨j, hj, h1, h2, h3⟩
  · exact absurd rfl (h ns[i] (List.getElem_mem hi))
  · by_cases c : j < i
    · exact absurd h2 (hd i j hi c)
    · by_cases c2 : i < j
      · exact absurd rfl (h3 i c2)
      · rw [h1]; omega
theorem val_all (ns : List ByteArray) (hd : Distinct ns) (level : Nat) : ∀ (m i : Nat), ns.length - i = m → i ≤ ns.length → valF level (plOf ns (ns.drop i)) i + level % 2 ^ i = level % 2 ^ ns.length := by
  intro m
  induction m with
  | zero =>
    intro i h1 h2
    have he : i = ns.length := by omega
    subst he
    rw [List.drop_eq_nil_of_le (Nat.le_refl _), plOf, List.map_nil, valF, Nat.zero_add]
  | succ m ih =>
    intro i h1 h2
    have hi : i < ns.length := by omega
    have := ih (i + 1) (by omega) (by omega)
    rw [Nat.mod_pow_succ] at this
    rw [List.drop_eq_getElem_cons hi, show plOf ns (ns[i] :: ns.drop (i + 1)) = idxL ns[i] ns 0 :: plOf ns (ns.drop (i + 1)) from rfl, valF, idx_self ns hd i hi, Int.toNat_natCast]
    omega
theorem mask_eq {n : Nat} (h : n ≤ 16) : maskOf n = ((2 ^ n : Nat) : Int) - 1 := by
  have h2 := pow_le16 h
  have h3 := shl_nat 1 n (by omega) (by omega)
  rw [show ((1 : Nat) : Int) = 1 from rfl] at h3
  have h4 : 0 < 2 ^ n := Nat.two_pow_pos n
  unfold maskOf
  rw [h3, wrap_id (by omega) (by omega)]
  omega
theorem spans_chain (ns : List ByteArray) (hd : Distinct ns) (hn : ns.length ≤ 16) : ∀ (rs : List S46) (b left : Int), 0 ≤ b → b + left ≤ 1099511627776 → RunsOk (maskOf ns.length) left rs → spansF (plOf ns ns) rs b = chainR rs b
  | [], b, left, _, _, _ => rfl
  | r :: rs, b, left, h0, h1, h => by
    unfold RunsOk at h
    obtain ⟨g1, g2, g3, g4, g5⟩ := h
    obtain ⟨level, hle⟩ := Int.eq_ofNat_of_zero_le g1
    have hva := val_all ns hd level ns.length 0 (by omega) (Nat.zero_le _)
    rw [mask_eq hn] at g2
    rw [List.drop_zero, Nat.pow_zero, Nat.mod_one, Nat.add_zero, Nat.mod_eq_of_lt (by omega)] at hva
    rw [spansF, chainR, wrap_id (x := b + r.f1) (by omega) (by omega), spans_chain ns hd hn rs (b + r.f1) (left - r.f1) (by omega) (by omega) g5, hle, Int.toNat_natCast, hva]
theorem levels_ok (ns : List ByteArray) (rs : List S46) (l : List ByteArray) (hc : Ev (fun k => capture_Check.f k ns rs) 0) (hn : ns.length ≤ 16) (hrs : rs.length ≤ 262144) (hok : RunsOk (maskOf ns.length) 1099511627776 rs) (hl : l.length ≤ 16) (hl0 : 0 < l.length) (hd : Distinct l) (hp : ∀ x ∈ l, 0 ≤ idxL x ns 0) :
    Ev (fun k => feed_Levels.f k ns rs l) (spansF (plOf ns l) rs 0, 0) := by
  unfold feed_Levels.f
  refine hc.bind ?_
  have hmm : ∀ x ∈ rs, 0 ≤ x.f0 ∧ x.f0 < 65536 := fun x hx => by
    have := runsOk_mem rs _ hok x hx
    have := mask_lt hn
    omega
  simp only [if_true, if_neg (show ¬ (l.length : Int) = 0 by omega)]
  refine Ev.bind (g := fun k => feed_places.f k ns rs l) (places_code ns hn rs l hl hd hp l.length 0 rfl (Nat.zero_le _)) ?_
  simp only [if_true]
  have := code_spans (plOf ns l) (by unfold plOf; rw [List.length_map]; omega) (fun p hpm => by
    unfold plOf at hpm
    obtain ⟨s, hs, rfl⟩ := List.mem_map.1 hpm
    have := hp s hs
    have := idx_lt ns s
    omega) rs hrs hmm rs.length 0 [] 0 rfl (Nat.zero_le _) (by simp)
  rw [List.drop_zero, List.nil_append] at this
  exact this
-- ---- the law
theorem rounds_pure (ns : List ByteArray) (rs : List S46) (ts : List Int) : ∃ k, signalbenchlaw14_FeedRoundTrips.f k ns rs ts = some true := by
  refine Ev.rounds (g := fun k => signalbenchlaw14_FeedRoundTrips.f k ns rs ts) ?_
  have yes : Ev (fun k => signalbenchlaw14_FeedRoundTrips.j0 k ts true ns rs) true := Ev.le 1 (fun k => by rw [signalbenchlaw14_FeedRoundTrips.j0, if_pos rfl]; rfl)
  unfold signalbenchlaw14_FeedRoundTrips.f
  by_cases c1 : (rs.length : Int) > 200
  · simp only [if_pos c1]; exact yes
  simp only [if_neg c1]
  by_cases c2 : (ts.length : Int) > 200
  · simp only [if_pos c2]; exact yes
  simp only [if_neg c2]
  obtain ⟨r, hr, e1, e2⟩ := check_ev ns rs
  have eg : Ev (fun k => signalbenchref09_Good.f k ns rs) (r == 0) := by
    unfold signalbenchref09_Good.f
    exact e2.bind (Ev.now _)
  refine eg.bind ?_
  rcases hr with ⟨hr0, hd, hn0, hn, hrs, hok⟩ | hr0
  rotate_left
  · rw [show (r == 0) = false from beq_eq_false_iff_ne.2 hr0]
    exact yes
  subst hr0
  have hz := names_zero ns rs hn hrs e2
  have hmask : maskOf ns.length ≤ 65535 := by have := mask_lt hn; omega
  have hsl := isort_len ts
  have hst : ((chainR rs 0).flatMap fun e => partsE e (isort ts)) = chainR (refR (isort ts) rs 0) 0 := split_chain (isort ts) rs 0
  have hrl := refR_len (isort ts) rs 0
  have hrl2 : rs.length * ((isort ts).length + 1) ≤ 200 * 201 := Nat.mul_le_mul (by omega) (by omega)
  generalize hq : refR (isort ts) rs 0 = q at hst hrl
  have okq : RunsOk (maskOf ns.length) 1099511627776 q := by rw [← hq]; exact runsOk_ref _ rs 0 _ hok
  have hcq : cleanF q = cleanF rs := by rw [← hq]; exact clean_ref _ rs 0
  have okc := runsOk_clean rs hok
  have hcl := cleanF_len rs
  have l2 := levels_ok ns rs ns e1 hn hrs hok hn hn0 hd (fun x hx => by
    obtain ⟨i, hi, rfl⟩ := List.mem_iff_getElem.1 hx
    rw [idx_self ns hd i hi]
    omega)
  rw [spans_chain ns hd hn rs 0 1099511627776 (by omega) (by omega) hok] at l2
  have merge_ok : ∀ l : List S46, l.length ≤ 262144 → Ev (fun k => feed_Merge.f k (chainR l 0)) (chainR (cleanF l) 0) := fun l hl => by
    have := merge_ev (chainR l 0) (by rw [chainR_len]; omega)
    rw [merges_chain] at this
    exact this
  refine Ev.step (fun k => by rw [signalbenchlaw14_FeedRoundTrips.j0, if_neg (by simp)]) (l2.bind ((runs_whole hmask rs hrs hok).bind ?_))
  simp only [if_true]
  refine (same8_ev rs (by omega)).bind ?_
  have hsplit : feed_Split.f (chainR rs 0) ts = some (chainR q 0) := by
    unfold feed_Split.f
    rw [if_pos ⟨by rw [chainR_len]; omega, by omega⟩, hst]
  refine Ev.step (fun k => by rw [signalbenchlaw14_FeedRoundTrips.j1, if_neg (by simp), hsplit, Option.bind_some, if_neg (by rw [chainR_len, chainR_len]; omega)]) ?_
  refine (merge_ok q (by omega)).bind ((merge_ok rs hrs).bind ?_)
  rw [hcq]
  refine (same_ev (chainR (cleanF rs) 0) (by rw [chainR_len]; omega)).bind ?_
  refine Ev.step (fun k => by rw [signalbenchlaw14_FeedRoundTrips.j2, if_neg (by simp)]) ?_
  refine (runs_whole hmask q (by omega) okq).bind ((merge_ok q (by omega)).bind ?_)
  rw [hcq]
  refine (runs_whole hmask (cleanF rs) (by omega) okc).bind ?_
  simp only [if_true]
  refine Ev.step (fun k => by rw [signalbenchlaw14_FeedRoundTrips.j3, if_neg (by simp)]) ?_
  refine (same9_ev ns hn q rs (by omega) hrs hz okq hok hcq).bind ?_
  simp only [if_true]
  refine (same9_ev ns hn (cleanF rs) rs (by omega) hrs hz okc hok (clean_twice rs)).bind ?_
  simp only [if_true]
  refine (clean_ev rs hrs _ hok).bind ?_
  refine (same8_ev (cleanF rs) (by omega)).bind ?_
  simp only [if_true, signalbenchlaw14_awake.f, Option.bind_some]
  exact Ev.now true
end Go.Proofs.Ytioedeglgljblaa.H
