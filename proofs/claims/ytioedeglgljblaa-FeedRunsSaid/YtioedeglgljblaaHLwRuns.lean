/- What feed.Runs comes to, and FeedRuns in plain words; no condition. -/
import Derived.Test.YtioedeglgljblaaHQBase
import Derived.Test.YtioedeglgljblaaH17
import Derived.Test.YtioedeglgljblaaH24
import Derived.Test.YtioedeglgljblaaH25
namespace Go.Proofs.Ytioedeglgljblaa.H
open Go.RowKit Go.Proofs.YtioedeglgljblaaW.PrintWords Go.Proofs.YtioedeglgljblaaW.PrintLast Go.Proofs.YtioedeglgljblaaW.PrintMore
set_option linter.unusedSimpArgs false
def runOk (b : Int) (x : S48) : Prop := plainB x = true ∧ x.f1 = b ∧ b < x.f2 ∧ x.f2 ≤ 1099511627776 ∧ 0 ≤ x.f3 ∧ x.f3 ≤ 65535
instance (b : Int) (x : S48) : Decidable (runOk b x) := by unfold runOk; infer_instance
def runsF : Int → List S48 → List S46 → List S46 × Int
 | _, [], out => (out, 0)
 | b, x :: l, out => if runOk b x then runsF x.f2 l (out ++ [⟨x.f3, wrap64 (x.f2 - x.f1)⟩]) else ([], 1)
def runsS (l : List S48) : List S46 × Int := if l.length ≤ 262144 then runsF 0 l [] else ([], 6)
theorem runsF_len : ∀ (l : List S48) (b : Int) (out : List S46), (runsF b l out).1.length ≤ out.length + l.length
  | [], _, _ => by simp [runsF]
  | x :: l, b, out => by
    unfold runsF
    have := runsF_len l x.f2 (out ++ [⟨x.f3, wrap64 (x.f2 - x.f1)⟩])
    simp only [List.length_append, List.length_cons, List.length_nil] at this ⊢
    split
    · omega
    · simp
theorem runs_loop (l : List S48) (hl : l.length ≤ 262144) : ∀ (m i : Nat) (k : Nat) (out : List S46) (b : Int), l.length - i = m → i ≤ l.length → out.length ≤ i → m + 1 ≤ k →
    feed_Runs.l0 k out b l (l.length : Int) (i : Int) = some (runsF b (l.drop i) out) := by
  intro m
  induction m with
  | zero =>
    intro i k out b h1 h2 h3 hk
    obtain ⟨k, rfl⟩ : ∃ q, k = q + 1 := ⟨k - 1, by omega⟩
    rw [feed_Runs.l0, if_neg (by omega), List.drop_eq_nil_of_le (by omega)]
    rfl
  | succ m ih =>
    intro i k out b h1 h2 h3 hk
    obtain ⟨k, rfl⟩ : ∃ q, k = q + 1 := ⟨k - 1, by omega⟩
    have hi : i < l.length := by omega
    have hrec := ih (i + 1) k (out ++ [⟨l[i].f3, wrap64 (l[i].f2 - l[i].f1)⟩]) l[i].f2 (by omega) (by omega) (by simp; omega) (by omega)
    rw [feed_Runs.l0, if_pos (by omega), if_pos (by omega), if_pos (by omega), rd_at l i hi, next_i i _ hi (by omega), List.drop_eq_getElem_cons hi, runsF, plain_f, Option.bind_some]
    by_cases c1 : plainB l[i] = true
    · rw [if_pos c1]
      by_cases c2 : l[i].f1 = b
      · rw [if_pos c2]
        by_cases c3 : l[i].f1 ≥ l[i].f2
        · rw [if_pos c3, if_neg (fun c => by have := c.2.2.1; omega)]
        · rw [if_neg c3]
          by_cases c4 : l[i].f2 > 1099511627776
          · rw [if_pos c4, if_neg (fun c => by have := c.2.2.2.1; omega)]
          · rw [if_neg c4]
            by_cases c5 : l[i].f3 < 0
            · rw [if_pos c5, if_neg (fun c => by have := c.2.2.2.2.1; omega)]
            · rw [if_neg c5]
              by_cases c6 : l[i].f3 ≥ 65536
              · rw [if_pos c6, if_neg (fun c => by have := c.2.2.2.2.2; omega)]
              · rw [if_neg c6, if_pos (by omega), if_pos (show runOk b l[i] from ⟨c1, c2, by omega, by omega, by omega, by omega⟩)]
                exact hrec
      · rw [if_neg c2, if_neg (fun c => c2 c.2.1)]
    · rw [if_neg c1, if_neg (fun c => c1 c.1)]
theorem runs_ev (l : List S48) : Ev (fun k => feed_Runs.f k l) (runsS l) := by
  refine ⟨l.length + 1, fun k hk => ?_⟩
  show feed_Runs.f k l = _
  unfold feed_Runs.f runsS
  by_cases c : l.length ≤ 262144
  · rw [if_neg (by omega), if_pos c]
    have := runs_loop l c l.length 0 k [] 0 rfl (Nat.zero_le _) (Nat.zero_le _) (by omega)
    rw [List.drop_zero] at this
    exact this
  · rw [if_pos (by omega), if_neg c]
theorem runsS_len (l : List S48) : (runsS l).1.length ≤ 262144 := by
  unfold runsS
  split
  · rename_i h
    have := runsF_len l 0 []
    simp at this
    omega
  · simp
theorem rplain_f (e : S48) : signalbenchref14_Plain.f e.f0 e.f1 e.f2 e.f3 e.f4 e.f5 e.f6 = some (plainB e) := plain_f e
theorem rruns_loop (l : List S48) (hl : l.length ≤ 262144) : ∀ (m i : Nat) (k : Nat) (out : List S46) (b : Int), l.length - i = m → i ≤ l.length → out.length ≤ i → m + 1 ≤ k →
    signalbenchref14_Runs.l0 k l out b (i : Int) = some (runsF b (l.drop i) out) := by
  intro m
  induction m with
  | zero =>
    intro i k out b h1 h2 h3 hk
    obtain ⟨k, rfl⟩ : ∃ q, k = q + 1 := ⟨k - 1, by omega⟩
    rw [signalbenchref14_Runs.l0, if_neg (by omega), List.drop_eq_nil_of_le (by omega)]
    rfl
  | succ m ih =>
    intro i k out b h1 h2 h3 hk
    obtain ⟨k, rfl⟩ : ∃ q, k = q + 1 := ⟨k - 1, by omega⟩
    have hi : i < l.length := by omega
    have hrec := ih (i + 1) k (out ++ [⟨l[i].f3, wrap64 (l[i].f2 - l[i].f1)⟩]) l[i].f2 (by omega) (by omega) (by simp; omega) (by omega)
    rw [signalbenchref14_Runs.l0, if_pos (by omega), if_pos (by omega), rd_at l i hi, next_i i _ hi (by omega), List.drop_eq_getElem_cons hi, runsF, rplain_f, Option.bind_some]
    by_cases c1 : plainB l[i] = true
    · rw [if_pos c1]
      by_cases c2 : l[i].f1 = b
      · rw [if_pos c2]
        by_cases c3 : l[i].f2 ≤ b
        · rw [if_pos c3, if_neg (fun c => by have := c.2.2.1; omega)]
        · rw [if_neg c3]
          by_cases c4 : l[i].f2 > 1099511627776
          · rw [if_pos c4, if_neg (fun c => by have := c.2.2.2.1; omega)]
          · rw [if_neg c4]
            by_cases c5 : l[i].f3 < 0
            · rw [if_pos c5, if_neg (fun c => by have := c.2.2.2.2.1; omega)]
            · rw [if_neg c5]
              by_cases c6 : l[i].f3 > 65535
              · rw [if_pos c6, if_neg (fun c => by have := c.2.2.2.2.2; omega)]
              · rw [if_neg c6, if_pos (by omega), if_pos (show runOk b l[i] from ⟨c1, c2, by omega, by omega, by omega, by omega⟩)]
                exact hrec
      · rw [if_neg c2, if_neg (fun c => c2 c.2.1)]
    · rw [if_neg c1, if_neg (fun c => c1 c.1)]
theorem rruns_ev (l : List S48) : Ev (fun k => signalbenchref14_Runs.f k l) (runsS l) := by
  refine ⟨l.length + 1, fun k hk => ?_⟩
  show signalbenchref14_Runs.f k l = _
  unfold signalbenchref14_Runs.f runsS
  by_cases c : l.length ≤ 262144
  · rw [if_neg (by omega), if_pos c, if_pos (by omega), if_pos (by omega)]
    have := rruns_loop l c l.length 0 k [] 0 rfl (Nat.zero_le _) (Nat.zero_le _) (by omega)
    rw [List.drop_zero] at this
    exact this
  · rw [if_pos (by omega), if_neg c]
theorem same8_loop (l : List S46) (hl : l.length ≤ 4611686018427387904) : ∀ (m i : Nat) (k : Nat), l.length - i = m → i ≤ l.length → m + 1 ≤ k → signalbenchref08_Same.l0 k l l (i : Int) = some true := by
  intro m
  induction m with
  | zero =>
    intro i k h1 h2 hk
    obtain ⟨k, rfl⟩ : ∃ q, k = q + 1 := ⟨k - 1, by omega⟩
    rw [signalbenchref08_Same.l0, if_neg (by omega)]
  | succ m ih =>
    intro i k h1 h2 hk
    obtain ⟨k, rfl⟩ : ∃ q, k = q + 1 := ⟨k - 1, by omega⟩
    have hi : i < l.length := by omega
    rw [signalbenchref08_Same.l0, if_pos (by omega), if_pos (by omega), if_pos (by omega), next_i i _ hi hl, if_neg (by simp)]
    exact ih (i + 1) k (by omega) (by omega) (by omega)
theorem same8_ev (l : List S46) (hl : l.length ≤ 4611686018427387904) : Ev (fun k => signalbenchref08_Same.f k l l) true :=
  ⟨l.length + 1, fun k hk => by
    show signalbenchref08_Same.f k l l = _
    unfold signalbenchref08_Same.f
    rw [if_pos rfl]
    exact same8_loop l hl l.length 0 k rfl (Nat.zero_le _) (by omega)⟩
theorem runs_pure (l : List S48) : ∃ k, signalbenchlaw14_FeedRuns.f k l = some true := by
  refine Ev.rounds (g := fun k => signalbenchlaw14_FeedRuns.f k l) ?_
  unfold signalbenchlaw14_FeedRuns.f signalbenchlaw14_awake.f
  have hm := runsS_len l
  refine (runs_ev l).bind ?_
  refine (rruns_ev l).bind ?_
  simp only [if_true]
  refine (same8_ev (runsS l).1 (by omega)).bind ?_
  simp only [if_true, Option.bind_some]
  exact Ev.now true
end Go.Proofs.Ytioedeglgljblaa.H
