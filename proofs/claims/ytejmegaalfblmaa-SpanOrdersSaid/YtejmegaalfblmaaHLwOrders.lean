/- SpanOrders, in plain words; no condition. -/
import Derived.Test.YtejmegaalfblmaaHQSame
import Derived.Test.YtejmegaalfblmaaHQTotal
import Derived.Test.YtejmegaalfblmaaHQLives
import Derived.Test.YtejmegaalfblmaaH7
namespace Go.Proofs.Ytejmegaalfblmaa.H
open Go.RowKit Go.Proofs.YtejmegaalfblmaaW.PrintWords Go.Proofs.YtejmegaalfblmaaW.PrintLast Go.Proofs.YtejmegaalfblmaaW.PrintMore
set_option linter.unusedSimpArgs false
/-- each span twice, the last first -/
def twice (l : List S25) : List S25 := l.reverse.flatMap fun s => [s, s]
theorem mem_twice (l : List S25) (x : S25) : x ∈ twice l ↔ x ∈ l := by
  unfold twice
  simp
theorem twice_len : ∀ l, (twice l).length = 2 * l.length
  | [] => rfl
  | s :: l => by
    have := twice_len l
    unfold twice at this ⊢
    rw [List.reverse_cons, List.flatMap_append, List.length_append, this]
    simp
    omega
theorem union_mem {a b : List S25} (h : ∀ x, x ∈ a ↔ x ∈ b) : unionS a = unionS b := by
  refine norm_unique _ _ (union_norm a) (union_norm b) (fun t => ?_)
  rw [union_cov, union_cov]
  constructor
  · rintro ⟨s, hs, hh⟩
    exact ⟨s, (h s).1 hs, hh⟩
  · rintro ⟨s, hs, hh⟩
    exact ⟨s, (h s).2 hs, hh⟩
theorem union_union (l : List S25) : unionS (unionS l) = unionS l := norm_unique _ _ (union_norm _) (union_norm l) (fun t => by rw [union_cov])
theorem orders_l1 (l m : List S25) (hl : l.length ≤ 100) (hm : m.length ≤ 200) (hml : unionS m = unionS l) : ∀ (d i : Nat) (n : Int), (unionS l).length - i = d → i ≤ (unionS l).length → 0 ≤ n → n + sumS ((unionS l).drop i) = sumS (unionS l) →
    Ev (fun k => signalbenchlaw06_SpanOrders.l1 k l m (unionS l) n (i : Int)) true := by
  have hj : (unionS l).length ≤ l.length := join_len l
  have hn := union_norm l
  have hp := sumS_pos hn
  intro d
  induction d with
  | zero =>
    intro i n h1 h2 h3 h4
    rw [List.drop_eq_nil_of_le (by omega)] at h4
    have hnv : n = sumS (unionS l) := by
      rw [← h4]
      simp [sumS]
    refine Ev.step (f := fun k => (span_Join.f m).bind fun t141 => ((signalbenchlaw06_same.f k t141 (unionS l)).bind fun t144 => (if t144 = true then ((span_Join.f (unionS l)).bind fun t145 => ((signalbenchlaw06_same.f k t145 (unionS l)).bind fun t148 => (if t148 = true then ((span_Total.f k l).bind fun t149 => (some (t149 == n))) else (some false)))) else (some false))))
      (fun k => by rw [signalbenchlaw06_SpanOrders.l1, if_neg (by omega)]) ?_
    rw [join_f m (by omega), join_f (unionS l) (by omega), hml, union_union]
    simp only [Option.bind_some]
    refine (same_ev (unionS l) (by omega)).bind ?_
    simp only [if_true]
    refine (same_ev (unionS l) (by omega)).bind ?_
    simp only [if_true]
    refine (total_ev l (by omega)).bind ?_
    rw [hnv]
    simp only [beq_self_eq_true]
    exact Ev.now true
  | succ d ih =>
    intro i n h1 h2 h3 h4
    have hi : i < (unionS l).length := by omega
    have hd : (unionS l).drop i = (unionS l)[i] :: (unionS l).drop (i + 1) := List.drop_eq_getElem_cons hi
    have hs := norm_bounds hn (List.getElem_mem hi)
    have hq := (sumS_pos (norm_drop hn (i + 1))).1
    rw [hd, sumS] at h4
    have hde : decide ((unionS l)[i].f0 ≥ (unionS l)[i].f1) = false := decide_eq_false (by omega)
    have hrec := ih (i + 1) (n + (unionS l)[i].f1 - (unionS l)[i].f0) (by omega) (by omega) (by omega) (by omega)
    have b1 : ¬ (unionS l)[i].f0 < 0 := by omega
    have b2 : ¬ (unionS l)[i].f1 > 1099511627776 := by omega
    have b3 : ¬ n + (unionS l)[i].f1 - (unionS l)[i].f0 > 1099511627776 := by omega
    have b4 : (i : Int) < ((unionS l).length : Int) := by omega
    have b5 : (0 : Int) ≤ (i : Int) := by omega
    have hw : wrap64 ((i : Int) + 1) = ((i + 1 : Nat) : Int) := by rw [wrap_id (by omega) (by omega)]; rfl
    have hw2 : wrap64 (wrap64 (n + (unionS l)[i].f1) - (unionS l)[i].f0) = n + (unionS l)[i].f1 - (unionS l)[i].f0 := by rw [wrap_id (x := n + (unionS l)[i].f1) (by omega) (by omega), wrap_id (by omega) (by omega)]
    refine Ev.step (f := fun k => signalbenchlaw06_SpanOrders.j2 k l m (unionS l) n (i : Int) false) (fun k => ?_) ?_
    · rw [signalbenchlaw06_SpanOrders.l1, if_pos b4, if_pos b5, rd_at _ i hi, if_neg b1, if_neg b2, hde]
    refine Ev.step (fun k => ?_) hrec
    rw [signalbenchlaw06_SpanOrders.j2, if_neg (by simp), if_pos b5, if_pos b4, rd_at _ i hi, hw2, if_neg b3, hw]
theorem orders_l0 (l : List S25) (hl : l.length ≤ 100) : ∀ (j : Nat) (out : List S25) (x : Int), x = (j : Int) - 1 → j ≤ l.length → out = twice (l.drop j) →
    Ev (fun k => signalbenchlaw06_SpanOrders.l0 k l out x) true := by
  intro j
  induction j with
  | zero =>
    rintro out x rfl h2 rfl
    refine Ev.step (f := fun k => signalbenchlaw06_SpanOrders.l1 k l (twice l) (unionS l) 0 0) (fun k => ?_) ?_
    · rw [signalbenchlaw06_SpanOrders.l0, if_neg (by omega), join_f l (by omega), Option.bind_some, List.drop_zero]
    · have ht := twice_len l
      exact orders_l1 l (twice l) hl (by omega) (union_mem (mem_twice l)) _ 0 0 rfl (Nat.zero_le _) (Int.le_refl _) (by rw [List.drop_zero]; omega)
  | succ j ih =>
    rintro out x rfl h2 rfl
    have hj : j < l.length := by omega
    have hx : ((j + 1 : Nat) : Int) - 1 = (j : Int) := by omega
    rw [hx]
    have ht := twice_len (l.drop (j + 1))
    rw [List.length_drop] at ht
    have e : twice (l.drop (j + 1)) ++ [(⟨l[j].f0, l[j].f1⟩ : S25), ⟨l[j].f0, l[j].f1⟩] = twice (l.drop j) := by
      rw [List.drop_eq_getElem_cons hj]
      unfold twice
      rw [List.reverse_cons, List.flatMap_append]
      rfl
    refine Ev.step (fun k => ?_) (ih (twice (l.drop j)) (wrap64 ((j : Int) - 1)) (wrap_id (by omega) (by omega)) (by omega) rfl)
    rw [signalbenchlaw06_SpanOrders.l0, if_pos (by omega), if_pos (by omega), if_pos (by omega), rd_at l j hj, Option.bind_some, if_pos (by simp; omega), e]
theorem orders_pure (l : List S25) : ∃ k, signalbenchlaw06_SpanOrders.f k l = some true := by
  refine Ev.rounds (g := fun k => signalbenchlaw06_SpanOrders.f k l) ?_
  unfold signalbenchlaw06_SpanOrders.f
  rw [lives_f]
  simp only [Option.bind_some, if_true]
  by_cases c : (l.length : Int) > 100
  · simp only [if_pos c]
    exact Ev.now true
  · simp only [if_neg c]
    exact orders_l0 l (by omega) l.length [] _ (wrap_id (by omega) (by omega)) (Nat.le_refl _) (by rw [List.drop_length]; rfl)
end Go.Proofs.Ytejmegaalfblmaa.H
