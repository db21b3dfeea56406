/- EvindexComplete in plain words; no condition beyond the input's form. -/
import Derived.Test.YteifekndhgkgcaaHPIdx
import Derived.Test.YteifekndhgkgcaaHPSmall
import Derived.Test.YteifekndhgkgcaaHPAwake
import Derived.Test.YteifekndhgkgcaaHPLook
import Derived.Test.YteifekndhgkgcaaH17
import Derived.Test.YteifekndhgkgcaaH18
namespace Go.Proofs.Yteifekndhgkgcaa.H
open Go.RowKit Go.Proofs.YteifekndhgkgcaaW.PrintWords Go.Proofs.YteifekndhgkgcaaW.PrintLast Go.Proofs.YteifekndhgkgcaaW.PrintMore
set_option linter.unusedSimpArgs false
set_option linter.unusedVariables false
theorem times_loop (l : List Int) (n : Int) (hl : l.length ≤ 1000000) : ∀ (m i c : Nat) (k : Nat), l.length - i = m → i ≤ l.length → c ≤ i → m + 1 ≤ k → signalbenchlaw46_times.l0 k l n (c : Int) (i : Int) = some ((c + (l.drop i).count n : Nat) : Int) := by
  intro m
  induction m with
  | zero =>
    intro i c k h1 h2 h3 hk
    obtain ⟨k, rfl⟩ : ∃ q, k = q + 1 := ⟨k - 1, by omega⟩
    rw [signalbenchlaw46_times.l0, if_neg (by omega), List.drop_eq_nil_of_le (by omega)]
    rfl
  | succ m ih =>
    intro i c k h1 h2 h3 hk
    obtain ⟨k, rfl⟩ : ∃ q, k = q + 1 := ⟨k - 1, by omega⟩
    have hi : i < l.length := by omega
    rw [signalbenchlaw46_times.l0, if_pos (by omega), if_pos (by omega), rdI l i hi, next_i i _ hi (by omega), next_i c 1000000 (by omega) (by omega), List.drop_eq_getElem_cons hi, List.count_cons]
    by_cases h : l[i] = n
    · rw [if_pos h, ih (i + 1) (c + 1) k (by omega) (by omega) (by omega) (by omega), if_pos (by simpa using h)]
      congr 1
      omega
    · rw [if_neg h, ih (i + 1) c k (by omega) (by omega) (by omega) (by omega), if_neg (by simpa using h)]
      rfl
theorem times_ev (l : List Int) (n : Int) (hl : l.length ≤ 1000000) : Ev (fun k => signalbenchlaw46_times.f k l n) ((l.count n : Nat) : Int) :=
  ⟨l.length + 1, fun k hk => by
    have := times_loop l n hl l.length 0 0 k rfl (Nat.zero_le _) (Nat.le_refl _) hk
    rw [List.drop_zero, Nat.zero_add] at this
    exact this⟩
theorem comp_l1 (l : List S47) (L : List S43) (c : Int) (hL : L.length ≤ 1000000) (hS : (L.map fun s => s.f2.length).sum ≤ 1000000) (i : Nat) (hi : i < l.length) (r : Bool)
    (h : Ev (fun k => (evindex_Lookup.f k c L l[i].f0 l[i].f2.f0).bind fun t269 => (signalbenchlaw46_times.f k t269 (i : Int)).bind fun t272 => if t272 = 1 then signalbenchlaw46_EvindexComplete.l0 k l (wrap64 ((i : Int) + 1)) c L else some false) r) :
    ∀ (m j a : Nat), L.length - j = m → j ≤ L.length → a + (flatQ allK (L.drop j)).count (i : Int) = 1 → Ev (fun k => signalbenchlaw46_EvindexComplete.l1 k l (i : Int) (a : Int) (j : Int) c L) r := by
  intro m
  induction m with
  | zero =>
    intro j a h1 h2 h3
    rw [List.drop_eq_nil_of_le (by omega), flatQ, List.count_nil] at h3
    refine Ev.step (fun k => ?_) h
    rw [signalbenchlaw46_EvindexComplete.l1, if_neg (by omega), if_pos (by omega), if_pos (by omega), if_pos (by omega), rd47 l i hi]
  | succ m ih =>
    intro j a h1 h2 h3
    have hj : j < L.length := by omega
    have hb := mem_sum L _ (List.getElem_mem hj)
    rw [List.drop_eq_getElem_cons hj, flatQ, if_pos (show allK _ _ from trivial), List.count_append] at h3
    refine Ev.step (f := fun k => (signalbenchlaw46_times.f k L[j].f2 (i : Int)).bind fun t => signalbenchlaw46_EvindexComplete.l1 k l (i : Int) (wrap64 ((a : Int) + t)) ((j + 1 : Nat) : Int) c L) (fun k => ?_) (Ev.bind (times_ev L[j].f2 (i : Int) (by omega)) ?_)
    · rw [signalbenchlaw46_EvindexComplete.l1, if_pos (by omega), if_pos (by omega), rd43 L j hj, next_i j _ hj (by omega)]
    · rw [wr_add a _ (by omega)]
      exact ih (j + 1) _ (by omega) (by omega) (by omega)
theorem comp_l0 (l : List S47) (hl : l.length ≤ 60) : ∀ (m i : Nat), l.length - i = m → i ≤ l.length → Ev (fun k => signalbenchlaw46_EvindexComplete.l0 k l (i : Int) (l.length : Int) (buildF l l.length)) true := by
  have hbl := build_len l l.length
  have hbs := build_sum l l.length
  intro m
  induction m with
  | zero =>
    intro i h1 h2
    refine Ev.step (f := fun k => (signalbenchlaw46_awake.f k).bind fun t264 => some t264) (fun k => ?_) (Ev.bind awake_ev (Ev.now _))
    rw [signalbenchlaw46_EvindexComplete.l0, if_neg (by omega)]
  | succ m ih =>
    intro i h1 h2
    have hi : i < l.length := by omega
    have hm : ((i : Nat) : Int) ∈ idxS allK l l.length := (mem_idx allK l l.length _).2 ⟨i, hi, rfl, trivial⟩
    have hc : (flatQ allK (buildF l l.length)).count (i : Int) = 1 := count_one (build_nodup l l.length) ((flatQ_build allK l l.length).mem_iff.2 hm)
    have hb : ∀ s ∈ buildF l l.length, s.f2.length * 8 ≤ 140737488351232 := fun s hs => by have := mem_sum _ s hs; omega
    refine Ev.step (f := fun k => signalbenchlaw46_EvindexComplete.l1 k l (i : Int) ((0 : Nat) : Int) ((0 : Nat) : Int) (l.length : Int) (buildF l l.length)) (fun k => ?_) (comp_l1 l _ _ (by omega) (by omega) i hi true ?_ (buildF l l.length).length 0 0 rfl (Nat.zero_le _) (by rw [List.drop_zero, Nat.zero_add]; exact hc))
    · rw [signalbenchlaw46_EvindexComplete.l0, if_pos (by omega)]
      rfl
    · have hlk : lookS l[i].f0 l[i].f2.f0 (buildF l l.length) = idxS (eqK l[i].f0 l[i].f2.f0) l l.length := look_build l _ _ _
      have hin : ((i : Nat) : Int) ∈ lookS l[i].f0 l[i].f2.f0 (buildF l l.length) := by
        rw [hlk]
        refine (mem_idx _ l l.length _).2 ⟨i, hi, rfl, ?_⟩
        unfold keyN keyK
        rw [rd47 l i hi]
        exact ⟨rfl, rfl⟩
      have hnd : (lookS l[i].f0 l[i].f2.f0 (buildF l l.length)).Nodup := by
        rw [hlk]
        exact (idx_asc _ l _).imp (fun {a b} h => by omega)
      have hle := look_le l[i].f0 l[i].f2.f0 (buildF l l.length)
      refine Ev.bind (look_ev _ _ _ _ (by omega) hb) (Ev.bind (times_ev _ _ (by omega)) ?_)
      rw [count_one hnd hin]
      simp only [Int.ofNat_eq_natCast, Int.cast_ofNat_Int, if_true]
      rw [next_i i _ hi (by omega)]
      exact ih (i + 1) (by omega) (by omega)
theorem law_complete (l : List S47) (hok : ∀ x ∈ l, Ok47 x) : ∃ k, signalbenchlaw46_EvindexComplete.f k l = some true := by
  refine Ev.rounds (g := fun k => signalbenchlaw46_EvindexComplete.f k l) ?_
  unfold signalbenchlaw46_EvindexComplete.f
  by_cases h : (l.length : Int) > 60
  · simp only [if_pos h]
    exact Ev.bind awake_ev (Ev.now _)
  · simp only [if_neg h, build_f l (by omega) hok, Option.bind_some, if_true]
    have hbl := build_len l l.length
    have hbs := build_sum l l.length
    refine Ev.bind (code_check_ev (l.length : Int) (buildF l l.length) (by omega) (build_wf2 l _ (by omega)) (by omega)) ?_
    rw [build_check]
    refine Ev.step (f := fun k => signalbenchlaw46_EvindexComplete.l0 k l ((0 : Nat) : Int) (l.length : Int) (buildF l l.length)) (fun k => ?_) (comp_l0 l (by omega) l.length 0 rfl (Nat.zero_le _))
    rw [signalbenchlaw46_EvindexComplete.j0, if_neg (by simp)]
    rfl
end Go.Proofs.Yteifekndhgkgcaa.H
