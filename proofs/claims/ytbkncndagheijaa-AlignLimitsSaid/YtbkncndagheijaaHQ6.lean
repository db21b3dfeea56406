/- AlignLimits answers true for any number; no condition. -/
import Derived.Test.YtbkncndagheijaaHPf
import Derived.Test.YtbkncndagheijaaH13
namespace Go.Proofs.Ytbkncndagheijaa.H
open Go.RowKit Go.Proofs.YtbkncndagheijaaW.PrintWords Go.Proofs.YtbkncndagheijaaW.PrintLast Go.Proofs.Ytbkncndagheijaa.Lev
theorem awake_bind6 : Ev (fun k => (signalbenchlaw54_awake.f k).bind fun t => (some t)) true := Ev.bind awake_ev (Ev.now true)
theorem many_from (n : Nat) (hn : n ≤ 1000) : ∀ (d p : Nat), p + d = n → Ev (fun k => signalbenchlaw54_many.l0 k (n : Int) (List.replicate p (⟨#[97]⟩ : ByteArray)) (p : Int)) (List.replicate n (⟨#[97]⟩ : ByteArray)) := by
  intro d
  induction d with
  | zero =>
    intro p hp
    obtain rfl : p = n := by omega
    refine Ev.val 1 (fun k => ?_)
    simp only [signalbenchlaw54_many.l0]
    rw [if_neg (by omega)]
  | succ d ih =>
    intro p hp
    have W3 : Aside0 (wrap64 ((p : Int) + 1) = ((p + 1 : Nat) : Int)) := ⟨by rw [wr_in (by omega)]; omega⟩
    have h := ih (p + 1) (by omega)
    rw [List.replicate_succ'] at h
    refine Ev.step (fun k => ?_) h
    simp only [signalbenchlaw54_many.l0, W3.out]
    rw [if_pos (by omega), if_pos (by rw [List.length_replicate]; omega)]
theorem many_ev (n : Nat) (hn : n ≤ 1000) : Ev (fun k => signalbenchlaw54_many.f k (n : Int)) (List.replicate n (⟨#[97]⟩ : ByteArray)) := many_from n hn n 0 (by omega)
theorem rep_length (n : Nat) : (List.replicate n (⟨#[97]⟩ : ByteArray)).length = n := List.length_replicate
def two : List ByteArray := [(⟨#[97]⟩ : ByteArray), (⟨#[98]⟩ : ByteArray)]
theorem Ls_two : Ls two = [[97], [98]] := by decide +kernel
theorem Ls_rep (n : Nat) : Ls (List.replicate n (⟨#[97]⟩ : ByteArray)) = List.replicate n [97] := by
  unfold Ls
  rw [List.map_replicate]
  congr 1
  decide +kernel
theorem lev_rep1 (n : Nat) : lev (List.replicate n ([97] : List UInt8)) [[98]] = n + 1 := by
  induction n with
  | zero => rw [List.replicate_zero, lev_nil]; rfl
  | succ n ih => rw [List.replicate_succ, lev_ne (by decide), ih, lev_nil', List.length_cons, List.length_replicate]; omega
theorem lev_rep2 (n : Nat) : lev (List.replicate (n + 1) ([97] : List UInt8)) [[97], [98]] = n + 1 := by
  rw [List.replicate_succ, lev_eq, lev_rep1]
theorem pure6 (n : Int) : Ev (fun k => signalbenchlaw54_AlignLimits.f k n) true := by
  have guard : Ev (fun k => signalbenchlaw54_AlignLimits.j0 k n true) true := by
    refine Ev.step (fun k => ?_) awake_bind6
    simp only [signalbenchlaw54_AlignLimits.j0]
    rw [if_pos trivial]
  unfold signalbenchlaw54_AlignLimits.f
  by_cases c : n < 0
  · simp only [if_pos c]; exact guard
  · simp only [if_neg c]
    by_cases d : n > 2
    · rw [decide_eq_true d]; exact guard
    · rw [decide_eq_false d]
      obtain ⟨m, rfl⟩ := Int.eq_ofNat_of_zero_le (show 0 ≤ n by omega)
      have W : wrap64 (512 + (m : Int)) = ((512 + m : Nat) : Int) := by rw [wr_in (by omega)]; omega
      have hm := many_ev (512 + m) (by omega)
      have hl := rep_length (512 + m)
      by_cases z : m = 0
      · subst z
        obtain ⟨P, hP, h1, h2⟩ := pairs_ev (a := List.replicate 512 (⟨#[97]⟩ : ByteArray)) (b := two) (by rw [rep_length]; omega) (by decide)
        have d1 : ds (List.replicate 512 (⟨#[97]⟩ : ByteArray)) two = 512 := by unfold ds; rw [Ls_rep, Ls_two]; exact lev_rep2 511
        have d2 : ds two (List.replicate 512 (⟨#[97]⟩ : ByteArray)) = 512 := (lev_swap (Ls two) (Ls (List.replicate 512 (⟨#[97]⟩ : ByteArray)))).trans d1
        have e1 := dist_eq (a := List.replicate 512 (⟨#[97]⟩ : ByteArray)) (b := two) (by rw [rep_length]; omega) (by decide)
        have e2 := dist_eq (a := two) (b := List.replicate 512 (⟨#[97]⟩ : ByteArray)) (by decide) (by rw [rep_length]; omega)
        rw [d1] at e1
        rw [d2] at e2
        refine Ev.step (f := fun k => (signalbenchlaw54_many.f k ((512 + 0 : Nat) : Int)).bind fun t => ((align_Distance.f t two).bind fun b1 => ((align_Distance.f two t).bind fun b2 => ((align_Pairs.f k t two).bind fun b3 => (if b1.2 = 0 then (if b2.2 = 0 then (if b3.2 = 0 then (if b1.1 = 512 then (if b2.1 = 512 then ((signalbenchlaw54_awake.f k).bind fun t342 => (some t342)) else (some false)) else (some false)) else (some false)) else (some false)) else (some false)))))) (fun k => ?_) ?_
        · simp only [signalbenchlaw54_AlignLimits.j0, W]
          rw [if_neg (by simp)]
          rfl
        · refine Ev.bind hm ?_
          show Ev (fun k => (align_Distance.f (List.replicate 512 (⟨#[97]⟩ : ByteArray)) two).bind fun b1 => ((align_Distance.f two (List.replicate 512 (⟨#[97]⟩ : ByteArray))).bind fun b2 => ((align_Pairs.f k (List.replicate 512 (⟨#[97]⟩ : ByteArray)) two).bind fun b3 => (if b1.2 = 0 then (if b2.2 = 0 then (if b3.2 = 0 then (if b1.1 = 512 then (if b2.1 = 512 then ((signalbenchlaw54_awake.f k).bind fun t342 => (some t342)) else (some false)) else (some false)) else (some false)) else (some false)) else (some false))))) true
          rw [e1, e2]
          simp only [Option.bind_some]
          refine Ev.bind h1 ?_
          exact awake_bind6
      · have no1 : ¬ ((List.replicate (512 + m) (⟨#[97]⟩ : ByteArray)).length ≤ 512 ∧ two.length ≤ 512) := by rw [rep_length]; omega
        have no2 : ¬ (two.length ≤ 512 ∧ (List.replicate (512 + m) (⟨#[97]⟩ : ByteArray)).length ≤ 512) := by rw [rep_length]; omega
        refine Ev.step (f := fun k => (signalbenchlaw54_many.f k ((512 + m : Nat) : Int)).bind fun t => ((align_Distance.f t two).bind fun b1 => ((align_Distance.f two t).bind fun b2 => ((align_Pairs.f k t two).bind fun b3 => (if b1.2 = 6 then (if b2.2 = 6 then (if b3.2 = 6 then (if b1.1 = 0 then (if b2.1 = 0 then ((signalbenchlaw54_awake.f k).bind fun t342 => (some t342)) else (some false)) else (some false)) else (some false)) else (some false)) else (some false)))))) (fun k => ?_) ?_
        · simp only [signalbenchlaw54_AlignLimits.j0, W]
          rw [if_neg (by simp)]
          simp only [Option.bind_some, if_pos (show (m : Int) > 0 by omega)]
          rfl
        · refine Ev.bind hm ?_
          simp only [dist_no no1, dist_no no2, Option.bind_some]
          refine Ev.bind (pairs_no no1) ?_
          exact awake_bind6
theorem law6 {q0 : Prop} (a : Int) (_ : q0) : ∃ k, signalbenchlaw54_AlignLimits.f k a = some true := (pure6 a).rounds
end Go.Proofs.Ytbkncndagheijaa.H
