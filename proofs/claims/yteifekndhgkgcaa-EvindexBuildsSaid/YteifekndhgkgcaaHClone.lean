/- slices.Clone of a list of numbers: the same numbers in memory of the call's own, for lists of at most 2^47 bytes. -/
import Derived.Test.YteifekndhgkgcaaH0
import Derived.Test.YteifekndhgkgcaaHShelf
import Derived.DataReads
namespace Go.Proofs.Yteifekndhgkgcaa.H
open Go.RowKit Go.Proofs.YteifekndhgkgcaaW.PrintWords Go.Proofs.YteifekndhgkgcaaW.PrintLast Go.Proofs.YteifekndhgkgcaaW.PrintMore
def slices_Clone_int_int.f (l : List Int) : Option (List Int) := if l.length * 8 ≤ 140737488355328 then some l else none
theorem below_same (w : World) : Below w.heap.size w w := Below.refl _ _
theorem reads_of_C {w : World} {A : Option Addr} {n : Nat} {xs : List Int} (h : (Kd.int .i64).C w A n xs) : ReadsInt w .i64 A n xs := by
  refine ⟨h.1, h.2.1, fun hn => ?_⟩
  obtain ⟨ad, e, hc⟩ := h.2.2 hn
  refine ⟨ad, e, fun j hj => ?_⟩
  have hl : j < xs.length := by have := h.1; omega
  obtain ⟨c, _, hk, hcell⟩ := hc j xs[j] (List.getElem?_eq_getElem hl)
  have hk' : c = [.int .i64 xs[j]] := hk
  subst hk'
  have := hcell 0 (.int .i64 xs[j]) rfl
  rw [List.getD_eq_getElem?_getD, List.getElem?_eq_getElem hl, Option.getD_some]
  simpa [Kd.int, Kd.scalar] using this
theorem slices_Clone_int_int.calls (A0 : Option Addr) (c0 : Nat) (l0 : List Int) (r : List Int) (w : World) (hr0 : Kd.C (Kd.int .i64) w A0 l0.length l0) (_hc0 : l0.length ≤ c0) (h : slices_Clone_int_int.f l0 = some r) :
    Calls Try.prog 30 #[.slice A0 l0.length c0] w fun e w' => ∃ v0_ : Value, e = .returned (v0_) ∧ Kd.R (Kd.int .i64) 3 w' w.heap.size (fun _ => True) v0_ r ∧ Below w.heap.size w w' := by
  unfold slices_Clone_int_int.f at h
  by_cases hb : l0.length * 8 ≤ 140737488355328
  · rw [if_pos hb] at h
    obtain rfl := Option.some.inj h
    have hr := reads_of_C hr0
    cases A0 with
    | none =>
      have hl : l0 = [] := by
        rcases Nat.eq_zero_or_pos l0.length with e | e
        · exact List.eq_nil_of_length_eq_zero e
        · obtain ⟨ad, he, _⟩ := hr.2.2 e
          cases he
      subst hl
      refine (Any.slices_Clone_int_nil Try.laysNm215 _ c0 w).mono fun e w' ⟨he, hw⟩ => ?_
      subst hw
      exact ⟨_, he, Kd.R_nil _ _ _ _ _, Below.refl _ _⟩
    | some a =>
      rcases Nat.eq_zero_or_pos l0.length with e | e
      · have hl : l0 = [] := List.eq_nil_of_length_eq_zero e
        subst hl
        refine (Any.slices_Clone_int_zero Try.laysNm215 a c0 w).mono fun e w' ⟨v, he, ho, _, hB⟩ => ?_
        exact ⟨v, he, Kd.R_of_own (enc := Value.int .i64) (xs := []) ho (fun _ _ => trivial), hB⟩
      · obtain ⟨ad, he, hc⟩ := hr.2.2 e
        obtain rfl := Option.some.inj he
        have hsp : a.spot = none := by
          have := World.cell?_spot (hc 0 e)
          simpa [Addr.add] using this
        obtain ⟨b, off, sp⟩ := a
        have hsp' : sp = none := hsp
        subst hsp'
        refine (Any.slices_Clone_int Try.laysNm215 b off l0.length c0 l0 w (Nat.le_refl _) hb (fun j hj => ?_)).mono fun e w' ⟨v, he, ho, _, hB⟩ => ?_
        · have := hc j hj
          cases j with
          | zero => simpa [Addr.add] using this
          | succ j => simpa [Addr.add] using this
        · rw [List.take_length] at ho
          exact ⟨v, he, Kd.R_of_own (enc := Value.int .i64) (xs := l0) ho (fun _ _ => trivial), hB⟩
  · rw [if_neg hb] at h
    cases h
end Go.Proofs.Yteifekndhgkgcaa.H
