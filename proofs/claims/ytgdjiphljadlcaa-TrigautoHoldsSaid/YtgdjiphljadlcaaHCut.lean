/- append onto xs[:len(xs):len(xs)]: always a new row; a word that the print lacks; no condition but the sizes'. -/
import Derived.Test.YtgdjiphljadlcaaHWMore
import Derived.Deep.RegionLawGrows
namespace Go.Proofs.YtgdjiphljadlcaaW.PrintWords
open Go.RowKit
namespace Kd
section
variable {P : Program} {ops : Array Oper} {o : Oper} {a : Act} {Q : Exit → Act → World → Prop} {Kc : Act → World → Prop} {W : World} {α : Type}
theorem R_append_step_cut (d : Kd α) {w0 : World} (base : Nat) (hgd : o.guard = none) (s x : Operand) (t e : TypeId) (z : Value) (bytes : Nat)
    (ho : o.op = .call { callee := .builtin .append, args := #[s, x], argTypes := #[t, t] })
    (ht : P.underlying t = some (.slice e)) (hinfo : (P.info? e).map (fun i => (i.zero, i.size, i.bytes)) = some (some z, d.sz, bytes)) (hz : z.cells.size = d.sz) (hs0 : 0 < d.sz) (_hb0 : 0 < bytes)
    (A : Option Addr) (c : Nat) (xs : List α) (p : α) (cs : List Value) (ok okp : Nat → Prop) (hs : a.eval s = .slice A xs.length xs.length) (hx : a.eval x = .slice (some ⟨W.heap.size, 0, none⟩) 1 1) (hp : d.M W base okp p cs) (hokp : ∀ k, okp k → ok k ∧ some k ≠ (Value.slice A xs.length c).ownBlock) (hfresh : ∀ k, W.heap.size ≤ k → ok k)
    (HO : d.R e W base ok (.slice A xs.length c) xs) (HB : Below base w0 W) (hbase : base ≤ W.heap.size) (hl : (xs.length + 1) * bytes ≤ 140737488355328)
    (hm : xs.length + 1 ≤ maxLen)
    (h : ∀ v1 w1, d.R e w1 base ok v1 (xs ++ [p]) → Below base w0 w1 → W.grownBy w1 (Value.slice A xs.length c).ownBlock → (v1.ownBlock = (Value.slice A xs.length c).ownBlock ∨ ∃ b, v1.ownBlock = some b ∧ W.heap.size ≤ b) → Kc (a.put o.dst v1) w1) :
    if Region.wanted o (yielded ops a.tmps) = true then Oper.wp P o a (W.alloc (.cells cs.toArray e)) Kc Q else Kc (a.put o.dst undef) (W.alloc (.cells cs.toArray e)) := by
  obtain ⟨h0, inner, hown, hr⟩ := HO
  obtain ⟨i0, hi, hzz⟩ := Option.map_eq_some_iff.1 hinfo
  simp only [Prod.mk.injEq] at hzz
  obtain ⟨hz0, hz1, hz2⟩ := hzz
  have hcl := d.K_len (d.K_of_M hp)
  have ho1 := d.K_one (d.K_of_M hp)
  have hsz : (W.alloc (.cells cs.toArray e)).heap.size = W.heap.size + 1 := by simp
  have hcell : ∀ b, A = some b → ∀ j u, inner[j]? = some u → (W.alloc (.cells cs.toArray e)).cell? (b.add j) = some u := by
    rintro b rfl j u hu
    rcases hown.2 with ⟨he, _⟩ | ⟨g, cap, cur, he, _, hh, hnc, _, _, hcur⟩
    · cases he
    · injection he with ha _ _
      injection ha with ha
      subst ha
      rw [add_plain]
      refine pw_cell_below (below_alloc (Below.refl _ _) _) ?_
      rw [blk_cell hh, ← Array.getElem?_toList]
      rw [← hcur] at hu
      have hj : j < xs.length * d.sz := by
        have := (List.getElem?_eq_some_iff.1 hu).1
        rw [List.length_take] at this
        omega
      rw [List.getElem?_take, if_pos hj] at hu
      exact hu
  have hnone : A = none → xs.length = 0 ∧ xs.length = 0 := by
    rintro rfl
    rcases hown.2 with ⟨_, hn⟩ | ⟨g, cap, cur, he, _⟩
    · exact ⟨hn, hn⟩
    · cases he
  refine step_append_grows hgd s x t ho e i0 z d.sz bytes ht hi hz0 hz1 hz2 hz hs0 A xs.length xs.length inner hs hnone hown.1 hcell ⟨W.heap.size, 0, none⟩ 1 1 cs hx (by rw [hcl, Nat.one_mul]) (fun j u hu => ?_) ho1 (by omega) hm hl ?_
  · rw [add_plain, blk_cell (blk_new W (.cells cs.toArray e))]
    simpa using hu
  · intro v1 w1 hown1 hg1
    have hgW : W.grownBy w1 none := by
      have h1 := World.grownBy_alloc W (.cells cs.toArray e) none
      exact ⟨hg1.os.trans h1.os, hg1.tape.trans h1.tape, hg1.output.trans h1.output, Nat.le_trans h1.size hg1.size, fun i hi hne => (hg1.block i (by rw [hsz]; omega) (by simp)).trans (h1.block i hi hne)⟩
    have hgV : W.grownBy w1 (Value.slice A xs.length c).ownBlock := ⟨hgW.os, hgW.tape, hgW.output, hgW.size, fun i hi _ => hgW.block i hi (by simp)⟩
    have hob : ∃ b, v1.ownBlock = some b ∧ W.heap.size ≤ b := by
      rcases hown1.2 with ⟨_, hn⟩ | ⟨g, cap, cur, he, hb, _⟩
      · omega
      · exact ⟨g, by rw [he]; rfl, by rw [hsz] at hb; omega⟩
    exact h v1 w1 (R_appended h0 hr hp hokp hfresh (own_weaken hown1 (by rw [hsz]; omega)) hgV (Or.inr hob)) (pw_below_grown HB none hbase hgW (by simp)) hgV (Or.inr hob)
end
end Kd
end Go.Proofs.YtgdjiphljadlcaaW.PrintWords
