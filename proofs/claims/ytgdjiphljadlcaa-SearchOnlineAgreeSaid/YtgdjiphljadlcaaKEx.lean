/- The example's compiled trigger (layer 47), made anew at each call; no condition. -/
import Derived.Test.YtgdjiphljadlcaaK0
namespace Go.Proofs.Ytgdjiphljadlcaa.K
open Go.RowKit Go.Proofs.YtgdjiphljadlcaaW.PrintWords Go.Proofs.YtgdjiphljadlcaaW.PrintLast Go.Proofs.YtgdjiphljadlcaaW.PrintMore
def exTwo (b : Bool) : S50 := ⟨⟨1, 0, 0, 0, 0⟩, 5, b, if b = true then ⟨2, 0, 0, 0, 0⟩ else ⟨0, 0, 0, 0, 0⟩⟩
def signalbenchlaw47_Example.f (b : Bool) : Option (List S50) := some [⟨⟨0, 0, 0, 0, 0⟩, 0, false, ⟨0, 0, 0, 0, 0⟩⟩, exTwo b]
theorem row2 (W : World) (base g : Nat) (x y : S50) (hg : base ≤ g) (cs : Array Value) (hcs : cs = #[.int .i64 x.f0.f0, .int .i64 x.f0.f1, .int .i64 x.f0.f2, .int .i64 x.f0.f3, .int .i64 x.f0.f4, .int .i64 x.f1, .bool x.f2, .int .i64 x.f3.f0, .int .i64 x.f3.f1, .int .i64 x.f3.f2, .int .i64 x.f3.f3, .int .i64 x.f3.f4, .int .i64 y.f0.f0, .int .i64 y.f0.f1, .int .i64 y.f0.f2, .int .i64 y.f0.f3, .int .i64 y.f0.f4, .int .i64 y.f1, .bool y.f2, .int .i64 y.f3.f0, .int .i64 y.f3.f1, .int .i64 y.f3.f2, .int .i64 y.f3.f3, .int .i64 y.f3.f4]) (hb : W.heap[g]? = some (.cells cs 50)) :
    Kd.R k50 50 W base (fun _ => True) (.slice (some ⟨g, 0, none⟩) 2 2) [x, y] := by
  subst hcs
  refine ⟨fun _ _ => trivial, _, ⟨?_, Or.inr ⟨g, 2, _, rfl, hg, hb, Nat.le_refl _, by unfold maxLen; omega, rfl, rfl⟩⟩, ?_⟩
  · rfl
  · exact (Reps.front (show Kd.M k50 _ _ _ x _ from (k50_mkM _ _ _ x)) rfl (Reps.front (show Kd.M k50 _ _ _ y _ from (k50_mkM _ _ _ y)) rfl (Reps.none _ _) rfl) rfl)
set_option maxHeartbeats 2000000 in
set_option maxRecDepth 100000 in
theorem signalbenchlaw47_Example.calls (a0 : Bool) (r : List S50) (w : World) (h : signalbenchlaw47_Example.f a0 = some r) :
    Calls Try.prog 56 #[.bool a0] w fun e w' => ∃ v0_ : Value, e = .returned (.agg #[v0_]) ∧ Kd.R k50 50 w' w.heap.size (fun _ => True) v0_ r ∧ Below w.heap.size w w' := by
  obtain rfl := Option.some.inj h
  clear h
  cases a0
  · go_enter Try.func56, Try.ntmps56
    go_wp2
    refine bodyPost_ret (v := .agg #[.slice (some ⟨w.heap.size + 1 + 1, 0, none⟩) 2 2]) (by simp [results, Try.results56, go_sem]) rfl ⟨_, rfl, ?_, below_alloc (below_alloc (below_alloc (Below.refl _ _) _) _) _⟩
    refine row2 _ _ _ _ _ (by omega) _ rfl ?_
    have := blk_new ((w.alloc (Obj.cells #[Value.slice (some { block := w.heap.size + 1 + 1, off := 0 }) 2 2] 31)).alloc (Obj.cells #[.int .i64 1, .int .i64 0, .int .i64 0, .int .i64 0, .int .i64 0, .int .i64 5, .bool false, .int .i64 0, .int .i64 0, .int .i64 0, .int .i64 0, .int .i64 0] 50))
    simp only [World.size_alloc] at this
    exact this _
  · go_enter Try.func56, Try.ntmps56
    go_wp2
    refine bodyPost_ret (v := .agg #[.slice (some ⟨w.heap.size + 1 + 1, 0, none⟩) 2 2]) (by simp [results, Try.results56, go_sem]) rfl ⟨_, rfl, ?_, below_alloc (below_alloc (below_alloc (Below.refl _ _) _) _) _⟩
    refine row2 _ _ _ _ _ (by omega) _ rfl ?_
    have := blk_new ((w.alloc (Obj.cells #[Value.slice (some { block := w.heap.size + 1 + 1, off := 0 }) 2 2] 31)).alloc (Obj.cells #[.int .i64 1, .int .i64 0, .int .i64 0, .int .i64 0, .int .i64 0, .int .i64 5, .bool true, .int .i64 2, .int .i64 0, .int .i64 0, .int .i64 0, .int .i64 0] 50))
    simp only [World.size_alloc] at this
    exact this _
end Go.Proofs.Ytgdjiphljadlcaa.K
