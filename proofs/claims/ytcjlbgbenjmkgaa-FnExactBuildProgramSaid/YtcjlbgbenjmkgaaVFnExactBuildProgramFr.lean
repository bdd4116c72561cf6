/- What a call made is younger than what was there: in words for rows of rows of rows. Conditions: none. -/
import Derived.Test.YtcjlbgbenjmkgaaVFnExactBuildProgramWApart
namespace Go.Proofs.Ytcjlbgbenjmkgaa.Fr
open Go.RowKit Go.Proofs.YtcjlbgbenjmkgaaW.PrintWords
theorem pair {α β : Type} {d : Kd α} {d' : Kd β} {e e' : Nat} {W w1 : World} {base : Nat} {ok ok' : Nat → Prop} {u v : Value} {xs : List α} {ys : List β} (hW : Kd.S d e W base ok u xs) (hn : Kd.R d' e' w1 W.heap.size ok' v ys) (hb : Below W.heap.size W w1) (hle : base ≤ W.heap.size) :
    ∃ N, Aside0 (N ≤ w1.heap.size) ∧ Aside0 (Kd.S d e w1 base (fun k => ok k ∧ k < N) u xs) ∧ Aside0 (Kd.R d' e' w1 base (fun k => N ≤ k) v ys) :=
  ⟨W.heap.size, ⟨below_size hb⟩, ⟨Kd.S_old hW hb⟩, ⟨Kd.R_mono (Kd.R_lower (Kd.R_bound hn) hle) (fun _ h => h.2.1)⟩⟩
theorem next {β : Type} {d' : Kd β} {e' N : Nat} {W w1 : World} {base : Nat} {ok' : Nat → Prop} {v : Value} {ys : List β} (hn : Kd.R d' e' w1 W.heap.size ok' v ys) (hN : N ≤ W.heap.size) (hle : base ≤ W.heap.size) :
    Aside0 (Kd.R d' e' w1 base (fun k => N ≤ k) v ys) := ⟨Kd.R_mono (Kd.R_lower (Kd.R_bound hn) hle) (fun _ h => Nat.le_trans hN h.2.1)⟩
theorem nextS {β : Type} {d' : Kd β} {e' N : Nat} {W w1 : World} {base : Nat} {ok' : Nat → Prop} {v : Value} {ys : List β} (hn : Kd.S d' e' w1 W.heap.size ok' v ys) (hN : N ≤ W.heap.size) (hle : base ≤ W.heap.size) :
    Aside0 (Kd.S d' e' w1 base (fun k => N ≤ k) v ys) := ⟨Kd.S_mono (Kd.S_lower (Kd.S_bound hn) hle) (fun _ h => Nat.le_trans hN h.2.1)⟩
theorem away {α : Type} {d : Kd α} {e N : Nat} {W : World} {base : Nat} {ok : Nat → Prop} {u : Value} {xs : List α} (h : Aside0 (Kd.S d e W base (fun k => ok k ∧ k < N) u xs)) {k : Nat} (hk : N ≤ k) : some k ≠ u.ownBlock := by
  intro he
  have h1 : k < N := ((Kd.S_R h.out).1 k he.symm).2
  omega
end Go.Proofs.Ytcjlbgbenjmkgaa.Fr
