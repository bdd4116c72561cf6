/- More words for printed proofs. Conditions: none. -/
import Derived.Test.YthnlkgbhohchoaaGreatVFnExactRepairedAtSq
namespace Go.Proofs.YthnlkgbhohchoaaGreat.Sq
open Go.RowKit Go.Proofs.YthnlkgbhohchoaaGreatW.PrintWords Go.Proofs.YthnlkgbhohchoaaGreatW.PrintLast Go.Proofs.YthnlkgbhohchoaaGreatW.PrintMore
set_option linter.unusedVariables false
theorem h3 {α : Type} {d : Kd α} {e t g base : Nat} {W : World} {ok : Nat → Prop} {v : Value} {xs : List α} {cells : Array Value} {x0 x1 x2 : Value} (H : Aside0 (Kd.R d e W base ok v xs)) (B : Aside0 (W.heap[g]? = some (.cells cells t (0, 0)))) (ht : ∀ q, q ∈ e :: d.E → q ≠ t := by decide) :
    Kd.R d e (((W.setCell ⟨g, 0, none⟩ x0).setCell ⟨g, 1, none⟩ x1).setCell ⟨g, 2, none⟩ x2) base (fun k => ok k ∧ k ≠ g) v xs :=
  Kd.R_far (p := ⟨g, 2, none⟩) (Kd.R_far (p := ⟨g, 1, none⟩) (Kd.R_far (p := ⟨g, 0, none⟩) (Kd.R_types H.out B.out ht) (fun _ hk => hk.2) x0) (fun _ hk => hk.2) x1) (fun _ hk => hk.2) x2
theorem g3 {α : Type} {d : Kd α} {e t g base : Nat} {W : World} {ok : Nat → Prop} {v : Value} {xs : List α} {cells : Array Value} {x0 x1 x2 : Value} (H : Aside0 (Kd.R d e W base ok v xs)) (B : Aside0 (W.heap[g]? = some (.cells cells t (0, 0)))) (ht : ∀ q, q ∈ e :: d.E → q ≠ t := by decide) :
    Kd.R d e (((W.setCell ⟨g, 0, none⟩ x0).setCell ⟨g, 1, none⟩ x1).setCell ⟨g, 2, none⟩ x2) base ok v xs := Kd.R_mono (h3 H B ht) (fun _ h => h.1)
theorem s3 {α : Type} {d : Kd α} {e t g base : Nat} {W : World} {ok : Nat → Prop} {v : Value} {xs : List α} {cells : Array Value} {P : Prop} (H : Aside0 (Kd.R d e W base ok v xs)) (B : Aside0 (W.heap[g]? = some (.cells cells t (0, 0)))) (ht : ∀ q, q ∈ e :: d.E → q ≠ t := by decide)
    (h : (∀ x0 x1 x2, Kd.R d e (((W.setCell ⟨g, 0, none⟩ x0).setCell ⟨g, 1, none⟩ x1).setCell ⟨g, 2, none⟩ x2) base ok v xs) → P := by intro H_; (with_reducible repeat (first | apply Kd.R_alloc | apply Kd.R_drewN | apply Kd.R_drew)); exact H_ _ _ _) : P := h (fun _ _ _ => g3 H B ht)
theorem cr {p P : Prop} (H : Aside0 p) (h : p → P := by intro H_; repeat (first | exact (Kd.R_reads' H_).2.2 | (with_reducible refine Kd.C_alloc ?_ _) | (with_reducible refine Kd.C_drewN ?_ _) | (with_reducible refine Kd.C_drew ?_))) : P := h H.out
theorem rb {α : Type} {d : Kd α} {e base : Nat} {W w1 : World} {ok : Nat → Prop} {v : Value} {xs : List α} {p : Prop} (H : Aside0 p) (hb : Below W.heap.size W w1) (h : p → Kd.R d e W base ok v xs := by intro H_; (with_reducible repeat (first | apply Kd.R_alloc | apply Kd.R_drewN | apply Kd.R_drew)); exact H_) : Aside0 (Kd.R d e w1 base ok v xs) := ⟨Kd.R_below (h H.out) hb⟩
end Go.Proofs.YthnlkgbhohchoaaGreat.Sq
