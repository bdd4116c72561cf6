/- Printed by a program of the session. Conditions: none. (squeezed). -/
import Derived.Test.YticepodaobpdlaaVFnQueuesSq2
import Derived.Test.YticepodaobpdlaaVFnQueuesQFnQueuesx0
namespace Go.Proofs.Yticepodaobpdlaa.QFnQueues
set_option maxHeartbeats 8000000
set_option maxRecDepth 100000
open Go.RowKit Go.Proofs.YticepodaobpdlaaW.PrintWords Go.Proofs.YticepodaobpdlaaW.PrintLast Go.Proofs.YticepodaobpdlaaW.PrintMore Go.Proofs.Yticepodaobpdlaa.Open Go.Proofs.Yticepodaobpdlaa.Sq
attribute [local go_sem] max2_int min2_int max_two min_two max_three min_three max_four min_four   -- for this text's walks alone
attribute [local go_sem] isSome_set
set_option linter.unusedVariables false
set_option linter.unusedSimpArgs false

theorem a2_15 {P : Prop} (h : P := by rw [hg]; exact (keep_size (w := w) (g := g) (row := none) a2_0)) : P := h
theorem a2_14 {P : Prop} (h : P := by rw [hg]; exact (keep_size (w := w) (g := g) (row := none) a2_7)) : P := h
theorem a2_13 {P : Prop} (h : P := by rw [hg]; exact Nat.ne_of_gt (IsS53.lt (show IsS53 w0 _ g s0_0 s0_1 s0_2 from by exact si53 HI0))) : P := h
theorem a2_12 {P : Prop} (h : P := by rw [hg]; exact Nat.ne_of_lt (IsS53.lt (show IsS53 w0 _ g s0_0 s0_1 s0_2 from by exact si53 HI0))) : P := h
theorem a2_11 {P : Prop} (h : P := by rw [hg]; exact (keep_size (w := w) (g := g) (row := none) (by exact kp HK))) : P := h
theorem a2_10 {P : Prop} (h : P := by (with_reducible repeat (first | apply Kd.R_alloc | apply Kd.R_drewN | apply Kd.R_drew)); exact (Kd.R_mono (Kd.R_far (p := ⟨gb155, 0, none⟩) (Kd.R_types HO154.out BK155.out (by decide)) (fun _ hk => hk.2) (.slice Ao31 t152.length co31)) (fun _ h_ => h_.1))) : P := h
theorem a2_9 {P : Prop} (h : P := by repeat (first | (with_reducible first | exact HB.out | apply below_alloc | apply pw_below_drewN | apply below_drew1 | refine below_set ?_ (IsS53.ge HI0.out) | refine below_set ?_ GE160.out | refine below_set ?_ GE161.out | refine below_set ?_ GE176.out) | exact HB.out)) : P := h
theorem a2_8 {P : Prop} (h : P := by repeat (first | (with_reducible first | exact HI0.out | apply IsS53.alloc | apply IsS53.drewN | apply IsS53.drew | apply IsS53.set_1 | apply IsS53.set_2 | refine IsS53.far ?_ NB0_160.out _ | refine IsS53.far ?_ NB0_161.out _ | refine IsS53.far ?_ NB0_176.out _) | exact HI0.out)) : P := h
theorem a2_7 {P : Prop} (h : P := by repeat (first | (with_reducible first | exact HK.out | apply KeepBut.set_ | apply keep_drewN | apply keep_drew | apply keep_alloc | refine keep_far ?_ GW160.out _) | exact HK.out)) : P := h
theorem a2_6 {P : Prop} (h : P := by repeat (first | (with_reducible first | exact HI0.out | apply IsS53.alloc | apply IsS53.drewN | apply IsS53.drew | apply IsS53.set_1 | apply IsS53.set_2 | refine IsS53.far ?_ NB0_160.out _) | exact HI0.out)) : P := h
theorem a2_5 {P : Prop} (h : P := by repeat (first | (with_reducible first | exact HK.out | apply KeepBut.set_ | apply keep_drewN | apply keep_drew | apply keep_alloc | refine keep_far ?_ GW160.out _ | refine keep_far ?_ GW161.out _ | refine keep_far ?_ GW176.out _) | exact HK.out)) : P := h
theorem a2_4 {P : Prop} (h : P := by repeat (first | (with_reducible first | exact HB.out | apply below_alloc | apply pw_below_drewN | apply below_drew1 | refine below_set ?_ (IsS53.ge HI0.out) | refine below_set ?_ GE160.out | refine below_set ?_ GE161.out) | exact HB.out)) : P := h
theorem a2_3 {P : Prop} (h : P := by repeat (first | (with_reducible first | exact HK.out | apply KeepBut.set_ | apply keep_drewN | apply keep_drew | apply keep_alloc | refine keep_far ?_ GW120.out _) | exact HK.out)) : P := h
theorem a2_2 {P : Prop} (h : P := by (with_reducible repeat (first | apply Kd.R_alloc | apply Kd.R_drewN | apply Kd.R_drew)); exact (Kd.R_mono (Kd.R_far (p := ⟨gb176, 0, none⟩) (Kd.R_far (p := ⟨gb176, 5, none⟩) (Kd.R_far (p := ⟨gb176, 4, none⟩) (Kd.R_far (p := ⟨gb176, 3, none⟩) (Kd.R_far (p := ⟨gb176, 2, none⟩) (Kd.R_far (p := ⟨gb176, 1, none⟩) (Kd.R_far (p := ⟨gb176, 0, none⟩) (Kd.R_mono HO_162000.out (fun k_ hk => (⟨hk, hk.2⟩ : _ ∧ k_ ≠ gb176))) (fun _ hk => hk.2) (.int .i64 t168)) (fun _ hk => hk.2) (.int .i64 t169)) (fun _ hk => hk.2) (.int .i64 t170)) (fun _ hk => hk.2) (.int .i64 t171)) (fun _ hk => hk.2) (.int .i64 t172)) (fun _ hk => hk.2) (.int .i64 t173)) (fun _ hk => hk.2) (.int .i64 (wrap64 (20 + x5_2)))) (fun _ h_ => h_.1))) : P := h
theorem a2_1 {P : Prop} (h : P := by repeat (first | (with_reducible first | exact HI0.out | apply IsS53.alloc | apply IsS53.drewN | apply IsS53.drew | apply IsS53.set_1 | apply IsS53.set_2 | refine IsS53.far ?_ NB0_160.out _ | refine IsS53.far ?_ NB0_161.out _) | exact HI0.out)) : P := h
theorem a2_0 {P : Prop} (h : P := by repeat (first | (with_reducible first | exact HK.out | apply KeepBut.set_ | apply keep_drewN | apply keep_drew | apply keep_alloc | refine keep_far ?_ GW160.out _ | refine keep_far ?_ GW161.out _) | exact HK.out)) : P := h
def laws_big.f (l0 : List Int) : Option (Bool) := some (decide ((l0.length : Int) > 1048576))
theorem laws_big.calls (A0 : Option Addr) (c0 : Nat) (l0 : List Int) (r : Bool) (w : World) (hr0 : Kd.C (Kd.int .u8) w A0 l0.length l0) (hc0 : l0.length ≤ c0) (h : laws_big.f l0 = some r) :
    Calls Try.prog 4 #[.slice A0 l0.length c0] w fun e w' => e = .returned (.bool r) ∧ Drawn0 w w' := by
 have HR0 := am hr0
 have HC0 := am hc0
 clear hr0 hc0
 have H := h; unfold laws_big.f at H
 clear h
 obtain rfl := Option.some.inj H
 go_enter Try.func4, Try.ntmps4
 go_wp2
 go_ret
 exact ⟨sc, sd⟩

/-- A state of type 53 at block g of W; what its slices lead to came in by w0. -/
def IsS53 (w0 W : World) (g : Nat) (f0 : List Int) (f1 : Int) (f2 : Int) : Prop := ∃ A0 c0, W.heap[g]? = some (.cells #[.slice A0 f0.length c0, .int .i64 f1, .int .i64 f2] 53 (0, 0)) ∧ w0.heap.size ≤ g ∧ Kd.C (Kd.int .u8) w0 A0 f0.length f0
theorem IsS53.grown {w0 W : World} {g : Nat} {f0 : List Int} {f1 : Int} {f2 : Int} {W1 : World} {row : Option Nat} (h : IsS53 w0 W g f0 f1 f2) (hw : W.grownBy W1 row) (hne : some g ≠ row) : IsS53 w0 W1 g f0 f1 f2 := by
  obtain ⟨A0, c0, hb, hg, hr0⟩ := h
  exact ⟨A0, c0, blk_grown hb hw hne, hg, hr0⟩
theorem IsS53.own_neN {w0 W : World} {g : Nat} {f0 : List Int} {f1 : Int} {f2 : Int} {α : Type} {d : Kd α} {e : Nat} {base : Nat} {ok : Nat → Prop} {v : Value} {xs : List α} (h : IsS53 w0 W g f0 f1 f2) (ho : Kd.N d e W base ok v xs) (ht : e ≠ 53) : some g ≠ v.ownBlock := by
  obtain ⟨A0, c0, hb, hg, hr0⟩ := h
  exact Kd.N_ne ho hb ht
theorem IsS53.fresh {w0 W : World} {g : Nat} {f0 : List Int} {f1 : Int} {f2 : Int} (h : IsS53 w0 W g f0 f1 f2) : ∀ k, W.heap.size ≤ k → k ≠ g := by
  obtain ⟨A0, c0, hb, hg, hr0⟩ := h
  exact Kd.freshB hb
theorem IsS53.kept {w0 W : World} {g : Nat} {f0 : List Int} {f1 : Int} {f2 : Int} {W1 : World} {S : Nat → Prop} (h : IsS53 w0 W g f0 f1 f2) (hk : Kept W W1 S) (hne : ¬ S g) : IsS53 w0 W1 g f0 f1 f2 := by
  obtain ⟨A0, c0, hb, hg, hr0⟩ := h
  exact ⟨A0, c0, blk_kept hb hk hne, hg, hr0⟩
theorem IsS53.below {w0 W : World} {g : Nat} {f0 : List Int} {f1 : Int} {f2 : Int} {W1 : World} (h : IsS53 w0 W g f0 f1 f2) (hw : Below W.heap.size W W1) : IsS53 w0 W1 g f0 f1 f2 := h.grown (grown_of_below hw none) (by simp)
theorem IsS53.alloc {w0 W : World} {g : Nat} {f0 : List Int} {f1 : Int} {f2 : Int} (h : IsS53 w0 W g f0 f1 f2) (o : Obj) : IsS53 w0 (W.alloc o) g f0 f1 f2 := h.below (below_alloc (Below.refl _ _) o)
theorem IsS53.drewN {w0 W : World} {g : Nat} {f0 : List Int} {f1 : Int} {f2 : Int} (h : IsS53 w0 W g f0 f1 f2) (m : Nat) : IsS53 w0 (W.drewN m) g f0 f1 f2 := h
theorem IsS53.drew {w0 W : World} {g : Nat} {f0 : List Int} {f1 : Int} {f2 : Int} (h : IsS53 w0 W g f0 f1 f2) : IsS53 w0 W.drew g f0 f1 f2 := h
theorem IsS53.at_ {w0 W : World} {g : Nat} {f0 : List Int} {f1 : Int} {f2 : Int} {w' : World} {m : Nat} (hq : W.drewN m = w') (h : IsS53 w0 W g f0 f1 f2) : IsS53 w0 w' g f0 f1 f2 := by subst hq; exact IsS53.drewN h m
theorem IsS53.apart {w0 W : World} {g : Nat} {f0 : List Int} {f1 : Int} {f2 : Int} {α : Type} {d : Kd α} {e : Nat} {base : Nat} {ok : Nat → Prop} {v : Value} {xs : List α} (h : IsS53 w0 W g f0 f1 f2) (ho : d.R e W base ok v xs) (ht : ∀ q, q ∈ e :: d.E → q ≠ 53) : d.R e W base (fun k => ok k ∧ k ≠ g) v xs := by
  obtain ⟨A0, c0, hb, hg, hr0⟩ := h
  exact Kd.R_types ho hb ht
theorem IsS53.own_ne {w0 W : World} {g : Nat} {f0 : List Int} {f1 : Int} {f2 : Int} {α : Type} {d : Kd α} {e : Nat} {base : Nat} {ok : Nat → Prop} {v : Value} {xs : List α} (h : IsS53 w0 W g f0 f1 f2) (ho : d.R e W base ok v xs) (ht : e ≠ 53) : some g ≠ v.ownBlock := by
  obtain ⟨A0, c0, hb, hg, hr0⟩ := h
  exact Kd.R_ne ho hb ht
theorem IsS53.apartQ {w0 W : World} {g : Nat} {f0 : List Int} {f1 : Int} {f2 : Int} {α : Type} {d : Kd α} {e : Nat} {base : Nat} {ok : Nat → Prop} {v : Value} {xs : List α} (h : IsS53 w0 W g f0 f1 f2) (ho : d.Q e W base ok v xs) (ht : ∀ q, q ∈ e :: d.E → q ≠ 53) : d.Q e W base (fun k => ok k ∧ k ≠ g) v xs := by
  obtain ⟨A0, c0, hb, hg, hr0⟩ := h
  exact Kd.Q_types ho hb ht
theorem IsS53.own_neQ {w0 W : World} {g : Nat} {f0 : List Int} {f1 : Int} {f2 : Int} {α : Type} {d : Kd α} {e : Nat} {base : Nat} {ok : Nat → Prop} {v : Value} {xs : List α} (h : IsS53 w0 W g f0 f1 f2) (ho : d.Q e W base ok v xs) (ht : e ≠ 53) : some g ≠ v.ownBlock := by
  obtain ⟨A0, c0, hb, hg, hr0⟩ := h
  exact Kd.Q_ne ho hb ht
theorem IsS53.apartS {w0 W : World} {g : Nat} {f0 : List Int} {f1 : Int} {f2 : Int} {α : Type} {d : Kd α} {e : Nat} {base : Nat} {ok : Nat → Prop} {v : Value} {xs : List α} (h : IsS53 w0 W g f0 f1 f2) (ho : d.S e W base ok v xs) (ht : ∀ q, q ∈ e :: d.E → q ≠ 53) : d.S e W base (fun k => ok k ∧ k ≠ g) v xs := by
  obtain ⟨A0, c0, hb, hg, hr0⟩ := h
  exact Kd.S_types ho hb ht
theorem IsS53.own_neS {w0 W : World} {g : Nat} {f0 : List Int} {f1 : Int} {f2 : Int} {α : Type} {d : Kd α} {e : Nat} {base : Nat} {ok : Nat → Prop} {v : Value} {xs : List α} (h : IsS53 w0 W g f0 f1 f2) (ho : d.S e W base ok v xs) (ht : e ≠ 53) : some g ≠ v.ownBlock := by
  obtain ⟨A0, c0, hb, hg, hr0⟩ := h
  exact Kd.S_ne ho hb ht
theorem IsS53.lt {w0 W : World} {g : Nat} {f0 : List Int} {f1 : Int} {f2 : Int} (h : IsS53 w0 W g f0 f1 f2) : g < W.heap.size := by
  obtain ⟨A0, c0, hb, hg, hr0⟩ := h
  exact blk_lt hb
theorem IsS53.ge {w0 W : World} {g : Nat} {f0 : List Int} {f1 : Int} {f2 : Int} (h : IsS53 w0 W g f0 f1 f2) : w0.heap.size ≤ g := by
  obtain ⟨A0, c0, hb, hg, hr0⟩ := h
  exact hg
theorem IsS53.ne_blk {w0 W : World} {g : Nat} {f0 : List Int} {f1 : Int} {f2 : Int} {a : Nat} {cs : Array Value} {t : TypeId} {fr : Nat × Nat} (h : IsS53 w0 W g f0 f1 f2) (hb2 : W.heap[a]? = some (.cells cs t fr)) (ht : t ≠ 53) : g ≠ a := by
  obtain ⟨A0, c0, hb, hg, hr0⟩ := h
  rintro rfl
  rw [hb] at hb2
  injection hb2 with hb2
  injection hb2 with _ ht2
  exact ht ht2.symm
theorem IsS53.far {w0 W : World} {g : Nat} {f0 : List Int} {f1 : Int} {f2 : Int} {p : Addr} (h : IsS53 w0 W g f0 f1 f2) (hne : g ≠ p.block) (u : Value) : IsS53 w0 (W.setCell p u) g f0 f1 f2 := by
  obtain ⟨A0, c0, hb, hg, hr0⟩ := h
  exact ⟨A0, c0, blk_far hb hne u, hg, hr0⟩
theorem cellS53_0 {W : World} {g : Nat} {A0 : Option Addr} {c0 : Nat} {f0 : List Int} {f1 : Int} {f2 : Int} (h : W.heap[g]? = some (.cells #[.slice A0 f0.length c0, .int .i64 f1, .int .i64 f2] 53 (0, 0))) : W.cell? ⟨g, 0, none⟩ = some (.slice A0 f0.length c0) := (blk_cell h 0).trans rfl
theorem cellS53_1 {W : World} {g : Nat} {A0 : Option Addr} {c0 : Nat} {f0 : List Int} {f1 : Int} {f2 : Int} (h : W.heap[g]? = some (.cells #[.slice A0 f0.length c0, .int .i64 f1, .int .i64 f2] 53 (0, 0))) : W.cell? ⟨g, 1, none⟩ = some (.int .i64 f1) := (blk_cell h 1).trans rfl
theorem IsS53.set_1 {w0 W : World} {g : Nat} {f0 : List Int} {f1 : Int} {f2 : Int} (h : IsS53 w0 W g f0 f1 f2) (x : Int) : IsS53 w0 (W.setCell ⟨g, 1, none⟩ (.int .i64 x)) g f0 x f2 := by
  obtain ⟨A0, c0, hb, hg, hr0⟩ := h
  exact ⟨A0, c0, by simpa using blk_set hb 1 (.int .i64 x), hg, hr0⟩
theorem cellS53_2 {W : World} {g : Nat} {A0 : Option Addr} {c0 : Nat} {f0 : List Int} {f1 : Int} {f2 : Int} (h : W.heap[g]? = some (.cells #[.slice A0 f0.length c0, .int .i64 f1, .int .i64 f2] 53 (0, 0))) : W.cell? ⟨g, 2, none⟩ = some (.int .i64 f2) := (blk_cell h 2).trans rfl
theorem IsS53.set_2 {w0 W : World} {g : Nat} {f0 : List Int} {f1 : Int} {f2 : Int} (h : IsS53 w0 W g f0 f1 f2) (x : Int) : IsS53 w0 (W.setCell ⟨g, 2, none⟩ (.int .i64 x)) g f0 f1 x := by
  obtain ⟨A0, c0, hb, hg, hr0⟩ := h
  exact ⟨A0, c0, by simpa using blk_set hb 2 (.int .i64 x), hg, hr0⟩
theorem IsS53.new (w0 W : World) (A0 : Option Addr) (c0 : Nat) (f0 : List Int) (f1 : Int) (f2 : Int) (hB : Below w0.heap.size w0 W) (hr0 : Kd.C (Kd.int .u8) w0 A0 f0.length f0) : IsS53 w0 (W.alloc (.cells #[.slice A0 f0.length c0, .int .i64 f1, .int .i64 f2] 53)) W.heap.size f0 f1 f2 := ⟨A0, c0, by simpa using heap_alloc_new W _, hB.size, hr0⟩

theorem si53 {p P : Prop} (H : Aside0 p) (h : p → P := by intro H_; repeat (first | (with_reducible first | exact H_ | apply IsS53.alloc | apply IsS53.drewN | apply IsS53.drew | apply IsS53.set_1 | apply IsS53.set_2) | exact H_)) : P := h H.out
theorem sj53 {p P r : Prop} (H : Aside0 p) (I : Aside0 r) (h : p → r → P := by intro H_ I_; repeat (first | (with_reducible first | exact H_ | apply below_alloc | apply pw_below_drewN | apply below_drew1 | refine below_set ?_ (IsS53.ge I_)) | exact H_)) : P := h H.out I.out
def spec_l1New.l0 : Nat → List Int → Int → Int → Option (List Int × Int × Int)
  | 0, _, _, _ => none
  | k + 1, x0, x3, x4 => if x4 < (x0.length : Int) then (if x4 < 4000 then (if 0 ≤ x4 then (spec_l1New.l0 k x0 (Go.bits .and .i64 (wrap64 ((wrap64 ((wrap64 (x3 * 137)) + (wrap64 (rd x0 x4)))) + 11)) 1073741823) (wrap64 (x4 + 1))) else (none)) else (some (x0, 0, x3))) else (some (x0, 0, x3))
def spec_l1New.f (k : Nat) (l0 : List Int) : Option (List Int × Int × Int) := spec_l1New.l0 k l0 (wrap64 (193017 + (l0.length : Int))) 0
theorem spec_l1New.mono_l : ∀ k, (∀ y0 y1 y2, LeO (spec_l1New.l0 k y0 y1 y2) (spec_l1New.l0 (k + 1) y0 y1 y2))
  | 0 => fun _ _ _ r h => by simp [spec_l1New.l0] at h
  | k + 1 => by
    have ih0 := spec_l1New.mono_l k
    · intro y0 y1 y2
      unfold spec_l1New.l0
      exact mo
theorem spec_l1New.mono : ∀ a0 k, LeO (spec_l1New.f k a0) (spec_l1New.f (k + 1) a0) := by
  intro a0 k
  have ih0 := spec_l1New.mono_l k
  unfold spec_l1New.f
  exact mo
theorem e2_0 {P : Prop} (h : P := by
 go_wp2_with (first | ((with_reducible refine gd 31 rfl ?_); refine bx 31 #[.slice A0 l0.length c0, .int .i64 0, .int .i64 x3_1] 53 ?_; intro gb102 hg w5 hbox hb; have GW102 := am ((by rw [hg]; exact (below_size (sb')) : w.heap.size ≤ gb102)); have GE102 := am ((Nat.le_trans HW0.out (by rw [hg]; exact (below_size (sb')) : w.heap.size ≤ gb102) : w0.heap.size ≤ gb102)); replace HBW := am (below_step HBW.out hb); replace HB := bs hb; have BK102 := am hbox; clear hb hbox hg))
 first
 | have _ := c3b0
   go_ret
   exact ⟨_, rfl, (show IsS53 w0 _ gb102 l0 0 x3_1 from ⟨_, _, sk BK102, GE102.out, HR0.out⟩), sbw, sbw'⟩
 | go_ret
   exact ⟨_, rfl, (show IsS53 w0 _ gb102 l0 0 x3_1 from ⟨_, _, sk BK102, GE102.out, HR0.out⟩), sbw, sbw'⟩
   ) : P := h
theorem spec_l1New.calls (k : Nat) (A0 : Option Addr) (c0 : Nat) (l0 : List Int) (r1 : List Int) (r2 : Int) (r3 : Int) (w0 w : World) (hB : Below w0.heap.size w0 w) (hr0 : Kd.C (Kd.int .u8) w0 A0 l0.length l0) (hc0 : l0.length ≤ c0) (h : spec_l1New.f k l0 = some (r1, r2, r3)) :
    Calls Try.prog 13 #[.slice A0 l0.length c0] w fun e w' => ∃ g_ : Nat, e = .returned (.pointer (some ⟨g_, 0, none⟩)) ∧ IsS53 w0 w' g_ r1 r2 r3 ∧ Below w0.heap.size w0 w' ∧ Below w.heap.size w w' := by
 have hu53 := Try.underlying53
 have HR0 := am hr0
 have HC0 := am hc0
 clear hr0 hc0
 have HBW := am (Below.refl w.heap.size w)
 have HW0 := am hB.size
 have HB := am hB
 clear hB
 have H := h; unfold spec_l1New.f at H
 clear h
 have H' := am H
 clear H
 go_enter Try.func13, Try.ntmps13
 go_wp2
 go_loopg [3, 4] k (fun kq v3 v4 w' => ∃ (x3_1 : Int) (x4_1 : Int), v3 = .int .i64 x3_1 ∧ v4 = .int .i64 x4_1 ∧ Aside0 (spec_l1New.l0 kq l0 x3_1 x4_1 = some (r1, r2, r3)) ∧ Aside0 (kq ≤ k) ∧ Aside0 (Below w0.heap.size w0 w') ∧ Aside0 (Below w.heap.size w w'))
 case atStart => exact ⟨(wrap64 (193017 + (l0.length : Int))), (0), sc, sc, H', kk0, ⟨sb⟩, ⟨sb'⟩⟩
 case round =>
  clear H'
  obtain ⟨x3_1, x4_1, rfl, rfl, HA, HK1, HB, HBW⟩ := hrel
  cases gk with
  | zero => exact absurd HA.out (by simp [spec_l1New.l0])
  | succ k1 =>
   have H := HA.out
   clear HA
   simp only [spec_l1New.l0] at H
   obtain ⟨-, c2b0, H⟩ | ⟨-, c2b0, H⟩ := ic_ H
   ·obtain ⟨-, c3b0, H⟩ | ⟨-, c3b0, H⟩ := ic_ H
    ·obtain ⟨c4b0, H⟩ := id_ H
     have H' := am H
     clear H
     have p101 : 0 ≤ (x4_1 : Int) := sa
     have q101 : x4_1 < (l0.length : Int) := sa
     obtain ⟨ad101, e101, hx101_0⟩ := Kd.at_int HR0.out x4_1 p101 q101
     cases e101
     replace hx101_0 := pw_cell_below HB.out hx101_0
     replace p101 := eq_true p101
     replace q101 := eq_true q101
     go_wp2
     go_roundg k1
     case measure => have := HK1.out; omega
     case rel => exact ⟨(Go.bits .and .i64 (wrap64 ((wrap64 ((wrap64 (x3_1 * 137)) + (wrap64 (rd l0 x4_1)))) + 11)) 1073741823), (wrap64 (x4_1 + 1)), sc, sc, H', kk1, ⟨sb⟩, ⟨sb'⟩⟩
    ·simp only [Option.some.injEq, Prod.mk.injEq] at H
     obtain ⟨rfl, rfl, rfl⟩ := H
     exact e2_0
   ·simp only [Option.some.injEq, Prod.mk.injEq] at H
    obtain ⟨rfl, rfl, rfl⟩ := H
    exact e2_0
def spec_l1Byte.f (s0_0 : List Int) (s0_1 : Int) (s0_2 : Int) : Option (Int × Int × Int) := if s0_1 < (s0_0.length : Int) then (if 0 ≤ s0_1 then (some (Go.bits .and .i64 (wrap64 ((Go.bits .and .i64 (Go.bits .xor .i64 ((wrap64 ((wrap64 (s0_2 * 6364136223846793005)) + 1442695040888963407)) / 8589934592) ((wrap64 ((wrap64 (s0_2 * 6364136223846793005)) + 1442695040888963407)) / 140737488355328)) 255) + (wrap64 (rd s0_0 s0_1)))) 255, wrap64 (s0_1 + 1), wrap64 ((wrap64 (s0_2 * 6364136223846793005)) + 1442695040888963407))) else (none)) else (some (Go.bits .and .i64 (Go.bits .xor .i64 ((wrap64 ((wrap64 (s0_2 * 6364136223846793005)) + 1442695040888963407)) / 8589934592) ((wrap64 ((wrap64 (s0_2 * 6364136223846793005)) + 1442695040888963407)) / 140737488355328)) 255, s0_1, wrap64 ((wrap64 (s0_2 * 6364136223846793005)) + 1442695040888963407)))
theorem spec_l1Byte.calls (g : Nat) (s0_0 : List Int) (s0_1 : Int) (s0_2 : Int) (r1 : Int) (r2 : Int) (r3 : Int) (w0 w : World) (hI : IsS53 w0 w g s0_0 s0_1 s0_2) (hB : Below w0.heap.size w0 w) (h : spec_l1Byte.f s0_0 s0_1 s0_2 = some (r1, r2, r3)) :
    Calls Try.prog 27 #[.pointer (some ⟨g, 0, none⟩)] w fun e w' => e = .returned (.int .i64 r1) ∧ IsS53 w0 w' g s0_0 r2 r3 ∧ Below w0.heap.size w0 w' ∧ KeepBut w w' g none := by
 have HI0 := am hI
 have HK := am (KeepBut.refl w g none)
 have HL := am hB.size
 clear hI
 have HW0 := am hB.size
 have HB := am hB
 clear hB
 have H := h; unfold spec_l1Byte.f at H
 clear h
 obtain ⟨-, c2b0, H⟩ | ⟨-, c2b0, H⟩ := ic_ H
 ·obtain ⟨c3b0, H⟩ := id_ H
  simp only [Option.some.injEq, Prod.mk.injEq] at H
  obtain ⟨rfl, rfl, rfl⟩ := H
  obtain ⟨ASz4_0, cSz4_0, HGz4, hgz4, HSz4_0⟩ := HI0.out
  have hcz4_0 := cellS53_0 HGz4
  have hcz4_1 := cellS53_1 HGz4
  have hcz4_2 := cellS53_2 HGz4
  have hfz4_1 := blk_frozen HGz4 1
  have hfz4_2 := blk_frozen HGz4 2
  clear HGz4 hgz4
  have p104 : 0 ≤ (s0_1 : Int) := sa
  have q104 : s0_1 < (s0_0.length : Int) := sa
  obtain ⟨ad104, e104, hx104_0⟩ := Kd.at_int HSz4_0 s0_1 p104 q104
  cases e104
  have hn104_0 : ad104.block ≠ g := Nat.ne_of_lt (Nat.lt_of_lt_of_le (bl hx104_0) (IsS53.ge HI0.out))
  replace hx104_0 := pw_cell_below HB.out hx104_0
  replace hx104_0 := (cell_far (p := ⟨g, 2, none⟩) (by first | (rw [add_block]; exact hn104_0) | exact hn104_0) (.int .i64 (wrap64 ((wrap64 (s0_2 * 6364136223846793005)) + 1442695040888963407)))).trans hx104_0
  (try have hy104_0 := fun (n_ : Nat) => (show (((w.drewN n_).setCell ⟨g, 2, none⟩ (.int .i64 (wrap64 ((wrap64 (s0_2 * 6364136223846793005)) + 1442695040888963407))))).cell? _ = some _ from hx104_0))
  clear hn104_0
  replace p104 := eq_true p104
  replace q104 := eq_true q104
  go_enter Try.func27, Try.ntmps27
  go_wp2
  repeat (go_quiet (fail); try go_wp2)
  go_ret
  exact ⟨se, by exact si53 HI0, by exact sj53 HB HI0, by exact kp HK⟩
 ·simp only [Option.some.injEq, Prod.mk.injEq] at H
  obtain ⟨rfl, rfl, rfl⟩ := H
  obtain ⟨ASz5_0, cSz5_0, HGz5, hgz5, HSz5_0⟩ := HI0.out
  have hcz5_0 := cellS53_0 HGz5
  have hcz5_1 := cellS53_1 HGz5
  have hcz5_2 := cellS53_2 HGz5
  have hfz5_1 := blk_frozen HGz5 1
  have hfz5_2 := blk_frozen HGz5 2
  clear HGz5 hgz5
  go_enter Try.func27, Try.ntmps27
  go_wp2
  repeat (go_quiet (fail); try go_wp2)
  go_ret
  exact ⟨se, by exact si53 HI0, by exact sj53 HB HI0, by exact kp HK⟩

def spec_l1Below.f (s0_0 : List Int) (s0_1 : Int) (s0_2 : Int) (a1 : Int) : Option (Int × Int × Int) := if a1 ≤ 0 then (some (0, s0_1, s0_2)) else (if a1 ≤ 256 then ((spec_l1Byte.f s0_0 s0_1 s0_2).bind fun bt105 => (if a1 = 0 then (none) else (some (Int.tmod bt105.1 a1, bt105.2.1, bt105.2.2)))) else ((spec_l1Byte.f s0_0 s0_1 s0_2).bind fun bt108 => ((spec_l1Byte.f s0_0 bt108.2.1 bt108.2.2).bind fun bt111 => ((spec_l1Byte.f s0_0 bt111.2.1 bt111.2.2).bind fun bt114 => (if a1 = 0 then (none) else (some (Int.tmod (wrap64 ((wrap64 ((wrap64 (bt108.1 * 65536)) + (wrap64 (bt111.1 * 256)))) + bt114.1)) a1, bt114.2.1, bt114.2.2)))))))
theorem spec_l1Below.calls (g : Nat) (s0_0 : List Int) (s0_1 : Int) (s0_2 : Int) (a1 : Int) (r1 : Int) (r2 : Int) (r3 : Int) (w0 w : World) (hI : IsS53 w0 w g s0_0 s0_1 s0_2) (hB : Below w0.heap.size w0 w) (h : spec_l1Below.f s0_0 s0_1 s0_2 a1 = some (r1, r2, r3)) :
    Calls Try.prog 20 #[.pointer (some ⟨g, 0, none⟩), .int .i64 a1] w fun e w' => e = .returned (.int .i64 r1) ∧ IsS53 w0 w' g s0_0 r2 r3 ∧ Below w0.heap.size w0 w' ∧ KeepBut w w' g none := by
 have HI0 := am hI
 have HK := am (KeepBut.refl w g none)
 have HL := am hB.size
 clear hI
 have HW0 := am hB.size
 have HB := am hB
 clear hB
 have H := h; unfold spec_l1Below.f at H
 clear h
 obtain ⟨-, c3b0, H⟩ | ⟨-, c3b0, H⟩ := ic_ H
 ·simp only [Option.some.injEq, Prod.mk.injEq] at H
  obtain ⟨rfl, rfl, rfl⟩ := H
  go_enter Try.func20, Try.ntmps20
  go_wp2
  go_ret
  exact ⟨se, by exact si53 HI0, by exact sj53 HB HI0, by exact kp HK⟩
 ·obtain ⟨-, c4b0, H⟩ | ⟨-, c4b0, H⟩ := ic_ H
  ·obtain ⟨⟨t105, t106, t107⟩, A5, H⟩ := bnd H
   try dsimp only at H
   obtain ⟨c6, H⟩ | ⟨c6, H⟩ := ie_ H
   ·exact ab H
   ·have c6b0 : (a1 == 0) = false := beq_eq_false_iff_ne.mpr c6
    have c6b1 : (a1 != 0) = true := bne_iff_ne.mpr c6
    simp only [Option.some.injEq, Prod.mk.injEq] at H
    obtain ⟨rfl, rfl, rfl⟩ := H
    go_enter Try.func20, Try.ntmps20
    go_wp2_with (first | ((with_reducible refine gc 27 rfl ?_); refine gL (some 13) Try.func27 #[.pointer (some ⟨g, 0, none⟩)] ?_; (with_reducible refine (spec_l1Byte.calls g s0_0 s0_1 s0_2 t105 t106 t107 w0 _ ?side1 ?side2 A5.out).mono ?_); (case side1 => exact si53 HI0); (case side2 => exact sj53 HB HI0); rintro e w7 ⟨rfl, hi, hb, hk⟩; refine ⟨_, rfl, ?_⟩; replace HK := am (KeepBut.trans (by exact kp HK) hk (.inl rfl)); replace HB := am hb; replace HI0 := am hi; (try clear hb); (try clear hk); (try clear hi)))
    go_ret
    exact ⟨se, by exact si53 HI0, by exact sj53 HB HI0, by exact kp HK⟩
  ·obtain ⟨⟨t108, t109, t110⟩, A8, H⟩ := bnd H
   try dsimp only at H
   obtain ⟨⟨t111, t112, t113⟩, A9, H⟩ := bnd H
   try dsimp only at H
   obtain ⟨⟨t114, t115, t116⟩, A10, H⟩ := bnd H
   try dsimp only at H
   obtain ⟨c11, H⟩ | ⟨c11, H⟩ := ie_ H
   ·exact ab H
   ·have c11b0 : (a1 == 0) = false := beq_eq_false_iff_ne.mpr c11
    have c11b1 : (a1 != 0) = true := bne_iff_ne.mpr c11
    simp only [Option.some.injEq, Prod.mk.injEq] at H
    obtain ⟨rfl, rfl, rfl⟩ := H
    go_enter Try.func20, Try.ntmps20
    go_wp2_with (first | ((with_reducible refine gc 27 rfl ?_); refine gL (some 17) Try.func27 #[.pointer (some ⟨g, 0, none⟩)] ?_; (with_reducible refine (spec_l1Byte.calls g s0_0 s0_1 s0_2 t108 t109 t110 w0 _ ?side1 ?side2 A8.out).mono ?_); (case side1 => exact si53 HI0); (case side2 => exact sj53 HB HI0); rintro e w12 ⟨rfl, hi, hb, hk⟩; refine ⟨_, rfl, ?_⟩; replace HK := am (KeepBut.trans (by exact kp HK) hk (.inl rfl)); replace HB := am hb; replace HI0 := am hi; (try clear hb); (try clear hk); (try clear hi)) | ((with_reducible refine gc 27 rfl ?_); refine gL (some 19) Try.func27 #[.pointer (some ⟨g, 0, none⟩)] ?_; (with_reducible refine (spec_l1Byte.calls g s0_0 t109 t110 t111 t112 t113 w0 _ ?side1 ?side2 A9.out).mono ?_); (case side1 => exact si53 HI0); (case side2 => exact sj53 HB HI0); rintro e w13 ⟨rfl, hi, hb, hk⟩; refine ⟨_, rfl, ?_⟩; replace HK := am (KeepBut.trans (by exact kp HK) hk (.inl rfl)); replace HB := am hb; replace HI0 := am hi; (try clear hb); (try clear hk); (try clear hi)) | ((with_reducible refine gc 27 rfl ?_); refine gL (some 21) Try.func27 #[.pointer (some ⟨g, 0, none⟩)] ?_; (with_reducible refine (spec_l1Byte.calls g s0_0 t112 t113 t114 t115 t116 w0 _ ?side1 ?side2 A10.out).mono ?_); (case side1 => exact si53 HI0); (case side2 => exact sj53 HB HI0); rintro e w14 ⟨rfl, hi, hb, hk⟩; refine ⟨_, rfl, ?_⟩; replace HK := am (KeepBut.trans (by exact kp HK) hk (.inl rfl)); replace HB := am hb; replace HI0 := am hi; (try clear hb); (try clear hk); (try clear hi)))
    go_ret
    exact ⟨se, by exact si53 HI0, by exact sj53 HB HI0, by exact kp HK⟩

def spec_l1Once.f (s0_0 : List Int) (s0_1 : Int) (s0_2 : Int) (a1 : Int) : Option (Bool × Int × Int) := (spec_l1Below.f s0_0 s0_1 s0_2 a1).bind fun bt117 => (some ((bt117.1 == 0), bt117.2.1, bt117.2.2))
theorem spec_l1Once.calls (g : Nat) (s0_0 : List Int) (s0_1 : Int) (s0_2 : Int) (a1 : Int) (r1 : Bool) (r2 : Int) (r3 : Int) (w0 w : World) (hI : IsS53 w0 w g s0_0 s0_1 s0_2) (hB : Below w0.heap.size w0 w) (h : spec_l1Once.f s0_0 s0_1 s0_2 a1 = some (r1, r2, r3)) :
    Calls Try.prog 16 #[.pointer (some ⟨g, 0, none⟩), .int .i64 a1] w fun e w' => e = .returned (.bool r1) ∧ IsS53 w0 w' g s0_0 r2 r3 ∧ Below w0.heap.size w0 w' ∧ KeepBut w w' g none := by
 have HI0 := am hI
 have HK := am (KeepBut.refl w g none)
 have HL := am hB.size
 clear hI
 have HW0 := am hB.size
 have HB := am hB
 clear hB
 have H := h; unfold spec_l1Once.f at H
 clear h
 obtain ⟨⟨t117, t118, t119⟩, A3, H⟩ := bnd H
 try dsimp only at H
 simp only [Option.some.injEq, Prod.mk.injEq] at H
 obtain ⟨rfl, rfl, rfl⟩ := H
 go_enter Try.func16, Try.ntmps16
 go_wp2_with (first | ((with_reducible refine gc 20 rfl ?_); refine gL (some 7) Try.func20 #[.pointer (some ⟨g, 0, none⟩), .int .i64 a1] ?_; (with_reducible refine (spec_l1Below.calls g s0_0 s0_1 s0_2 a1 t117 t118 t119 w0 _ ?side1 ?side2 A3.out).mono ?_); (case side1 => exact si53 HI0); (case side2 => exact sj53 HB HI0); rintro e w4 ⟨rfl, hi, hb, hk⟩; refine ⟨_, rfl, ?_⟩; replace HK := am (KeepBut.trans (by exact kp HK) hk (.inl rfl)); replace HB := am hb; replace HI0 := am hi; (try clear hb); (try clear hk); (try clear hi)))
 go_ret
 exact ⟨se, by exact si53 HI0, by exact sj53 HB HI0, by exact kp HK⟩

def spec_l24Packet.f (s0_0 : List Int) (s0_1 : Int) (s0_2 : Int) : Option (Int × Int × Int × Int × Int × Int × Int × Int) := (spec_l1Below.f s0_0 s0_1 s0_2 5).bind fun bt121 => ((spec_l1Below.f s0_0 bt121.2.1 bt121.2.2 20).bind fun bt124 => ((spec_l1Below.f s0_0 bt124.2.1 bt124.2.2 3).bind fun bt127 => ((spec_l1Below.f s0_0 bt127.2.1 bt127.2.2 5).bind fun bt130 => ((spec_l1Below.f s0_0 bt130.2.1 bt130.2.2 4).bind fun bt133 => ((spec_l1Below.f s0_0 bt133.2.1 bt133.2.2 2).bind fun bt136 => (some (bt124.1, bt127.1, bt130.1, bt121.1, Int.tmod (wrap64 ((wrap64 (bt121.1 + 1)) + bt133.1)) 5, bt136.1, bt136.2.1, bt136.2.2)))))))
theorem spec_l24Packet.calls (g : Nat) (s0_0 : List Int) (s0_1 : Int) (s0_2 : Int) (r1 : Int) (r2 : Int) (r3 : Int) (r4 : Int) (r5 : Int) (r6 : Int) (r7 : Int) (r8 : Int) (w0 w : World) (hI : IsS53 w0 w g s0_0 s0_1 s0_2) (hB : Below w0.heap.size w0 w) (h : spec_l24Packet.f s0_0 s0_1 s0_2 = some (r1, r2, r3, r4, r5, r6, r7, r8)) :
    Calls Try.prog 23 #[.pointer (some ⟨g, 0, none⟩)] w fun e w' => e = .returned (.agg #[.int .i64 r1, .int .i64 r2, .int .i64 r3, .int .i64 r4, .int .i64 r5, .int .i64 r6]) ∧ IsS53 w0 w' g s0_0 r7 r8 ∧ Below w0.heap.size w0 w' ∧ KeepBut w w' g none := by
 have hu28 := Try.underlying28
 have HI0 := am hI
 have HK := am (KeepBut.refl w g none)
 have HL := am hB.size
 clear hI
 have HW0 := am hB.size
 have HB := am hB
 clear hB
 have H := h; unfold spec_l24Packet.f at H
 clear h
 obtain ⟨⟨t121, t122, t123⟩, A2, H⟩ := bnd H
 try dsimp only at H
 obtain ⟨⟨t124, t125, t126⟩, A3, H⟩ := bnd H
 try dsimp only at H
 obtain ⟨⟨t127, t128, t129⟩, A4, H⟩ := bnd H
 try dsimp only at H
 obtain ⟨⟨t130, t131, t132⟩, A5, H⟩ := bnd H
 try dsimp only at H
 obtain ⟨⟨t133, t134, t135⟩, A6, H⟩ := bnd H
 try dsimp only at H
 obtain ⟨⟨t136, t137, t138⟩, A7, H⟩ := bnd H
 try dsimp only at H
 simp only [Option.some.injEq, Prod.mk.injEq] at H
 obtain ⟨rfl, rfl, rfl, rfl, rfl, rfl, rfl, rfl⟩ := H
 go_enter Try.func23, Try.ntmps23
 go_wp2_with (first | ((with_reducible refine gd 2 rfl ?_); refine bx 2 #[.int .i64 0, .int .i64 0, .int .i64 0, .int .i64 0, .int .i64 0, .int .i64 0] 28 ?_; intro gb120 hg w8 hbox hb; replace HB := am (below_step (by exact sj53 HB HI0) hb); have BK120 := am hbox; have GW120 := am ((a2_11 : w.heap.size ≤ gb120)); have GE120 := am ((Nat.le_trans HW0.out (a2_11 : w.heap.size ≤ gb120) : w0.heap.size ≤ gb120)); replace HK := am (KeepBut.trans (by exact kp HK) (KeepBut.of_below hb g none) (.inl rfl)); have NB0_120 := am ((a2_12 : g ≠ gb120)); have NB120_0 := am ((a2_13 : gb120 ≠ g)); replace HI0 := am (IsS53.below (by exact si53 HI0) hb); clear hb hbox hg) | ((with_reducible refine gc 20 rfl ?_); refine gL (some 5) Try.func20 #[.pointer (some ⟨g, 0, none⟩), .int .i64 5] ?_; (with_reducible refine (spec_l1Below.calls g s0_0 s0_1 s0_2 5 t121 t122 t123 w0 _ ?side1 ?side2 A2.out).mono ?_); (case side1 => repeat (first | (with_reducible first | exact HI0.out | apply IsS53.alloc | apply IsS53.drewN | apply IsS53.drew | apply IsS53.set_1 | apply IsS53.set_2 | refine IsS53.far ?_ NB0_120.out _) | exact HI0.out)); (case side2 => repeat (first | (with_reducible first | exact HB.out | apply below_alloc | apply pw_below_drewN | apply below_drew1 | refine below_set ?_ (IsS53.ge HI0.out) | refine below_set ?_ GE120.out) | exact HB.out)); rintro e w9 ⟨rfl, hi, hb, hk⟩; refine ⟨_, rfl, ?_⟩; replace BK120 := am (KeepBut.blk hk (g' := gb120) (o := .cells #[.int .i64 0, .int .i64 0, .int .i64 0, .int .i64 0, .int .i64 0, .int .i64 0] 28 (0, 0)) (sk BK120) NB120_0.out (by simp)); replace HK := am (KeepBut.trans a2_3 hk (.inl rfl)); replace HB := am hb; replace HI0 := am hi; (try clear hb); (try clear hk); (try clear hi)) | ((with_reducible refine gc 20 rfl ?_); refine gL (some 7) Try.func20 #[.pointer (some ⟨g, 0, none⟩), .int .i64 20] ?_; (with_reducible refine (spec_l1Below.calls g s0_0 t122 t123 20 t124 t125 t126 w0 _ ?side1 ?side2 A3.out).mono ?_); (case side1 => repeat (first | (with_reducible first | exact HI0.out | apply IsS53.alloc | apply IsS53.drewN | apply IsS53.drew | apply IsS53.set_1 | apply IsS53.set_2 | refine IsS53.far ?_ NB0_120.out _) | exact HI0.out)); (case side2 => repeat (first | (with_reducible first | exact HB.out | apply below_alloc | apply pw_below_drewN | apply below_drew1 | refine below_set ?_ (IsS53.ge HI0.out) | refine below_set ?_ GE120.out) | exact HB.out)); rintro e w10 ⟨rfl, hi, hb, hk⟩; refine ⟨_, rfl, ?_⟩; replace BK120 := am (KeepBut.blk hk (g' := gb120) (o := .cells #[.int .i64 0, .int .i64 0, .int .i64 0, .int .i64 0, .int .i64 0, .int .i64 0] 28 (0, 0)) (sk BK120) NB120_0.out (by simp)); replace HK := am (KeepBut.trans a2_3 hk (.inl rfl)); replace HB := am hb; replace HI0 := am hi; (try clear hb); (try clear hk); (try clear hi)) | ((with_reducible refine gc 20 rfl ?_); refine gL (some 9) Try.func20 #[.pointer (some ⟨g, 0, none⟩), .int .i64 3] ?_; (with_reducible refine (spec_l1Below.calls g s0_0 t125 t126 3 t127 t128 t129 w0 _ ?side1 ?side2 A4.out).mono ?_); (case side1 => repeat (first | (with_reducible first | exact HI0.out | apply IsS53.alloc | apply IsS53.drewN | apply IsS53.drew | apply IsS53.set_1 | apply IsS53.set_2 | refine IsS53.far ?_ NB0_120.out _) | exact HI0.out)); (case side2 => repeat (first | (with_reducible first | exact HB.out | apply below_alloc | apply pw_below_drewN | apply below_drew1 | refine below_set ?_ (IsS53.ge HI0.out) | refine below_set ?_ GE120.out) | exact HB.out)); rintro e w11 ⟨rfl, hi, hb, hk⟩; refine ⟨_, rfl, ?_⟩; replace BK120 := am (KeepBut.blk hk (g' := gb120) (o := .cells #[.int .i64 0, .int .i64 0, .int .i64 0, .int .i64 0, .int .i64 0, .int .i64 0] 28 (0, 0)) (sk BK120) NB120_0.out (by simp)); replace HK := am (KeepBut.trans a2_3 hk (.inl rfl)); replace HB := am hb; replace HI0 := am hi; (try clear hb); (try clear hk); (try clear hi)) | ((with_reducible refine gc 20 rfl ?_); refine gL (some 11) Try.func20 #[.pointer (some ⟨g, 0, none⟩), .int .i64 5] ?_; (with_reducible refine (spec_l1Below.calls g s0_0 t128 t129 5 t130 t131 t132 w0 _ ?side1 ?side2 A5.out).mono ?_); (case side1 => repeat (first | (with_reducible first | exact HI0.out | apply IsS53.alloc | apply IsS53.drewN | apply IsS53.drew | apply IsS53.set_1 | apply IsS53.set_2 | refine IsS53.far ?_ NB0_120.out _) | exact HI0.out)); (case side2 => repeat (first | (with_reducible first | exact HB.out | apply below_alloc | apply pw_below_drewN | apply below_drew1 | refine below_set ?_ (IsS53.ge HI0.out) | refine below_set ?_ GE120.out) | exact HB.out)); rintro e w12 ⟨rfl, hi, hb, hk⟩; refine ⟨_, rfl, ?_⟩; replace BK120 := am (KeepBut.blk hk (g' := gb120) (o := .cells #[.int .i64 0, .int .i64 0, .int .i64 0, .int .i64 0, .int .i64 0, .int .i64 0] 28 (0, 0)) (sk BK120) NB120_0.out (by simp)); replace HK := am (KeepBut.trans a2_3 hk (.inl rfl)); replace HB := am hb; replace HI0 := am hi; (try clear hb); (try clear hk); (try clear hi)) | ((with_reducible refine gc 20 rfl ?_); refine gL (some 16) Try.func20 #[.pointer (some ⟨g, 0, none⟩), .int .i64 4] ?_; (with_reducible refine (spec_l1Below.calls g s0_0 t131 t132 4 t133 t134 t135 w0 _ ?side1 ?side2 A6.out).mono ?_); (case side1 => repeat (first | (with_reducible first | exact HI0.out | apply IsS53.alloc | apply IsS53.drewN | apply IsS53.drew | apply IsS53.set_1 | apply IsS53.set_2 | refine IsS53.far ?_ NB0_120.out _) | exact HI0.out)); (case side2 => repeat (first | (with_reducible first | exact HB.out | apply below_alloc | apply pw_below_drewN | apply below_drew1 | refine below_set ?_ (IsS53.ge HI0.out) | refine below_set ?_ GE120.out) | exact HB.out)); rintro e w13 ⟨rfl, hi, hb, hk⟩; refine ⟨_, rfl, ?_⟩; replace BK120 := am (KeepBut.blk hk (g' := gb120) (o := .cells #[.int .i64 0, .int .i64 0, .int .i64 0, .int .i64 0, .int .i64 0, .int .i64 0] 28 (0, 0)) (sk BK120) NB120_0.out (by simp)); replace HK := am (KeepBut.trans a2_3 hk (.inl rfl)); replace HB := am hb; replace HI0 := am hi; (try clear hb); (try clear hk); (try clear hi)) | ((with_reducible refine gc 20 rfl ?_); refine gL (some 20) Try.func20 #[.pointer (some ⟨g, 0, none⟩), .int .i64 2] ?_; (with_reducible refine (spec_l1Below.calls g s0_0 t134 t135 2 t136 t137 t138 w0 _ ?side1 ?side2 A7.out).mono ?_); (case side1 => repeat (first | (with_reducible first | exact HI0.out | apply IsS53.alloc | apply IsS53.drewN | apply IsS53.drew | apply IsS53.set_1 | apply IsS53.set_2 | refine IsS53.far ?_ NB0_120.out _) | exact HI0.out)); (case side2 => repeat (first | (with_reducible first | exact HB.out | apply below_alloc | apply pw_below_drewN | apply below_drew1 | refine below_set ?_ (IsS53.ge HI0.out) | refine below_set ?_ GE120.out) | exact HB.out)); rintro e w14 ⟨rfl, hi, hb, hk⟩; refine ⟨_, rfl, ?_⟩; replace BK120 := am (KeepBut.blk hk (g' := gb120) (o := .cells #[.int .i64 0, .int .i64 0, .int .i64 0, .int .i64 0, .int .i64 0, .int .i64 0] 28 (0, 0)) (sk BK120) NB120_0.out (by simp)); replace HK := am (KeepBut.trans a2_3 hk (.inl rfl)); replace HB := am hb; replace HI0 := am hi; (try clear hb); (try clear hk); (try clear hi); have hnb15 := NB120_0.out; have hnc15 := NB0_120.out; obtain ⟨hcz16_0, hcz16_1, hcz16_2, hcz16_3, hcz16_4, hcz16_5, hfz16_0, hfz16_1, hfz16_2, hfz16_3, hfz16_4, hfz16_5⟩ := cc6 BK120))
 refine bodyPost_ret (results_cell_row rfl _ _ gb120 28 #[.int .i64 t124, .int .i64 t127, .int .i64 t130, .int .i64 t121, .int .i64 (Int.tmod (wrap64 ((wrap64 (t121 + 1)) + t133)) 5), .int .i64 t136] (0, 0) _ rfl (sp BK120) Try.underlying28 rfl (by kernel_rfl)) rfl ?_
 exact ⟨se, by repeat (first | (with_reducible first | exact HI0.out | apply IsS53.alloc | apply IsS53.drewN | apply IsS53.drew | apply IsS53.set_1 | apply IsS53.set_2 | refine IsS53.far ?_ NB0_120.out _) | exact HI0.out), by repeat (first | (with_reducible first | exact HB.out | apply below_alloc | apply pw_below_drewN | apply below_drew1 | refine below_set ?_ (IsS53.ge HI0.out) | refine below_set ?_ GE120.out) | exact HB.out), a2_3⟩

def spec_l24Copy.f (l0_0 : List (S28)) : Option ((List (S28))) := (some (([] : List (S28)) : List (S28))).bind fun y141 => (if y141.length + l0_0.length < 2932031007402 then (some (y141 ++ l0_0)) else (none))
theorem spec_l24Copy.calls (A0_0 : Option Addr) (c0_0 : Nat) (l0_0 : List (S28)) (r : List (S28)) (w : World) (hr0_0 : Kd.C k28 w A0_0 l0_0.length l0_0) (hc0_0 : l0_0.length ≤ c0_0) (h : spec_l24Copy.f l0_0 = some r) :
    Calls Try.prog 28 #[.agg #[.slice A0_0 l0_0.length c0_0]] w fun e w' => ∃ v0_ : Value, e = .returned (.agg #[v0_]) ∧ Kd.R k28 28 w' w.heap.size (fun _ => True) v0_ r ∧ Below w.heap.size w w' := by
 have hu26 := Try.underlying26
 have HR0_0 := am hr0_0
 have HC0_0 := am hc0_0
 clear hr0_0 hc0_0
 have HB := am (Below.refl w.heap.size w)
 have H := h; unfold spec_l24Copy.f at H
 clear h
 obtain ⟨y141, Ny141, H⟩ := iy_ H
 obtain ⟨LMc2, H⟩ := il_ H
 obtain ⟨y144, hy144⟩ : ∃ y_ : List (S28), y_ = (y141 ++ l0_0) := ⟨_, rfl⟩
 replace H : (some y144) = some r := ry hy144 H
 have Ny144 := am hy144
 clear hy144
 obtain rfl := Option.some.inj H
 go_enter Try.func28, Try.ntmps28
 go_wp2_with (first | ((with_reducible refine gd 1 rfl ?_); refine bx 1 #[.slice A0_0 l0_0.length c0_0] 26 ?_; intro gb139 hg w3 hbox hb; have GW139 := bz w hg; have GE139 := bz w hg; replace HB := bs hb; have BK139 := am hbox; clear hb hbox hg) | ((with_reducible refine gd 2 rfl ?_); refine bx 2 #[.slice none 0 0] 26 ?_; intro gb140 hg w4 hbox hb; have GW140 := bzw w hg; have GE140 := bzw w hg; replace HB := bsw hb; have BK140 := am hbox; have NB139_140 := nl BK139 hg; have NB140_139 := ng BK139 hg; replace BK139 := bb BK139 hb; clear hb hbox hg) | ((with_reducible refine gd 3 rfl ?_); refine Kd.R_lit k28 _ 28 ?hg (N := 3) ?hd (xs := ([] : List (S28))) (inner := []) (ok := fun _ => True) (okp := fun _ => True) ?hr ?hp (fun _ hk => hk) trivial (Below.refl _ _) (Nat.le_refl _) (by simp) ?_; (case hd => rfl); (case hg => rfl); (case hr => first | (go_simp; done) | (go_simp; rfl)); (case hp => exact (Reps.none _ _)); intro v142 w5 ho6 hb hg_ hnew_; clear hg_ hnew_; (first | rw [← Ny141.out] at ho6 | (simp only [Int.reduceToNat] at ho6; rw [← Ny141.out] at ho6)); have HO143 := am (Kd.R_lower ho6 (below_size (sbw))); replace BK139 := bb BK139 hb; replace BK140 := bb BK140 hb; replace HB := bsw hb; clear hb ho6; have hnb7 := NB139_140.out; have hnc7 := NB140_139.out; obtain ⟨hcz8_0, hfz8_0⟩ := cc1 BK139) | ((with_reducible refine gate_builtin (b := .append) (xs := #[.tmp 3, .tmp 5]) rfl ?_); at_builtin; refine Kd.R_append_rows k28 (w0 := w) w.heap.size rfl (.tmp 3) (.tmp 5) 24 28 (.agg #[(.int .i64 0), (.int .i64 0), (.int .i64 0), (.int .i64 0), (.int .i64 0), (.int .i64 0)]) 48 rfl Try.underlying24 info28 rfl (by decide) (by omega) v142 y141 l0_0 _ _ _ (fun _ => True) (fun _ => False) rfl rfl ?aO ?aR (fun _ _ h => h) (fun _ h => h.elim) ?aF ?aB ?aS ?aL ?_; (case aR => repeat (first | exact (Kd.C_below HR0_0.out HB.out) | (with_reducible refine Kd.C_alloc ?_ _) | (with_reducible refine Kd.C_drewN ?_ _) | (with_reducible refine Kd.C_drew ?_))); (case aB => exact (sbw)); (case aF => exact (fun _ _ => trivial)); (case aO => exact (sr HO143)); (case aS => exact (below_size (sbw))); (case aL => have := LMc2.out; omega); intro v145 w9 ho hb hg hat; rw [← Ny144.out] at ho; replace BK139 := am (blk_grown (g := gb139) (o := .cells #[.slice A0_0 l0_0.length c0_0] 26 (0, 0)) (sk BK139) hg (Kd.R_ne HO143.out BK139.out (by decide))); replace BK140 := am (blk_grown (g := gb140) (o := .cells #[.slice none 0 0] 26 (0, 0)) (sk BK140) hg (Kd.R_ne HO143.out BK140.out (by decide))); replace HB := am hb; have HO146 := am ho; clear HO143; clear ho hb hg hat; obtain ⟨Ao10, co10, eo10⟩ := Kd.R_slice HO146.out; subst eo10; obtain ⟨hcz11_0, hfz11_0⟩ := cc1 BK140))
 refine bodyPost_ret (results_cell_row rfl _ _ gb140 26 #[.slice Ao10 y144.length co10] (0, 0) _ rfl (sp BK140) Try.underlying26 rfl (by kernel_rfl)) rfl ?_
 exact ⟨_, se, by (with_reducible repeat (first | apply Kd.R_alloc | apply Kd.R_drewN | apply Kd.R_drew)); exact Kd.R_mono (Kd.R_far (p := ⟨gb140, 0, none⟩) (Kd.R_types HO146.out BK140.out (by decide)) (fun _ hk => hk.2) (.slice Ao10 y144.length co10)) (fun _ hk => trivial), sbw⟩

def spec_FindPacket.l0 : Nat → Int → Int → List (S28) → Option (Int)
  | 0, _, _, _ => none
  | k + 1, x1, x5, x148000 => if x5 < (x148000.length : Int) then (if 0 ≤ x5 then (if ((rd_T28 x148000 x5).f0) = x1 then (some x5) else (spec_FindPacket.l0 k x1 (wrap64 (x5 + 1)) x148000)) else (none)) else (some (-1))
def spec_FindPacket.f (k : Nat) (l0_0 : List (S28)) (a1 : Int) : Option (Int) := spec_FindPacket.l0 k a1 0 l0_0
theorem spec_FindPacket.mono_l : ∀ k, (∀ y0 y1 y2, LeO (spec_FindPacket.l0 k y0 y1 y2) (spec_FindPacket.l0 (k + 1) y0 y1 y2))
  | 0 => fun _ _ _ r h => by simp [spec_FindPacket.l0] at h
  | k + 1 => by
    have ih0 := spec_FindPacket.mono_l k
    · intro y0 y1 y2
      unfold spec_FindPacket.l0
      exact mo
theorem spec_FindPacket.mono : ∀ a0 a1 k, LeO (spec_FindPacket.f k a0 a1) (spec_FindPacket.f (k + 1) a0 a1) := by
  intro a0 a1 k
  have ih0 := spec_FindPacket.mono_l k
  unfold spec_FindPacket.f
  exact mo
theorem spec_FindPacket.calls (k : Nat) (A0_0 : Option Addr) (c0_0 : Nat) (l0_0 : List (S28)) (a1 : Int) (r : Int) (w : World) (hr0_0 : Kd.C k28 w A0_0 l0_0.length l0_0) (hc0_0 : l0_0.length ≤ c0_0) (h : spec_FindPacket.f k l0_0 a1 = some r) :
    Calls Try.prog 29 #[.agg #[.slice A0_0 l0_0.length c0_0], .int .i64 a1] w fun e w' => e = .returned (.int .i64 r) ∧ Below w.heap.size w w' := by
 have hu26 := Try.underlying26
 have HR0_0 := am hr0_0
 have HC0_0 := am hc0_0
 clear hr0_0 hc0_0
 have HB := am (Below.refl w.heap.size w)
 have H := h; unfold spec_FindPacket.f at H
 clear h
 have H' := am H
 clear H
 go_enter Try.func29, Try.ntmps29
 go_wp2_with (first | ((with_reducible refine gd 2 rfl ?_); refine bx 2 #[.slice A0_0 l0_0.length c0_0] 26 ?_; intro gb147 hg w3 hbox hb; have GW147 := bz w hg; have GE147 := bz w hg; replace HB := bs hb; have BK147 := am hbox; clear hb hbox hg))
 go_loopg [5] k (fun kq v5 w' => ∃ (x5_1 : Int), v5 = .int .i64 x5_1 ∧ Aside0 (spec_FindPacket.l0 kq a1 x5_1 l0_0 = some r) ∧ Aside0 (kq ≤ k) ∧ Aside0 (w'.heap[gb147]? = some (.cells #[(.slice A0_0 l0_0.length c0_0)] 26 (0, 0))) ∧ Aside0 (Below w.heap.size w w'))
 case atStart => exact ⟨(0), sc, H', kk0, ⟨sk BK147⟩, ⟨sbw⟩⟩
 case round =>
  clear H'
  obtain ⟨x5_1, rfl, HA, HK1, BK147, HB⟩ := hrel
  cases gk with
  | zero => exact absurd HA.out (by simp [spec_FindPacket.l0])
  | succ k1 =>
   have H := HA.out
   clear HA
   simp only [spec_FindPacket.l0] at H
   obtain ⟨-, c4b0, H⟩ | ⟨-, c4b0, H⟩ := ic_ H
   ·obtain ⟨c5b0, H⟩ := id_ H
    obtain ⟨-, c6b0, c6b1, H⟩ | ⟨c6, c6b0, c6b1, H⟩ := ib_ H
    ·obtain rfl := Option.some.inj H
     obtain ⟨hcz7_0, hfz7_0⟩ := cc1 BK147
     obtain ⟨p148, q148, ad148, e148, _, _, _, _, _, _, hx148_0, hx148_1, hx148_2, hx148_3, hx148_4, hx148_5⟩ := aT_T28 HR0_0 HB x5_1
     cases e148
     go_wp2
     go_ret
     exact ⟨se, sbw⟩
    ·have H' := am H
     clear H
     obtain ⟨hcz8_0, hfz8_0⟩ := cc1 BK147
     obtain ⟨p148, q148, ad148, e148, _, _, _, _, _, _, hx148_0, hx148_1, hx148_2, hx148_3, hx148_4, hx148_5⟩ := aT_T28 HR0_0 HB x5_1
     cases e148
     go_wp2
     go_roundg k1
     case measure => have := HK1.out; omega
     case rel => exact ⟨(wrap64 (x5_1 + 1)), sc, H', kk1, ⟨sk BK147⟩, ⟨sbw⟩⟩
   ·obtain rfl := Option.some.inj H
    obtain ⟨hcz9_0, hfz9_0⟩ := cc1 BK147
    go_wp2
    go_ret
    exact ⟨se, sbw⟩

def spec_PushPacket.f (k : Nat) (l0_0 : List (S28)) (a1_0 : Int) (a1_1 : Int) (a1_2 : Int) (a1_3 : Int) (a1_4 : Int) (a1_5 : Int) : Option ((List (S28)) × Bool) := (spec_l24Copy.f l0_0).bind fun t152 => (if (l0_0.length : Int) ≥ 12 then (some (t152, false)) else ((spec_FindPacket.f k l0_0 a1_0).bind fun t156 => (if t156 ≥ 0 then (some (t152, false)) else (if t152.length < 2932031007402 then (some ((t152 ++ [(⟨a1_0, a1_1, a1_2, a1_3, a1_4, a1_5⟩ : S28)]), true)) else (none)))))
theorem spec_PushPacket.mono : ∀ a0 a1 a2 a3 a4 a5 a6 k, LeO (spec_PushPacket.f k a0 a1 a2 a3 a4 a5 a6) (spec_PushPacket.f (k + 1) a0 a1 a2 a3 a4 a5 a6) := by
  intro a0 a1 a2 a3 a4 a5 a6 k
  unfold spec_PushPacket.f
  have m0 := @spec_FindPacket.mono
  exact mo
theorem e2_1 {P : Prop} (h : P := by
 go_enter Try.func24, Try.ntmps24
 go_wp2_with (first | ((with_reducible refine gd 2 rfl ?_); refine bx 2 #[.slice A0_0 l0_0.length c0_0] 26 ?_; intro gb149 hg w5 hbox hb; have GW149 := bz w hg; have GE149 := bz w hg; replace HB := bs hb; have BK149 := am hbox; clear hb hbox hg) | ((with_reducible refine gd 3 rfl ?_); refine bx 3 #[.int .i64 a1_0, .int .i64 a1_1, .int .i64 a1_2, .int .i64 a1_3, .int .i64 a1_4, .int .i64 a1_5] 28 ?_; intro gb150 hg w6 hbox hb; have GW150 := bzw w hg; have GE150 := bzw w hg; replace HB := bsw hb; have BK150 := am hbox; have NB149_150 := nl BK149 hg; have NB150_149 := ng BK149 hg; replace BK149 := bb BK149 hb; clear hb hbox hg) | ((with_reducible refine gd 4 rfl ?_); refine bx 4 #[.slice none 0 0] 26 ?_; intro gb151 hg w7 hbox hb; have GW151 := bzw w hg; have GE151 := bzw w hg; replace HB := bsw hb; have BK151 := am hbox; have NB149_151 := nl BK149 hg; have NB151_149 := ng BK149 hg; replace BK149 := bb BK149 hb; have NB150_151 := nl BK150 hg; have NB151_150 := ng BK150 hg; replace BK150 := bb BK150 hb; clear hb hbox hg; have hnb8 := NB149_150.out; have hnc8 := NB150_149.out; have hnb9 := NB149_151.out; have hnc9 := NB151_149.out; obtain ⟨hcz10_0, hfz10_0⟩ := cc1 BK149) | (have _ := A21; (with_reducible refine gc 28 rfl ?_); refine gL (some 8) Try.func28 #[.agg #[.slice A0_0 l0_0.length c0_0]] ?_; (with_reducible refine (spec_l24Copy.calls _ _ l0_0 t152 _ ?side1 ?side2 A3.out).mono ?_); (case side1 => exact cb HR0_0); (case side2 => exact HC0_0.out); rintro e w29 ⟨v153, rfl, ho0, hb⟩; refine ⟨_, rfl, ?_⟩; have HO154 := am (Kd.R_lower (Kd.R_newB ho0 (g := gb150) (o := .cells #[.int .i64 a1_0, .int .i64 a1_1, .int .i64 a1_2, .int .i64 a1_3, .int .i64 a1_4, .int .i64 a1_5] 28 (0, 0)) (sk BK150)) (below_size (sbw))); replace BK149 := bb BK149 hb; replace BK150 := bb BK150 hb; replace BK151 := bb BK151 hb; replace HB := bsw hb; (try clear hb); (try clear hk); (try clear ho0)) | (have _ := y157; go_at_call 29; (with_reducible refine (spec_FindPacket.calls k _ _ l0_0 a1_0 t156 _ ?side1 ?side2 A21.out).mono ?_); (case side1 => exact Kd.C_below HR0_0.out (sbw)); (case side2 => exact HC0_0.out); rintro e w59 ⟨rfl, hb⟩; replace HO154 := am (Kd.R_below a2_10 hb); replace BK149 := am (blk_below (g := gb149) (o := .cells #[.slice A0_0 l0_0.length c0_0] 26 (0, 0)) (sp BK149) hb); replace BK150 := am (blk_below (g := gb150) (o := .cells #[.int .i64 a1_0, .int .i64 a1_1, .int .i64 a1_2, .int .i64 a1_3, .int .i64 a1_4, .int .i64 a1_5] 28 (0, 0)) (sp BK150) hb); replace BK151 := am (blk_below (g := gb151) (o := .cells #[.slice none 0 0] 26 (0, 0)) (sp BK151) hb); replace BK155 := am (blk_below (g := gb155) (o := .cells #[.slice Ao31 t152.length co31] 26 (0, 0)) (sp BK155) hb); replace HB := bsw hb; (try clear hb); (try clear hk); obtain ⟨hcz60_0, hfz60_0⟩ := cc1 BK155; obtain ⟨hcz61_0, hcz61_1, hcz61_2, hcz61_3, hcz61_4, hcz61_5, hfz61_0, hfz61_1, hfz61_2, hfz61_3, hfz61_4, hfz61_5⟩ := cc6 BK150) | (have _ := y157; (with_reducible refine gate_builtin (b := .append) (xs := #[.tmp 22, .tmp 24]) rfl ?_); at_builtin; refine Kd.R_append k28 (w0 := w) w.heap.size rfl (.tmp 22) (.tmp 24) 24 28 (.agg #[(.int .i64 0), (.int .i64 0), (.int .i64 0), (.int .i64 0), (.int .i64 0), (.int .i64 0)]) 48 rfl Try.underlying24 info28 rfl (by decide) (by omega) (.slice Ao31 t152.length co31) t152 (⟨a1_0, a1_1, a1_2, a1_3, a1_4, a1_5⟩ : S28) [.int .i64 a1_0, .int .i64 a1_1, .int .i64 a1_2, .int .i64 a1_3, .int .i64 a1_4, .int .i64 a1_5] (fun k_ => k_ ≠ gb150) (fun _ => False) rfl rfl ?aP (fun _ hk => hk.elim) ?aF ?aO ?aB ?aS ?aL ?_; (case aP => exact k28_mkM _ _ _ (⟨a1_0, a1_1, a1_2, a1_3, a1_4, a1_5⟩ : S28)); (case aB => exact (sbw)); (case aF => exact (fun k_ hk => Kd.freshB (g := gb150) (o := .cells #[.int .i64 a1_0, .int .i64 a1_1, .int .i64 a1_2, .int .i64 a1_3, .int .i64 a1_4, .int .i64 a1_5] 28 (0, 0)) (sk BK150) k_ hk)); (case aO => exact (by exact rm HO154 (fun _ hk => hk.2))); (case aS => exact (below_size (sbw))); (case aL => have := LMc42.out; omega); intro v158 w62 ho hb hg hat; rw [← Ny157.out] at ho; replace BK149 := am (blk_grown (g := gb149) (o := .cells #[.slice A0_0 l0_0.length c0_0] 26 (0, 0)) (sk BK149) hg (Kd.R_ne HO154.out BK149.out (by decide))); replace BK150 := am (blk_grown (g := gb150) (o := .cells #[.int .i64 a1_0, .int .i64 a1_1, .int .i64 a1_2, .int .i64 a1_3, .int .i64 a1_4, .int .i64 a1_5] 28 (0, 0)) (sk BK150) hg (Kd.R_away HO154.out (fun _ hk => hk.2))); replace BK151 := am (blk_grown (g := gb151) (o := .cells #[.slice none 0 0] 26 (0, 0)) (sk BK151) hg (Kd.R_ne HO154.out BK151.out (by decide))); replace BK155 := am (blk_grown (g := gb155) (o := .cells #[.slice Ao31 t152.length co31] 26 (0, 0)) (sk BK155) hg (Kd.R_ne HO154.out BK155.out (by decide))); replace HB := am hb; have HO159 := am ho; clear HO154; clear ho hb hg hat; obtain ⟨Ao63, co63, eo63⟩ := Kd.R_slice HO159.out; subst eo63; obtain ⟨hcz64_0, hfz64_0⟩ := cc1 BK155; obtain ⟨hcz65_0, hfz65_0⟩ := cc1 BK151) | (have _ := A21; go_at_call 29; (with_reducible refine (spec_FindPacket.calls k _ _ l0_0 a1_0 t156 _ ?side1 ?side2 A21.out).mono ?_); (case side1 => exact Kd.C_below HR0_0.out (sbw)); (case side2 => exact HC0_0.out); rintro e w39 ⟨rfl, hb⟩; replace HO154 := am (Kd.R_below a2_10 hb); replace BK149 := am (blk_below (g := gb149) (o := .cells #[.slice A0_0 l0_0.length c0_0] 26 (0, 0)) (sp BK149) hb); replace BK150 := am (blk_below (g := gb150) (o := .cells #[.int .i64 a1_0, .int .i64 a1_1, .int .i64 a1_2, .int .i64 a1_3, .int .i64 a1_4, .int .i64 a1_5] 28 (0, 0)) (sp BK150) hb); replace BK151 := am (blk_below (g := gb151) (o := .cells #[.slice none 0 0] 26 (0, 0)) (sp BK151) hb); replace BK155 := am (blk_below (g := gb155) (o := .cells #[.slice Ao31 t152.length co31] 26 (0, 0)) (sp BK155) hb); replace HB := bsw hb; (try clear hb); (try clear hk); obtain ⟨hcz40_0, hfz40_0⟩ := cc1 BK155; obtain ⟨hcz41_0, hfz41_0⟩ := cc1 BK151) | ((with_reducible refine gc 28 rfl ?_); refine gL (some 8) Try.func28 #[.agg #[.slice A0_0 l0_0.length c0_0]] ?_; (with_reducible refine (spec_l24Copy.calls _ _ l0_0 t152 _ ?side1 ?side2 A3.out).mono ?_); (case side1 => exact cb HR0_0); (case side2 => exact HC0_0.out); rintro e w11 ⟨v153, rfl, ho0, hb⟩; refine ⟨_, rfl, ?_⟩; have HO154 := am (Kd.R_lower (Kd.R_newB ho0 (g := gb150) (o := .cells #[.int .i64 a1_0, .int .i64 a1_1, .int .i64 a1_2, .int .i64 a1_3, .int .i64 a1_4, .int .i64 a1_5] 28 (0, 0)) (sk BK150)) (below_size (sbw))); replace BK149 := bb BK149 hb; replace BK150 := bb BK150 hb; replace BK151 := bb BK151 hb; replace HB := bsw hb; (try clear hb); (try clear ho0)) | (have _ := A21; (with_reducible refine gd 6 rfl ?_); refine bx 6 #[.slice none 0 0] 26 ?_; intro gb155 hg w30 hbox hb; replace HO154 := rb HO154 hb; have GW155 := bzw w hg; have GE155 := bzw w hg; replace HB := bsw hb; have BK155 := am hbox; have NB149_155 := nl BK149 hg; have NB155_149 := ng BK149 hg; replace BK149 := bb BK149 hb; have NB150_155 := nl BK150 hg; have NB155_150 := ng BK150 hg; replace BK150 := bb BK150 hb; have NB151_155 := nl BK151 hg; have NB155_151 := ng BK151 hg; replace BK151 := bb BK151 hb; clear hb hbox hg; obtain ⟨Ao31, co31, eo31⟩ := Kd.R_slice HO154.out; subst eo31; have hnb32 := NB155_149.out; have hnc32 := NB149_155.out; have hnb33 := NB155_150.out; have hnc33 := NB150_155.out; have hnb34 := NB155_151.out; have hnc34 := NB151_155.out; obtain ⟨hcz35_0, hfz35_0⟩ := cc1 BK155; obtain ⟨hcz36_0, hfz36_0⟩ := cc1 BK149; have hnb37 := NB150_151.out; have hnc37 := NB151_150.out; obtain ⟨hcz38_0, hcz38_1, hcz38_2, hcz38_3, hcz38_4, hcz38_5, hfz38_0, hfz38_1, hfz38_2, hfz38_3, hfz38_4, hfz38_5⟩ := cc6 BK150) | ((with_reducible refine gd 6 rfl ?_); refine bx 6 #[.slice none 0 0] 26 ?_; intro gb155 hg w12 hbox hb; replace HO154 := rb HO154 hb; have GW155 := bzw w hg; have GE155 := bzw w hg; replace HB := bsw hb; have BK155 := am hbox; have NB149_155 := nl BK149 hg; have NB155_149 := ng BK149 hg; replace BK149 := bb BK149 hb; have NB150_155 := nl BK150 hg; have NB155_150 := ng BK150 hg; replace BK150 := bb BK150 hb; have NB151_155 := nl BK151 hg; have NB155_151 := ng BK151 hg; replace BK151 := bb BK151 hb; clear hb hbox hg; obtain ⟨Ao13, co13, eo13⟩ := Kd.R_slice HO154.out; subst eo13; have hnb14 := NB155_149.out; have hnc14 := NB149_155.out; have hnb15 := NB155_150.out; have hnc15 := NB150_155.out; have hnb16 := NB155_151.out; have hnc16 := NB151_155.out; obtain ⟨hcz17_0, hfz17_0⟩ := cc1 BK155; obtain ⟨hcz18_0, hfz18_0⟩ := cc1 BK149; have hnb19 := NB151_150.out; have hnc19 := NB150_151.out; obtain ⟨hcz20_0, hfz20_0⟩ := cc1 BK151))
 first
 | have _ := y157
   refine bodyPost_ret (results_ct rfl _ _ gb151 26 #[.slice Ao63 y157.length co63] (0, 0) _ rfl (sp BK151) Try.underlying26 rfl (by kernel_rfl)) rfl ?_
   exact ⟨_, se, by (with_reducible repeat (first | apply Kd.R_alloc | apply Kd.R_drewN | apply Kd.R_drew)); exact Kd.R_mono (Kd.R_far (p := ⟨gb151, 0, none⟩) (Kd.R_far (p := ⟨gb155, 0, none⟩) (Kd.R_types (Kd.R_types HO159.out BK155.out (by decide)) BK151.out (by decide)) (fun _ hk => hk.1.2) (.slice Ao63 y157.length co63)) (fun _ hk => hk.2) (.slice Ao63 y157.length co63)) (fun _ hk => trivial), sbw⟩
   
 | have _ := A21
   refine bodyPost_ret (results_ct rfl _ _ gb151 26 #[.slice Ao31 t152.length co31] (0, 0) _ rfl (sp BK151) Try.underlying26 rfl (by kernel_rfl)) rfl ?_
   exact ⟨_, se, by (with_reducible repeat (first | apply Kd.R_alloc | apply Kd.R_drewN | apply Kd.R_drew)); exact Kd.R_mono (Kd.R_far (p := ⟨gb151, 0, none⟩) (Kd.R_types HO154.out BK151.out (by decide)) (fun _ hk => hk.2) (.slice Ao31 t152.length co31)) (fun _ hk => trivial), sbw⟩
 | refine bodyPost_ret (results_ct rfl _ _ gb151 26 #[.slice Ao13 t152.length co13] (0, 0) _ rfl (sp BK151) Try.underlying26 rfl (by kernel_rfl)) rfl ?_
   exact ⟨_, se, by (with_reducible repeat (first | apply Kd.R_alloc | apply Kd.R_drewN | apply Kd.R_drew)); exact Kd.R_mono (Kd.R_far (p := ⟨gb151, 0, none⟩) (Kd.R_far (p := ⟨gb155, 0, none⟩) (Kd.R_types (Kd.R_types HO154.out BK155.out (by decide)) BK151.out (by decide)) (fun _ hk => hk.1.2) (.slice Ao13 t152.length co13)) (fun _ hk => hk.2) (.slice Ao13 t152.length co13)) (fun _ hk => trivial), sbw⟩) : P := h
theorem spec_PushPacket.calls (k : Nat) (A0_0 : Option Addr) (c0_0 : Nat) (l0_0 : List (S28)) (a1_0 : Int) (a1_1 : Int) (a1_2 : Int) (a1_3 : Int) (a1_4 : Int) (a1_5 : Int) (r1 : List (S28)) (r2 : Bool) (w : World) (hr0_0 : Kd.C k28 w A0_0 l0_0.length l0_0) (hc0_0 : l0_0.length ≤ c0_0) (h : spec_PushPacket.f k l0_0 a1_0 a1_1 a1_2 a1_3 a1_4 a1_5 = some (r1, r2)) :
    Calls Try.prog 24 #[.agg #[.slice A0_0 l0_0.length c0_0], .agg #[.int .i64 a1_0, .int .i64 a1_1, .int .i64 a1_2, .int .i64 a1_3, .int .i64 a1_4, .int .i64 a1_5]] w fun e w' => ∃ v0_ : Value, e = .returned (.tuple #[.agg #[v0_], .bool r2]) ∧ Kd.R k28 28 w' w.heap.size (fun _ => True) v0_ r1 ∧ Below w.heap.size w w' := by
 have hu26 := Try.underlying26
 have hu28 := Try.underlying28
 have HR0_0 := am hr0_0
 have HC0_0 := am hc0_0
 clear hr0_0 hc0_0
 have HB := am (Below.refl w.heap.size w)
 have H := h; unfold spec_PushPacket.f at H
 clear h
 obtain ⟨t152, A3, H⟩ := bnd H
 obtain ⟨c4, c4b0, H⟩ | ⟨c4, c4b0, H⟩ := ic_ H
 ·have c4b1 : decide (12 ≤ l0_0.length) = true := decide_eq_true (by omega)
  clear c4
  simp only [Option.some.injEq, Prod.mk.injEq] at H
  obtain ⟨rfl, rfl⟩ := H
  exact e2_1
 ·have c4b1 : decide (12 ≤ l0_0.length) = false := decide_eq_false (by omega)
  clear c4
  obtain ⟨t156, A21, H⟩ := bnd H
  obtain ⟨-, c22b0, H⟩ | ⟨-, c22b0, H⟩ := ic_ H
  ·simp only [Option.some.injEq, Prod.mk.injEq] at H
   obtain ⟨rfl, rfl⟩ := H
   exact e2_1
  ·obtain ⟨LMc42, H⟩ := il_ H
   obtain ⟨y157, hy157⟩ : ∃ y_ : List (S28), y_ = (t152 ++ [(⟨a1_0, a1_1, a1_2, a1_3, a1_4, a1_5⟩ : S28)]) := ⟨_, rfl⟩
   replace H : (some (y157, true)) = some (r1, r2) := ry hy157 H
   have Ny157 := am hy157
   clear hy157
   simp only [Option.some.injEq, Prod.mk.injEq] at H
   obtain ⟨rfl, rfl⟩ := H
   exact e2_1
mutual
def spec_l24Queue.j0 : Nat → Int → List Int → Int → Int → Option ((List (S28)) × Int × Int)
  | 0, _, _, _, _ => none
  | k + 1, x4, x1000, x1001, x1002 => spec_l24Queue.l0 k x4 0 x1000 x1001 x1002 ([] : List (S28))
def spec_l24Queue.l0 : Nat → Int → Int → List Int → Int → Int → List (S28) → Option ((List (S28)) × Int × Int)
  | 0, _, _, _, _, _, _ => none
  | k + 1, x4, x5, x1000, x1001, x1002, x162000 => if x5 < x4 then ((spec_l24Packet.f x1000 x1001 x1002).bind fun bt168 => ((spec_PushPacket.f k x162000 (wrap64 (20 + x5)) bt168.2.1 bt168.2.2.1 bt168.2.2.2.1 bt168.2.2.2.2.1 bt168.2.2.2.2.2.1).bind fun bt177 => (spec_l24Queue.l0 k x4 (wrap64 (x5 + 1)) x1000 bt168.2.2.2.2.2.2.1 bt168.2.2.2.2.2.2.2 bt177.1))) else (some (x162000, x1001, x1002))
end
def spec_l24Queue.f (k : Nat) (s0_0 : List Int) (s0_1 : Int) (s0_2 : Int) : Option ((List (S28)) × Int × Int) := (spec_l1Below.f s0_0 s0_1 s0_2 6).bind fun bt162 => ((spec_l1Once.f s0_0 bt162.2.1 bt162.2.2 8).bind fun bt165 => (if bt165.1 = true then (spec_l24Queue.j0 k 12 s0_0 bt165.2.1 bt165.2.2) else (spec_l24Queue.j0 k bt162.1 s0_0 bt165.2.1 bt165.2.2)))
theorem spec_l24Queue.mono_l : ∀ k, (∀ y0 y1 y2 y3, LeO (spec_l24Queue.j0 k y0 y1 y2 y3) (spec_l24Queue.j0 (k + 1) y0 y1 y2 y3)) ∧ (∀ y0 y1 y2 y3 y4 y5, LeO (spec_l24Queue.l0 k y0 y1 y2 y3 y4 y5) (spec_l24Queue.l0 (k + 1) y0 y1 y2 y3 y4 y5))
  | 0 => ⟨fun _ _ _ _ r h => by simp [spec_l24Queue.j0] at h, fun _ _ _ _ _ _ r h => by simp [spec_l24Queue.l0] at h⟩
  | k + 1 => by
    obtain ⟨ih0, ih1⟩ := spec_l24Queue.mono_l k
    refine ⟨?_, ?_⟩
    · intro y0 y1 y2 y3
      unfold spec_l24Queue.j0
      have m0 := @spec_PushPacket.mono
      exact mo
    · intro y0 y1 y2 y3 y4 y5
      unfold spec_l24Queue.l0
      have m0 := @spec_PushPacket.mono
      exact mo
theorem spec_l24Queue.mono : ∀ a0 a1 a2 k, LeO (spec_l24Queue.f k a0 a1 a2) (spec_l24Queue.f (k + 1) a0 a1 a2) := by
  intro a0 a1 a2 k
  obtain ⟨ih0, ih1⟩ := spec_l24Queue.mono_l k
  unfold spec_l24Queue.f
  have m0 := @spec_PushPacket.mono
  exact mo
theorem spec_l24Queue.calls (k : Nat) (g : Nat) (s0_0 : List Int) (s0_1 : Int) (s0_2 : Int) (r1 : List (S28)) (r2 : Int) (r3 : Int) (w0 w : World) (hI : IsS53 w0 w g s0_0 s0_1 s0_2) (hB : Below w0.heap.size w0 w) (h : spec_l24Queue.f k s0_0 s0_1 s0_2 = some (r1, r2, r3)) :
    Calls Try.prog 14 #[.pointer (some ⟨g, 0, none⟩)] w fun e w' => ∃ v0_ : Value, e = .returned (.agg #[v0_]) ∧ Kd.R k28 28 w' w.heap.size (fun _ => True) v0_ r1 ∧ IsS53 w0 w' g s0_0 r2 r3 ∧ Below w0.heap.size w0 w' ∧ KeepBut w w' g none := by
 have hu26 := Try.underlying26
 have hu28 := Try.underlying28
 have HI0 := am hI
 have HK := am (KeepBut.refl w g none)
 have HL := am hB.size
 clear hI
 have HW0 := am hB.size
 have HB := am hB
 clear hB
 have H := h; unfold spec_l24Queue.f at H
 clear h
 obtain ⟨⟨t162, t163, t164⟩, A2, H⟩ := bnd H
 try dsimp only at H
 obtain ⟨⟨t165, t166, t167⟩, A3, H⟩ := bnd H
 try dsimp only at H
 have HC4 := am H
 clear H
 go_enter Try.func14, Try.ntmps14
 go_upto_if 11 with (first | ((with_reducible refine gd 2 rfl ?_); refine box_event ?hg (N := 2) ?hd (cs := #[.slice none 0 0]) (t := 26) ?hr ?_; (case hd => rfl); (case hg => rfl); (case hr => first | (go_simp; done) | (go_simp; rfl)); intro gb160 hg w5 hbox hb; have n0_ := am (IsS53.below (by exact si53 HI0) hb); have n1_ := am (KeepBut.trans (by exact kp HK) (KeepBut.of_below hb g none) (.inl rfl)); have n2_ := am (below_step (by exact sj53 HB HI0) hb); have n3_ := am (hbox); have n4_ := am ((a2_11 : w.heap.size ≤ gb160)); have n5_ := am ((Nat.le_trans HW0.out (a2_11 : w.heap.size ≤ gb160) : w0.heap.size ≤ gb160)); have n6_ := am ((a2_12 : g ≠ gb160)); have n7_ := am ((a2_13 : gb160 ≠ g)); clear HI0; clear HK; clear HB; have HI0 := n0_; have HK := n1_; have HB := n2_; have BK160 := n3_; have GW160 := n4_; have GE160 := n5_; have NB0_160 := n6_; have NB160_0 := n7_; clear n0_ n1_ n2_ n3_ n4_ n5_ n6_ n7_; clear hb hbox hg) | ((with_reducible refine gd 3 rfl ?_); refine box_event ?hg (N := 3) ?hd (cs := #[.slice none 0 0]) (t := 26) ?hr ?_; (case hd => rfl); (case hg => rfl); (case hr => first | (go_simp; done) | (go_simp; rfl)); intro gb161 hg w6 hbox hb; have n0_ := am (IsS53.below a2_6 hb); have n1_ := bb BK160 hb; have n2_ := am (KeepBut.trans a2_7 (KeepBut.of_below hb g none) (.inl rfl)); have n3_ := am (below_step (by repeat (first | (with_reducible first | exact HB.out | apply below_alloc | apply pw_below_drewN | apply below_drew1 | refine below_set ?_ (IsS53.ge HI0.out) | refine below_set ?_ GE160.out) | exact HB.out)) hb); have n4_ := am (hbox); have n5_ := am ((a2_14 : w.heap.size ≤ gb161)); have n6_ := am ((Nat.le_trans HW0.out (a2_14 : w.heap.size ≤ gb161) : w0.heap.size ≤ gb161)); have n7_ := am ((by rw [hg]; exact Nat.ne_of_lt (blk_lt (g := gb160) (o := .cells #[.slice none 0 0] 26 (0, 0)) (sk BK160)) : gb160 ≠ gb161)); have n8_ := am ((by rw [hg]; exact Nat.ne_of_gt (blk_lt (g := gb160) (o := .cells #[.slice none 0 0] 26 (0, 0)) (sk BK160)) : gb161 ≠ gb160)); have n9_ := am ((by rw [hg]; exact Nat.ne_of_lt (IsS53.lt (show IsS53 w0 _ g s0_0 s0_1 s0_2 from a2_6)) : g ≠ gb161)); have n10_ := am ((by rw [hg]; exact Nat.ne_of_gt (IsS53.lt (show IsS53 w0 _ g s0_0 s0_1 s0_2 from a2_6)) : gb161 ≠ g)); clear HI0; clear BK160; clear HK; clear HB; have HI0 := n0_; have BK160 := n1_; have HK := n2_; have HB := n3_; have BK161 := n4_; have GW161 := n5_; have GE161 := n6_; have NB160_161 := n7_; have NB161_160 := n8_; have NB0_161 := n9_; have NB161_0 := n10_; clear n0_ n1_ n2_ n3_ n4_ n5_ n6_ n7_ n8_ n9_ n10_; clear hb hbox hg; have hnb7 := NB161_160.out; have hnc7 := NB160_161.out; have hnb8 := NB161_0.out; have hnc8 := NB0_161.out; have hcz9_0 : w6.cell? ⟨gb161, 0, none⟩ = some (.slice none 0 0) := bc0 BK161; have hfz9_0 := blk_frozen BK161.out 0) | ((with_reducible refine gc 20 rfl ?_); refine goesL_ (some 9) rfl rfl Try.func20 (by kernel_rfl) rfl #[.pointer (some ⟨g, 0, none⟩), .int .i64 6] rfl sl ?_; (with_reducible refine (spec_l1Below.calls g s0_0 s0_1 s0_2 6 t162 t163 t164 w0 _ ?side1 ?side2 A2.out).mono ?_); (case side1 => repeat (first | (with_reducible first | exact HI0.out | apply IsS53.alloc | apply IsS53.drewN | apply IsS53.drew | apply IsS53.set_1 | apply IsS53.set_2 | refine IsS53.far ?_ NB0_160.out _ | refine IsS53.far ?_ NB0_161.out _) | exact HI0.out)); (case side2 => repeat (first | (with_reducible first | exact HB.out | apply below_alloc | apply pw_below_drewN | apply below_drew1 | refine below_set ?_ (IsS53.ge HI0.out) | refine below_set ?_ GE160.out | refine below_set ?_ GE161.out) | exact HB.out)); rintro e w10 ⟨rfl, hi, hb, hk⟩; refine ⟨_, rfl, ?_⟩; have n0_ := am (KeepBut.blk hk (g' := gb160) (o := .cells #[.slice none 0 0] 26 (0, 0)) (sp BK160) NB160_0.out (by simp)); have n1_ := am (KeepBut.blk hk (g' := gb161) (o := .cells #[.slice none 0 0] 26 (0, 0)) (sp BK161) NB161_0.out (by simp)); have n2_ := am (KeepBut.trans a2_0 hk (.inl rfl)); have n3_ := am (hb); have n4_ := am (hi); clear BK160; clear BK161; clear HK; clear HB; clear HI0; have BK160 := n0_; have BK161 := n1_; have HK := n2_; have HB := n3_; have HI0 := n4_; clear n0_ n1_ n2_ n3_ n4_; (try clear hb); (try clear hk); (try clear hi)) | ((with_reducible refine gc 16 rfl ?_); refine goesL_ (some 11) rfl rfl Try.func16 (by kernel_rfl) rfl #[.pointer (some ⟨g, 0, none⟩), .int .i64 8] rfl sl ?_; (with_reducible refine (spec_l1Once.calls g s0_0 t163 t164 8 t165 t166 t167 w0 _ ?side1 ?side2 A3.out).mono ?_); (case side1 => repeat (first | (with_reducible first | exact HI0.out | apply IsS53.alloc | apply IsS53.drewN | apply IsS53.drew | apply IsS53.set_1 | apply IsS53.set_2 | refine IsS53.far ?_ NB0_160.out _ | refine IsS53.far ?_ NB0_161.out _) | exact HI0.out)); (case side2 => repeat (first | (with_reducible first | exact HB.out | apply below_alloc | apply pw_below_drewN | apply below_drew1 | refine below_set ?_ (IsS53.ge HI0.out) | refine below_set ?_ GE160.out | refine below_set ?_ GE161.out) | exact HB.out)); rintro e w11 ⟨rfl, hi, hb, hk⟩; refine ⟨_, rfl, ?_⟩; have n0_ := am (KeepBut.blk hk (g' := gb160) (o := .cells #[.slice none 0 0] 26 (0, 0)) (sk BK160) NB160_0.out (by simp)); have n1_ := am (KeepBut.blk hk (g' := gb161) (o := .cells #[.slice none 0 0] 26 (0, 0)) (sk BK161) NB161_0.out (by simp)); have n2_ := am (KeepBut.trans a2_0 hk (.inl rfl)); have n3_ := am (hb); have n4_ := am (hi); clear BK160; clear BK161; clear HK; clear HB; clear HI0; have BK160 := n0_; have BK161 := n1_; have HK := n2_; have HB := n3_; have HI0 := n4_; clear n0_ n1_ n2_ n3_ n4_; (try clear hb); (try clear hk); (try clear hi)))
 (try simp only [Act.put, List.setIfInBounds_toArray, List.set_cons_zero, List.set_cons_succ])
 go_cut [4] (fun v4 wc => ∃ (kq : Nat) (x4_3 : Int), v4 = .int .i64 x4_3 ∧ Aside0 (spec_l24Queue.j0 kq x4_3 s0_0 t166 t167 = some (r1, r2, r3)) ∧ Aside0 (kq ≤ k) ∧ Aside0 (wc.heap[gb160]? = some (.cells #[(.slice none 0 0)] 26 (0, 0))) ∧ Aside0 (wc.heap[gb161]? = some (.cells #[(.slice none 0 0)] 26 (0, 0))) ∧ Aside0 (IsS53 w0 wc g s0_0 t166 t167) ∧ Aside0 (KeepBut w wc g none) ∧ Aside0 (Below w0.heap.size w0 wc))
 case first =>
  have H := HC4.out
  clear HC4
  obtain rfl | rfl := tt t165
  ·replace H := ip H
   have H' := am H
   clear H
   go_wp2
   go_meet
   case rel => exact ⟨_, (12), sc, H', ⟨by first | omega | exact Nat.le_refl _⟩, ⟨sk BK160⟩, ⟨sk BK161⟩, ⟨a2_1⟩, ⟨a2_0⟩, ⟨a2_4⟩⟩
  ·replace H := im H
   have H' := am H
   clear H
   go_wp2
   go_meet
   case rel => exact ⟨_, (t162), sc, H', ⟨by first | omega | exact Nat.le_refl _⟩, ⟨sk BK160⟩, ⟨sk BK161⟩, ⟨a2_1⟩, ⟨a2_0⟩, ⟨a2_4⟩⟩
 case rest =>
  clear HC4
  obtain ⟨kq, x4_3, rfl, HA, HJ3, BK160, BK161, HI0, HK, HB⟩ := hcut
  cases kq with
  | zero => exact absurd HA.out (by simp [spec_l24Queue.j0])
  | succ kj3 =>
   have H := HA.out
   clear HA
   simp only [spec_l24Queue.j0] at H
   have H' := am H
   clear H
   go_wp2
   go_loopg [5] kj3 (fun kq v5 w' => ∃ (x5_2 : Int) (x1001_2 : Int) (x1002_2 : Int) (x162000_2 : List (S28)) (u162000 : Value), v5 = .int .i64 x5_2 ∧ Aside0 (spec_l24Queue.l0 kq x4_3 x5_2 s0_0 x1001_2 x1002_2 x162000_2 = some (r1, r2, r3)) ∧ Aside0 (kq ≤ kj3) ∧ Aside0 (Kd.R k28 28 w' w.heap.size (fun _ => True) u162000 x162000_2) ∧ Aside0 (w'.heap[gb160]? = some (.cells #[(.slice none 0 0)] 26 (0, 0))) ∧ Aside0 (w'.heap[gb161]? = some (.cells #[u162000] 26 (0, 0))) ∧ Aside0 (IsS53 w0 w' g s0_0 x1001_2 x1002_2) ∧ Aside0 (KeepBut w w' g none) ∧ Aside0 (Below w0.heap.size w0 w'))
   case atStart => exact ⟨(0), (t166), (t167), (([] : List (S28))), (.slice none 0 0), sc, H', kk0, ⟨sn⟩, ⟨sk BK160⟩, ⟨sk BK161⟩, ⟨a2_1⟩, ⟨a2_0⟩, ⟨a2_4⟩⟩
   case round =>
    clear H'
    obtain ⟨x5_2, x1001_2, x1002_2, x162000_2, u162000, rfl, HA, HK2, HO_162000, BK160, BK161, HI0, HK, HB⟩ := hrel
    cases gk with
    | zero => exact absurd HA.out (by simp [spec_l24Queue.l0])
    | succ k2 =>
     have H := HA.out
     clear HA
     simp only [spec_l24Queue.l0] at H
     obtain ⟨-, c13b0, H⟩ | ⟨-, c13b0, H⟩ := ic_ H
     ·obtain ⟨⟨t168, t169, t170, t171, t172, t173, t174, t175⟩, A14, H⟩ := bnd H
      try dsimp only at H
      obtain ⟨⟨t177, t180⟩, A15, H⟩ := bnd H
      try dsimp only at H
      have H' := am H
      clear H
      go_wp2_with (first | ((with_reducible refine gc 23 rfl ?_); refine gL (some 18) Try.func23 #[.pointer (some ⟨g, 0, none⟩)] ?_; (with_reducible refine (spec_l24Packet.calls g s0_0 x1001_2 x1002_2 t168 t169 t170 t171 t172 t173 t174 t175 w0 _ ?side1 ?side2 A14.out).mono ?_); (case side1 => repeat (first | (with_reducible first | exact HI0.out | apply IsS53.alloc | apply IsS53.drewN | apply IsS53.drew | apply IsS53.set_1 | apply IsS53.set_2 | refine IsS53.far ?_ NB0_160.out _ | refine IsS53.far ?_ NB0_161.out _) | exact HI0.out)); (case side2 => repeat (first | (with_reducible first | exact HB.out | apply below_alloc | apply pw_below_drewN | apply below_drew1 | refine below_set ?_ (IsS53.ge HI0.out) | refine below_set ?_ GE160.out | refine below_set ?_ GE161.out) | exact HB.out)); rintro e w16 ⟨rfl, hi, hb, hk⟩; refine ⟨_, rfl, ?_⟩; replace HO_162000 := am (Kd.R_mono (Kd.R_keep (IsS53.apart (show IsS53 w0 _ g s0_0 x1001_2 x1002_2 from a2_1) (sr HO_162000) (by decide)) hk (fun _ h => h.2)) (fun _ h => h.1)); replace BK160 := am (KeepBut.blk hk (g' := gb160) (o := .cells #[.slice none 0 0] 26 (0, 0)) (sk BK160) NB160_0.out (by simp)); replace BK161 := am (KeepBut.blk hk (g' := gb161) (o := .cells #[u162000] 26 (0, 0)) (sk BK161) NB161_0.out (by simp)); replace HK := am (KeepBut.trans a2_0 hk (.inl rfl)); replace HB := am hb; replace HI0 := am hi; (try clear hb); (try clear hk); (try clear hi)) | ((with_reducible refine gd 6 rfl ?_); refine bx 6 #[.int .i64 0, .int .i64 0, .int .i64 0, .int .i64 0, .int .i64 0, .int .i64 0] 28 ?_; intro gb176 hg w17 hbox hb; replace HO_162000 := am (Kd.R_below (Kd.R_elderB (sr HO_162000) gb176 (Nat.le_of_eq hg.symm)) hb); replace HB := am (below_step a2_4 hb); have BK176 := am hbox; have GW176 := am ((a2_15 : w.heap.size ≤ gb176)); have GE176 := am ((Nat.le_trans HW0.out (a2_15 : w.heap.size ≤ gb176) : w0.heap.size ≤ gb176)); replace HK := am (KeepBut.trans a2_0 (KeepBut.of_below hb g none) (.inl rfl)); have NB160_176 := nl BK160 hg; have NB176_160 := ng BK160 hg; replace BK160 := bb BK160 hb; have NB161_176 := nl BK161 hg; have NB176_161 := ng BK161 hg; replace BK161 := bb BK161 hb; have NB0_176 := am ((by rw [hg]; exact Nat.ne_of_lt (IsS53.lt (show IsS53 w0 _ g s0_0 t174 t175 from a2_1)) : g ≠ gb176)); have NB176_0 := am ((by rw [hg]; exact Nat.ne_of_gt (IsS53.lt (show IsS53 w0 _ g s0_0 t174 t175 from a2_1)) : gb176 ≠ g)); replace HI0 := am (IsS53.below a2_1 hb); clear hb hbox hg; have hnb18 := NB176_160.out; have hnc18 := NB160_176.out; have hnb19 := NB176_161.out; have hnc19 := NB161_176.out; have hnb20 := NB176_0.out; have hnc20 := NB0_176.out; obtain ⟨hcz21_0, hcz21_1, hcz21_2, hcz21_3, hcz21_4, hcz21_5, hfz21_0, hfz21_1, hfz21_2, hfz21_3, hfz21_4, hfz21_5⟩ := cc6 BK176; have hnb22 := NB161_160.out; have hnc22 := NB160_161.out; have hnb23 := NB161_0.out; have hnc23 := NB0_161.out; obtain ⟨hcz24_0, hfz24_0⟩ := cc1 BK161; obtain ⟨Ao25, co25, eo25⟩ := Kd.R_slice HO_162000.out; subst eo25) | ((with_reducible refine gc 24 rfl ?_); refine gL (some 25) Try.func24 #[.agg #[.slice Ao25 x162000_2.length co25], .agg #[.int .i64 (wrap64 (20 + x5_2)), .int .i64 t169, .int .i64 t170, .int .i64 t171, .int .i64 t172, .int .i64 t173]] ?_; (with_reducible refine (spec_PushPacket.calls k2 _ _ x162000_2 (wrap64 (20 + x5_2)) t169 t170 t171 t172 t173 t177 t180 _ ?side1 ?side2 A15.out).mono ?_); (case side1 => refine (Kd.R_reads' (e := 28) (base := w.heap.size) (ok := fun k_ => (True ∧ k_ ≠ gb176)) (n := x162000_2.length) (c := co25) ?_).2.2; exact a2_2); (case side2 => exact (Kd.R_reads' HO_162000.out).2.1); rintro e w26 ⟨v178, rfl, ho0, hb⟩; refine ⟨_, rfl, ?_⟩; have HO179 := am (Kd.R_lower (Kd.R_newB (Kd.R_new' ho0 (Kd.R_lt a2_2)) (g := gb176) (o := .cells #[.int .i64 (wrap64 (20 + x5_2)), .int .i64 t169, .int .i64 t170, .int .i64 t171, .int .i64 t172, .int .i64 t173] 28 (0, 0)) (sp BK176)) (keep_size (w := w) (g := g) (row := none) a2_5)); replace HO_162000 := am (Kd.R_elder' a2_2 (Kd.R_base ho0) hb); replace BK160 := am (blk_below (g := gb160) (o := .cells #[.slice none 0 0] 26 (0, 0)) (sp BK160) hb); replace BK161 := am (blk_below (g := gb161) (o := .cells #[.slice Ao25 x162000_2.length co25] 26 (0, 0)) (sp BK161) hb); replace BK176 := am (blk_below (g := gb176) (o := .cells #[.int .i64 (wrap64 (20 + x5_2)), .int .i64 t169, .int .i64 t170, .int .i64 t171, .int .i64 t172, .int .i64 t173] 28 (0, 0)) (sp BK176) hb); replace HK := am (KeepBut.trans a2_5 (KeepBut.of_below hb g none) (.inl rfl)); replace HB := am (below_step a2_9 hb); replace HI0 := am (IsS53.below (show IsS53 w0 (((((((w17.setCell ⟨gb176, 0, none⟩ (.int .i64 t168)).setCell ⟨gb176, 1, none⟩ (.int .i64 t169)).setCell ⟨gb176, 2, none⟩ (.int .i64 t170)).setCell ⟨gb176, 3, none⟩ (.int .i64 t171)).setCell ⟨gb176, 4, none⟩ (.int .i64 t172)).setCell ⟨gb176, 5, none⟩ (.int .i64 t173)).setCell ⟨gb176, 0, none⟩ (.int .i64 (wrap64 (20 + x5_2)))) g s0_0 t174 t175 from a2_8) hb); (try clear hb); (try clear hk); (try clear hi); (try clear ho0); obtain ⟨Ao27, co27, eo27⟩ := Kd.R_slice HO179.out; subst eo27; obtain ⟨hcz28_0, hfz28_0⟩ := cc1 BK161))
      go_roundg k2
      case measure => have := HJ3.out; have := HK2.out; omega
      case rel => exact ⟨(wrap64 (x5_2 + 1)), (t174), (t175), (t177), (.slice Ao27 t177.length co27), sc, H', ⟨by have := HJ3.out; have := HK2.out; omega⟩, ⟨by (with_reducible repeat (first | apply Kd.R_alloc | apply Kd.R_drewN | apply Kd.R_drew)); exact Kd.R_mono (Kd.R_far (p := ⟨gb161, 0, none⟩) (Kd.R_types HO179.out BK161.out (by decide)) (fun _ hk => hk.2) (.slice Ao27 t177.length co27)) (fun _ hk => trivial)⟩, ⟨sp BK160⟩, ⟨sp BK161⟩, ⟨a2_8⟩, ⟨a2_5⟩, ⟨a2_9⟩⟩
     ·simp only [Option.some.injEq, Prod.mk.injEq] at H
      obtain ⟨rfl, rfl, rfl⟩ := H
      have hnb29 := NB161_160.out
      have hnc29 := NB160_161.out
      have hnb30 := NB161_0.out
      have hnc30 := NB0_161.out
      obtain ⟨hcz31_0, hfz31_0⟩ := cc1 BK161
      obtain ⟨Ao32, co32, eo32⟩ := Kd.R_slice HO_162000.out
      subst eo32
      have hnb33 := NB160_0.out
      have hnc33 := NB0_160.out
      obtain ⟨hcz34_0, hfz34_0⟩ := cc1 BK160
      go_wp2
      refine bodyPost_ret (results_cell_row rfl _ _ gb160 26 #[.slice Ao32 x162000_2.length co32] (0, 0) _ rfl (sp BK160) Try.underlying26 rfl (by kernel_rfl)) rfl ?_
      exact ⟨_, se, by (with_reducible repeat (first | apply Kd.R_alloc | apply Kd.R_drewN | apply Kd.R_drew)); exact Kd.R_mono (Kd.R_far (p := ⟨gb160, 0, none⟩) (Kd.R_types HO_162000.out BK160.out (by decide)) (fun _ hk => hk.2) (.slice Ao32 x162000_2.length co32)) (fun _ hk => trivial), a2_1, a2_4, a2_0⟩

def spec_l1Int.f (s0_0 : List Int) (s0_1 : Int) (s0_2 : Int) (l1 : List Int) : Option (Int × Int × Int) := (spec_l1Below.f s0_0 s0_1 s0_2 (l1.length : Int)).bind fun bt181 => (if 0 ≤ bt181.1 then (if bt181.1 < (l1.length : Int) then (some (rd l1 bt181.1, bt181.2.1, bt181.2.2)) else (none)) else (none))
theorem spec_l1Int.calls (g : Nat) (s0_0 : List Int) (s0_1 : Int) (s0_2 : Int) (A1 : Option Addr) (c1 : Nat) (l1 : List Int) (r1 : Int) (r2 : Int) (r3 : Int) (w0 w : World) (hI : IsS53 w0 w g s0_0 s0_1 s0_2) (hB : Below w0.heap.size w0 w) (hr1 : Kd.C (Kd.int .i64) w A1 l1.length l1) (hc1 : l1.length ≤ c1) (hf1 : ∀ ad, A1 = some ad → 0 < l1.length → ad.block ≠ g) (h : spec_l1Int.f s0_0 s0_1 s0_2 l1 = some (r1, r2, r3)) :
    Calls Try.prog 25 #[.pointer (some ⟨g, 0, none⟩), .slice A1 l1.length c1] w fun e w' => e = .returned (.int .i64 r1) ∧ IsS53 w0 w' g s0_0 r2 r3 ∧ Below w0.heap.size w0 w' ∧ KeepBut w w' g none := by
 have HR1 := am hr1
 have HC1 := am hc1
 clear hr1 hc1
 have HI0 := am hI
 have HK := am (KeepBut.refl w g none)
 have HL := am hB.size
 clear hI
 have HW0 := am hB.size
 have HB := am hB
 clear hB
 have H := h; unfold spec_l1Int.f at H
 clear h
 obtain ⟨⟨t181, t182, t183⟩, A3, H⟩ := bnd H
 try dsimp only at H
 obtain ⟨c4b0, H⟩ := id_ H
 obtain ⟨c5b0, H⟩ := id_ H
 simp only [Option.some.injEq, Prod.mk.injEq] at H
 obtain ⟨rfl, rfl, rfl⟩ := H
 go_enter Try.func25, Try.ntmps25
 go_wp2_with (first | ((with_reducible refine gc 20 rfl ?_); refine gL (some 9) Try.func20 #[.pointer (some ⟨g, 0, none⟩), .int .i64 (l1.length : Int)] ?_; (with_reducible refine (spec_l1Below.calls g s0_0 s0_1 s0_2 (l1.length : Int) t181 t182 t183 w0 _ ?side1 ?side2 A3.out).mono ?_); (case side1 => exact si53 HI0); (case side2 => exact sj53 HB HI0); rintro e w6 ⟨rfl, hi, hb, hk⟩; refine ⟨_, rfl, ?_⟩; replace HK := am (KeepBut.trans (by exact kp HK) hk (.inl rfl)); replace HB := am hb; replace HI0 := am hi; (try clear hb); (try clear hk); (try clear hi); have p184 : 0 ≤ (t181 : Int) := sa; have q184 : t181 < (l1.length : Int) := sa; obtain ⟨ad184, e184, hx184_0⟩ := Kd.at_int HR1.out t181 p184 q184; cases e184; replace hx184_0 := keep_cell HK.out hx184_0 (by first | (rw [add_block]; exact hf1 _ rfl (by omega)) | exact hf1 _ rfl (by omega) | exact hf1 ad184 rfl (by omega)); replace p184 := eq_true p184; replace q184 := eq_true q184))
 go_ret
 exact ⟨se, by exact si53 HI0, by exact sj53 HB HI0, by exact kp HK⟩

end Go.Proofs.Yticepodaobpdlaa.QFnQueues
