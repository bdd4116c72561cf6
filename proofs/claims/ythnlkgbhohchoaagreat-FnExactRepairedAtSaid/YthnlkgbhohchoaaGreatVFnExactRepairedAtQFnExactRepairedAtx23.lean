/- Printed by a program of the session. Conditions: none. (squeezed). -/
import Derived.Test.YthnlkgbhohchoaaGreatVFnExactRepairedAtMk
import Derived.Test.YthnlkgbhohchoaaGreatVFnExactRepairedAtQFnExactRepairedAtx0
namespace Go.Proofs.YthnlkgbhohchoaaGreat.QFnExactRepairedAt
set_option maxHeartbeats 8000000
set_option maxRecDepth 100000
open Go.RowKit Go.Proofs.YthnlkgbhohchoaaGreatW.PrintWords Go.Proofs.YthnlkgbhohchoaaGreatW.PrintLast Go.Proofs.YthnlkgbhohchoaaGreatW.PrintMore Go.Proofs.YthnlkgbhohchoaaGreat.Open Go.Proofs.YthnlkgbhohchoaaGreat.Sq
attribute [local go_sem] max2_int min2_int max_two min_two max_three min_three max_four min_four   -- for this text's walks alone
attribute [local go_sem] isSome_set
set_option linter.unusedVariables false
set_option linter.unusedSimpArgs false

theorem a23_3 {P : Prop} (h : P := by rw [List.length_map]; exact Mk.R_len h) : P := h
theorem a23_2 {P : Prop} (h : P := by rw [hw]; exact below_set HB.out (hP g hPg)) : P := h
theorem a23_1 {P : Prop} (h : P := by repeat (first | (with_reducible first | exact HK.out | apply Kept.alloc | apply Kept.drewN | apply Kept.drew) | exact HK.out)) : P := h
theorem a23_0 {P : Prop} (h : P := by (try simp only [List.map_toArray, List.map_cons, List.map_nil]); first | done | rfl | (go_simp; rfl)) : P := h
def laws_markIntS.l0 : Nat → List Int → Int → Int → Option (Int × List Int)
  | 0, _, _, _ => none
  | k + 1, x0, x1, x5 => if x5 < (x0.length : Int) then (if 0 ≤ x5 then (laws_markIntS.l0 k (x0.set (x5 : Int).toNat x1) (wrap64 (x1 + 1)) (wrap64 (x5 + 1))) else (none)) else (some (x1, x0))
def laws_markIntS.f (k : Nat) (l0 : List Int) (a1 : Int) : Option (Int × List Int) := laws_markIntS.l0 k l0 a1 0
theorem laws_markIntS.mono_l : ∀ k, (∀ y0 y1 y2, LeO (laws_markIntS.l0 k y0 y1 y2) (laws_markIntS.l0 (k + 1) y0 y1 y2))
  | 0 => fun _ _ _ r h => by simp [laws_markIntS.l0] at h
  | k + 1 => by
    have ih0 := laws_markIntS.mono_l k
    · intro y0 y1 y2
      unfold laws_markIntS.l0
      exact mo
theorem laws_markIntS.mono : ∀ a0 a1 k, LeO (laws_markIntS.f k a0 a1) (laws_markIntS.f (k + 1) a0 a1) := by
  intro a0 a1 k
  have ih0 := laws_markIntS.mono_l k
  unfold laws_markIntS.f
  exact mo
theorem laws_markIntS.calls (k : Nat) (P0_ : Nat → Prop) (u9000_ : Value) (l0 : List Int) (a1 : Int) (r1 : Int) (r2 : List Int) (w0 w : World) (hB : Below w0.heap.size w0 w) (ho0 : Kd.R (Kd.int .i64) 3 w w0.heap.size P0_ u9000_ l0) (h : laws_markIntS.f k l0 a1 = some (r1, r2)) :
    Calls Tryz.prog 16 #[u9000_, .int .i64 a1] w fun e w' => e = .returned (.int .i64 r1) ∧ Kd.R (Kd.int .i64) 3 w' w0.heap.size (fun k_ => (P0_ k_ ∨ w.heap.size ≤ k_)) u9000_ r2 ∧ Below w0.heap.size w0 w' ∧ Kept w w' (fun k_ => P0_ k_) := by
 have HO0 := am (show Kd.R (Kd.int .i64) 3 w w0.heap.size (fun k_ => (P0_ k_ ∨ w.heap.size ≤ k_)) u9000_ l0 from Kd.R_mono ho0 (fun k_ hk => (.inl hk)))
 have HK := am (Kept.refl w (fun k_ => P0_ k_))
 have HW0 := am hB.size
 have HB := am hB
 clear hB
 have H := h; unfold laws_markIntS.f at H
 clear h
 have H' := am H
 clear H
 go_enter Tryz.func16, Tryz.ntmps16
 go_wp2
 go_loopg [1, 5] k (fun kq v1 v5 w' => ∃ (x0_1 : List Int) (x1_1 : Int) (x5_1 : Int), v1 = .int .i64 x1_1 ∧ v5 = .int .i64 x5_1 ∧ Aside0 (laws_markIntS.l0 kq x0_1 x1_1 x5_1 = some (r1, r2)) ∧ Aside0 (kq ≤ k) ∧ Aside0 (Kd.R (Kd.int .i64) 3 w' w0.heap.size (fun k_ => (P0_ k_ ∨ w.heap.size ≤ k_)) u9000_ x0_1) ∧ Aside0 (Kept w w' (fun k_ => P0_ k_)) ∧ Aside0 (Below w0.heap.size w0 w'))
 case atStart => exact ⟨(l0), (a1), (0), sc, sc, H', kk0, ⟨sr HO0⟩, ⟨a23_1⟩, ⟨sb⟩⟩
 case round =>
  clear H'
  obtain ⟨x0_1, x1_1, x5_1, rfl, rfl, HA, HK1, HO_0, HK, HB⟩ := hrel
  cases gk with
  | zero => exact absurd HA.out (by simp [laws_markIntS.l0])
  | succ k1 =>
   have H := HA.out
   clear HA
   simp only [laws_markIntS.l0] at H
   obtain ⟨-, c3b0, H⟩ | ⟨-, c3b0, H⟩ := ic_ H
   ·obtain ⟨c4b0, H⟩ := id_ H
    obtain ⟨y722, hy722⟩ : ∃ y_ : List Int, y_ = (x0_1.set (x5_1 : Int).toNat x1_1) := ⟨_, rfl⟩
    replace H : (laws_markIntS.l0 k1 y722 (wrap64 (x1_1 + 1)) (wrap64 (x5_1 + 1))) = some (r1, r2) := ry hy722 H
    have Ny722 := am hy722
    clear hy722
    have H' := am H
    clear H
    obtain ⟨Ao6, co6, eo6⟩ := Kd.R_slice HO_0.out
    subst eo6
    have p5 : 0 ≤ (x5_1 : Int) := sa
    have q5 : (x5_1 : Int) < ((x0_1.length : Int) : Int) := sa
    obtain ⟨go5, co5, eo5, gb5, gl5, cl5, HG5⟩ := Kd.R_form HO_0.out (by omega)
    (first | cases eo5 | (injection eo5 with ea_ en_ ec_; (first | subst ea_ | (injection ea_ with ea_; subst ea_)); subst ec_; clear en_))
    have GB5 := am gb5
    have GG5 := am HG5
    clear gb5 gl5 HG5
    have HMgo5 := am (show (P0_ go5 ∨ w.heap.size ≤ go5) from (HO_0.out.1 _ rfl))
    obtain ⟨hx5_0, hf5_0⟩ := Kd.R_celln 0 HO_0.out (x5_1 : Int) p5 q5
    replace p5 := eq_true p5
    replace q5 := eq_true q5
    have HP7 := Kd.R_putg HO_0.out (x5_1 : Int) x1_1
    go_wp2_with (first | ((with_reducible refine gate_store (t := 3) (p := 15) rfl ?_); refine store_event (t := 3) (p := 15) (v := ?vo_w8) (w1 := (wr.setCell ⟨go5, (x5_1 : Int).toNat, none⟩ (.int .i64 x1_1))) ?hg ?ho ?hn ?hr ?_; (case ho => rfl); (case hg => rfl); (case hn => rfl); (case hr => first | (go_simp; done) | (go_simp; rfl)); intro w8 hw; have hg : wr.grownBy w8 (some go5) := (by rw [hw]; exact HP7.2); have hp_ : Kd.R (Kd.int .i64) 3 w8 w0.heap.size (fun k_ => (P0_ k_ ∨ w.heap.size ≤ k_)) (.slice (some ⟨go5, 0, none⟩) x0_1.length co6) y722 := (by rw [hw, Ny722.out]; exact HP7.1); clear HP7; replace HB := am ((by rw [hw]; exact below_set (HB.out) GB5.out : Below w0.heap.size w0 w8)); replace HK := am (Kept.of_grown (S := (fun k_ => P0_ k_)) hg a23_1 (fun k_ e_ => (HO_0.out.1 k_ e_))); replace HO_0 := am hp_; clear hg hw hp_))
    go_roundg k1
    case measure => have := HK1.out; omega
    case rel => exact ⟨(y722), (wrap64 (x1_1 + 1)), (wrap64 (x5_1 + 1)), sc, sc, H', kk1, ⟨sr HO_0⟩, ⟨a23_1⟩, ⟨sb⟩⟩
   ·simp only [Option.some.injEq, Prod.mk.injEq] at H
    obtain ⟨rfl, rfl⟩ := H
    obtain ⟨Ao9, co9, eo9⟩ := Kd.R_slice HO_0.out
    subst eo9
    go_wp2
    go_ret
    exact ⟨se, sr HO_0, sb, a23_1⟩

-- NOT PRINTED: function 77 (laws_markTableS)

-- NOT PRINTED: function 37 (laws_markPieceS)

theorem laws_markProgram.ints (P : Nat → Prop) (w0 w : World) (v : Value) (n : Nat) (a : Int) (hP : ∀ k, P k → w0.heap.size ≤ k) (hB : Below w0.heap.size w0 w) (hv : Mk.Ints P w v n n) :
    Calls Tryz.prog 16 #[v, .int .i64 a] w fun e w' => e = .returned (.int .i64 (Mk.bump n a)) ∧ Below w0.heap.size w0 w' ∧ Mk.Marked P w w' := by
  obtain ⟨A, c, rfl, hm, hv⟩ := hv
  go_enter Tryz.func16, Tryz.ntmps16
  go_wp2
  go_loopg [1, 5] n (fun gg v1 v5 wr => ∃ i : Int, 0 ≤ i ∧ i ≤ (n : Int) ∧ (n : Int) - i ≤ gg ∧ v5 = .int .i64 i ∧ v1 = .int .i64 (Mk.bump i.toNat a) ∧ Aside0 (Below w0.heap.size w0 wr) ∧ Aside0 (Mk.Marked P w wr))
  case atStart => exact ⟨0, by omega, by omega, by omega, rfl, rfl, ⟨hB⟩, ⟨Mk.Marked.refl P w⟩⟩
  case round =>
    obtain ⟨i, h0, h1, hg, rfl, rfl, HB, HM⟩ := hrel
    by_cases hlt : i < (n : Int)
    · obtain ⟨g, rfl, hPg, hb, hj⟩ := hv (by omega)
      obtain ⟨x0, hx0⟩ := hj i.toNat (by omega)
      obtain ⟨x, hx⟩ := HM.out.num hb hx0
      have hf : wr.frozen? ⟨g, i.toNat, none⟩ = false := (hb.on HM.out).thaw _
      have hM := HM.out.put hPg hb hx (Mk.bump i.toNat a)
      have p5 : (0 ≤ i) = True := eq_true h0
      have q5 : (i < (n : Int)) = True := eq_true hlt
      have hd : decide (i < (n : Int)) = true := decide_eq_true hlt
      go_wp2_with (first | ((with_reducible refine gate_store (t := 3) (p := 15) rfl ?_); refine store_event (t := 3) (p := 15) (v := ?vo_w8) (w1 := (wr.setCell ⟨g, i.toNat, none⟩ (.int .i64 (Mk.bump i.toNat a)))) ?hg ?ho ?hn ?hr ?_; (case ho => rfl); (case hg => rfl); (case hn => rfl); (case hr => first | (go_simp; done) | (go_simp; rfl)); intro w8 hw; have HB2 := am (a23_2 : Below w0.heap.size w0 w8); have HM2 := am ((by rw [hw]; exact hM) : Mk.Marked P w w8); clear hw))
      go_roundg (n - (i.toNat + 1))
      case measure => omega
      case rel =>
        refine ⟨i + 1, by omega, by omega, by omega, by go_num, ?_, HB2, HM2⟩
        rw [show (i + 1).toNat = i.toNat + 1 by omega, Mk.bump]
    · have : i = (n : Int) := by omega
      subst this
      have hd : decide ((n : Int) < (n : Int)) = false := decide_eq_false (by omega)
      go_wp2
      go_ret
      exact ⟨rfl, HB.out, HM.out⟩
theorem laws_markProgram.links (P : Nat → Prop) (w0 w : World) (v : Value) (n : Nat) (a : Int) (hP : ∀ k, P k → w0.heap.size ≤ k) (hB : Below w0.heap.size w0 w) (hv : Mk.Ints P w v n (n * 2)) :
    Calls Tryz.prog 76 #[v, .int .i64 a] w fun e w' => e = .returned (.int .i64 (Mk.bump (n * 2) a)) ∧ Below w0.heap.size w0 w' ∧ Mk.Marked P w w' := by
  have hu := Tryz.underlying90
  obtain ⟨A, c, rfl, hm, hv⟩ := hv
  go_enter Tryz.func76, Tryz.ntmps76
  go_wp2
  go_loopg [1, 5] n (fun gg v1 v5 wr => ∃ i : Int, 0 ≤ i ∧ i ≤ (n : Int) ∧ (n : Int) - i ≤ gg ∧ v5 = .int .i64 i ∧ v1 = .int .i64 (Mk.bump (i.toNat * 2) a) ∧ Aside0 (Below w0.heap.size w0 wr) ∧ Aside0 (Mk.Marked P w wr))
  case atStart => exact ⟨0, by omega, by omega, by omega, rfl, rfl, ⟨hB⟩, ⟨Mk.Marked.refl P w⟩⟩
  case round =>
    obtain ⟨i, h0, h1, hg, rfl, rfl, HB, HM⟩ := hrel
    by_cases hlt : i < (n : Int)
    · obtain ⟨g, rfl, hPg, hb, hj⟩ := hv (by omega)
      obtain ⟨x0, hx0⟩ := hj (i.toNat * 2) (by omega)
      obtain ⟨y0, hy0⟩ := hj (i.toNat * 2 + 1) (by omega)
      obtain ⟨x, hx⟩ := HM.out.num hb hx0
      have hf : wr.frozen? ⟨g, i.toNat * 2, none⟩ = false := (hb.on HM.out).thaw _
      have hM := HM.out.put hPg hb hx (Mk.bump (i.toNat * 2) a)
      have p5 : (0 ≤ i) = True := eq_true h0
      have q5 : (i < (n : Int)) = True := eq_true hlt
      have hd : decide (i < (n : Int)) = true := decide_eq_true hlt
      go_wp2_with (first | ((with_reducible refine gate_store (t := 3) (p := 16) rfl ?_); refine store_event (t := 3) (p := 16) (v := ?vo_w8) (w1 := (wr.setCell ⟨g, i.toNat * 2, none⟩ (.int .i64 (Mk.bump (i.toNat * 2) a)))) ?hg ?ho ?hn ?hr ?_; (case ho => rfl); (case hg => rfl); (case hn => rfl); (case hr => first | (go_simp; done) | (go_simp; rfl)); intro w8 hw; have HB2 := am (a23_2 : Below w0.heap.size w0 w8); have HM2 := am ((by rw [hw]; exact hM) : Mk.Marked P w w8); obtain ⟨y, hy⟩ := HM2.out.num hb hy0; have hf2 : w8.frozen? ⟨g, i.toNat * 2 + 1, none⟩ = false := (hb.on HM2.out).thaw _; have hM2 := HM2.out.put hPg hb hy (wrap64 (Mk.bump (i.toNat * 2) a + 1)); clear hw) | ((with_reducible refine gate_store (t := 3) (p := 23) rfl ?_); refine store_event (t := 3) (p := 23) (v := ?vo_w9) (w1 := (w8.setCell ⟨g, i.toNat * 2 + 1, none⟩ (.int .i64 (wrap64 (Mk.bump (i.toNat * 2) a + 1))))) ?hg ?ho ?hn ?hr ?_; (case ho => rfl); (case hg => rfl); (case hn => rfl); (case hr => first | (go_simp; done) | (go_simp; rfl)); intro w9 hw; have HB3 := am ((by rw [hw]; exact below_set HB2.out (hP g hPg)) : Below w0.heap.size w0 w9); have HM3 := am ((by rw [hw]; exact hM2) : Mk.Marked P w w9); clear hw))
      go_roundg (n - (i.toNat + 1))
      case measure => omega
      case rel =>
        refine ⟨i + 1, by omega, by omega, by omega, by go_num, ?_, HB3, HM3⟩
        rw [show (i + 1).toNat * 2 = (i.toNat * 2 + 1) + 1 by omega, Mk.bump, Mk.bump]
    · have : i = (n : Int) := by omega
      subst this
      have hd : decide ((n : Int) < (n : Int)) = false := decide_eq_false (by omega)
      go_wp2
      go_ret
      exact ⟨rfl, HB.out, HM.out⟩
theorem laws_markProgram.tables (P : Nat → Prop) (w0 w : World) (v : Value) (ns : List (Nat × Nat)) (a : Int) (hP : ∀ k, P k → w0.heap.size ≤ k) (hB : Below w0.heap.size w0 w) (hv : Mk.Tabs P w v ns) :
    Calls Tryz.prog 77 #[v, .int .i64 a] w fun e w' => e = .returned (.int .i64 (Mk.bump (Mk.sumT ns) a)) ∧ Below w0.heap.size w0 w' ∧ Mk.Marked P w w' := by
  have hu := Tryz.underlying50
  obtain ⟨A, c, rfl, hm, hv⟩ := hv
  go_enter Tryz.func77, Tryz.ntmps77
  go_wp2
  go_loopg [1, 5] ns.length (fun gg v1 v5 wr => ∃ i : Int, 0 ≤ i ∧ i ≤ (ns.length : Int) ∧ (ns.length : Int) - i ≤ gg ∧ v5 = .int .i64 i ∧ v1 = .int .i64 (Mk.bump (Mk.sumT (ns.take i.toNat)) a) ∧ Aside0 (Below w0.heap.size w0 wr) ∧ Aside0 (Mk.Marked P w wr))
  case atStart => exact ⟨0, by omega, by omega, by omega, rfl, rfl, ⟨hB⟩, ⟨Mk.Marked.refl P w⟩⟩
  case round =>
    obtain ⟨i, h0, h1, hg, rfl, rfl, HB, HM⟩ := hrel
    by_cases hlt : i < (ns.length : Int)
    · obtain ⟨g, rfl, hPg, hb, hj⟩ := hv (by omega)
      obtain ⟨q, hq⟩ : ∃ q, ns[i.toNat]? = some q := ⟨_, List.getElem?_eq_getElem (show i.toNat < ns.length by omega)⟩
      obtain ⟨⟨x0, hx0⟩, ⟨u1, hu1, hi1⟩, ⟨u2, hu2, hi2⟩⟩ := hj i.toNat q hq
      have hs1 := hi1.slice
      have hs2 := hi2.slice
      have hi1' := am hi1
      have hi2' := am hi2
      obtain ⟨A1, c1, rfl, _, _⟩ := hi1
      obtain ⟨A2, c2, rfl, _, _⟩ := hi2
      obtain ⟨x, hx⟩ := HM.out.num hb hx0
      have hf : wr.frozen? ⟨g, i.toNat * 3, none⟩ = false := (hb.on HM.out).thaw _
      have hsum : Mk.sumT (ns.take (i.toNat + 1)) = Mk.sumT (ns.take i.toNat) + (1 + q.1 + q.2) := Mk.take_sum (f := fun p : Nat × Nat => 1 + p.1 + p.2) hq
      generalize Mk.sumT (ns.take i.toNat) = s at hsum ⊢
      have hM := HM.out.put hPg hb hx (Mk.bump s a)
      have p5 : (0 ≤ i) = True := eq_true h0
      have q5 : (i < (ns.length : Int)) = True := eq_true hlt
      have hd : decide (i < (ns.length : Int)) = true := decide_eq_true hlt
      go_wp2_with (first | ((with_reducible refine gate_store (t := 3) (p := 16) rfl ?_); refine store_event (t := 3) (p := 16) (v := ?vo_w8) (w1 := (wr.setCell ⟨g, i.toNat * 3, none⟩ (.int .i64 (Mk.bump s a)))) ?hg ?ho ?hn ?hr ?_; (case ho => rfl); (case hg => rfl); (case hn => rfl); (case hr => first | (go_simp; done) | (go_simp; rfl)); intro w8 hw; have HB2 := am (a23_2 : Below w0.heap.size w0 w8); have HM2 := am ((by rw [hw]; exact hM) : Mk.Marked P w w8); clear hw; have hc1 : w8.cell? ⟨g, i.toNat * 3 + 1, none⟩ = some (.slice A1 q.1 c1) := HM2.out.cell hb hu1 hs1) | ((with_reducible refine gd 25 rfl ?_); (with_reducible refine gc 16 rfl ?_); refine goesL_ (some 25) rfl rfl Tryz.func16 (by kernel_rfl) rfl #[.slice A1 q.1 c1, .int .i64 (wrap64 (Mk.bump s a + 1))] rfl a23_0 ?_; refine (laws_markProgram.ints P w0 w8 _ q.1 _ hP HB2.out (hi1'.out.on HM2.out)).mono ?_; rintro e w9 ⟨rfl, hb3, hm3⟩; refine ⟨_, rfl, ?_⟩; have HB3 := am hb3; have HM3 := am (HM2.out.trans hm3); clear hb3 hm3; have hc2 : w9.cell? ⟨g, i.toNat * 3 + 2, none⟩ = some (.slice A2 q.2 c2) := HM3.out.cell hb hu2 hs2) | ((with_reducible refine gc 16 rfl ?_); refine goesL_ _ rfl rfl Tryz.func16 (by kernel_rfl) rfl #[.slice A2 q.2 c2, .int .i64 (Mk.bump q.1 (wrap64 (Mk.bump s a + 1)))] rfl a23_0 ?_; refine (laws_markProgram.ints P w0 w9 _ q.2 _ hP HB3.out (hi2'.out.on HM3.out)).mono ?_; rintro e w10 ⟨rfl, hb4, hm4⟩; refine ⟨_, rfl, ?_⟩; have HB4 := am hb4; have HM4 := am (HM3.out.trans hm4); clear hb4 hm4))
      go_roundg (ns.length - (i.toNat + 1))
      case measure => omega
      case rel =>
        refine ⟨i + 1, by omega, by omega, by omega, by go_num, ?_, HB4, HM4⟩
        rw [show (i + 1).toNat = i.toNat + 1 by omega, hsum, show wrap64 (Mk.bump s a + 1) = Mk.bump 1 (Mk.bump s a) from rfl, Mk.bump_add, Mk.bump_add, Mk.bump_add, show q.2 + q.1 + 1 + s = s + (1 + q.1 + q.2) by omega]
    · have : i = (ns.length : Int) := by omega
      subst this
      have hd : decide ((ns.length : Int) < (ns.length : Int)) = false := decide_eq_false (by omega)
      rw [Int.toNat_natCast, List.take_length]
      go_wp2
      go_ret
      exact ⟨rfl, HB.out, HM.out⟩
theorem laws_markProgram.pieces (P : Nat → Prop) (w0 w : World) (v : Value) (ns : List (Nat × List (Nat × Nat))) (a : Int) (hP : ∀ k, P k → w0.heap.size ≤ k) (hB : Below w0.heap.size w0 w) (hv : Mk.Pcs P w v ns) :
    Calls Tryz.prog 37 #[v, .int .i64 a] w fun e w' => e = .returned (.int .i64 (Mk.bump (Mk.sumP ns) a)) ∧ Below w0.heap.size w0 w' ∧ Mk.Marked P w w' := by
  have hu := Tryz.underlying76
  have hus := Tryz.underlying73
  obtain ⟨A, c, rfl, hm, hv⟩ := hv
  go_enter Tryz.func37, Tryz.ntmps37
  go_wp2
  go_loopg [1, 5] ns.length (fun gg v1 v5 wr => ∃ i : Int, 0 ≤ i ∧ i ≤ (ns.length : Int) ∧ (ns.length : Int) - i ≤ gg ∧ v5 = .int .i64 i ∧ v1 = .int .i64 (Mk.bump (Mk.sumP (ns.take i.toNat)) a) ∧ Aside0 (Below w0.heap.size w0 wr) ∧ Aside0 (Mk.Marked P w wr))
  case atStart => exact ⟨0, by omega, by omega, by omega, rfl, rfl, ⟨hB⟩, ⟨Mk.Marked.refl P w⟩⟩
  case round =>
    obtain ⟨i, h0, h1, hg, rfl, rfl, HB, HM⟩ := hrel
    by_cases hlt : i < (ns.length : Int)
    · obtain ⟨g, rfl, hPg, hb, hj⟩ := hv (by omega)
      obtain ⟨q, hq⟩ : ∃ q, ns[i.toNat]? = some q := ⟨_, List.getElem?_eq_getElem (show i.toNat < ns.length by omega)⟩
      obtain ⟨⟨x0, hx0⟩, ⟨y0, hy0⟩, ⟨u1, hu1, hi1⟩, ⟨u2, hu2, hi2⟩⟩ := hj i.toNat q hq
      have hs1 := hi1.slice
      have hs2 := hi2.slice
      have hi1' := am hi1
      have hi2' := am hi2
      obtain ⟨A1, c1, rfl, _, _⟩ := hi1
      obtain ⟨A2, c2, rfl, _, _⟩ := hi2
      obtain ⟨x, hx⟩ := HM.out.num hb hx0
      have hf : wr.frozen? ⟨g, i.toNat * 4, none⟩ = false := (hb.on HM.out).thaw _
      have hsum : Mk.sumP (ns.take (i.toNat + 1)) = Mk.sumP (ns.take i.toNat) + (2 + q.1 * 2 + Mk.sumT q.2) := Mk.take_sum (f := fun p : Nat × List (Nat × Nat) => 2 + p.1 * 2 + Mk.sumT p.2) hq
      generalize Mk.sumP (ns.take i.toNat) = s at hsum ⊢
      have hM := HM.out.put hPg hb hx (Mk.bump s a)
      have p5 : (0 ≤ i) = True := eq_true h0
      have q5 : (i < (ns.length : Int)) = True := eq_true hlt
      have hd : decide (i < (ns.length : Int)) = true := decide_eq_true hlt
      go_wp2_with (first | ((with_reducible refine gate_store (t := 3) (p := 17) rfl ?_); refine store_event (t := 3) (p := 17) (v := ?vo_w8) (w1 := (wr.setCell ⟨g, i.toNat * 4, none⟩ (.int .i64 (Mk.bump s a)))) ?hg ?ho ?hn ?hr ?_; (case ho => rfl); (case hg => rfl); (case hn => rfl); (case hr => first | (go_simp; done) | (go_simp; rfl)); intro w8 hw; have HB2 := am (a23_2 : Below w0.heap.size w0 w8); have HM2 := am ((by rw [hw]; exact hM) : Mk.Marked P w w8); clear hw; obtain ⟨y, hy⟩ := HM2.out.num hb hy0; have hf2 : w8.frozen? ⟨g, i.toNat * 4 + 1, none⟩ = false := (hb.on HM2.out).thaw _; have hM2 := HM2.out.put hPg hb hy (wrap64 (Mk.bump s a + 1))) | ((with_reducible refine gate_store (t := 3) (p := 25) rfl ?_); refine store_event (t := 3) (p := 25) (v := ?vo_w9) (w1 := (w8.setCell ⟨g, i.toNat * 4 + 1, none⟩ (.int .i64 (wrap64 (Mk.bump s a + 1))))) ?hg ?ho ?hn ?hr ?_; (case ho => rfl); (case hg => rfl); (case hn => rfl); (case hr => first | (go_simp; done) | (go_simp; rfl)); intro w9 hw; have HB3 := am ((by rw [hw]; exact below_set HB2.out (hP g hPg)) : Below w0.heap.size w0 w9); have HM3 := am ((by rw [hw]; exact hM2) : Mk.Marked P w w9); clear hw; have hc1 : w9.cell? ⟨g, i.toNat * 4 + 2, none⟩ = some (.slice A1 q.1 c1) := HM3.out.cell hb hu1 hs1) | ((with_reducible refine gc 76 rfl ?_); refine goesL_ _ rfl rfl Tryz.func76 (by kernel_rfl) rfl #[.slice A1 q.1 c1, .int .i64 (wrap64 (wrap64 (Mk.bump s a + 1) + 1))] rfl a23_0 ?_; refine (laws_markProgram.links P w0 w9 _ q.1 _ hP HB3.out (hi1'.out.on HM3.out)).mono ?_; rintro e w10 ⟨rfl, hb4, hm4⟩; refine ⟨_, rfl, ?_⟩; have HB4 := am hb4; have HM4 := am (HM3.out.trans hm4); clear hb4 hm4; have hc2 : w10.cell? ⟨g, i.toNat * 4 + 3, none⟩ = some (.slice A2 q.2.length c2) := HM4.out.cell hb hu2 hs2) | ((with_reducible refine gc 77 rfl ?_); refine goesL_ _ rfl rfl Tryz.func77 (by kernel_rfl) rfl #[.slice A2 q.2.length c2, .int .i64 (Mk.bump (q.1 * 2) (wrap64 (wrap64 (Mk.bump s a + 1) + 1)))] rfl a23_0 ?_; refine (laws_markProgram.tables P w0 w10 _ q.2 _ hP HB4.out (hi2'.out.on HM4.out)).mono ?_; rintro e w11 ⟨rfl, hb5, hm5⟩; refine ⟨_, rfl, ?_⟩; have HB5 := am hb5; have HM5 := am (HM4.out.trans hm5); clear hb5 hm5))
      go_roundg (ns.length - (i.toNat + 1))
      case measure => omega
      case rel =>
        refine ⟨i + 1, by omega, by omega, by omega, by go_num, ?_, HB5, HM5⟩
        rw [show (i + 1).toNat = i.toNat + 1 by omega, hsum, show wrap64 (wrap64 (Mk.bump s a + 1) + 1) = Mk.bump 2 (Mk.bump s a) from rfl, Mk.bump_add, Mk.bump_add, Mk.bump_add, show Mk.sumT q.2 + q.1 * 2 + 2 + s = s + (2 + q.1 * 2 + Mk.sumT q.2) by omega]
    · have : i = (ns.length : Int) := by omega
      subst this
      have hd : decide ((ns.length : Int) < (ns.length : Int)) = false := decide_eq_false (by omega)
      rw [Int.toNat_natCast, List.take_length]
      go_wp2
      go_ret
      exact ⟨rfl, HB.out, HM.out⟩
def laws_markProgram.cnt (l : List S76) : List (Nat × List (Nat × Nat)) := l.map fun x => (x.f1.length, x.f2.map fun t => (t.f1.length, t.f2.length))
theorem laws_markProgram.ints_of {w : World} {base : Nat} {ok : Nat → Prop} {v : Value} {xs : List Int} (h : (Kd.int .i64).R 3 w base ok v xs) : Mk.Ints (fun k => ok k ∧ base ≤ k) w v xs.length xs.length := by
  obtain ⟨A, c, rfl⟩ := Kd.R_slice h
  refine ⟨A, c, rfl, Mk.R_len h, fun hn => ?_⟩
  obtain ⟨g, cap, e, hg, _, cs, hcs⟩ := Kd.R_form h hn
  injection e with e _ _
  subst e
  refine ⟨g, rfl, ⟨h.1 g rfl, hg⟩, ⟨cs, 3, hcs⟩, fun j hj => ⟨rdOf 0 xs (j : Int), ?_⟩⟩
  have := (Kd.R_celln 0 h (j : Int) (by omega) (by omega)).1
  rwa [Int.toNat_natCast] at this
theorem laws_markProgram.links_of {w : World} {base : Nat} {ok : Nat → Prop} {v : Value} {xs : List S90} (h : k90.R 90 w base ok v xs) : Mk.Ints (fun k => ok k ∧ base ≤ k) w v xs.length (xs.length * 2) := by
  obtain ⟨A, c, rfl⟩ := Kd.R_slice h
  refine ⟨A, c, rfl, Mk.R_len h, fun hn => ?_⟩
  obtain ⟨g, cap, e, hg, _, cs, hcs⟩ := Kd.R_form h hn
  injection e with e _ _
  subst e
  refine ⟨g, rfl, ⟨h.1 g rfl, hg⟩, ⟨cs, _, hcs⟩, fun j hj => ?_⟩
  obtain ⟨ce, _, hM, hcc, _⟩ := Kd.R_elem h z90 ((j / 2 : Nat) : Int) (by omega) (by omega)
  obtain rfl := k90_openM hM
  rw [Int.toNat_natCast] at hcc
  have h0 : w.cell? ⟨g, j / 2 * 2 + 0, none⟩ = some _ := hcc 0 _ rfl
  have h1 : w.cell? ⟨g, j / 2 * 2 + 1, none⟩ = some _ := hcc 1 _ rfl
  rcases (show j % 2 = 0 ∨ j % 2 = 1 by omega) with e | e
  · exact ⟨_, by rw [show j = j / 2 * 2 + 0 by omega]; exact h0⟩
  · exact ⟨_, by rw [show j = j / 2 * 2 + 1 by omega]; exact h1⟩
theorem laws_markProgram.tables_of {w : World} {base : Nat} {ok : Nat → Prop} {v : Value} {xs : List S50} (h : k50.R 50 w base ok v xs) : Mk.Tabs (fun k => ok k ∧ base ≤ k) w v (xs.map fun t => (t.f1.length, t.f2.length)) := by
  obtain ⟨A, c, rfl⟩ := Kd.R_slice h
  refine ⟨A, c, by rw [List.length_map], a23_3, fun hn => ?_⟩
  rw [List.length_map] at hn
  obtain ⟨g, cap, e, hg, _, cs, hcs⟩ := Kd.R_form h hn
  injection e with e _ _
  subst e
  refine ⟨g, rfl, ⟨h.1 g rfl, hg⟩, ⟨cs, _, hcs⟩, fun i p hp => ?_⟩
  rw [List.getElem?_map] at hp
  obtain ⟨t, ht, rfl⟩ := Option.map_eq_some_iff.1 hp
  have hlt : i < xs.length := (List.getElem?_eq_some_iff.1 ht).1
  obtain ⟨ce, _, hM, hcc, _⟩ := Kd.R_elem h z50 (i : Int) (by omega) (by omega)
  rw [Int.toNat_natCast] at hM hcc
  rw [List.getD_eq_getElem?_getD, ht] at hM
  obtain ⟨v1, v2, rfl, r1, r2⟩ := k50_openM hM
  have ok2 : ∀ {v : Value} {l : List Int}, (Kd.int .i64).R 3 w base (fun k => ok k ∧ k ≠ g) v l → Mk.Ints (fun k => ok k ∧ base ≤ k) w v l.length l.length := fun r => laws_markProgram.ints_of (Kd.R_mono r fun _ hk => hk.1)
  exact ⟨⟨_, hcc 0 _ rfl⟩, ⟨v1, hcc 1 _ rfl, ok2 r1⟩, ⟨v2, hcc 2 _ rfl, ok2 r2⟩⟩
theorem laws_markProgram.pieces_of {w : World} {base : Nat} {ok : Nat → Prop} {v : Value} {xs : List S76} (h : k76.R 76 w base ok v xs) : Mk.Pcs (fun k => ok k ∧ base ≤ k) w v (laws_markProgram.cnt xs) := by
  obtain ⟨A, c, rfl⟩ := Kd.R_slice h
  unfold laws_markProgram.cnt
  refine ⟨A, c, by rw [List.length_map], a23_3, fun hn => ?_⟩
  rw [List.length_map] at hn
  obtain ⟨g, cap, e, hg, _, cs, hcs⟩ := Kd.R_form h hn
  injection e with e _ _
  subst e
  refine ⟨g, rfl, ⟨h.1 g rfl, hg⟩, ⟨cs, _, hcs⟩, fun i p hp => ?_⟩
  rw [List.getElem?_map] at hp
  obtain ⟨t, ht, rfl⟩ := Option.map_eq_some_iff.1 hp
  have hlt : i < xs.length := (List.getElem?_eq_some_iff.1 ht).1
  obtain ⟨ce, _, hM, hcc, _⟩ := Kd.R_elem h z76 (i : Int) (by omega) (by omega)
  rw [Int.toNat_natCast] at hM hcc
  rw [List.getD_eq_getElem?_getD, ht] at hM
  obtain ⟨v2, v3, rfl, r2, r3⟩ := k76_openM hM
  exact ⟨⟨_, hcc 0 _ rfl⟩, ⟨_, hcc 1 _ rfl⟩, ⟨v2, hcc 2 _ rfl, laws_markProgram.links_of (Kd.R_mono r2 fun _ hk => hk.1)⟩, ⟨v3, hcc 3 _ rfl, laws_markProgram.tables_of (Kd.R_mono r3 fun _ hk => hk.1)⟩⟩
def laws_markProgram.f (_a0_0 : Int) (_a0_1 : Int) (_a0_2 : Int) (l0_3 : List (S76)) (a1 : Int) : Option (Int) := some (Mk.bump (Mk.sumP (laws_markProgram.cnt l0_3)) a1)
theorem laws_markProgram.calls (a0_0 : Int) (a0_1 : Int) (a0_2 : Int) (P0_3_ : Nat → Prop) (u9000_ : Value) (l0_3 : List (S76)) (a1 : Int) (r : Int) (w0 w : World) (hB : Below w0.heap.size w0 w) (ho0_3 : Kd.R k76 76 w w0.heap.size P0_3_ u9000_ l0_3) (h : laws_markProgram.f a0_0 a0_1 a0_2 l0_3 a1 = some r) :
    Calls Tryz.prog 15 #[.agg #[.int .i64 a0_0, .int .i64 a0_1, .int .i64 a0_2, u9000_], .int .i64 a1] w fun e w' => e = .returned (.int .i64 r) ∧ Below w0.heap.size w0 w' ∧ Kept w w' (fun k_ => P0_3_ k_) := by
 have hu := Tryz.underlying32
 obtain rfl := Option.some.inj h
 obtain ⟨A0_3, c0_3, rfl⟩ := Kd.R_slice ho0_3
 have HO := am ho0_3
 have HB := am hB
 clear ho0_3 hB h
 go_enter Tryz.func15, Tryz.ntmps15
 go_wp2_with (first | ((with_reducible refine gd 2 rfl ?_); refine bx 2 #[.int .i64 a0_0, .int .i64 a0_1, .int .i64 a0_2, .slice A0_3 l0_3.length c0_3] 32 ?_; intro gbx hg w3 hbox hb3; have hc3 : w3.cell? ⟨gbx, 3, none⟩ = some (.slice A0_3 l0_3.length c0_3) := (blk_cell hbox 3).trans rfl; have HB3 := am (below_then HB.out HB.out.size hb3); have HO3 := am (Kd.R_below HO.out hb3); have HK3 := am (Kept.of_below hb3 (fun k_ => P0_3_ k_)); clear hb3 hbox hg) | ((with_reducible refine gc 37 rfl ?_); refine goesL_ _ rfl rfl Tryz.func37 (by kernel_rfl) rfl #[.slice A0_3 l0_3.length c0_3, .int .i64 a1] rfl a23_0 ?_; refine (laws_markProgram.pieces (fun k => P0_3_ k ∧ w0.heap.size ≤ k) w0 w3 _ _ a1 (fun _ hk => hk.2) HB3.out (laws_markProgram.pieces_of HO3.out)).mono ?_; rintro e w4 ⟨rfl, hb4, hm4⟩; refine ⟨_, rfl, ?_⟩; have HB4 := am hb4; have HM4 := am hm4; clear hb4 hm4))
 go_ret
 exact ⟨rfl, HB4.out, HK3.out.then_ HM4.out.kept (fun _ hk => .inl hk.1)⟩

def laws_markIntSS.Rows (P : Nat → Prop) (w : World) (v : Value) (ns : List Nat) : Prop := ∃ A c, v = .slice A ns.length c ∧ ns.length ≤ 9223372036854775807 ∧ (0 < ns.length → ∃ g, A = some ⟨g, 0, none⟩ ∧ P g ∧ Mk.Blk w g ∧ ∀ i n, ns[i]? = some n → ∃ u, w.cell? ⟨g, i, none⟩ = some u ∧ Mk.Ints P w u n n)
theorem laws_markIntSS.rows (P : Nat → Prop) (w0 w : World) (v : Value) (ns : List Nat) (a : Int) (hP : ∀ k, P k → w0.heap.size ≤ k) (hB : Below w0.heap.size w0 w) (hv : laws_markIntSS.Rows P w v ns) :
    Calls Tryz.prog 17 #[v, .int .i64 a] w fun e w' => e = .returned (.int .i64 (Mk.bump ns.sum a)) ∧ Below w0.heap.size w0 w' ∧ Mk.Marked P w w' := by
  have hu := Tryz.underlying25
  obtain ⟨A, c, rfl, hm, hv⟩ := hv
  go_enter Tryz.func17, Tryz.ntmps17
  go_wp2
  go_loopg [1, 5] ns.length (fun gg v1 v5 wr => ∃ i : Int, 0 ≤ i ∧ i ≤ (ns.length : Int) ∧ (ns.length : Int) - i ≤ gg ∧ v5 = .int .i64 i ∧ v1 = .int .i64 (Mk.bump (ns.take i.toNat).sum a) ∧ Aside0 (Below w0.heap.size w0 wr) ∧ Aside0 (Mk.Marked P w wr))
  case atStart => exact ⟨0, by omega, by omega, by omega, rfl, rfl, ⟨hB⟩, ⟨Mk.Marked.refl P w⟩⟩
  case round =>
    obtain ⟨i, h0, h1, hg, rfl, rfl, HB, HM⟩ := hrel
    by_cases hlt : i < (ns.length : Int)
    · obtain ⟨g, rfl, hPg, hb, hj⟩ := hv (by omega)
      obtain ⟨q, hq⟩ : ∃ q, ns[i.toNat]? = some q := ⟨_, List.getElem?_eq_getElem (show i.toNat < ns.length by omega)⟩
      obtain ⟨u1, hu1, hi1⟩ := hj i.toNat q hq
      have hs1 := hi1.slice
      have hi1' := am hi1
      obtain ⟨A1, c1, rfl, _, _⟩ := hi1
      have hsum : (ns.take (i.toNat + 1)).sum = (ns.take i.toNat).sum + q := by
        have := Mk.take_sum (f := fun p : Nat => p) hq
        simpa using this
      generalize (ns.take i.toNat).sum = s at hsum ⊢
      have hc1 : wr.cell? ⟨g, i.toNat, none⟩ = some (.slice A1 q c1) := HM.out.cell hb hu1 hs1
      have p5 : (0 ≤ i) = True := eq_true h0
      have q5 : (i < (ns.length : Int)) = True := eq_true hlt
      have hd : decide (i < (ns.length : Int)) = true := decide_eq_true hlt
      go_wp2_with (first | ((with_reducible refine gc 16 rfl ?_); refine goesL_ _ rfl rfl Tryz.func16 (by kernel_rfl) rfl #[.slice A1 q c1, .int .i64 (Mk.bump s a)] rfl a23_0 ?_; refine (laws_markProgram.ints P w0 wr _ q _ hP HB.out (hi1'.out.on HM.out)).mono ?_; rintro e w9 ⟨rfl, hb3, hm3⟩; refine ⟨_, rfl, ?_⟩; have HB3 := am hb3; have HM3 := am (HM.out.trans hm3); clear hb3 hm3))
      go_roundg (ns.length - (i.toNat + 1))
      case measure => omega
      case rel =>
        refine ⟨i + 1, by omega, by omega, by omega, by go_num, ?_, HB3, HM3⟩
        rw [show (i + 1).toNat = i.toNat + 1 by omega, hsum, Mk.bump_add, Nat.add_comm]
    · have : i = (ns.length : Int) := by omega
      subst this
      have hd : decide ((ns.length : Int) < (ns.length : Int)) = false := decide_eq_false (by omega)
      rw [Int.toNat_natCast, List.take_length]
      go_wp2
      go_ret
      exact ⟨rfl, HB.out, HM.out⟩
theorem laws_markIntSS.rows_of {w : World} {base : Nat} {ok : Nat → Prop} {v : Value} {xs : List (List Int)} (h : (Kd.slice 3 (Kd.int .i64)).R 25 w base ok v xs) : laws_markIntSS.Rows (fun k => ok k ∧ base ≤ k) w v (xs.map List.length) := by
  obtain ⟨A, c, rfl⟩ := Kd.R_slice h
  refine ⟨A, c, by rw [List.length_map], a23_3, fun hn => ?_⟩
  rw [List.length_map] at hn
  obtain ⟨g, cap, e, hg, _, cs, hcs⟩ := Kd.R_form h hn
  injection e with e _ _
  subst e
  refine ⟨g, rfl, ⟨h.1 g rfl, hg⟩, ⟨cs, _, hcs⟩, fun i p hp => ?_⟩
  rw [List.getElem?_map] at hp
  obtain ⟨t, ht, rfl⟩ := Option.map_eq_some_iff.1 hp
  have hlt : i < xs.length := (List.getElem?_eq_some_iff.1 ht).1
  obtain ⟨ce, _, hM, hcc, _⟩ := Kd.R_elem h ([] : List Int) (i : Int) (by omega) (by omega)
  rw [Int.toNat_natCast] at hM hcc
  rw [List.getD_eq_getElem?_getD, ht] at hM
  obtain ⟨v1, rfl, r1⟩ := hM
  have hc := hcc 0 _ rfl
  exact ⟨v1, by simpa [Kd.slice] using hc, laws_markProgram.ints_of (Kd.R_mono r1 fun _ hk => hk.1)⟩
def laws_markIntSS.f (l0 : List (List Int)) (a1 : Int) : Option (Int) := some (Mk.bump (l0.map List.length).sum a1)
theorem laws_markIntSS.calls (P0_ : Nat → Prop) (u9000_ : Value) (l0 : List (List Int)) (a1 : Int) (r : Int) (w0 w : World) (hB : Below w0.heap.size w0 w) (ho0 : Kd.R (Kd.slice 3 (Kd.int .i64)) 25 w w0.heap.size P0_ u9000_ l0) (h : laws_markIntSS.f l0 a1 = some r) :
    Calls Tryz.prog 17 #[u9000_, .int .i64 a1] w fun e w' => e = .returned (.int .i64 r) ∧ Below w0.heap.size w0 w' ∧ Kept w w' (fun k_ => P0_ k_) := by
 obtain rfl := Option.some.inj h
 refine (laws_markIntSS.rows (fun k => P0_ k ∧ w0.heap.size ≤ k) w0 w u9000_ _ a1 (fun _ hk => hk.2) hB (laws_markIntSS.rows_of ho0)).mono ?_
 rintro e w' ⟨rfl, hb, hm⟩
 exact ⟨rfl, hb, hm.kept.mono (fun _ hk => hk.1)⟩

def laws_heldIntS.l0 : Nat → List Int → Int → Int → Option (Int)
  | 0, _, _, _ => none
  | k + 1, x0, x1, x5 => if x5 < (x0.length : Int) then (if 0 ≤ x5 then (if (rd x0 x5) = x1 then (laws_heldIntS.l0 k x0 (wrap64 (x1 + 1)) (wrap64 (x5 + 1))) else (some (-1))) else (none)) else (some x1)
def laws_heldIntS.f (k : Nat) (l0 : List Int) (a1 : Int) : Option (Int) := laws_heldIntS.l0 k l0 a1 0
theorem laws_heldIntS.mono_l : ∀ k, (∀ y0 y1 y2, LeO (laws_heldIntS.l0 k y0 y1 y2) (laws_heldIntS.l0 (k + 1) y0 y1 y2))
  | 0 => fun _ _ _ r h => by simp [laws_heldIntS.l0] at h
  | k + 1 => by
    have ih0 := laws_heldIntS.mono_l k
    · intro y0 y1 y2
      unfold laws_heldIntS.l0
      exact mo
theorem laws_heldIntS.mono : ∀ a0 a1 k, LeO (laws_heldIntS.f k a0 a1) (laws_heldIntS.f (k + 1) a0 a1) := by
  intro a0 a1 k
  have ih0 := laws_heldIntS.mono_l k
  unfold laws_heldIntS.f
  exact mo
theorem laws_heldIntS.calls (k : Nat) (A0 : Option Addr) (c0 : Nat) (l0 : List Int) (a1 : Int) (r : Int) (w : World) (hr0 : Kd.C (Kd.int .i64) w A0 l0.length l0) (hc0 : l0.length ≤ c0) (h : laws_heldIntS.f k l0 a1 = some r) :
    Calls Tryz.prog 18 #[.slice A0 l0.length c0, .int .i64 a1] w fun e w' => e = .returned (.int .i64 r) ∧ Drawn0 w w' := by
 have HR0 := am hr0
 have HC0 := am hc0
 clear hr0 hc0
 have H := h; unfold laws_heldIntS.f at H
 clear h
 have H' := am H
 clear H
 go_enter Tryz.func18, Tryz.ntmps18
 go_wp2
 go_loopg [1, 5] k (fun kq v1 v5 w' => ∃ (x1_1 : Int) (x5_1 : Int), v1 = .int .i64 x1_1 ∧ v5 = .int .i64 x5_1 ∧ Aside0 (laws_heldIntS.l0 kq l0 x1_1 x5_1 = some r) ∧ Aside0 (kq ≤ k) ∧ Drawn0 w w')
 case atStart => exact ⟨(a1), (0), sc, sc, H', kk0, sd⟩
 case round =>
  clear H'
  obtain ⟨x1_1, x5_1, rfl, rfl, HA, HK1, ⟨m1, rfl⟩⟩ := hrel
  cases gk with
  | zero => exact absurd HA.out (by simp [laws_heldIntS.l0])
  | succ k1 =>
   have H := HA.out
   clear HA
   simp only [laws_heldIntS.l0] at H
   obtain ⟨-, c3b0, H⟩ | ⟨-, c3b0, H⟩ := ic_ H
   ·obtain ⟨c4b0, H⟩ := id_ H
    obtain ⟨-, c5b0, c5b1, H⟩ | ⟨c5, c5b0, c5b1, H⟩ := ib_ H
    ·have H' := am H
     clear H
     have p723 : 0 ≤ (x5_1 : Int) := sa
     have q723 : x5_1 < (l0.length : Int) := sa
     obtain ⟨ad723, e723, hx723_0⟩ := Kd.at_int HR0.out x5_1 p723 q723
     cases e723
     replace p723 := eq_true p723
     replace q723 := eq_true q723
     go_wp2
     go_roundg k1
     case measure => have := HK1.out; omega
     case rel => exact ⟨(wrap64 (x1_1 + 1)), (wrap64 (x5_1 + 1)), sc, sc, H', kk1, sd⟩
    ·obtain rfl := Option.some.inj H
     have p723 : 0 ≤ (x5_1 : Int) := sa
     have q723 : x5_1 < (l0.length : Int) := sa
     obtain ⟨ad723, e723, hx723_0⟩ := Kd.at_int HR0.out x5_1 p723 q723
     cases e723
     replace p723 := eq_true p723
     replace q723 := eq_true q723
     go_wp2
     go_ret
     exact ⟨sc, sd⟩
   ·obtain rfl := Option.some.inj H
    go_wp2
    go_ret
    exact ⟨sc, sd⟩

-- NOT PRINTED: function 3 (laws_FnExactRepairedAt)

end Go.Proofs.YthnlkgbhohchoaaGreat.QFnExactRepairedAt
