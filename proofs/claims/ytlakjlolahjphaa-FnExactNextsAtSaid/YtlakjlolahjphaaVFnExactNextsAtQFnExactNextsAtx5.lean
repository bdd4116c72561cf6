/- What the Go functions of the law FnExactNextsAt come to, as Lean functions, and that they do: by a program of the session, out of the kit's printer. Conditions: none. (squeezed). -/
import Derived.Test.YtlakjlolahjphaaVFnExactNextsAtSq
import Derived.Test.YtlakjlolahjphaaVFnExactNextsAtMk
import Derived.Test.YtlakjlolahjphaaVFnExactNextsAtQFnExactNextsAtx0
namespace Go.Proofs.Ytlakjlolahjphaa.QFnExactNextsAt
open Go.RowKit Go.Proofs.YtlakjlolahjphaaW.PrintWords Go.Proofs.YtlakjlolahjphaaW.PrintLast Go.Proofs.YtlakjlolahjphaaW.PrintMore Go.Proofs.Ytlakjlolahjphaa.Open Go.Proofs.Ytlakjlolahjphaa.Sq
attribute [local go_sem] max2_int min2_int max_two min_two max_three min_three max_four min_four   -- for this text's walks alone
attribute [local go_sem] isSome_set
set_option linter.unusedVariables false
set_option linter.unusedSimpArgs false

/-! ### laws_markProgram: function 22 (with laws.markPieceS, laws.markTableS, and the two rows' own, for rows that may share) -/
set_option maxHeartbeats 8000000 in
set_option maxRecDepth 100000 in
theorem laws_markProgram.ints (P : Nat → Prop) (w0 w : World) (v : Value) (n : Nat) (a : Int) (hP : ∀ k, P k → w0.heap.size ≤ k) (hB : Below w0.heap.size w0 w) (hv : Mk.Ints P w v n n) :
    Calls Try.prog 33 #[v, .int .i64 a] w fun e w' => e = .returned (.int .i64 (Mk.bump n a)) ∧ Below w0.heap.size w0 w' ∧ Mk.Marked P w w' := by
  obtain ⟨A, c, rfl, hm, hv⟩ := hv
  go_enter Try.func33, Try.ntmps33
  go_wp2
  go_loopg [1, 5] n (fun gg v1 v5 wr => ∃ i : Int, 0 ≤ i ∧ i ≤ (n : Int) ∧ (n : Int) - i ≤ gg ∧ v5 = .int .i64 i ∧ v1 = .int .i64 (Mk.bump i.toNat a) ∧ Aside0 (Below w0.heap.size w0 wr) ∧ Aside0 (Mk.Marked P w wr))
  case atStart => exact ⟨0, by omega, by omega, by omega, rfl, rfl, ⟨hB⟩, ⟨Mk.Marked.refl P w⟩⟩
  case round =>
    obtain ⟨i, h0, h1, hg, rfl, rfl, HB, HM⟩ := hrel
    by_cases hlt : i < (n : Int)
    · obtain ⟨g, rfl, hPg, hb, hj⟩ := hv (by omega)
      obtain ⟨x0, hx0⟩ := hj i.toNat (by omega)
      obtain ⟨x, hx⟩ := HM.out.num hb hx0
      have hf : wr.frozen? ⟨g, i.toNat, none⟩ = false := (hb.on HM.out).thaw _
      have hM := HM.out.put hPg hb hx (Mk.bump i.toNat a)
      have p5 : (0 ≤ i) = True := eq_true h0
      have q5 : (i < (n : Int)) = True := eq_true hlt
      have hd : decide (i < (n : Int)) = true := decide_eq_true hlt
      go_wp2_with (first | ((with_reducible refine gate_store (t := 3) (p := 15) rfl ?_); refine store_event (t := 3) (p := 15) (v := ?vo_w8) (w1 := (wr.setCell ⟨g, i.toNat, none⟩ (.int .i64 (Mk.bump i.toNat a)))) ?hg ?ho ?hn ?hr ?_; (case ho => rfl); (case hg => rfl); (case hn => rfl); (case hr => first | (go_simp; done) | (go_simp; rfl)); intro w8 hw; have HB2 := Aside0.mk ((by rw [hw]; exact below_set HB.out (hP g hPg)) : Below w0.heap.size w0 w8); have HM2 := Aside0.mk ((by rw [hw]; exact hM) : Mk.Marked P w w8); clear hw))
      go_roundg (n - (i.toNat + 1))
      case measure => omega
      case rel =>
        refine ⟨i + 1, by omega, by omega, by omega, by go_num, ?_, HB2, HM2⟩
        rw [show (i + 1).toNat = i.toNat + 1 by omega, Mk.bump]
    · have : i = (n : Int) := by omega
      subst this
      have hd : decide ((n : Int) < (n : Int)) = false := decide_eq_false (by omega)
      go_wp2
      go_ret
      exact ⟨rfl, HB.out, HM.out⟩
set_option maxHeartbeats 8000000 in
set_option maxRecDepth 100000 in
theorem laws_markProgram.links (P : Nat → Prop) (w0 w : World) (v : Value) (n : Nat) (a : Int) (hP : ∀ k, P k → w0.heap.size ≤ k) (hB : Below w0.heap.size w0 w) (hv : Mk.Ints P w v n (n * 2)) :
    Calls Try.prog 134 #[v, .int .i64 a] w fun e w' => e = .returned (.int .i64 (Mk.bump (n * 2) a)) ∧ Below w0.heap.size w0 w' ∧ Mk.Marked P w w' := by
  have hu := Try.underlying128
  obtain ⟨A, c, rfl, hm, hv⟩ := hv
  go_enter Try.func134, Try.ntmps134
  go_wp2
  go_loopg [1, 5] n (fun gg v1 v5 wr => ∃ i : Int, 0 ≤ i ∧ i ≤ (n : Int) ∧ (n : Int) - i ≤ gg ∧ v5 = .int .i64 i ∧ v1 = .int .i64 (Mk.bump (i.toNat * 2) a) ∧ Aside0 (Below w0.heap.size w0 wr) ∧ Aside0 (Mk.Marked P w wr))
  case atStart => exact ⟨0, by omega, by omega, by omega, rfl, rfl, ⟨hB⟩, ⟨Mk.Marked.refl P w⟩⟩
  case round =>
    obtain ⟨i, h0, h1, hg, rfl, rfl, HB, HM⟩ := hrel
    by_cases hlt : i < (n : Int)
    · obtain ⟨g, rfl, hPg, hb, hj⟩ := hv (by omega)
      obtain ⟨x0, hx0⟩ := hj (i.toNat * 2) (by omega)
      obtain ⟨y0, hy0⟩ := hj (i.toNat * 2 + 1) (by omega)
      obtain ⟨x, hx⟩ := HM.out.num hb hx0
      have hf : wr.frozen? ⟨g, i.toNat * 2, none⟩ = false := (hb.on HM.out).thaw _
      have hM := HM.out.put hPg hb hx (Mk.bump (i.toNat * 2) a)
      have p5 : (0 ≤ i) = True := eq_true h0
      have q5 : (i < (n : Int)) = True := eq_true hlt
      have hd : decide (i < (n : Int)) = true := decide_eq_true hlt
      go_wp2_with (first | ((with_reducible refine gate_store (t := 3) (p := 16) rfl ?_); refine store_event (t := 3) (p := 16) (v := ?vo_w8) (w1 := (wr.setCell ⟨g, i.toNat * 2, none⟩ (.int .i64 (Mk.bump (i.toNat * 2) a)))) ?hg ?ho ?hn ?hr ?_; (case ho => rfl); (case hg => rfl); (case hn => rfl); (case hr => first | (go_simp; done) | (go_simp; rfl)); intro w8 hw; have HB2 := Aside0.mk ((by rw [hw]; exact below_set HB.out (hP g hPg)) : Below w0.heap.size w0 w8); have HM2 := Aside0.mk ((by rw [hw]; exact hM) : Mk.Marked P w w8); obtain ⟨y, hy⟩ := HM2.out.num hb hy0; have hf2 : w8.frozen? ⟨g, i.toNat * 2 + 1, none⟩ = false := (hb.on HM2.out).thaw _; have hM2 := HM2.out.put hPg hb hy (wrap64 (Mk.bump (i.toNat * 2) a + 1)); clear hw) | ((with_reducible refine gate_store (t := 3) (p := 23) rfl ?_); refine store_event (t := 3) (p := 23) (v := ?vo_w9) (w1 := (w8.setCell ⟨g, i.toNat * 2 + 1, none⟩ (.int .i64 (wrap64 (Mk.bump (i.toNat * 2) a + 1))))) ?hg ?ho ?hn ?hr ?_; (case ho => rfl); (case hg => rfl); (case hn => rfl); (case hr => first | (go_simp; done) | (go_simp; rfl)); intro w9 hw; have HB3 := Aside0.mk ((by rw [hw]; exact below_set HB2.out (hP g hPg)) : Below w0.heap.size w0 w9); have HM3 := Aside0.mk ((by rw [hw]; exact hM2) : Mk.Marked P w w9); clear hw))
      go_roundg (n - (i.toNat + 1))
      case measure => omega
      case rel =>
        refine ⟨i + 1, by omega, by omega, by omega, by go_num, ?_, HB3, HM3⟩
        rw [show (i + 1).toNat * 2 = (i.toNat * 2 + 1) + 1 by omega, Mk.bump, Mk.bump]
    · have : i = (n : Int) := by omega
      subst this
      have hd : decide ((n : Int) < (n : Int)) = false := decide_eq_false (by omega)
      go_wp2
      go_ret
      exact ⟨rfl, HB.out, HM.out⟩
set_option maxHeartbeats 8000000 in
set_option maxRecDepth 100000 in
theorem laws_markProgram.tables (P : Nat → Prop) (w0 w : World) (v : Value) (ns : List (Nat × Nat)) (a : Int) (hP : ∀ k, P k → w0.heap.size ≤ k) (hB : Below w0.heap.size w0 w) (hv : Mk.Tabs P w v ns) :
    Calls Try.prog 135 #[v, .int .i64 a] w fun e w' => e = .returned (.int .i64 (Mk.bump (Mk.sumT ns) a)) ∧ Below w0.heap.size w0 w' ∧ Mk.Marked P w w' := by
  have hu := Try.underlying65
  obtain ⟨A, c, rfl, hm, hv⟩ := hv
  go_enter Try.func135, Try.ntmps135
  go_wp2
  go_loopg [1, 5] ns.length (fun gg v1 v5 wr => ∃ i : Int, 0 ≤ i ∧ i ≤ (ns.length : Int) ∧ (ns.length : Int) - i ≤ gg ∧ v5 = .int .i64 i ∧ v1 = .int .i64 (Mk.bump (Mk.sumT (ns.take i.toNat)) a) ∧ Aside0 (Below w0.heap.size w0 wr) ∧ Aside0 (Mk.Marked P w wr))
  case atStart => exact ⟨0, by omega, by omega, by omega, rfl, rfl, ⟨hB⟩, ⟨Mk.Marked.refl P w⟩⟩
  case round =>
    obtain ⟨i, h0, h1, hg, rfl, rfl, HB, HM⟩ := hrel
    by_cases hlt : i < (ns.length : Int)
    · obtain ⟨g, rfl, hPg, hb, hj⟩ := hv (by omega)
      obtain ⟨q, hq⟩ : ∃ q, ns[i.toNat]? = some q := ⟨_, List.getElem?_eq_getElem (show i.toNat < ns.length by omega)⟩
      obtain ⟨⟨x0, hx0⟩, ⟨u1, hu1, hi1⟩, ⟨u2, hu2, hi2⟩⟩ := hj i.toNat q hq
      have hs1 := hi1.slice
      have hs2 := hi2.slice
      have hi1' := Aside0.mk hi1
      have hi2' := Aside0.mk hi2
      obtain ⟨A1, c1, rfl, _, _⟩ := hi1
      obtain ⟨A2, c2, rfl, _, _⟩ := hi2
      obtain ⟨x, hx⟩ := HM.out.num hb hx0
      have hf : wr.frozen? ⟨g, i.toNat * 3, none⟩ = false := (hb.on HM.out).thaw _
      have hsum : Mk.sumT (ns.take (i.toNat + 1)) = Mk.sumT (ns.take i.toNat) + (1 + q.1 + q.2) := Mk.take_sum (f := fun p : Nat × Nat => 1 + p.1 + p.2) hq
      generalize Mk.sumT (ns.take i.toNat) = s at hsum ⊢
      have hM := HM.out.put hPg hb hx (Mk.bump s a)
      have p5 : (0 ≤ i) = True := eq_true h0
      have q5 : (i < (ns.length : Int)) = True := eq_true hlt
      have hd : decide (i < (ns.length : Int)) = true := decide_eq_true hlt
      go_wp2_with (first | ((with_reducible refine gate_store (t := 3) (p := 16) rfl ?_); refine store_event (t := 3) (p := 16) (v := ?vo_w8) (w1 := (wr.setCell ⟨g, i.toNat * 3, none⟩ (.int .i64 (Mk.bump s a)))) ?hg ?ho ?hn ?hr ?_; (case ho => rfl); (case hg => rfl); (case hn => rfl); (case hr => first | (go_simp; done) | (go_simp; rfl)); intro w8 hw; have HB2 := Aside0.mk ((by rw [hw]; exact below_set HB.out (hP g hPg)) : Below w0.heap.size w0 w8); have HM2 := Aside0.mk ((by rw [hw]; exact hM) : Mk.Marked P w w8); clear hw; have hc1 : w8.cell? ⟨g, i.toNat * 3 + 1, none⟩ = some (.slice A1 q.1 c1) := HM2.out.cell hb hu1 hs1) | ((with_reducible refine gate_dst (N := 25) rfl ?_); (with_reducible refine gate_callee (f := 33) rfl ?_); refine goesL_ (some 25) rfl rfl Try.func33 (by kernel_rfl) rfl #[.slice A1 q.1 c1, .int .i64 (wrap64 (Mk.bump s a + 1))] rfl (by (try simp only [List.map_toArray, List.map_cons, List.map_nil]); first | done | rfl | (go_simp; rfl)) ?_; refine (laws_markProgram.ints P w0 w8 _ q.1 _ hP HB2.out (hi1'.out.on HM2.out)).mono ?_; rintro e w9 ⟨rfl, hb3, hm3⟩; refine ⟨_, rfl, ?_⟩; have HB3 := Aside0.mk hb3; have HM3 := Aside0.mk (HM2.out.trans hm3); clear hb3 hm3; have hc2 : w9.cell? ⟨g, i.toNat * 3 + 2, none⟩ = some (.slice A2 q.2 c2) := HM3.out.cell hb hu2 hs2) | ((with_reducible refine gate_callee (f := 33) rfl ?_); refine goesL_ _ rfl rfl Try.func33 (by kernel_rfl) rfl #[.slice A2 q.2 c2, .int .i64 (Mk.bump q.1 (wrap64 (Mk.bump s a + 1)))] rfl (by (try simp only [List.map_toArray, List.map_cons, List.map_nil]); first | done | rfl | (go_simp; rfl)) ?_; refine (laws_markProgram.ints P w0 w9 _ q.2 _ hP HB3.out (hi2'.out.on HM3.out)).mono ?_; rintro e w10 ⟨rfl, hb4, hm4⟩; refine ⟨_, rfl, ?_⟩; have HB4 := Aside0.mk hb4; have HM4 := Aside0.mk (HM3.out.trans hm4); clear hb4 hm4))
      go_roundg (ns.length - (i.toNat + 1))
      case measure => omega
      case rel =>
        refine ⟨i + 1, by omega, by omega, by omega, by go_num, ?_, HB4, HM4⟩
        rw [show (i + 1).toNat = i.toNat + 1 by omega, hsum, show wrap64 (Mk.bump s a + 1) = Mk.bump 1 (Mk.bump s a) from rfl, Mk.bump_add, Mk.bump_add, Mk.bump_add, show q.2 + q.1 + 1 + s = s + (1 + q.1 + q.2) by omega]
    · have : i = (ns.length : Int) := by omega
      subst this
      have hd : decide ((ns.length : Int) < (ns.length : Int)) = false := decide_eq_false (by omega)
      rw [Int.toNat_natCast, List.take_length]
      go_wp2
      go_ret
      exact ⟨rfl, HB.out, HM.out⟩
set_option maxHeartbeats 8000000 in
set_option maxRecDepth 100000 in
theorem laws_markProgram.pieces (P : Nat → Prop) (w0 w : World) (v : Value) (ns : List (Nat × List (Nat × Nat))) (a : Int) (hP : ∀ k, P k → w0.heap.size ≤ k) (hB : Below w0.heap.size w0 w) (hv : Mk.Pcs P w v ns) :
    Calls Try.prog 76 #[v, .int .i64 a] w fun e w' => e = .returned (.int .i64 (Mk.bump (Mk.sumP ns) a)) ∧ Below w0.heap.size w0 w' ∧ Mk.Marked P w w' := by
  have hu := Try.underlying106
  have hus := Try.underlying91
  obtain ⟨A, c, rfl, hm, hv⟩ := hv
  go_enter Try.func76, Try.ntmps76
  go_wp2
  go_loopg [1, 5] ns.length (fun gg v1 v5 wr => ∃ i : Int, 0 ≤ i ∧ i ≤ (ns.length : Int) ∧ (ns.length : Int) - i ≤ gg ∧ v5 = .int .i64 i ∧ v1 = .int .i64 (Mk.bump (Mk.sumP (ns.take i.toNat)) a) ∧ Aside0 (Below w0.heap.size w0 wr) ∧ Aside0 (Mk.Marked P w wr))
  case atStart => exact ⟨0, by omega, by omega, by omega, rfl, rfl, ⟨hB⟩, ⟨Mk.Marked.refl P w⟩⟩
  case round =>
    obtain ⟨i, h0, h1, hg, rfl, rfl, HB, HM⟩ := hrel
    by_cases hlt : i < (ns.length : Int)
    · obtain ⟨g, rfl, hPg, hb, hj⟩ := hv (by omega)
      obtain ⟨q, hq⟩ : ∃ q, ns[i.toNat]? = some q := ⟨_, List.getElem?_eq_getElem (show i.toNat < ns.length by omega)⟩
      obtain ⟨⟨x0, hx0⟩, ⟨y0, hy0⟩, ⟨u1, hu1, hi1⟩, ⟨u2, hu2, hi2⟩⟩ := hj i.toNat q hq
      have hs1 := hi1.slice
      have hs2 := hi2.slice
      have hi1' := Aside0.mk hi1
      have hi2' := Aside0.mk hi2
      obtain ⟨A1, c1, rfl, _, _⟩ := hi1
      obtain ⟨A2, c2, rfl, _, _⟩ := hi2
      obtain ⟨x, hx⟩ := HM.out.num hb hx0
      have hf : wr.frozen? ⟨g, i.toNat * 4, none⟩ = false := (hb.on HM.out).thaw _
      have hsum : Mk.sumP (ns.take (i.toNat + 1)) = Mk.sumP (ns.take i.toNat) + (2 + q.1 * 2 + Mk.sumT q.2) := Mk.take_sum (f := fun p : Nat × List (Nat × Nat) => 2 + p.1 * 2 + Mk.sumT p.2) hq
      generalize Mk.sumP (ns.take i.toNat) = s at hsum ⊢
      have hM := HM.out.put hPg hb hx (Mk.bump s a)
      have p5 : (0 ≤ i) = True := eq_true h0
      have q5 : (i < (ns.length : Int)) = True := eq_true hlt
      have hd : decide (i < (ns.length : Int)) = true := decide_eq_true hlt
      go_wp2_with (first | ((with_reducible refine gate_store (t := 3) (p := 17) rfl ?_); refine store_event (t := 3) (p := 17) (v := ?vo_w8) (w1 := (wr.setCell ⟨g, i.toNat * 4, none⟩ (.int .i64 (Mk.bump s a)))) ?hg ?ho ?hn ?hr ?_; (case ho => rfl); (case hg => rfl); (case hn => rfl); (case hr => first | (go_simp; done) | (go_simp; rfl)); intro w8 hw; have HB2 := Aside0.mk ((by rw [hw]; exact below_set HB.out (hP g hPg)) : Below w0.heap.size w0 w8); have HM2 := Aside0.mk ((by rw [hw]; exact hM) : Mk.Marked P w w8); clear hw; obtain ⟨y, hy⟩ := HM2.out.num hb hy0; have hf2 : w8.frozen? ⟨g, i.toNat * 4 + 1, none⟩ = false := (hb.on HM2.out).thaw _; have hM2 := HM2.out.put hPg hb hy (wrap64 (Mk.bump s a + 1))) | ((with_reducible refine gate_store (t := 3) (p := 25) rfl ?_); refine store_event (t := 3) (p := 25) (v := ?vo_w9) (w1 := (w8.setCell ⟨g, i.toNat * 4 + 1, none⟩ (.int .i64 (wrap64 (Mk.bump s a + 1))))) ?hg ?ho ?hn ?hr ?_; (case ho => rfl); (case hg => rfl); (case hn => rfl); (case hr => first | (go_simp; done) | (go_simp; rfl)); intro w9 hw; have HB3 := Aside0.mk ((by rw [hw]; exact below_set HB2.out (hP g hPg)) : Below w0.heap.size w0 w9); have HM3 := Aside0.mk ((by rw [hw]; exact hM2) : Mk.Marked P w w9); clear hw; have hc1 : w9.cell? ⟨g, i.toNat * 4 + 2, none⟩ = some (.slice A1 q.1 c1) := HM3.out.cell hb hu1 hs1) | ((with_reducible refine gate_callee (f := 134) rfl ?_); refine goesL_ _ rfl rfl Try.func134 (by kernel_rfl) rfl #[.slice A1 q.1 c1, .int .i64 (wrap64 (wrap64 (Mk.bump s a + 1) + 1))] rfl (by (try simp only [List.map_toArray, List.map_cons, List.map_nil]); first | done | rfl | (go_simp; rfl)) ?_; refine (laws_markProgram.links P w0 w9 _ q.1 _ hP HB3.out (hi1'.out.on HM3.out)).mono ?_; rintro e w10 ⟨rfl, hb4, hm4⟩; refine ⟨_, rfl, ?_⟩; have HB4 := Aside0.mk hb4; have HM4 := Aside0.mk (HM3.out.trans hm4); clear hb4 hm4; have hc2 : w10.cell? ⟨g, i.toNat * 4 + 3, none⟩ = some (.slice A2 q.2.length c2) := HM4.out.cell hb hu2 hs2) | ((with_reducible refine gate_callee (f := 135) rfl ?_); refine goesL_ _ rfl rfl Try.func135 (by kernel_rfl) rfl #[.slice A2 q.2.length c2, .int .i64 (Mk.bump (q.1 * 2) (wrap64 (wrap64 (Mk.bump s a + 1) + 1)))] rfl (by (try simp only [List.map_toArray, List.map_cons, List.map_nil]); first | done | rfl | (go_simp; rfl)) ?_; refine (laws_markProgram.tables P w0 w10 _ q.2 _ hP HB4.out (hi2'.out.on HM4.out)).mono ?_; rintro e w11 ⟨rfl, hb5, hm5⟩; refine ⟨_, rfl, ?_⟩; have HB5 := Aside0.mk hb5; have HM5 := Aside0.mk (HM4.out.trans hm5); clear hb5 hm5))
      go_roundg (ns.length - (i.toNat + 1))
      case measure => omega
      case rel =>
        refine ⟨i + 1, by omega, by omega, by omega, by go_num, ?_, HB5, HM5⟩
        rw [show (i + 1).toNat = i.toNat + 1 by omega, hsum, show wrap64 (wrap64 (Mk.bump s a + 1) + 1) = Mk.bump 2 (Mk.bump s a) from rfl, Mk.bump_add, Mk.bump_add, Mk.bump_add, show Mk.sumT q.2 + q.1 * 2 + 2 + s = s + (2 + q.1 * 2 + Mk.sumT q.2) by omega]
    · have : i = (ns.length : Int) := by omega
      subst this
      have hd : decide ((ns.length : Int) < (ns.length : Int)) = false := decide_eq_false (by omega)
      rw [Int.toNat_natCast, List.take_length]
      go_wp2
      go_ret
      exact ⟨rfl, HB.out, HM.out⟩
def laws_markProgram.cnt (l : List S106) : List (Nat × List (Nat × Nat)) := l.map fun x => (x.f1.length, x.f2.map fun t => (t.f1.length, t.f2.length))
theorem laws_markProgram.ints_of {w : World} {base : Nat} {ok : Nat → Prop} {v : Value} {xs : List Int} (h : (Kd.int .i64).R 3 w base ok v xs) : Mk.Ints (fun k => ok k ∧ base ≤ k) w v xs.length xs.length := by
  obtain ⟨A, c, rfl⟩ := Kd.R_slice h
  refine ⟨A, c, rfl, Mk.R_len h, fun hn => ?_⟩
  obtain ⟨g, cap, e, hg, _, cs, hcs⟩ := Kd.R_form h hn
  injection e with e _ _
  subst e
  refine ⟨g, rfl, ⟨h.1 g rfl, hg⟩, ⟨cs, 3, hcs⟩, fun j hj => ⟨rdOf 0 xs (j : Int), ?_⟩⟩
  have := (Kd.R_celln 0 h (j : Int) (by omega) (by omega)).1
  rwa [Int.toNat_natCast] at this
theorem laws_markProgram.links_of {w : World} {base : Nat} {ok : Nat → Prop} {v : Value} {xs : List S128} (h : k128.R 128 w base ok v xs) : Mk.Ints (fun k => ok k ∧ base ≤ k) w v xs.length (xs.length * 2) := by
  obtain ⟨A, c, rfl⟩ := Kd.R_slice h
  refine ⟨A, c, rfl, Mk.R_len h, fun hn => ?_⟩
  obtain ⟨g, cap, e, hg, _, cs, hcs⟩ := Kd.R_form h hn
  injection e with e _ _
  subst e
  refine ⟨g, rfl, ⟨h.1 g rfl, hg⟩, ⟨cs, _, hcs⟩, fun j hj => ?_⟩
  obtain ⟨ce, _, hM, hcc, _⟩ := Kd.R_elem h z128 ((j / 2 : Nat) : Int) (by omega) (by omega)
  obtain rfl := k128_openM hM
  rw [Int.toNat_natCast] at hcc
  have h0 : w.cell? ⟨g, j / 2 * 2 + 0, none⟩ = some _ := hcc 0 _ rfl
  have h1 : w.cell? ⟨g, j / 2 * 2 + 1, none⟩ = some _ := hcc 1 _ rfl
  rcases (show j % 2 = 0 ∨ j % 2 = 1 by omega) with e | e
  · exact ⟨_, by rw [show j = j / 2 * 2 + 0 by omega]; exact h0⟩
  · exact ⟨_, by rw [show j = j / 2 * 2 + 1 by omega]; exact h1⟩
theorem laws_markProgram.tables_of {w : World} {base : Nat} {ok : Nat → Prop} {v : Value} {xs : List S65} (h : k65.R 65 w base ok v xs) : Mk.Tabs (fun k => ok k ∧ base ≤ k) w v (xs.map fun t => (t.f1.length, t.f2.length)) := by
  obtain ⟨A, c, rfl⟩ := Kd.R_slice h
  refine ⟨A, c, by rw [List.length_map], by rw [List.length_map]; exact Mk.R_len h, fun hn => ?_⟩
  rw [List.length_map] at hn
  obtain ⟨g, cap, e, hg, _, cs, hcs⟩ := Kd.R_form h hn
  injection e with e _ _
  subst e
  refine ⟨g, rfl, ⟨h.1 g rfl, hg⟩, ⟨cs, _, hcs⟩, fun i p hp => ?_⟩
  rw [List.getElem?_map] at hp
  obtain ⟨t, ht, rfl⟩ := Option.map_eq_some_iff.1 hp
  have hlt : i < xs.length := (List.getElem?_eq_some_iff.1 ht).1
  obtain ⟨ce, _, hM, hcc, _⟩ := Kd.R_elem h z65 (i : Int) (by omega) (by omega)
  rw [Int.toNat_natCast] at hM hcc
  rw [List.getD_eq_getElem?_getD, ht] at hM
  obtain ⟨v1, v2, rfl, r1, r2⟩ := k65_openM hM
  have ok2 : ∀ {v : Value} {l : List Int}, (Kd.int .i64).R 3 w base (fun k => ok k ∧ k ≠ g) v l → Mk.Ints (fun k => ok k ∧ base ≤ k) w v l.length l.length := fun r => laws_markProgram.ints_of (Kd.R_mono r fun _ hk => hk.1)
  exact ⟨⟨_, hcc 0 _ rfl⟩, ⟨v1, hcc 1 _ rfl, ok2 r1⟩, ⟨v2, hcc 2 _ rfl, ok2 r2⟩⟩
theorem laws_markProgram.pieces_of {w : World} {base : Nat} {ok : Nat → Prop} {v : Value} {xs : List S106} (h : k106.R 106 w base ok v xs) : Mk.Pcs (fun k => ok k ∧ base ≤ k) w v (laws_markProgram.cnt xs) := by
  obtain ⟨A, c, rfl⟩ := Kd.R_slice h
  unfold laws_markProgram.cnt
  refine ⟨A, c, by rw [List.length_map], by rw [List.length_map]; exact Mk.R_len h, fun hn => ?_⟩
  rw [List.length_map] at hn
  obtain ⟨g, cap, e, hg, _, cs, hcs⟩ := Kd.R_form h hn
  injection e with e _ _
  subst e
  refine ⟨g, rfl, ⟨h.1 g rfl, hg⟩, ⟨cs, _, hcs⟩, fun i p hp => ?_⟩
  rw [List.getElem?_map] at hp
  obtain ⟨t, ht, rfl⟩ := Option.map_eq_some_iff.1 hp
  have hlt : i < xs.length := (List.getElem?_eq_some_iff.1 ht).1
  obtain ⟨ce, _, hM, hcc, _⟩ := Kd.R_elem h z106 (i : Int) (by omega) (by omega)
  rw [Int.toNat_natCast] at hM hcc
  rw [List.getD_eq_getElem?_getD, ht] at hM
  obtain ⟨v2, v3, rfl, r2, r3⟩ := k106_openM hM
  exact ⟨⟨_, hcc 0 _ rfl⟩, ⟨_, hcc 1 _ rfl⟩, ⟨v2, hcc 2 _ rfl, laws_markProgram.links_of (Kd.R_mono r2 fun _ hk => hk.1)⟩, ⟨v3, hcc 3 _ rfl, laws_markProgram.tables_of (Kd.R_mono r3 fun _ hk => hk.1)⟩⟩
def laws_markProgram.f (_a0_0 : Int) (_a0_1 : Int) (_a0_2 : Int) (l0_3 : List (S106)) (a1 : Int) : Option (Int) := some (Mk.bump (Mk.sumP (laws_markProgram.cnt l0_3)) a1)
set_option maxHeartbeats 8000000 in
set_option maxRecDepth 100000 in
theorem laws_markProgram.calls (a0_0 : Int) (a0_1 : Int) (a0_2 : Int) (P0_3_ : Nat → Prop) (u9000_ : Value) (l0_3 : List (S106)) (a1 : Int) (r : Int) (w0 w : World) (hB : Below w0.heap.size w0 w) (ho0_3 : Kd.R k106 106 w w0.heap.size P0_3_ u9000_ l0_3) (h : laws_markProgram.f a0_0 a0_1 a0_2 l0_3 a1 = some r) :
    Calls Try.prog 22 #[.agg #[.int .i64 a0_0, .int .i64 a0_1, .int .i64 a0_2, u9000_], .int .i64 a1] w fun e w' => e = .returned (.int .i64 r) ∧ Below w0.heap.size w0 w' ∧ Kept w w' (fun k_ => P0_3_ k_) := by
 have hu := Try.underlying29
 obtain rfl := Option.some.inj h
 obtain ⟨A0_3, c0_3, rfl⟩ := Kd.R_slice ho0_3
 have HO := Aside0.mk ho0_3
 have HB := Aside0.mk hB
 clear ho0_3 hB h
 go_enter Try.func22, Try.ntmps22
 go_wp2_with (first | ((with_reducible refine gate_dst (N := 2) rfl ?_); refine bx 2 #[.int .i64 a0_0, .int .i64 a0_1, .int .i64 a0_2, .slice A0_3 l0_3.length c0_3] 29 ?_; intro gbx hg w3 hbox hb3; have hc3 : w3.cell? ⟨gbx, 3, none⟩ = some (.slice A0_3 l0_3.length c0_3) := (blk_cell hbox 3).trans rfl; have HB3 := Aside0.mk (below_then HB.out HB.out.size hb3); have HO3 := Aside0.mk (Kd.R_below HO.out hb3); have HK3 := Aside0.mk (Kept.of_below hb3 (fun k_ => P0_3_ k_)); clear hb3 hbox hg) | ((with_reducible refine gate_callee (f := 76) rfl ?_); refine goesL_ _ rfl rfl Try.func76 (by kernel_rfl) rfl #[.slice A0_3 l0_3.length c0_3, .int .i64 a1] rfl (by (try simp only [List.map_toArray, List.map_cons, List.map_nil]); first | done | rfl | (go_simp; rfl)) ?_; refine (laws_markProgram.pieces (fun k => P0_3_ k ∧ w0.heap.size ≤ k) w0 w3 _ _ a1 (fun _ hk => hk.2) HB3.out (laws_markProgram.pieces_of HO3.out)).mono ?_; rintro e w4 ⟨rfl, hb4, hm4⟩; refine ⟨_, rfl, ?_⟩; have HB4 := Aside0.mk hb4; have HM4 := Aside0.mk hm4; clear hb4 hm4))
 go_ret
 exact ⟨rfl, HB4.out, HK3.out.then_ HM4.out.kept (fun _ hk => .inl hk.1)⟩

/-! ### spec_l1In: function 63 -/
def spec_l1In.f (a0 : Int) (a1 : Int) (a2 : Int) : Option (Bool) := if a0 ≥ a1 then (some (decide (a0 ≤ a2))) else (some false)
set_option maxHeartbeats 8000000 in
set_option maxRecDepth 100000 in
theorem spec_l1In.calls (a0 : Int) (a1 : Int) (a2 : Int) (r : Bool) (w : World) (h : spec_l1In.f a0 a1 a2 = some r) :
    Calls Try.prog 63 #[.int .i64 a0, .int .i64 a1, .int .i64 a2] w fun e w' => e = .returned (.bool r) ∧ Drawn0 w w' := by
 have H : (if a0 ≥ a1 then (some (decide (a0 ≤ a2))) else (some false)) = some r := h
 clear h
 obtain ⟨c4, H⟩ | ⟨c4, H⟩ := ie_ H
 ·have c4b0 := decide_eq_true c4
  clear c4
  obtain rfl := Option.some.inj H
  go_enter Try.func63, Try.ntmps63
  go_wp2
  go_ret
  exact ⟨sc, sd⟩
 ·have c4b0 := decide_eq_false c4
  clear c4
  obtain rfl := Option.some.inj H
  go_enter Try.func63, Try.ntmps63
  go_wp2
  go_ret
  exact ⟨sc, sd⟩

/-! ### spec_l15Copy: function 148 -/
def spec_l15Copy.f (a0_0 : Int) (l0_1 : List Int) (l0_2 : List Int) : Option (Int × List Int × List Int) := (some (([] : List Int) : List Int)).bind fun y215 => (if y215.length + l0_1.length < 17592186044416 then ((some (([] : List Int) : List Int)).bind fun y221 => (if y221.length + l0_2.length < 17592186044416 then (some (a0_0, (y215 ++ l0_1), (y221 ++ l0_2))) else (none))) else (none))
def spec_l15Copy.T1 : Bool × List (List Nat × List Nat) := (true, [([], []), ([0], [0]), ([], []), ([], []), ([3], [3]), ([2, 4], [2, 4]), ([], []), ([], []), ([7], [7]), ([6, 8, 5], [6, 8]), ([1, 5, 9], [1, 5, 9]), ([10, 9, 0, 1, 2, 3, 4, 5, 6, 7, 8, 9, 10], [10])])
def spec_l15Copy.B1 : List Nat := [0, 1, 0, 0, 8, 28, 0, 0, 128, 508, 1023, 2047]
theorem spec_l15Copy.tab1 : rtab .any (opsOf Try.f148 1) = spec_l15Copy.T1 := by kernel_rfl
theorem spec_l15Copy.bits1 : waitsOk spec_l15Copy.T1.2 spec_l15Copy.B1 = true := by kernel_rfl
set_option maxHeartbeats 8000000 in
set_option maxRecDepth 100000 in
theorem spec_l15Copy.calls (a0_0 : Int) (A0_1 : Option Addr) (c0_1 : Nat) (l0_1 : List Int) (A0_2 : Option Addr) (c0_2 : Nat) (l0_2 : List Int) (r1 : Int) (r2 : List Int) (r3 : List Int) (w : World) (hr0_1 : Kd.C (Kd.int .i64) w A0_1 l0_1.length l0_1) (hc0_1 : l0_1.length ≤ c0_1) (hr0_2 : Kd.C (Kd.int .i64) w A0_2 l0_2.length l0_2) (hc0_2 : l0_2.length ≤ c0_2) (h : spec_l15Copy.f a0_0 l0_1 l0_2 = some (r1, r2, r3)) :
    Calls Try.prog 148 #[.agg #[.int .i64 a0_0, .slice A0_1 l0_1.length c0_1, .slice A0_2 l0_2.length c0_2]] w fun e w' => ∃ v1_ v2_ : Value, e = .returned (.agg #[.int .i64 r1, v1_, v2_]) ∧ Kd.R (Kd.int .i64) 3 w' w.heap.size (fun k_ => some k_ ≠ (v2_ : Value).ownBlock) v1_ r2 ∧ Kd.R (Kd.int .i64) 3 w' w.heap.size (fun k_ => some k_ ≠ (v1_ : Value).ownBlock) v2_ r3 ∧ Below w.heap.size w w' := by
 have hu65 := Try.underlying65
 have HR0_1 := Aside0.mk hr0_1
 have HC0_1 := Aside0.mk hc0_1
 clear hr0_1 hc0_1
 have HR0_2 := Aside0.mk hr0_2
 have HC0_2 := Aside0.mk hc0_2
 clear hr0_2 hc0_2
 have HB := Aside0.mk (Below.refl w.heap.size w)
 have H : ((some (([] : List Int) : List Int)).bind fun y215 => (if y215.length + l0_1.length < 17592186044416 then ((some (([] : List Int) : List Int)).bind fun y221 => (if y221.length + l0_2.length < 17592186044416 then (some (a0_0, (y215 ++ l0_1), (y221 ++ l0_2))) else (none))) else (none))) = some (r1, r2, r3) := h
 clear h
 obtain ⟨y215, hy215⟩ : ∃ y_ : List Int, y_ = (([] : List Int)) := ⟨_, rfl⟩
 replace H : (if y215.length + l0_1.length < 17592186044416 then ((some (([] : List Int) : List Int)).bind fun y221 => (if y221.length + l0_2.length < 17592186044416 then (some (a0_0, (y215 ++ l0_1), (y221 ++ l0_2))) else (none))) else (none)) = some (r1, r2, r3) := by first | (rw [hy215]; with_reducible exact H) | (have H2_ := (Option.bind_some _ _).symm.trans H; rw [hy215]; with_reducible exact H2_) | (have H2_ := (Option.bind_some _ _).symm.trans H; with_reducible exact H2_) | with_reducible exact H | (rw [hy215]; exact H) | exact H
 have Ny215 := Aside0.mk hy215
 clear hy215
 obtain ⟨LMc2, H⟩ := il_ H
 obtain ⟨y218, hy218⟩ : ∃ y_ : List Int, y_ = (y215 ++ l0_1) := ⟨_, rfl⟩
 replace H : ((some (([] : List Int) : List Int)).bind fun y221 => (if y221.length + l0_2.length < 17592186044416 then (some (a0_0, y218, (y221 ++ l0_2))) else (none))) = some (r1, r2, r3) := by first | (rw [hy218]; with_reducible exact H) | (have H2_ := (Option.bind_some _ _).symm.trans H; rw [hy218]; with_reducible exact H2_) | (have H2_ := (Option.bind_some _ _).symm.trans H; with_reducible exact H2_) | with_reducible exact H | (rw [hy218]; exact H) | exact H
 have Ny218 := Aside0.mk hy218
 clear hy218
 obtain ⟨y221, hy221⟩ : ∃ y_ : List Int, y_ = (([] : List Int)) := ⟨_, rfl⟩
 replace H : (if y221.length + l0_2.length < 17592186044416 then (some (a0_0, y218, (y221 ++ l0_2))) else (none)) = some (r1, r2, r3) := by first | (rw [hy221]; with_reducible exact H) | (have H2_ := (Option.bind_some _ _).symm.trans H; rw [hy221]; with_reducible exact H2_) | (have H2_ := (Option.bind_some _ _).symm.trans H; with_reducible exact H2_) | with_reducible exact H | (rw [hy221]; exact H) | exact H
 have Ny221 := Aside0.mk hy221
 clear hy221
 obtain ⟨LMc3, H⟩ := il_ H
 obtain ⟨y224, hy224⟩ : ∃ y_ : List Int, y_ = (y221 ++ l0_2) := ⟨_, rfl⟩
 replace H : (some (a0_0, y218, y224)) = some (r1, r2, r3) := by first | (rw [hy224]; with_reducible exact H) | (have H2_ := (Option.bind_some _ _).symm.trans H; rw [hy224]; with_reducible exact H2_) | (have H2_ := (Option.bind_some _ _).symm.trans H; with_reducible exact H2_) | with_reducible exact H | (rw [hy224]; exact H) | exact H
 have Ny224 := Aside0.mk hy224
 clear hy224
 simp only [Option.some.injEq, Prod.mk.injEq] at H
 obtain ⟨rfl, rfl, rfl⟩ := H
 go_enter Try.func148, Try.ntmps148
 try go_wp2_with (first | ((with_reducible refine gate_dst (N := 1) rfl ?_); refine bx 1 #[.int .i64 a0_0, .slice A0_1 l0_1.length c0_1, .slice A0_2 l0_2.length c0_2] 65 ?_; intro gb213 hg w4 hbox hb; have BK213 := Aside0.mk hbox; have GW213 := bz w hg; have GE213 := bz w hg; replace HB := bs hb; clear hb hbox hg) | ((with_reducible refine gate_dst (N := 2) rfl ?_); refine bx 2 #[.int .i64 0, .slice none 0 0, .slice none 0 0] 65 ?_; intro gb214 hg w5 hbox hb; have BK214 := Aside0.mk hbox; have GW214 := bzw w hg; have GE214 := bzw w hg; replace HB := bsw hb; have NB213_214 := nl BK213 hg; have NB214_213 := ng BK213 hg; replace BK213 := bb BK213 hb; clear hb hbox hg))
 replace BK213 := Aside0.mk (blk_drew BK213.out)
 replace BK214 := Aside0.mk (blk_drew BK214.out)
 replace HB := Aside0.mk (below_drew1 HB.out)
 refine start_ (n := 12) (S := fun w' => w'.cell? ⟨gb213, 0, none⟩ = some (.int .i64 a0_0) ∧ w'.cell? ⟨gb213, 1, none⟩ = some (.slice A0_1 l0_1.length c0_1) ∧ w'.cell? ⟨gb213, 2, none⟩ = some (.slice A0_2 l0_2.length c0_2)) (ds := []) #[false, false, false, false, false, false, false, false, false, false, false, false] (by kernel_rfl) rfl rfl ⟨bc0 BK213, bc1 BK213, bc2 BK213⟩ (fun hHeld => ?_); refine with_tabW spec_l15Copy.tab1 spec_l15Copy.bits1 (fun HT_ HW_ => ?_)
 generalize w5.drew = w6 at BK213 BK214 HB hHeld ⊢
 refine put 0 3 #[true, false, false, false, false, false, false, false, false, false, false, false] HT_ ?_
 refine put 3 6 #[true, false, false, true, false, false, false, false, false, false, false, false] HT_ ?_
 refine put 7 10 #[true, false, false, true, false, false, false, true, false, false, false, false] HT_ ?_
 refine tat3 1 4 #[true, true, false, true, false, false, false, true, false, false, false, false] HT_ HW_ hHeld ?_
 refine tat3 4 7 #[true, true, false, true, true, false, false, true, false, false, false, false] HT_ HW_ hHeld ?_
 refine tat3 8 11 #[true, true, false, true, true, false, false, true, true, false, false, false] HT_ HW_ hHeld ?_
 refine join_ (σ := Value × Value × Value) 3 #[true, true, true, true, true, true, true, true, true, false, false, false] (fun s_ => [(5, s_.1), (8, s_.2.1), (9, s_.2.2)]) (fun s_ w' => (w'.cell? ⟨gb213, 0, none⟩ = some (.int .i64 a0_0) ∧ w'.cell? ⟨gb213, 1, none⟩ = some (.slice A0_1 l0_1.length c0_1) ∧ w'.cell? ⟨gb213, 2, none⟩ = some (.slice A0_2 l0_2.length c0_2)) ∧ (Kd.R (Kd.int .i64) 3 w' w.heap.size (fun k_ => some k_ ≠ (s_.2.2 : Value).ownBlock) s_.2.1 y218) ∧ (Kd.R (Kd.int .i64) 3 w' w.heap.size (fun k_ => some k_ ≠ (s_.2.1 : Value).ownBlock) s_.2.2 y221) ∧ (w'.heap[gb213]? = some (.cells #[.int .i64 a0_0, .slice A0_1 l0_1.length c0_1, .slice A0_2 l0_2.length c0_2] 65 (0, 0))) ∧ (w'.heap[gb214]? = some (.cells #[.int .i64 0, .slice none 0 0, .slice none 0 0] 65 (0, 0))) ∧ (Below w.heap.size w w')) ?_ ?_
 rotate_left
 ·intro hCont
  refine two_ (i := 2) (j := 6) (Ni := some 5) (Nj := some 9) #[true, true, true, true, true, false, false, true, true, false, false, false] #[true, true, false, true, true, false, true, true, true, false, false, false] rfl rfl rfl rfl (two_of HT_.out (by kernel_rfl)) (by decide) (by decide) (fun K hK => ?_) (fun K hK => ?_)
  ·skip
   refine Kd.R_lit_step (Kd.int .i64) _ 3 ?hg (N := 5) ?hd (xs := ([] : List Int)) (inner := []) (ok := fun _ => True) (okp := fun _ => True) ?hr ?hp (fun _ hk => hk) trivial (Below.refl _ _) (Nat.le_refl _) (by simp) ?_; (case hd => rfl); (case hg => rfl); (case hr => first | (go_simp; done) | (go_simp; rfl)); (case hp => exact (Reps.none _ _))
   intro v216 w7 ho8 hb hg_ hnew_
   clear hg_ hnew_
   (first | rw [← Ny215.out] at ho8 | (simp only [Int.reduceToNat] at ho8; rw [← Ny215.out] at ho8))
   have HO217 := Aside0.mk (Kd.R_lower ho8 (below_size (sbw)))
   replace BK213 := bb BK213 hb
   replace BK214 := bb BK214 hb
   replace HB := bsw hb
   clear hb ho8
   refine hK.out _ _ ⟨bc0 BK213, bc1 BK213, bc2 BK213⟩ (fun hHeld => ?_)
   clear hK K
   refine norm_ (a' := ?_) ?_ ?_
   rotate_left
   ·show Act.put _ (some 5) _ = _
    simp only [Act.put, List.setIfInBounds_toArray, List.set_cons_zero, List.set_cons_succ, i64_w, i32_w]
    rfl
   refine two_ (i := 5) (j := 6) (Ni := some 8) (Nj := some 9) #[true, true, true, true, true, true, false, true, true, false, false, false] #[true, true, true, true, true, false, true, true, true, false, false, false] rfl rfl rfl rfl (two_of HT_.out (by kernel_rfl)) (by decide) (by decide) (fun K hK => ?_) (fun K hK => ?_)
   ·skip
    refine Kd.R_append_rows_step (Kd.int .i64) (w0 := w) w.heap.size (by rfl) (.tmp 5) (.tmp 7) 40 3 (.int .i64 0) 8 rfl Try.underlying40 info3 rfl (by decide) (by omega) v216 y215 l0_1 _ _ _ (fun _ => True) (fun _ => False) rfl rfl ?aO ?aR (fun _ _ h => h) (fun _ h => h.elim) ?aF ?aB ?aS ?aL ?_
    (case aR => repeat (first | exact (Kd.C_below HR0_1.out HB.out) | (with_reducible refine Kd.C_alloc ?_ _) | (with_reducible refine Kd.C_drewN ?_ _) | (with_reducible refine Kd.C_drew ?_)))
    (case aB => exact (sbw))
    (case aF => exact (fun _ _ => trivial))
    (case aO => exact (sr HO217))
    (case aS => exact (below_size (sbw)))
    (case aL => have := LMc2.out; omega)
    intro v219 w9 ho hb hg hat
    rw [← Ny218.out] at ho
    replace BK213 := Aside0.mk (blk_grown (g := gb213) (o := .cells #[.int .i64 a0_0, .slice A0_1 l0_1.length c0_1, .slice A0_2 l0_2.length c0_2] 65 (0, 0)) (sk BK213) hg (Kd.R_ne HO217.out BK213.out (by decide)))
    replace BK214 := Aside0.mk (blk_grown (g := gb214) (o := .cells #[.int .i64 0, .slice none 0 0, .slice none 0 0] 65 (0, 0)) (sk BK214) hg (Kd.R_ne HO217.out BK214.out (by decide)))
    replace HB := Aside0.mk hb
    have HO220 := Aside0.mk ho
    clear HO217 ho hb hg hat
    refine hK.out _ _ ⟨bc0 BK213, bc1 BK213, bc2 BK213⟩ (fun hHeld => ?_)
    clear hK K
    refine norm_ (a' := ?_) ?_ ?_
    rotate_left
    ·show Act.put _ (some 8) _ = _
     simp only [Act.put, List.setIfInBounds_toArray, List.set_cons_zero, List.set_cons_succ, i64_w, i32_w]
     rfl
    refine one_ (i := 6) (N := some 9) #[true, true, true, true, true, true, true, true, true, false, false, false] rfl rfl (one_of HT_.out (by kernel_rfl)) (by decide) (fun K hK => ?_)
    refine Kd.R_lit_step (Kd.int .i64) _ 3 ?hg (N := 9) ?hd (xs := ([] : List Int)) (inner := []) (ok := fun _ => True) (okp := fun _ => True) ?hr ?hp (fun _ hk => hk) trivial (Below.refl _ _) (Nat.le_refl _) (by simp) ?_; (case hd => rfl); (case hg => rfl); (case hr => first | (go_simp; done) | (go_simp; rfl)); (case hp => exact (Reps.none _ _))
    intro v222 w10 ho11 hb hg_ hnew_
    clear hg_ hnew_
    (first | rw [← Ny221.out] at ho11 | (simp only [Int.reduceToNat] at ho11; rw [← Ny221.out] at ho11))
    have HO223 := Aside0.mk (Kd.R_lower (Kd.R_new' ho11 (Kd.R_lt (sr HO220))) (below_size (sbw)))
    replace HO220 := Aside0.mk (Kd.R_elder' (sr HO220) (Kd.R_base ho11) hb)
    replace BK213 := bb BK213 hb
    replace BK214 := bb BK214 hb
    replace HB := bsw hb
    clear hb ho11
    refine hK.out _ _ ⟨bc0 BK213, bc1 BK213, bc2 BK213⟩ (fun hHeld => ?_)
    clear hK K
    refine norm_ (a' := ?_) ?_ ?_
    rotate_left
    ·show Act.put _ (some 9) _ = _
     simp only [Act.put, List.setIfInBounds_toArray, List.set_cons_zero, List.set_cons_succ, i64_w, i32_w]
     rfl
    exact norm_ (by simp only [putAll, Act.put, List.setIfInBounds_toArray, List.set_cons_zero, List.set_cons_succ]) (hCont (v216, v219, v222) _ ⟨hHeld, (by (with_reducible repeat (first | apply Kd.R_alloc | apply Kd.R_drewN | apply Kd.R_drew)); exact Kd.R_mono HO220.out (fun _ hk => hk.2)), (by (with_reducible repeat (first | apply Kd.R_alloc | apply Kd.R_drewN | apply Kd.R_drew)); exact Kd.R_mono HO223.out (fun _ hk => hk.2)), (sk BK213), (sk BK214), (sbw)⟩)
   ·skip
    refine Kd.R_lit_step (Kd.int .i64) _ 3 ?hg (N := 9) ?hd (xs := ([] : List Int)) (inner := []) (ok := fun _ => True) (okp := fun _ => True) ?hr ?hp (fun _ hk => hk) trivial (Below.refl _ _) (Nat.le_refl _) (by simp) ?_; (case hd => rfl); (case hg => rfl); (case hr => first | (go_simp; done) | (go_simp; rfl)); (case hp => exact (Reps.none _ _))
    intro v222 w9 ho10 hb hg_ hnew_
    clear hg_ hnew_
    (first | rw [← Ny221.out] at ho10 | (simp only [Int.reduceToNat] at ho10; rw [← Ny221.out] at ho10))
    have HO223 := Aside0.mk (Kd.R_lower (Kd.R_new' ho10 (Kd.R_lt (sr HO217))) (below_size (sbw)))
    replace HO217 := Aside0.mk (Kd.R_elder' (sr HO217) (Kd.R_base ho10) hb)
    replace BK213 := bb BK213 hb
    replace BK214 := bb BK214 hb
    replace HB := bsw hb
    clear hb ho10
    refine hK.out _ _ ⟨bc0 BK213, bc1 BK213, bc2 BK213⟩ (fun hHeld => ?_)
    clear hK K
    refine norm_ (a' := ?_) ?_ ?_
    rotate_left
    ·show Act.put _ (some 9) _ = _
     simp only [Act.put, List.setIfInBounds_toArray, List.set_cons_zero, List.set_cons_succ, i64_w, i32_w]
     rfl
    refine one_ (i := 5) (N := some 8) #[true, true, true, true, true, true, true, true, true, false, false, false] rfl rfl (one_of HT_.out (by kernel_rfl)) (by decide) (fun K hK => ?_)
    refine Kd.R_append_rows_step (Kd.int .i64) (w0 := w) w.heap.size (by rfl) (.tmp 5) (.tmp 7) 40 3 (.int .i64 0) 8 rfl Try.underlying40 info3 rfl (by decide) (by omega) v216 y215 l0_1 _ _ _ (fun k_ => some k_ ≠ (v222 : Value).ownBlock) (fun _ => False) rfl rfl ?aO ?aR (fun _ _ h => h) (fun _ h => h.elim) ?aF ?aB ?aS ?aL ?_
    (case aR => repeat (first | exact (Kd.C_below HR0_1.out HB.out) | (with_reducible refine Kd.C_alloc ?_ _) | (with_reducible refine Kd.C_drewN ?_ _) | (with_reducible refine Kd.C_drew ?_)))
    (case aB => exact (sbw))
    (case aF => exact (fun k_ hk => Kd.fresh' (Kd.R_lt (sr HO223)) k_ hk))
    (case aO => exact (by (with_reducible repeat (first | apply Kd.R_alloc | apply Kd.R_drewN | apply Kd.R_drew)); exact Kd.R_mono HO217.out (fun _ hk => hk.2)))
    (case aS => exact (below_size (sbw)))
    (case aL => have := LMc2.out; omega)
    intro v219 w11 ho hb hg hat
    rw [← Ny218.out] at ho
    replace BK213 := Aside0.mk (blk_grown (g := gb213) (o := .cells #[.int .i64 a0_0, .slice A0_1 l0_1.length c0_1, .slice A0_2 l0_2.length c0_2] 65 (0, 0)) (sk BK213) hg (Kd.R_ne HO217.out BK213.out (by decide)))
    replace BK214 := Aside0.mk (blk_grown (g := gb214) (o := .cells #[.int .i64 0, .slice none 0 0, .slice none 0 0] 65 (0, 0)) (sk BK214) hg (Kd.R_ne HO217.out BK214.out (by decide)))
    replace HO223 := Aside0.mk (Kd.R_after (ok := (fun _ => True)) (sr HO223) hg hat)
    replace HB := Aside0.mk hb
    have HO220 := Aside0.mk ho
    clear HO217 ho hb hg hat
    refine hK.out _ _ ⟨bc0 BK213, bc1 BK213, bc2 BK213⟩ (fun hHeld => ?_)
    clear hK K
    refine norm_ (a' := ?_) ?_ ?_
    rotate_left
    ·show Act.put _ (some 8) _ = _
     simp only [Act.put, List.setIfInBounds_toArray, List.set_cons_zero, List.set_cons_succ, i64_w, i32_w]
     rfl
    exact norm_ (by simp only [putAll, Act.put, List.setIfInBounds_toArray, List.set_cons_zero, List.set_cons_succ]) (hCont (v216, v219, v222) _ ⟨hHeld, (sr HO220), (by (with_reducible repeat (first | apply Kd.R_alloc | apply Kd.R_drewN | apply Kd.R_drew)); exact Kd.R_mono HO223.out (fun _ hk => hk.2)), (sk BK213), (sk BK214), (sbw)⟩)
  ·skip
   refine Kd.R_lit_step (Kd.int .i64) _ 3 ?hg (N := 9) ?hd (xs := ([] : List Int)) (inner := []) (ok := fun _ => True) (okp := fun _ => True) ?hr ?hp (fun _ hk => hk) trivial (Below.refl _ _) (Nat.le_refl _) (by simp) ?_; (case hd => rfl); (case hg => rfl); (case hr => first | (go_simp; done) | (go_simp; rfl)); (case hp => exact (Reps.none _ _))
   intro v222 w7 ho8 hb hg_ hnew_
   clear hg_ hnew_
   (first | rw [← Ny221.out] at ho8 | (simp only [Int.reduceToNat] at ho8; rw [← Ny221.out] at ho8))
   have HO223 := Aside0.mk (Kd.R_lower ho8 (below_size (sbw)))
   replace BK213 := bb BK213 hb
   replace BK214 := bb BK214 hb
   replace HB := bsw hb
   clear hb ho8
   refine hK.out _ _ ⟨bc0 BK213, bc1 BK213, bc2 BK213⟩ (fun hHeld => ?_)
   clear hK K
   refine norm_ (a' := ?_) ?_ ?_
   rotate_left
   ·show Act.put _ (some 9) _ = _
    simp only [Act.put, List.setIfInBounds_toArray, List.set_cons_zero, List.set_cons_succ, i64_w, i32_w]
    rfl
   refine one_ (i := 2) (N := some 5) #[true, true, true, true, true, false, true, true, true, false, false, false] rfl rfl (one_of HT_.out (by kernel_rfl)) (by decide) (fun K hK => ?_)
   refine Kd.R_lit_step (Kd.int .i64) _ 3 ?hg (N := 5) ?hd (xs := ([] : List Int)) (inner := []) (ok := fun _ => True) (okp := fun _ => True) ?hr ?hp (fun _ hk => hk) trivial (Below.refl _ _) (Nat.le_refl _) (by simp) ?_; (case hd => rfl); (case hg => rfl); (case hr => first | (go_simp; done) | (go_simp; rfl)); (case hp => exact (Reps.none _ _))
   intro v216 w9 ho10 hb hg_ hnew_
   clear hg_ hnew_
   (first | rw [← Ny215.out] at ho10 | (simp only [Int.reduceToNat] at ho10; rw [← Ny215.out] at ho10))
   have HO217 := Aside0.mk (Kd.R_lower (Kd.R_new' ho10 (Kd.R_lt (sr HO223))) (below_size (sbw)))
   replace HO223 := Aside0.mk (Kd.R_elder' (sr HO223) (Kd.R_base ho10) hb)
   replace BK213 := bb BK213 hb
   replace BK214 := bb BK214 hb
   replace HB := bsw hb
   clear hb ho10
   refine hK.out _ _ ⟨bc0 BK213, bc1 BK213, bc2 BK213⟩ (fun hHeld => ?_)
   clear hK K
   refine norm_ (a' := ?_) ?_ ?_
   rotate_left
   ·show Act.put _ (some 5) _ = _
    simp only [Act.put, List.setIfInBounds_toArray, List.set_cons_zero, List.set_cons_succ, i64_w, i32_w]
    rfl
   refine one_ (i := 5) (N := some 8) #[true, true, true, true, true, true, true, true, true, false, false, false] rfl rfl (one_of HT_.out (by kernel_rfl)) (by decide) (fun K hK => ?_)
   refine Kd.R_append_rows_step (Kd.int .i64) (w0 := w) w.heap.size (by rfl) (.tmp 5) (.tmp 7) 40 3 (.int .i64 0) 8 rfl Try.underlying40 info3 rfl (by decide) (by omega) v216 y215 l0_1 _ _ _ (fun k_ => some k_ ≠ (v222 : Value).ownBlock) (fun _ => False) rfl rfl ?aO ?aR (fun _ _ h => h) (fun _ h => h.elim) ?aF ?aB ?aS ?aL ?_
   (case aR => repeat (first | exact (Kd.C_below HR0_1.out HB.out) | (with_reducible refine Kd.C_alloc ?_ _) | (with_reducible refine Kd.C_drewN ?_ _) | (with_reducible refine Kd.C_drew ?_)))
   (case aB => exact (sbw))
   (case aF => exact (fun k_ hk => Kd.fresh' (Kd.R_lt (sr HO223)) k_ hk))
   (case aO => exact (by (with_reducible repeat (first | apply Kd.R_alloc | apply Kd.R_drewN | apply Kd.R_drew)); exact Kd.R_mono HO217.out (fun _ hk => hk.2)))
   (case aS => exact (below_size (sbw)))
   (case aL => have := LMc2.out; omega)
   intro v219 w11 ho hb hg hat
   rw [← Ny218.out] at ho
   replace BK213 := Aside0.mk (blk_grown (g := gb213) (o := .cells #[.int .i64 a0_0, .slice A0_1 l0_1.length c0_1, .slice A0_2 l0_2.length c0_2] 65 (0, 0)) (sk BK213) hg (Kd.R_ne HO217.out BK213.out (by decide)))
   replace BK214 := Aside0.mk (blk_grown (g := gb214) (o := .cells #[.int .i64 0, .slice none 0 0, .slice none 0 0] 65 (0, 0)) (sk BK214) hg (Kd.R_ne HO217.out BK214.out (by decide)))
   replace HO223 := Aside0.mk (Kd.R_after (ok := (fun _ => True)) (sr HO223) hg hat)
   replace HB := Aside0.mk hb
   have HO220 := Aside0.mk ho
   clear HO217 ho hb hg hat
   refine hK.out _ _ ⟨bc0 BK213, bc1 BK213, bc2 BK213⟩ (fun hHeld => ?_)
   clear hK K
   refine norm_ (a' := ?_) ?_ ?_
   rotate_left
   ·show Act.put _ (some 8) _ = _
    simp only [Act.put, List.setIfInBounds_toArray, List.set_cons_zero, List.set_cons_succ, i64_w, i32_w]
    rfl
   exact norm_ (by simp only [putAll, Act.put, List.setIfInBounds_toArray, List.set_cons_zero, List.set_cons_succ]) (hCont (v216, v219, v222) _ ⟨hHeld, (sr HO220), (by (with_reducible repeat (first | apply Kd.R_alloc | apply Kd.R_drewN | apply Kd.R_drew)); exact Kd.R_mono HO223.out (fun _ hk => hk.2)), (sk BK213), (sk BK214), (sbw)⟩)
 rintro ⟨v216, v219, v222⟩ w12 ⟨hS_, h0_, h1_, h2_, h3_, h4_⟩
 have HO220 : Aside0 (Kd.R (Kd.int .i64) 3 w12 w.heap.size (fun k_ => some k_ ≠ (v222 : Value).ownBlock) v219 y218) := ⟨h0_⟩
 have HO223 : Aside0 (Kd.R (Kd.int .i64) 3 w12 w.heap.size (fun k_ => some k_ ≠ (v219 : Value).ownBlock) v222 y221) := ⟨h1_⟩
 replace BK213 : Aside0 (w12.heap[gb213]? = some (.cells #[.int .i64 a0_0, .slice A0_1 l0_1.length c0_1, .slice A0_2 l0_2.length c0_2] 65 (0, 0))) := ⟨h2_⟩
 replace BK214 : Aside0 (w12.heap[gb214]? = some (.cells #[.int .i64 0, .slice none 0 0, .slice none 0 0] 65 (0, 0))) := ⟨h3_⟩
 replace HB : Aside0 (Below w.heap.size w w12) := ⟨h4_⟩
 clear h0_ h1_ h2_ h3_ h4_
 have hHeld : w12.cell? ⟨gb213, 0, none⟩ = some (.int .i64 a0_0) ∧ w12.cell? ⟨gb213, 1, none⟩ = some (.slice A0_1 l0_1.length c0_1) ∧ w12.cell? ⟨gb213, 2, none⟩ = some (.slice A0_2 l0_2.length c0_2) := hS_
 refine norm_ (a' := ?_) ?_ ?_
 rotate_left
 ·simp only [putAll, Act.put, List.setIfInBounds_toArray, List.set_cons_zero, List.set_cons_succ]
  rfl
 refine one_ (i := 9) (N := some 12) #[true, true, true, true, true, true, true, true, true, true, false, false] rfl rfl (one_of HT_.out (by kernel_rfl)) (by decide) (fun K hK => ?_)
 refine Kd.R_append_rows_step (Kd.int .i64) (w0 := w) w.heap.size (by rfl) (.tmp 9) (.tmp 11) 40 3 (.int .i64 0) 8 rfl Try.underlying40 info3 rfl (by decide) (by omega) v222 y221 l0_2 _ _ _ (fun k_ => some k_ ≠ (v219 : Value).ownBlock) (fun _ => False) rfl rfl ?aO ?aR (fun _ _ h => h) (fun _ h => h.elim) ?aF ?aB ?aS ?aL ?_
 (case aR => repeat (first | exact (Kd.C_below HR0_2.out HB.out) | (with_reducible refine Kd.C_alloc ?_ _) | (with_reducible refine Kd.C_drewN ?_ _) | (with_reducible refine Kd.C_drew ?_)))
 (case aB => exact (sbw))
 (case aF => exact (fun k_ hk => Kd.fresh' (Kd.R_lt (sr HO220)) k_ hk))
 (case aO => exact (sr HO223))
 (case aS => exact (below_size (sbw)))
 (case aL => have := LMc3.out; omega)
 intro v225 w13 ho hb hg hat
 rw [← Ny224.out] at ho
 replace BK213 := Aside0.mk (blk_grown (g := gb213) (o := .cells #[.int .i64 a0_0, .slice A0_1 l0_1.length c0_1, .slice A0_2 l0_2.length c0_2] 65 (0, 0)) (sk BK213) hg (Kd.R_ne HO223.out BK213.out (by decide)))
 replace BK214 := Aside0.mk (blk_grown (g := gb214) (o := .cells #[.int .i64 0, .slice none 0 0, .slice none 0 0] 65 (0, 0)) (sk BK214) hg (Kd.R_ne HO223.out BK214.out (by decide)))
 replace HO220 := Aside0.mk (Kd.R_after (ok := (fun _ => True)) (by (with_reducible repeat (first | apply Kd.R_alloc | apply Kd.R_drewN | apply Kd.R_drew)); exact Kd.R_mono HO220.out (fun _ hk => ⟨trivial, hk⟩)) hg hat)
 replace HB := Aside0.mk hb
 have HO226 := Aside0.mk ho
 clear HO223 ho hb hg hat
 obtain ⟨Ao14, co14, eo14⟩ := Kd.R_slice HO226.out
 (first | subst eo14 | (injection eo14 with f1_ f2_ f3_; have f4_ := f1_.symm; have f5_ := f3_.symm; clear f1_ f2_ f3_; subst f4_; subst f5_))
 obtain ⟨Ao15, co15, eo15⟩ := Kd.R_slice HO220.out
 (first | subst eo15 | (injection eo15 with f1_ f2_ f3_; have f4_ := f1_.symm; have f5_ := f3_.symm; clear f1_ f2_ f3_; subst f4_; subst f5_))
 refine hK.out _ _ ⟨bc0 BK213, bc1 BK213, bc2 BK213⟩ (fun hHeld => ?_)
 clear hK K
 refine norm_ (a' := ?_) ?_ ?_
 rotate_left
 ·show Act.put _ (some 12) _ = _
  simp only [Act.put, List.setIfInBounds_toArray, List.set_cons_zero, List.set_cons_succ, i64_w, i32_w]
  rfl
 refine put 10 13 #[true, true, true, true, true, true, true, true, true, true, true, false] HT_ ?_
 refine one_ (i := 11) (N := none) #[true, true, true, true, true, true, true, true, true, true, true, true] rfl rfl (one_of HT_.out (by kernel_rfl)) (by decide) (fun K hK => ?_)
 obtain ⟨hs16, hfs16⟩ := cc1 BK214
 have hns16_0 := NB213_214.out
 have hms16_0 := NB214_213.out
 have hs17 := bc1 BK214
 have hfs17 := bf BK214 1
 have hns17_0 := NB213_214.out
 have hms17_0 := NB214_213.out
 have hs18 := bc2 BK214
 have hfs18 := bf BK214 2
 have hns18_0 := NB213_214.out
 have hms18_0 := NB214_213.out
 refine skip_ (w1 := ?_) (by rfl) rfl ?_ ?_
 rotate_left
 ·go_simp
  rfl
 refine hK.out _ _ ⟨((cell_far (p := ⟨gb214, _, none⟩) NB213_214.out _).trans (((cell_far (p := ⟨gb214, _, none⟩) NB213_214.out _).trans (((cell_far (p := ⟨gb214, _, none⟩) NB213_214.out _).trans (hHeld.1)))))), ((cell_far (p := ⟨gb214, _, none⟩) NB213_214.out _).trans (((cell_far (p := ⟨gb214, _, none⟩) NB213_214.out _).trans (((cell_far (p := ⟨gb214, _, none⟩) NB213_214.out _).trans (hHeld.2.1)))))), ((cell_far (p := ⟨gb214, _, none⟩) NB213_214.out _).trans (((cell_far (p := ⟨gb214, _, none⟩) NB213_214.out _).trans (((cell_far (p := ⟨gb214, _, none⟩) NB213_214.out _).trans (hHeld.2.2))))))⟩ (fun hHeld => ?_)
 clear hK K
 refine done_ (done_of HT_.out (by kernel_rfl)) ?_
 try go_wp2
 refine bodyPost_ret (results_cell_row rfl _ _ gb214 65 #[.int .i64 a0_0, .slice Ao15 y218.length co15, .slice Ao14 y224.length co14] (0, 0) _ rfl (sp BK214) Try.underlying65 rfl (by kernel_rfl)) rfl ?_
 exact ⟨_, _, se, by (with_reducible repeat (first | apply Kd.R_alloc | apply Kd.R_drewN | apply Kd.R_drew)); exact Kd.R_mono (Kd.R_far (p := ⟨gb214, 2, none⟩) (Kd.R_far (p := ⟨gb214, 1, none⟩) (Kd.R_far (p := ⟨gb214, 0, none⟩) (Kd.R_types HO220.out BK214.out (by decide)) (fun _ hk => hk.2) (.int .i64 a0_0)) (fun _ hk => hk.2) (.slice Ao15 y218.length co15)) (fun _ hk => hk.2) (.slice Ao14 y224.length co14)) (fun _ hk => hk.1.2), by (with_reducible repeat (first | apply Kd.R_alloc | apply Kd.R_drewN | apply Kd.R_drew)); exact Kd.R_mono (Kd.R_far (p := ⟨gb214, 2, none⟩) (Kd.R_far (p := ⟨gb214, 1, none⟩) (Kd.R_far (p := ⟨gb214, 0, none⟩) (Kd.R_types HO226.out BK214.out (by decide)) (fun _ hk => hk.2) (.int .i64 a0_0)) (fun _ hk => hk.2) (.slice Ao15 y218.length co15)) (fun _ hk => hk.2) (.slice Ao14 y224.length co14)) (fun _ hk => hk.1), sbw⟩

/-! ### spec_TableIn: function 104 -/
def spec_TableIn.f (a0_0 : Int) (a0_1 : Int) (a0_2 : Int) (l0_3 : List (S106)) (a1 : Int) (a2 : Int) : Option (Int × List Int × List Int × Bool) := (spec_l1In.f a1 0 (wrap64 ((l0_3.length : Int) - 1))).bind fun t229 => (if t229 = true then (if 0 ≤ a1 then (if a1 < (l0_3.length : Int) then ((spec_l1In.f a2 0 (wrap64 ((((rd_T106 l0_3 a1).f2).length : Int) - 1))).bind fun t231 => (if t231 = true then (if 0 ≤ a2 then (if a2 < (((rd_T106 l0_3 a1).f2).length : Int) then ((spec_l15Copy.f ((rd_T65 ((rd_T106 l0_3 a1).f2) a2).f0) ((rd_T65 ((rd_T106 l0_3 a1).f2) a2).f1) ((rd_T65 ((rd_T106 l0_3 a1).f2) a2).f2)).bind fun bt234 => (some (bt234.1, bt234.2.1, bt234.2.2, true))) else (none)) else (none)) else (some (0, ([] : List Int), ([] : List Int), false)))) else (none)) else (none)) else (some (0, ([] : List Int), ([] : List Int), false)))
set_option maxHeartbeats 8000000 in
set_option maxRecDepth 100000 in
theorem spec_TableIn.calls (a0_0 : Int) (a0_1 : Int) (a0_2 : Int) (A0_3 : Option Addr) (c0_3 : Nat) (l0_3 : List (S106)) (a1 : Int) (a2 : Int) (r1 : Int) (r2 : List Int) (r3 : List Int) (r4 : Bool) (w : World) (hr0_3 : Kd.C k106 w A0_3 l0_3.length l0_3) (hc0_3 : l0_3.length ≤ c0_3) (h : spec_TableIn.f a0_0 a0_1 a0_2 l0_3 a1 a2 = some (r1, r2, r3, r4)) :
    Calls Try.prog 104 #[.agg #[.int .i64 a0_0, .int .i64 a0_1, .int .i64 a0_2, .slice A0_3 l0_3.length c0_3], .int .i64 a1, .int .i64 a2] w fun e w' => ∃ v1_ v2_ : Value, e = .returned (.tuple #[.agg #[.int .i64 r1, v1_, v2_], .bool r4]) ∧ Kd.R (Kd.int .i64) 3 w' w.heap.size (fun k_ => some k_ ≠ (v2_ : Value).ownBlock) v1_ r2 ∧ Kd.R (Kd.int .i64) 3 w' w.heap.size (fun k_ => some k_ ≠ (v1_ : Value).ownBlock) v2_ r3 ∧ Below w.heap.size w w' := by
 have hu29 := Try.underlying29
 have hu65 := Try.underlying65
 have HR0_3 := Aside0.mk hr0_3
 have HC0_3 := Aside0.mk hc0_3
 clear hr0_3 hc0_3
 have HB := Aside0.mk (Below.refl w.heap.size w)
 have H : ((spec_l1In.f a1 0 (wrap64 ((l0_3.length : Int) - 1))).bind fun t229 => (if t229 = true then (if 0 ≤ a1 then (if a1 < (l0_3.length : Int) then ((spec_l1In.f a2 0 (wrap64 ((((rd_T106 l0_3 a1).f2).length : Int) - 1))).bind fun t231 => (if t231 = true then (if 0 ≤ a2 then (if a2 < (((rd_T106 l0_3 a1).f2).length : Int) then ((spec_l15Copy.f ((rd_T65 ((rd_T106 l0_3 a1).f2) a2).f0) ((rd_T65 ((rd_T106 l0_3 a1).f2) a2).f1) ((rd_T65 ((rd_T106 l0_3 a1).f2) a2).f2)).bind fun bt234 => (some (bt234.1, bt234.2.1, bt234.2.2, true))) else (none)) else (none)) else (some (0, ([] : List Int), ([] : List Int), false)))) else (none)) else (none)) else (some (0, ([] : List Int), ([] : List Int), false)))) = some (r1, r2, r3, r4) := h
 clear h
 obtain ⟨t229, A4, H⟩ := bnd H
 obtain rfl | rfl := tt t229
 ·replace H := ip H
  obtain ⟨c6b0, H⟩ := id_ H
  obtain ⟨c7b0, H⟩ := id_ H
  obtain ⟨t231, A8, H⟩ := bnd H
  obtain rfl | rfl := tt t231
  ·replace H := ip H
   obtain ⟨c10b0, H⟩ := id_ H
   obtain ⟨c11b0, H⟩ := id_ H
   obtain ⟨⟨t234, t235, t238⟩, A12, H⟩ := bnd H
   replace H : (some (t234, t235, t238, true)) = some (r1, r2, r3, r4) := H
   simp only [Option.some.injEq, Prod.mk.injEq] at H
   obtain ⟨rfl, rfl, rfl, rfl⟩ := H
   go_enter Try.func104, Try.ntmps104
   go_wp2_with (first | ((with_reducible refine gate_dst (N := 3) rfl ?_); (try (refine gate_guard (by rfl) ?_; dsimp only)); refine bx 3 #[.int .i64 a0_0, .int .i64 a0_1, .int .i64 a0_2, .slice A0_3 l0_3.length c0_3] 29 ?_; intro gb227 hg w13 hbox hb; have BK227 := Aside0.mk hbox; have GW227 := bz w hg; have GE227 := bz w hg; replace HB := bs hb; clear hb hbox hg) | ((with_reducible refine gate_dst (N := 6) rfl ?_); (try (refine gate_guard (by rfl) ?_; dsimp only)); refine bx 6 #[.int .i64 0, .slice none 0 0, .slice none 0 0] 65 ?_; intro gb228 hg w14 hbox hb; have BK228 := Aside0.mk hbox; have GW228 := bzw w hg; have GE228 := bzw w hg; replace HB := bsw hb; have NB227_228 := nl BK227 hg; have NB228_227 := ng BK227 hg; replace BK227 := bb BK227 hb; clear hb hbox hg; have hnb15 := NB227_228.out; have hnc15 := NB228_227.out; obtain ⟨hcz16_0, hcz16_1, hcz16_2, hcz16_3, hfz16_0, hfz16_1, hfz16_2, hfz16_3⟩ := cc4 BK227) | ((with_reducible refine gate_callee (f := 63) rfl ?_); refine gL (some 13) Try.func63 #[.int .i64 a1, .int .i64 0, .int .i64 (wrap64 ((l0_3.length : Int) - 1))] ?_; (with_reducible refine (spec_l1In.calls a1 0 (wrap64 ((l0_3.length : Int) - 1)) true _ A4.out).mono ?_); rintro e w' ⟨rfl, ⟨nd, rfl⟩⟩; refine ⟨_, rfl, ?_⟩; obtain ⟨p230, q230, ad230, A230_2, c230_2, A230_3, c230_3, e230, _, _, _, _, hx230_0, hx230_1, hx230_2, hx230_3, HC230_2, HR230_2, HC230_3, HR230_3⟩ := aT_T106 HR0_3 HB a1; cases e230) | (go_at_call 63; (try simp only [i64_w, i32_w]); (with_reducible refine (spec_l1In.calls a2 0 (wrap64 ((((rd_T106 l0_3 a1).f2).length : Int) - 1)) true _ A8.out).mono ?_); rintro e w' ⟨rfl, ⟨nd, rfl⟩⟩; obtain ⟨p232, q232, ad232, A232_2, c232_2, A232_3, c232_3, e232, _, _, _, _, hx232_0, hx232_1, hx232_2, hx232_3, HC232_2, HR232_2, HC232_3, HR232_3⟩ := aT_T106 HR0_3 HB a1; obtain rfl : ad230 = ad232 := (by injection e232); have ea_ := Option.some.inj (hx230_2.symm.trans hx232_2); injection ea_ with ea_ en_ ec_; subst ea_; subst ec_; clear en_; have ea_ := Option.some.inj (hx230_3.symm.trans hx232_3); injection ea_ with ea_ en_ ec_; subst ea_; subst ec_; clear en_; obtain ⟨p233, q233, ad233, A233_1, c233_1, A233_2, c233_2, e233, _, _, _, hx233_0, hx233_1, hx233_2, HC233_1, HR233_1, HC233_2, HR233_2⟩ := aT_T65 HR232_3 HB a2; cases e233) | ((with_reducible refine gate_callee (f := 148) rfl ?_); refine gL (some 38) Try.func148 #[.agg #[.int .i64 ((rd_T65 ((rd_T106 l0_3 a1).f2) a2).f0), .slice A233_1 ((rd_T65 ((rd_T106 l0_3 a1).f2) a2).f1).length c233_1, .slice A233_2 ((rd_T65 ((rd_T106 l0_3 a1).f2) a2).f2).length c233_2]] ?_; (with_reducible refine (spec_l15Copy.calls ((rd_T65 ((rd_T106 l0_3 a1).f2) a2).f0) _ _ ((rd_T65 ((rd_T106 l0_3 a1).f2) a2).f1) _ _ ((rd_T65 ((rd_T106 l0_3 a1).f2) a2).f2) t234 t235 t238 _ ?side1 ?side2 ?side3 ?side4 A12.out).mono ?_); (case side1 => exact cb HR233_1); (case side2 => exact HC233_1.out); (case side3 => exact cb HR233_2); (case side4 => exact HC233_2.out); rintro e w17 ⟨v236, v239, rfl, ho0, ho1, hb⟩; refine ⟨_, rfl, ?_⟩; have HO237 := Aside0.mk (Kd.R_lower ho0 (below_size (sbw))); have HO240 := Aside0.mk (Kd.R_lower ho1 (below_size (sbw))); replace BK227 := bb BK227 hb; replace BK228 := bb BK228 hb; replace HB := bsw hb; (try clear hb); (try clear hb2); (try clear hk); (try clear hi); (try clear ho0); (try clear ho1); obtain ⟨hcz18_0, hcz18_1, hcz18_2, hfz18_0, hfz18_1, hfz18_2⟩ := cc3 BK228; obtain ⟨Ao19, co19, eo19⟩ := Kd.R_slice HO237.out; subst eo19; obtain ⟨Ao20, co20, eo20⟩ := Kd.R_slice HO240.out; subst eo20))
   refine bodyPost_ret (results_ct rfl _ _ gb228 65 #[.int .i64 t234, .slice Ao19 t235.length co19, .slice Ao20 t238.length co20] (0, 0) _ rfl (sp BK228) Try.underlying65 rfl (by kernel_rfl)) rfl ?_
   exact ⟨_, _, se, by (with_reducible repeat (first | apply Kd.R_alloc | apply Kd.R_drewN | apply Kd.R_drew)); exact Kd.R_mono (Kd.R_far (p := ⟨gb228, 2, none⟩) (Kd.R_far (p := ⟨gb228, 1, none⟩) (Kd.R_far (p := ⟨gb228, 0, none⟩) (Kd.R_types HO237.out BK228.out (by decide)) (fun _ hk => hk.2) (.int .i64 t234)) (fun _ hk => hk.2) (.slice Ao19 t235.length co19)) (fun _ hk => hk.2) (.slice Ao20 t238.length co20)) (fun _ hk => hk.1), by (with_reducible repeat (first | apply Kd.R_alloc | apply Kd.R_drewN | apply Kd.R_drew)); exact Kd.R_mono (Kd.R_far (p := ⟨gb228, 2, none⟩) (Kd.R_far (p := ⟨gb228, 1, none⟩) (Kd.R_far (p := ⟨gb228, 0, none⟩) (Kd.R_types HO240.out BK228.out (by decide)) (fun _ hk => hk.2) (.int .i64 t234)) (fun _ hk => hk.2) (.slice Ao19 t235.length co19)) (fun _ hk => hk.2) (.slice Ao20 t238.length co20)) (fun _ hk => hk.1), sbw⟩
  ·replace H := im H
   simp only [Option.some.injEq, Prod.mk.injEq] at H
   obtain ⟨rfl, rfl, rfl, rfl⟩ := H
   go_enter Try.func104, Try.ntmps104
   go_wp2_with (first | ((with_reducible refine gate_dst (N := 3) rfl ?_); (try (refine gate_guard (by rfl) ?_; dsimp only)); refine bx 3 #[.int .i64 a0_0, .int .i64 a0_1, .int .i64 a0_2, .slice A0_3 l0_3.length c0_3] 29 ?_; intro gb227 hg w21 hbox hb; have BK227 := Aside0.mk hbox; have GW227 := bz w hg; have GE227 := bz w hg; replace HB := bs hb; clear hb hbox hg) | ((with_reducible refine gate_dst (N := 6) rfl ?_); (try (refine gate_guard (by rfl) ?_; dsimp only)); refine bx 6 #[.int .i64 0, .slice none 0 0, .slice none 0 0] 65 ?_; intro gb228 hg w22 hbox hb; have BK228 := Aside0.mk hbox; have GW228 := bzw w hg; have GE228 := bzw w hg; replace HB := bsw hb; have NB227_228 := nl BK227 hg; have NB228_227 := ng BK227 hg; replace BK227 := bb BK227 hb; clear hb hbox hg; have hnb23 := NB227_228.out; have hnc23 := NB228_227.out; obtain ⟨hcz24_0, hcz24_1, hcz24_2, hcz24_3, hfz24_0, hfz24_1, hfz24_2, hfz24_3⟩ := cc4 BK227) | ((with_reducible refine gate_callee (f := 63) rfl ?_); refine gL (some 13) Try.func63 #[.int .i64 a1, .int .i64 0, .int .i64 (wrap64 ((l0_3.length : Int) - 1))] ?_; (with_reducible refine (spec_l1In.calls a1 0 (wrap64 ((l0_3.length : Int) - 1)) true _ A4.out).mono ?_); rintro e w' ⟨rfl, ⟨nd, rfl⟩⟩; refine ⟨_, rfl, ?_⟩; obtain ⟨p230, q230, ad230, A230_2, c230_2, A230_3, c230_3, e230, _, _, _, _, hx230_0, hx230_1, hx230_2, hx230_3, HC230_2, HR230_2, HC230_3, HR230_3⟩ := aT_T106 HR0_3 HB a1; cases e230) | (go_at_call 63; (try simp only [i64_w, i32_w]); (with_reducible refine (spec_l1In.calls a2 0 (wrap64 ((((rd_T106 l0_3 a1).f2).length : Int) - 1)) false _ A8.out).mono ?_); rintro e w' ⟨rfl, ⟨nd, rfl⟩⟩; obtain ⟨hcz25_0, hcz25_1, hcz25_2, hfz25_0, hfz25_1, hfz25_2⟩ := cc3 BK228))
   refine bodyPost_ret (results_ct rfl _ _ gb228 65 #[.int .i64 0, .slice none 0 0, .slice none 0 0] (0, 0) _ rfl (sp BK228) Try.underlying65 rfl (by kernel_rfl)) rfl ?_
   exact ⟨_, _, se, sn, sn, sbw⟩
 ·replace H := im H
  simp only [Option.some.injEq, Prod.mk.injEq] at H
  obtain ⟨rfl, rfl, rfl, rfl⟩ := H
  go_enter Try.func104, Try.ntmps104
  go_wp2_with (first | ((with_reducible refine gate_dst (N := 3) rfl ?_); (try (refine gate_guard (by rfl) ?_; dsimp only)); refine bx 3 #[.int .i64 a0_0, .int .i64 a0_1, .int .i64 a0_2, .slice A0_3 l0_3.length c0_3] 29 ?_; intro gb227 hg w26 hbox hb; have BK227 := Aside0.mk hbox; have GW227 := bz w hg; have GE227 := bz w hg; replace HB := bs hb; clear hb hbox hg) | ((with_reducible refine gate_dst (N := 6) rfl ?_); (try (refine gate_guard (by rfl) ?_; dsimp only)); refine bx 6 #[.int .i64 0, .slice none 0 0, .slice none 0 0] 65 ?_; intro gb228 hg w27 hbox hb; have BK228 := Aside0.mk hbox; have GW228 := bzw w hg; have GE228 := bzw w hg; replace HB := bsw hb; have NB227_228 := nl BK227 hg; have NB228_227 := ng BK227 hg; replace BK227 := bb BK227 hb; clear hb hbox hg; have hnb28 := NB227_228.out; have hnc28 := NB228_227.out; obtain ⟨hcz29_0, hcz29_1, hcz29_2, hcz29_3, hfz29_0, hfz29_1, hfz29_2, hfz29_3⟩ := cc4 BK227) | ((with_reducible refine gate_callee (f := 63) rfl ?_); refine gL (some 13) Try.func63 #[.int .i64 a1, .int .i64 0, .int .i64 (wrap64 ((l0_3.length : Int) - 1))] ?_; (with_reducible refine (spec_l1In.calls a1 0 (wrap64 ((l0_3.length : Int) - 1)) false _ A4.out).mono ?_); rintro e w' ⟨rfl, ⟨nd, rfl⟩⟩; refine ⟨_, rfl, ?_⟩; obtain ⟨hcz30_0, hcz30_1, hcz30_2, hfz30_0, hfz30_1, hfz30_2⟩ := cc3 BK228))
  refine bodyPost_ret (results_ct rfl _ _ gb228 65 #[.int .i64 0, .slice none 0 0, .slice none 0 0] (0, 0) _ rfl (sp BK228) Try.underlying65 rfl (by kernel_rfl)) rfl ?_
  exact ⟨_, _, se, sn, sn, sbw⟩

/-! ### spec_IsSpan: function 143 -/
def spec_IsSpan.f (a0_0 : Int) (a0_1 : Int) : Option (Bool) := if a0_0 ≥ 0 then (if a0_1 ≤ 1000 then (some (decide (a0_0 < a0_1))) else (some false)) else (some false)
set_option maxHeartbeats 8000000 in
set_option maxRecDepth 100000 in
theorem spec_IsSpan.calls (a0_0 : Int) (a0_1 : Int) (r : Bool) (w : World) (h : spec_IsSpan.f a0_0 a0_1 = some r) :
    Calls Try.prog 143 #[.agg #[.int .i64 a0_0, .int .i64 a0_1]] w fun e w' => e = .returned (.bool r) ∧ Below w.heap.size w w' := by
 have hu91 := Try.underlying91
 have HB := Aside0.mk (Below.refl w.heap.size w)
 have H : (if a0_0 ≥ 0 then (if a0_1 ≤ 1000 then (some (decide (a0_0 < a0_1))) else (some false)) else (some false)) = some r := h
 clear h
 obtain ⟨c2, H⟩ | ⟨c2, H⟩ := ie_ H
 ·have c2b0 := decide_eq_true c2
  clear c2
  obtain ⟨c3, H⟩ | ⟨c3, H⟩ := ie_ H
  ·have c3b0 := decide_eq_true c3
   clear c3
   obtain rfl := Option.some.inj H
   go_enter Try.func143, Try.ntmps143
   go_wp2_with (first | ((with_reducible refine gate_dst (N := 1) rfl ?_); refine bx 1 #[.int .i64 a0_0, .int .i64 a0_1] 91 ?_; intro gb241 hg w4 hbox hb; have BK241 := Aside0.mk hbox; have GW241 := bz w hg; have GE241 := bz w hg; replace HB := bs hb; clear hb hbox hg; obtain ⟨hcz5_0, hcz5_1, hfz5_0, hfz5_1⟩ := cc2 BK241))
   go_ret
   exact ⟨se, sbw⟩
  ·have c3b0 := decide_eq_false c3
   clear c3
   obtain rfl := Option.some.inj H
   go_enter Try.func143, Try.ntmps143
   go_wp2_with (first | ((with_reducible refine gate_dst (N := 1) rfl ?_); refine bx 1 #[.int .i64 a0_0, .int .i64 a0_1] 91 ?_; intro gb241 hg w6 hbox hb; have BK241 := Aside0.mk hbox; have GW241 := bz w hg; have GE241 := bz w hg; replace HB := bs hb; clear hb hbox hg; obtain ⟨hcz7_0, hcz7_1, hfz7_0, hfz7_1⟩ := cc2 BK241))
   go_ret
   exact ⟨se, sbw⟩
 ·have c2b0 := decide_eq_false c2
  clear c2
  obtain rfl := Option.some.inj H
  go_enter Try.func143, Try.ntmps143
  go_wp2_with (first | ((with_reducible refine gate_dst (N := 1) rfl ?_); refine bx 1 #[.int .i64 a0_0, .int .i64 a0_1] 91 ?_; intro gb241 hg w8 hbox hb; have BK241 := Aside0.mk hbox; have GW241 := bz w hg; have GE241 := bz w hg; replace HB := bs hb; clear hb hbox hg; obtain ⟨hcz9_0, hcz9_1, hfz9_0, hfz9_1⟩ := cc2 BK241))
  go_ret
  exact ⟨se, sbw⟩

end Go.Proofs.Ytlakjlolahjphaa.QFnExactNextsAt
