/- The law FnExactRepairedAt answers yes, where what it calls answers so. Conditions: what its callees come to, as hypotheses. -/
import Derived.Test.YthnlkgbhohchoaaGreatVFnExactRepairedAtQFnExactRepairedAtx
namespace Go.Proofs.YthnlkgbhohchoaaGreat.QFnExactRepairedAt
set_option maxHeartbeats 8000000
set_option maxRecDepth 100000
open Go.RowKit Go.Proofs.YthnlkgbhohchoaaGreatW.PrintWords Go.Proofs.YthnlkgbhohchoaaGreatW.PrintLast Go.Proofs.YthnlkgbhohchoaaGreatW.PrintMore Go.Proofs.YthnlkgbhohchoaaGreat.Open Go.Proofs.YthnlkgbhohchoaaGreat.Sq
set_option linter.unusedVariables false
set_option linter.unusedSimpArgs false
theorem a24_2 {P : Prop} (h : P := by have h2_ := hk_.1; have h3_ := h_.2; omega) : P := h
theorem a24_1 {P : Prop} (h : P := by have h2_ : k_ < w7.heap.size := hk_; have h3_ := h_.1; omega) : P := h
theorem a24_0 {P : Prop} (h : P := by have h2_ : w12.heap.size ≤ k_ := hk_; have h3_ := h_.2; omega) : P := h
namespace Bp
/-- Four cells of a variable are written. -/
theorem put4 {W W' : World} {g t : Nat} {a b c d x y z u : Value} (hb : W.heap[g]? = some (.cells #[a, b, c, d] t (0, 0))) (hw : W' = (((W.setCell ⟨g, 0, none⟩ x).setCell ⟨g, 1, none⟩ y).setCell ⟨g, 2, none⟩ z).setCell ⟨g, 3, none⟩ u) :
    W'.heap[g]? = some (.cells #[x, y, z, u] t (0, 0)) ∧ Kept W W' (fun k => k = g) ∧ ∀ w : World, Below w.heap.size w W → w.heap.size ≤ g → Below w.heap.size w W' := by
  refine ⟨?_, ?_, fun w h hg => by rw [hw]; exact below_set (below_set (below_set (below_set h hg) hg) hg) hg⟩
  · have h1 : (W.setCell ⟨g, 0, none⟩ x).heap[g]? = some (.cells #[x, b, c, d] t (0, 0)) := blk_put hb 0 x rfl
    generalize W.setCell ⟨g, 0, none⟩ x = W1 at *
    have h2 : (W1.setCell ⟨g, 1, none⟩ y).heap[g]? = some (.cells #[x, y, c, d] t (0, 0)) := blk_put h1 1 y rfl
    generalize W1.setCell ⟨g, 1, none⟩ y = W2 at *
    have h3 : (W2.setCell ⟨g, 2, none⟩ z).heap[g]? = some (.cells #[x, y, z, d] t (0, 0)) := blk_put h2 2 z rfl
    generalize W2.setCell ⟨g, 2, none⟩ z = W3 at *
    rw [hw]
    exact blk_put h3 3 u rfl
  · rw [hw]
    have k1 : Kept W (W.setCell ⟨g, 0, none⟩ x) (fun k => k = g) := Kept.setCell (Kept.refl W (fun k => k = g)) (p := ⟨g, 0, none⟩) (.inl rfl) _
    generalize W.setCell ⟨g, 0, none⟩ x = W1 at *
    have k2 : Kept W (W1.setCell ⟨g, 1, none⟩ y) (fun k => k = g) := Kept.setCell k1 (p := ⟨g, 1, none⟩) (.inl rfl) _
    generalize W1.setCell ⟨g, 1, none⟩ y = W2 at *
    have k3 : Kept W (W2.setCell ⟨g, 2, none⟩ z) (fun k => k = g) := Kept.setCell k2 (p := ⟨g, 2, none⟩) (.inl rfl) _
    generalize W2.setCell ⟨g, 2, none⟩ z = W3 at *
    exact Kept.setCell k3 (p := ⟨g, 3, none⟩) (.inl rfl) _
/-- What is held: a list's length stays where its numbers are turned. -/
theorem held (k : Nat) (A : Option Addr) (nn c : Nat) (l : List Int) (r : Int) (w : World) {base : Nat} {ok : Nat → Prop} (hS : Kd.R (Kd.int .i64) 3 w base ok (.slice A nn c) l) (h : laws_heldIntS.f k l 1 = some r) :
    Calls Tryz.prog 18 #[.slice A nn c, .int .i64 1] w fun e w' => e = .returned (.int .i64 r) ∧ Drawn0 w w' := by
  have e := Kd.R_reads' hS
  obtain rfl := e.1
  exact laws_heldIntS.calls k _ _ l 1 r w e.2.2 e.2.1 h
end Bp
theorem laws_FnExactRepairedAt.no1 (k : Nat) (a0 a1 a2 : Int) (A0 : Option Addr) (c0 : Nat) (l0 : List (S97)) (d : Int) (t : Int) (A3 : Option Addr) (c3 : Nat) (l3 : List Int) (A4 : Option Addr) (c4 : Nat) (l4 : List (List Int)) (w : World) (hr0 : Kd.C k97 w A0 l0.length l0) (hc0 : l0.length ≤ c0) (hr3 : Kd.C (Kd.int .i64) w A3 l3.length l3) (hc3 : l3.length ≤ c3) (hr4 : Kd.C (Kd.slice 3 (Kd.int .i64)) w A4 l4.length l4) (hc4 : l4.length ≤ c4)
    (hl : (l3.length : Int) > 1048576) :
    Calls Tryz.prog 3 #[.agg #[.int .i64 a0, .int .i64 a1, .int .i64 a2, .slice A0 l0.length c0], .int .i64 d, .int .i64 t, .slice A3 l3.length c3, .slice A4 l4.length c4] w fun e w' => e = .returned (.bool true) ∧ Below w.heap.size w w' := by
  have hu := Tryz.underlying24
  have hu2 := Tryz.underlying32
  have hm3 : l3.length ≤ 9223372036854775807 := hr3.2.1
  have HB := am (Below.refl w.heap.size w)
  have HR0 := am hr0
  have HC0 := am hc0
  have HR3 := am hr3
  have HC3 := am hc3
  have HR4 := am hr4
  have HC4 := am hc4
  clear hr0 hc0 hr3 hc3 hr4 hc4
  have hd0 : decide ((l3.length : Int) > 1048576) = true := decide_eq_true hl
  have hd1 : (1048576 < (l3.length : Int)) = True := eq_true hl
  go_enter Tryz.func3, Tryz.ntmps3
  go_wp2_with (first
    | ((with_reducible refine gd 5 rfl ?_); refine bx 5 #[.int .i64 a0, .int .i64 a1, .int .i64 a2, .slice A0 l0.length c0] 24 ?_; intro gp hg w1 hbox hb; have BP := am hbox; replace HB := am (below_step HB.out hb); clear hb hbox hg))
  go_ret
  exact ⟨rfl, HB.out⟩
theorem laws_FnExactRepairedAt.no2 (k : Nat) (a0 a1 a2 : Int) (A0 : Option Addr) (c0 : Nat) (l0 : List (S97)) (d : Int) (t : Int) (A3 : Option Addr) (c3 : Nat) (l3 : List Int) (A4 : Option Addr) (c4 : Nat) (l4 : List (List Int)) (t0 t1 : Int) (w : World) (hr0 : Kd.C k97 w A0 l0.length l0) (hc0 : l0.length ≤ c0) (hr3 : Kd.C (Kd.int .i64) w A3 l3.length l3) (hc3 : l3.length ≤ c3) (hr4 : Kd.C (Kd.slice 3 (Kd.int .i64)) w A4 l4.length l4) (hc4 : l4.length ≤ c4)
    (hl : ¬ (l3.length : Int) > 1048576) (h0 : laws_szProgram.f k a0 a1 a2 l0 1048576 = some t0) (ht0 : t0 < 0) :
    Calls Tryz.prog 3 #[.agg #[.int .i64 a0, .int .i64 a1, .int .i64 a2, .slice A0 l0.length c0], .int .i64 d, .int .i64 t, .slice A3 l3.length c3, .slice A4 l4.length c4] w fun e w' => e = .returned (.bool true) ∧ Below w.heap.size w w' := by
  have hu := Tryz.underlying24
  have hu2 := Tryz.underlying32
  have hm3 : l3.length ≤ 9223372036854775807 := hr3.2.1
  have HB := am (Below.refl w.heap.size w)
  have HR0 := am hr0
  have HC0 := am hc0
  have HR3 := am hr3
  have HC3 := am hc3
  have HR4 := am hr4
  have HC4 := am hc4
  clear hr0 hc0 hr3 hc3 hr4 hc4
  have hd0 : decide ((l3.length : Int) > 1048576) = false := decide_eq_false hl
  have hd1 : (1048576 < (l3.length : Int)) = False := eq_false hl
  have H0 := am h0
  clear h0 hl
  have hd2 : decide (t0 < 0) = true := decide_eq_true ht0
  go_enter Tryz.func3, Tryz.ntmps3
  go_upto_region 4 with (first
    | ((with_reducible refine gd 5 rfl ?_); refine bx 5 #[.int .i64 a0, .int .i64 a1, .int .i64 a2, .slice A0 l0.length c0] 24 ?_; intro gp hg w1 hbox hb; have BP := am hbox; replace HB := am (below_step HB.out hb); clear hb hbox hg))
  obtain ⟨hz0, hz1, hz2, hz3, kz0, kz1, kz2, kz3⟩ := cc4 BP
  skip
  go_wp2_with (first
    | ((with_reducible refine gc 5 rfl ?_); refine gL (some 26) Tryz.func5 #[.agg #[.int .i64 a0, .int .i64 a1, .int .i64 a2, .slice A0 l0.length c0], .int .i64 1048576] ?_; refine (laws_szProgram.calls k a0 a1 a2 _ _ l0 1048576 t0 _ (Kd.C_below HR0.out HB.out) HC0.out H0.out).mono ?_; rintro e w2 ⟨rfl, hb⟩; refine ⟨_, rfl, ?_⟩; replace BP := bb BP hb; replace HB := am (below_step HB.out hb); clear hb))
  go_ret
  exact ⟨rfl, HB.out⟩
theorem laws_FnExactRepairedAt.no3 (k : Nat) (a0 a1 a2 : Int) (A0 : Option Addr) (c0 : Nat) (l0 : List (S97)) (d : Int) (t : Int) (A3 : Option Addr) (c3 : Nat) (l3 : List Int) (A4 : Option Addr) (c4 : Nat) (l4 : List (List Int)) (t0 t1 : Int) (w : World) (hr0 : Kd.C k97 w A0 l0.length l0) (hc0 : l0.length ≤ c0) (hr3 : Kd.C (Kd.int .i64) w A3 l3.length l3) (hc3 : l3.length ≤ c3) (hr4 : Kd.C (Kd.slice 3 (Kd.int .i64)) w A4 l4.length l4) (hc4 : l4.length ≤ c4)
    (hl : ¬ (l3.length : Int) > 1048576) (h0 : laws_szProgram.f k a0 a1 a2 l0 1048576 = some t0) (ht0 : ¬ t0 < 0) (h1 : laws_szIntSS.f k l4 t0 = some t1) (ht1 : t1 < 0) :
    Calls Tryz.prog 3 #[.agg #[.int .i64 a0, .int .i64 a1, .int .i64 a2, .slice A0 l0.length c0], .int .i64 d, .int .i64 t, .slice A3 l3.length c3, .slice A4 l4.length c4] w fun e w' => e = .returned (.bool true) ∧ Below w.heap.size w w' := by
  have hu := Tryz.underlying24
  have hu2 := Tryz.underlying32
  have hm3 : l3.length ≤ 9223372036854775807 := hr3.2.1
  have HB := am (Below.refl w.heap.size w)
  have HR0 := am hr0
  have HC0 := am hc0
  have HR3 := am hr3
  have HC3 := am hc3
  have HR4 := am hr4
  have HC4 := am hc4
  clear hr0 hc0 hr3 hc3 hr4 hc4
  have hd0 : decide ((l3.length : Int) > 1048576) = false := decide_eq_false hl
  have hd1 : (1048576 < (l3.length : Int)) = False := eq_false hl
  have H0 := am h0
  clear h0 hl
  have hd2 : decide (t0 < 0) = false := decide_eq_false ht0
  have hd3 : decide (t1 < 0) = true := decide_eq_true ht1
  have H1 := am h1
  clear h1
  go_enter Tryz.func3, Tryz.ntmps3
  go_upto_region 4 with (first
    | ((with_reducible refine gd 5 rfl ?_); refine bx 5 #[.int .i64 a0, .int .i64 a1, .int .i64 a2, .slice A0 l0.length c0] 24 ?_; intro gp hg w1 hbox hb; have BP := am hbox; replace HB := am (below_step HB.out hb); clear hb hbox hg))
  obtain ⟨hz0, hz1, hz2, hz3, kz0, kz1, kz2, kz3⟩ := cc4 BP
  skip
  go_upto_region 7 with (first
    | ((with_reducible refine gc 5 rfl ?_); refine gL (some 26) Tryz.func5 #[.agg #[.int .i64 a0, .int .i64 a1, .int .i64 a2, .slice A0 l0.length c0], .int .i64 1048576] ?_; refine (laws_szProgram.calls k a0 a1 a2 _ _ l0 1048576 t0 _ (Kd.C_below HR0.out HB.out) HC0.out H0.out).mono ?_; rintro e w2 ⟨rfl, hb⟩; refine ⟨_, rfl, ?_⟩; replace BP := bb BP hb; replace HB := am (below_step HB.out hb); clear hb))
  clear hz0 hz1 hz2 hz3 kz0 kz1 kz2 kz3
  go_wp2_with (first
    | ((with_reducible refine gc 6 rfl ?_); refine gL (some 31) Tryz.func6 #[.slice A4 l4.length c4, .int .i64 t0] ?_; refine (laws_szIntSS.calls k _ _ l4 t0 t1 _ (Kd.C_below HR4.out HB.out) HC4.out H1.out).mono ?_; rintro e w3 ⟨rfl, hd⟩; refine ⟨_, rfl, ?_⟩; have hb := hd.below; replace BP := bb BP hb; replace HB := am (below_step HB.out hb); clear hb hd))
  go_ret
  exact ⟨rfl, HB.out⟩
theorem laws_FnExactRepairedAt.yes (k : Nat) (a0 a1 a2 : Int) (A0 : Option Addr) (c0 : Nat) (l0 : List (S97)) (d : Int) (t : Int) (A3 : Option Addr) (c3 : Nat) (l3 : List Int) (A4 : Option Addr) (c4 : Nat) (l4 : List (List Int)) (t0 t1 n f s m m1 m2 m3 : Int) (P : List (S76)) (I I' R R' : List Int) (D : List (List Int)) (w : World) (hr0 : Kd.C k97 w A0 l0.length l0) (hc0 : l0.length ≤ c0) (hr3 : Kd.C (Kd.int .i64) w A3 l3.length l3) (hc3 : l3.length ≤ c3) (hr4 : Kd.C (Kd.slice 3 (Kd.int .i64)) w A4 l4.length l4) (hc4 : l4.length ≤ c4)
    (hl : ¬ (l3.length : Int) > 1048576) (h0 : laws_szProgram.f k a0 a1 a2 l0 1048576 = some t0) (ht0 : ¬ t0 < 0) (h1 : laws_szIntSS.f k l4 t0 = some t1) (ht1 : ¬ t1 < 0) (h2 : laws_toProgram.f k a0 a1 a2 l0 = some (n, f, s, P)) (h3 : laws_toIntS.f k l3 = some I) (h4 : laws_toIntSS.f k l4 = some D)
    (h5 : spec_RepairedAt.f k n f s P d t I D = some R) (h6 : impl_RepairedAt.f k n f s P d t I D = some R) (h7 : laws_eqIntS.f k R R = some true) (h8 : laws_eqProgram.f k n f s P n f s P = some true) (h9 : laws_eqIntS.f k I I = some true) (h10 : laws_eqIntSS.f k D D = some true)
    (h11 : laws_markProgram.f n f s P 1 = some m1) (h12 : laws_markIntS.f k I m1 = some (m2, I')) (h13 : laws_markIntSS.f D m2 = some m3) (hm3 : ¬ m3 < 0) (h14 : laws_markIntS.f k R 1 = some (m, R')) (h15 : laws_heldIntS.f k R' 1 = some m) (hm : ¬ m < 0) :
    Calls Tryz.prog 3 #[.agg #[.int .i64 a0, .int .i64 a1, .int .i64 a2, .slice A0 l0.length c0], .int .i64 d, .int .i64 t, .slice A3 l3.length c3, .slice A4 l4.length c4] w fun e w' => e = .returned (.bool true) ∧ Below w.heap.size w w' := by
  have hu := Tryz.underlying24
  have hu2 := Tryz.underlying32
  have hm3_ : l3.length ≤ 9223372036854775807 := hr3.2.1
  have HB := am (Below.refl w.heap.size w)
  have HR0 := am hr0
  have HC0 := am hc0
  have HR3 := am hr3
  have HC3 := am hc3
  have HR4 := am hr4
  have HC4 := am hc4
  clear hr0 hc0 hr3 hc3 hr4 hc4
  have hd0 : decide ((l3.length : Int) > 1048576) = false := decide_eq_false hl
  have hd1 : (1048576 < (l3.length : Int)) = False := eq_false hl
  have hd2 : decide (t0 < 0) = false := decide_eq_false ht0
  have hd3 : decide (t1 < 0) = false := decide_eq_false ht1
  have hd4 : decide (m3 < 0) = false := decide_eq_false hm3
  have hd5 : decide (m < 0) = false := decide_eq_false hm
  clear hl ht0 ht1 hm3 hm
  have H0 := am h0
  have H1 := am h1
  have H2 := am h2
  have H3 := am h3
  have H4 := am h4
  have H5 := am h5
  have H6 := am h6
  have H7 := am h7
  have H8 := am h8
  have H9 := am h9
  have H10 := am h10
  have H11 := am h11
  have H12 := am h12
  have H13 := am h13
  have H14 := am h14
  have H15 := am h15
  clear h0 h1 h2 h3 h4 h5 h6 h7 h8 h9 h10 h11 h12 h13 h14 h15
  go_enter Tryz.func3, Tryz.ntmps3
  go_upto_region 4 with (first
    | ((with_reducible refine gd 5 rfl ?_); refine bx 5 #[.int .i64 a0, .int .i64 a1, .int .i64 a2, .slice A0 l0.length c0] 24 ?_; intro gp hg w1 hbox hb; have BP := am hbox; replace HB := am (below_step HB.out hb); clear hb hbox hg))
  obtain ⟨hz0, hz1, hz2, hz3, kz0, kz1, kz2, kz3⟩ := cc4 BP
  go_upto_region 7 with (first
    | ((with_reducible refine gc 5 rfl ?_); refine gL (some 26) Tryz.func5 #[.agg #[.int .i64 a0, .int .i64 a1, .int .i64 a2, .slice A0 l0.length c0], .int .i64 1048576] ?_; refine (laws_szProgram.calls k a0 a1 a2 _ _ l0 1048576 t0 _ (Kd.C_below HR0.out HB.out) HC0.out H0.out).mono ?_; rintro e w2 ⟨rfl, hb⟩; refine ⟨_, rfl, ?_⟩; replace BP := bb BP hb; replace HB := am (below_step HB.out hb); clear hb))
  clear hz0 hz1 hz2 hz3 kz0 kz1 kz2 kz3
  go_upto_region 10 with (first
    | ((with_reducible refine gc 6 rfl ?_); refine gL (some 31) Tryz.func6 #[.slice A4 l4.length c4, .int .i64 t0] ?_; refine (laws_szIntSS.calls k _ _ l4 t0 t1 _ (Kd.C_below HR4.out HB.out) HC4.out H1.out).mono ?_; rintro e w3 ⟨rfl, hd⟩; refine ⟨_, rfl, ?_⟩; have hb := hd.below; replace BP := bb BP hb; replace HB := am (below_step HB.out hb); clear hb hd))
  obtain ⟨hz0, hz1, hz2, hz3, kz0, kz1, kz2, kz3⟩ := cc4 BP
  go_upto_region 11 with (first
    | ((with_reducible refine gc 8 rfl ?_); refine gL (some 35) Tryz.func8 #[.agg #[.int .i64 a0, .int .i64 a1, .int .i64 a2, .slice A0 l0.length c0]] ?_; refine (laws_toProgram.calls k a0 a1 a2 _ _ l0 n f s P _ (Kd.C_below HR0.out HB.out) HC0.out H2.out).mono ?_; rintro e w4 ⟨v, rfl, ho, hb⟩; refine ⟨_, rfl, ?_⟩; obtain ⟨At, ct, rfl⟩ := Kd.R_slice ho; have HTn := am (Kd.R_mono (Kd.R_lower (Kd.R_bound ho) HB.out.size) (fun k_ h_ => trivial)); replace BP := bb BP hb; replace HB := am (below_step HB.out hb); have HT := HTn; clear HTn hb ho)
    | ((with_reducible refine gc 9 rfl ?_); refine gL (some 39) Tryz.func9 #[.slice A3 l3.length c3] ?_; refine (laws_toIntS.calls k _ _ l3 I _ (Kd.C_below HR3.out HB.out) HC3.out H3.out).mono ?_; rintro e w5 ⟨v, rfl, ho, hb⟩; refine ⟨_, rfl, ?_⟩; obtain ⟨Au, cu, rfl⟩ := Kd.R_slice ho; have HUn := am (Kd.R_mono (Kd.R_lower (Kd.R_bound ho) HB.out.size) (fun k_ h_ => trivial)); replace BP := bb BP hb; replace HT := am (Kd.R_below HT.out hb); replace HB := am (below_step HB.out hb); have HU := HUn; clear HUn hb ho)
    | ((with_reducible refine gc 10 rfl ?_); refine gL (some 41) Tryz.func10 #[.slice A4 l4.length c4] ?_; refine (laws_toIntSS.calls k _ _ l4 D _ (Kd.C_below HR4.out HB.out) HC4.out H4.out).mono ?_; rintro e w6 ⟨v, rfl, hos, hb⟩; refine ⟨_, rfl, ?_⟩; have ho := Kd.S_R hos; obtain ⟨Av, cv, rfl⟩ := Kd.R_slice ho; have HVn := am (Kd.R_mono (Kd.R_lower (Kd.R_bound ho) HB.out.size) (fun k_ h_ => trivial)); replace BP := bb BP hb; replace HT := am (Kd.R_below HT.out hb); replace HU := am (Kd.R_below HU.out hb); replace HB := am (below_step HB.out hb); have HV := HVn; clear HVn hb ho hos)
    | ((with_reducible refine gc 7 rfl ?_); refine gL (some 42) Tryz.func7 #[.agg #[.int .i64 n, .int .i64 f, .int .i64 s, .slice At P.length ct], .int .i64 d, .int .i64 t, .slice Au I.length cu, .slice Av D.length cv] ?_; refine (spec_RepairedAt.calls k n f s _ _ P d t _ _ I _ _ D R _ (Kd.R_reads' HT.out).2.2 (Kd.R_reads' HT.out).2.1 (Kd.R_reads' HU.out).2.2 (Kd.R_reads' HU.out).2.1 (Kd.R_reads' HV.out).2.2 (Kd.R_reads' HV.out).2.1 H5.out).mono ?_; rintro e w7 ⟨v, rfl, ho, hb⟩; refine ⟨_, rfl, ?_⟩; obtain ⟨Aw, cw, rfl⟩ := Kd.R_slice ho; have HW := am (Kd.R_mono (ok' := fun k_ => k_ < w7.heap.size) (Kd.R_lower (Kd.R_bound ho) HB.out.size) (fun k_ h_ => h_.2.2.1)); replace BP := bb BP hb; replace HB := am (below_step HB.out hb); have GP := am (show gp < w7.heap.size from blk_lt BP.out); clear hb ho HT HU HV))
  clear hz0 hz1 hz2 hz3 kz0 kz1 kz2 kz3
  obtain ⟨hz0, hz1, hz2, hz3, kz0, kz1, kz2, kz3⟩ := cc4 BP
  have GW := am (show w.heap.size ≤ w7.heap.size from HB.out.size)
  go_upto_region 12 with (first
    | ((with_reducible refine gc 8 rfl ?_); refine gL (some 44) Tryz.func8 #[.agg #[.int .i64 a0, .int .i64 a1, .int .i64 a2, .slice A0 l0.length c0]] ?_; refine (laws_toProgram.calls k a0 a1 a2 _ _ l0 n f s P _ (Kd.C_below HR0.out HB.out) HC0.out H2.out).mono ?_; rintro e w8 ⟨v, rfl, ho, hb⟩; refine ⟨_, rfl, ?_⟩; obtain ⟨Ap, cp, rfl⟩ := Kd.R_slice ho; have HP := am (Kd.R_mono (ok' := fun k_ => w7.heap.size ≤ k_ ∧ k_ < w8.heap.size) (Kd.R_lower (Kd.R_bound ho) HB.out.size) (fun k_ h_ => ⟨h_.2.1, h_.2.2.1⟩)); have C1 := am (show w7.heap.size ≤ w8.heap.size from hb.size); replace BP := bb BP hb; replace HW := am (Kd.R_below HW.out hb); replace HB := am (below_step HB.out hb); clear hb ho)
    | ((with_reducible refine gd 13 rfl ?_); refine bx 13 #[.int .i64 0, .int .i64 0, .int .i64 0, .slice none 0 0] 32 ?_; intro gx hg w9 hbox hb; rw [← hg] at HP C1; replace HP := am (Kd.R_below HP.out hb); replace BP := bb BP hb; replace HW := am (Kd.R_below HW.out hb); replace HB := am (below_step HB.out hb); have BX := am hbox; have GX := am (show w.heap.size ≤ gx from Nat.le_trans GW.out C1.out); clear hb hbox hg; obtain ⟨hy0, hy1, hy2, hy3, ky0, ky1, ky2, ky3⟩ := cc4 BX)
    | ((with_reducible refine gate_store (t := 32) (p := 13) rfl ?_); refine store_event (t := 32) (p := 13) (v := ?vo_w10) (w1 := ((((w9.setCell ⟨gx, 0, none⟩ (.int .i64 n)).setCell ⟨gx, 1, none⟩ (.int .i64 f)).setCell ⟨gx, 2, none⟩ (.int .i64 s)).setCell ⟨gx, 3, none⟩ (.slice Ap P.length cp))) ?hg ?ho ?hn ?hr ?_; (case ho => rfl); (case hg => rfl); (case hn => rfl); (case hr => first | (go_simp; done) | (go_simp; rfl)); intro w10 hw; have hp := Bp.put4 BX.out hw; have hc1 := C1.out; have hgp := GP.out; replace BX := am hp.1; replace HP := am (Kd.R_kept HP.out hp.2.1 (fun k_ hk he => by have := hk.2; omega)); replace HW := am (Kd.R_kept HW.out hp.2.1 (fun k_ hk he => by have h_ : k_ < w7.heap.size := hk; omega)); replace BP := am (blk_kept BP.out hp.2.1 (fun he => by omega)); replace HB := am (hp.2.2 w HB.out GX.out); clear hp hw hc1 hgp))
  clear hy0 hy1 hy2 hy3 ky0 ky1 ky2 ky3
  clear hz0 hz1 hz2 hz3 kz0 kz1 kz2 kz3
  go_upto_region 13 with (first
    | ((with_reducible refine gc 9 rfl ?_); refine gL (some 46) Tryz.func9 #[.slice A3 l3.length c3] ?_; refine (laws_toIntS.calls k _ _ l3 I _ (Kd.C_below HR3.out HB.out) HC3.out H3.out).mono ?_; rintro e w11 ⟨v, rfl, ho, hb⟩; refine ⟨_, rfl, ?_⟩; obtain ⟨Ai, ci, rfl⟩ := Kd.R_slice ho; have hgx := blk_lt BX.out; have HI := am (Kd.R_mono (ok' := fun k_ => gx < k_ ∧ k_ < w11.heap.size) (Kd.R_lower (Kd.R_bound ho) HB.out.size) (fun k_ h_ => ⟨Nat.lt_of_lt_of_le hgx h_.2.1, h_.2.2.1⟩)); have C2 := am (show gx < w11.heap.size from Nat.lt_of_lt_of_le hgx hb.size); replace BP := bb BP hb; replace BX := bb BX hb; replace HW := am (Kd.R_below HW.out hb); replace HP := am (Kd.R_below HP.out hb); replace HB := am (below_step HB.out hb); clear hb ho hgx))
  go_upto_region 14 with (first
    | ((with_reducible refine gc 10 rfl ?_); refine gL (some 48) Tryz.func10 #[.slice A4 l4.length c4] ?_; refine (laws_toIntSS.calls k _ _ l4 D _ (Kd.C_below HR4.out HB.out) HC4.out H4.out).mono ?_; rintro e w12 ⟨v, rfl, hos, hb⟩; refine ⟨_, rfl, ?_⟩; have ho := Kd.S_R hos; obtain ⟨Ad, cd, rfl⟩ := Kd.R_slice ho; have HD := am (Kd.R_mono (ok' := fun k_ => w11.heap.size ≤ k_ ∧ k_ < w12.heap.size) (Kd.R_lower (Kd.R_bound ho) HB.out.size) (fun k_ h_ => ⟨h_.2.1, h_.2.2.1⟩)); have C3 := am (show w11.heap.size ≤ w12.heap.size from hb.size); replace BP := bb BP hb; replace BX := bb BX hb; replace HW := am (Kd.R_below HW.out hb); replace HP := am (Kd.R_below HP.out hb); replace HI := am (Kd.R_below HI.out hb); replace HB := am (below_step HB.out hb); clear hb ho hos))
  obtain ⟨hz0, hz1, hz2, hz3, kz0, kz1, kz2, kz3⟩ := cc4 BX
  go_upto_region 15 with (first
    | ((with_reducible refine gc 11 rfl ?_); refine gL (some 54) Tryz.func11 #[.agg #[.int .i64 n, .int .i64 f, .int .i64 s, .slice Ap P.length cp], .int .i64 d, .int .i64 t, .slice Ai I.length ci, .slice Ad D.length cd] ?_; refine (impl_RepairedAt.calls k n f s _ _ P d t _ _ I _ _ D R _ (Kd.R_reads' HP.out).2.2 (Kd.R_reads' HP.out).2.1 (Kd.R_reads' HI.out).2.2 (Kd.R_reads' HI.out).2.1 (Kd.R_reads' HD.out).2.2 (Kd.R_reads' HD.out).2.1 H6.out).mono ?_; rintro e w13 ⟨v, rfl, ho, hb⟩; refine ⟨_, rfl, ?_⟩; obtain ⟨Ag, cg, rfl⟩ := Kd.R_slice ho; have HG := am (Kd.R_mono (ok' := fun k_ => w12.heap.size ≤ k_) (Kd.R_lower (Kd.R_bound ho) HB.out.size) (fun k_ h_ => h_.2.1)); replace BP := bb BP hb; replace BX := bb BX hb; replace HW := am (Kd.R_below HW.out hb); replace HP := am (Kd.R_below HP.out hb); replace HI := am (Kd.R_below HI.out hb); replace HD := am (Kd.R_below HD.out hb); replace HB := am (below_step HB.out hb); clear hb ho))
  clear hz0 hz1 hz2 hz3 kz0 kz1 kz2 kz3
  go_wp2_with (first
    | ((with_reducible refine gc 12 rfl ?_); refine gL (some 57) Tryz.func12 #[.slice Ag R.length cg, .slice Aw R.length cw] ?_; refine (laws_eqIntS.calls k _ _ R _ _ R true _ (Kd.R_reads' HG.out).2.2 (Kd.R_reads' HG.out).2.1 (Kd.R_reads' HW.out).2.2 (Kd.R_reads' HW.out).2.1 H7.out).mono ?_; rintro e w14 ⟨rfl, hd⟩; refine ⟨_, rfl, ?_⟩; have hb := hd.below; replace BP := bb BP hb; replace BX := bb BX hb; replace HW := am (Kd.R_below HW.out hb); replace HP := am (Kd.R_below HP.out hb); replace HI := am (Kd.R_below HI.out hb); replace HD := am (Kd.R_below HD.out hb); replace HG := am (Kd.R_below HG.out hb); replace HB := am (below_step HB.out hb); clear hb hd))
  replace BP := am (blk_drew BP.out)
  replace BX := am (blk_drew BX.out)
  replace HW := am (Kd.R_drew HW.out)
  replace HP := am (Kd.R_drew HP.out)
  replace HI := am (Kd.R_drew HI.out)
  replace HD := am (Kd.R_drew HD.out)
  replace HG := am (Kd.R_drew HG.out)
  replace HB := am (below_drew1 HB.out)
  refine start_ (n := 5) (S := fun w' => w'.cell? ⟨gx, 0, none⟩ = some (.int .i64 n) ∧ w'.cell? ⟨gx, 1, none⟩ = some (.int .i64 f) ∧ w'.cell? ⟨gx, 2, none⟩ = some (.int .i64 s) ∧ w'.cell? ⟨gx, 3, none⟩ = some (.slice Ap P.length cp) ∧ w'.cell? ⟨gp, 0, none⟩ = some (.int .i64 a0) ∧ w'.cell? ⟨gp, 1, none⟩ = some (.int .i64 a1) ∧ w'.cell? ⟨gp, 2, none⟩ = some (.int .i64 a2) ∧ w'.cell? ⟨gp, 3, none⟩ = some (.slice A0 l0.length c0)) (ds := []) (bt 5 0) (by kernel_rfl) rfl (by kernel_rfl) ⟨bc0 BX, bc1 BX, bc2 BX, bc3 BX, bc0 BP, bc1 BP, bc2 BP, bc3 BP⟩ (fun hHeld => ?_)
  generalize w14.drew = w15 at BP BX HW HP HI HD HG HB hHeld ⊢
  refine ta8 0 59 (bt 5 1) hHeld ?_
  refine ta8 1 60 (bt 5 3) hHeld ?_
  refine one_ (i := 2) (N := some 61) (bt 5 7) rfl rfl (by kernel_rfl) (by decide) (fun K hK => ?_)
  refine goes_ Tryz.func8 (by kernel_rfl) rfl #[.agg #[.int .i64 a0, .int .i64 a1, .int .i64 a2, .slice A0 l0.length c0]] (by rfl) rfl rfl sl ?_
  refine (laws_toProgram.calls k a0 a1 a2 _ _ l0 n f s P _ (Kd.C_below HR0.out HB.out) HC0.out H2.out).mono ?_
  rintro e w16 ⟨v, rfl, ho, hb⟩
  refine ⟨_, rfl, ?_⟩
  obtain ⟨Aq, cq, rfl⟩ := Kd.R_slice ho
  have HQ := am ho
  replace BP := bb BP hb
  replace BX := bb BX hb
  replace HW := am (Kd.R_below HW.out hb)
  replace HP := am (Kd.R_below HP.out hb)
  replace HI := am (Kd.R_below HI.out hb)
  replace HD := am (Kd.R_below HD.out hb)
  replace HG := am (Kd.R_below HG.out hb)
  replace HB := am (below_step HB.out hb)
  clear hb ho
  refine hw_ hK ⟨bc0 BX, bc1 BX, bc2 BX, bc3 BX, bc0 BP, bc1 BP, bc2 BP, bc3 BP⟩ (fun hHeld => ?_)
  clear hK K
  refine one_ (i := 3) (N := some 62) (bt 5 15) rfl rfl (by kernel_rfl) (by decide) (fun K hK => ?_)
  refine goes_ Tryz.func13 (by kernel_rfl) rfl #[.agg #[.int .i64 n, .int .i64 f, .int .i64 s, .slice Ap P.length cp], .agg #[.int .i64 n, .int .i64 f, .int .i64 s, .slice Aq P.length cq]] (by rfl) rfl rfl sl ?_
  refine (laws_eqProgram.calls k n f s _ _ P n f s _ _ P true _ (Kd.R_reads' HP.out).2.2 (Kd.R_reads' HP.out).2.1 (Kd.R_reads' HQ.out).2.2 (Kd.R_reads' HQ.out).2.1 H8.out).mono ?_
  rintro e w17 ⟨rfl, hb⟩
  refine ⟨_, rfl, ?_⟩
  replace BP := bb BP hb
  replace BX := bb BX hb
  replace HW := am (Kd.R_below HW.out hb)
  replace HP := am (Kd.R_below HP.out hb)
  replace HI := am (Kd.R_below HI.out hb)
  replace HD := am (Kd.R_below HD.out hb)
  replace HG := am (Kd.R_below HG.out hb)
  replace HB := am (below_step HB.out hb)
  clear hb HQ
  refine hw_ hK ⟨bc0 BX, bc1 BX, bc2 BX, bc3 BX, bc0 BP, bc1 BP, bc2 BP, bc3 BP⟩ (fun hHeld => ?_)
  clear hK K
  refine pu 4 63 (bt 5 31) ?_
  refine done_ (by kernel_rfl) ?_
  clear hHeld
  go_upto_region 21 with (first
    | ((with_reducible refine gc 9 rfl ?_); refine gL (some 66) Tryz.func9 #[.slice A3 l3.length c3] ?_; refine (laws_toIntS.calls k _ _ l3 I _ (Kd.C_below HR3.out HB.out) HC3.out H3.out).mono ?_; rintro e w18 ⟨v, rfl, ho, hb⟩; refine ⟨_, rfl, ?_⟩; obtain ⟨Au, cu, rfl⟩ := Kd.R_slice ho; have HUn := am (Kd.R_mono (Kd.R_lower (Kd.R_bound ho) HB.out.size) (fun k_ h_ => trivial)); replace BP := bb BP hb; replace BX := bb BX hb; replace HW := am (Kd.R_below HW.out hb); replace HP := am (Kd.R_below HP.out hb); replace HI := am (Kd.R_below HI.out hb); replace HD := am (Kd.R_below HD.out hb); replace HG := am (Kd.R_below HG.out hb); replace HB := am (below_step HB.out hb); have HU := HUn; clear HUn hb ho)
    | ((with_reducible refine gc 12 rfl ?_); refine gL (some 67) Tryz.func12 #[.slice Ai I.length ci, .slice Au I.length cu] ?_; refine (laws_eqIntS.calls k _ _ I _ _ I true _ (Kd.R_reads' HI.out).2.2 (Kd.R_reads' HI.out).2.1 (Kd.R_reads' HU.out).2.2 (Kd.R_reads' HU.out).2.1 H9.out).mono ?_; rintro e w19 ⟨rfl, hd⟩; refine ⟨_, rfl, ?_⟩; have hb := hd.below; replace BP := bb BP hb; replace BX := bb BX hb; replace HW := am (Kd.R_below HW.out hb); replace HP := am (Kd.R_below HP.out hb); replace HI := am (Kd.R_below HI.out hb); replace HD := am (Kd.R_below HD.out hb); replace HG := am (Kd.R_below HG.out hb); replace HU := am (Kd.R_below HU.out hb); replace HB := am (below_step HB.out hb); clear hb hd))
  clear HU
  go_upto_region 24 with (first
    | ((with_reducible refine gc 10 rfl ?_); refine gL (some 71) Tryz.func10 #[.slice A4 l4.length c4] ?_; refine (laws_toIntSS.calls k _ _ l4 D _ (Kd.C_below HR4.out HB.out) HC4.out H4.out).mono ?_; rintro e w20 ⟨v, rfl, hos, hb⟩; refine ⟨_, rfl, ?_⟩; have ho := Kd.S_R hos; obtain ⟨Av, cv, rfl⟩ := Kd.R_slice ho; have HUn := am (Kd.R_mono (Kd.R_lower (Kd.R_bound ho) HB.out.size) (fun k_ h_ => trivial)); replace BP := bb BP hb; replace BX := bb BX hb; replace HW := am (Kd.R_below HW.out hb); replace HP := am (Kd.R_below HP.out hb); replace HI := am (Kd.R_below HI.out hb); replace HD := am (Kd.R_below HD.out hb); replace HG := am (Kd.R_below HG.out hb); replace HB := am (below_step HB.out hb); have HU := HUn; clear HUn hb ho hos)
    | ((with_reducible refine gc 14 rfl ?_); refine gL (some 72) Tryz.func14 #[.slice Ad D.length cd, .slice Av D.length cv] ?_; refine (laws_eqIntSS.calls k _ _ D _ _ D true _ (Kd.R_reads' HD.out).2.2 (Kd.R_reads' HD.out).2.1 (Kd.R_reads' HU.out).2.2 (Kd.R_reads' HU.out).2.1 H10.out).mono ?_; rintro e w21 ⟨rfl, hd⟩; refine ⟨_, rfl, ?_⟩; have hb := hd.below; replace BP := bb BP hb; replace BX := bb BX hb; replace HW := am (Kd.R_below HW.out hb); replace HP := am (Kd.R_below HP.out hb); replace HI := am (Kd.R_below HI.out hb); replace HD := am (Kd.R_below HD.out hb); replace HG := am (Kd.R_below HG.out hb); replace HU := am (Kd.R_below HU.out hb); replace HB := am (below_step HB.out hb); clear hb hd))
  clear HU
  obtain ⟨hz0, hz1, hz2, hz3, kz0, kz1, kz2, kz3⟩ := cc4 BX
  go_upto_region 25 with (first
    | ((with_reducible refine gc 15 rfl ?_); refine gL (some 76) Tryz.func15 #[.agg #[.int .i64 n, .int .i64 f, .int .i64 s, .slice Ap P.length cp], .int .i64 1] ?_; refine (laws_markProgram.calls n f s (fun k_ => w7.heap.size ≤ k_ ∧ k_ < gx) _ P 1 m1 w _ HB.out HP.out H11.out).mono ?_; rintro e w22 ⟨rfl, hb, hk⟩; refine ⟨_, rfl, ?_⟩; have hc1 := C1.out; have hc2 := C2.out; have hc3 := C3.out; have hgp := GP.out; replace HW := am (Kd.R_kept HW.out hk (fun k_ hk_ h_ => a24_1)); replace HI := am (Kd.R_kept HI.out hk (fun k_ hk_ h_ => a24_2)); replace HD := am (Kd.R_kept HD.out hk (fun k_ hk_ h_ => a24_2)); replace HG := am (Kd.R_kept HG.out hk (fun k_ hk_ h_ => a24_0)); replace BP := am (blk_kept BP.out hk (fun h_ => by have h3_ := h_.1; omega)); replace HB := am hb; clear hb hk hc1 hc2 hc3 hgp HP BX))
  clear hz0 hz1 hz2 hz3 kz0 kz1 kz2 kz3
  go_upto_region 26 with (first
    | ((with_reducible refine gc 16 rfl ?_); refine gL (some 79) Tryz.func16 #[.slice Ai I.length ci, .int .i64 m1] ?_; refine (laws_markIntS.calls k (fun k_ => gx < k_ ∧ k_ < w11.heap.size) _ I m1 m2 I' w _ HB.out HI.out H12.out).mono ?_; rintro e w23 ⟨rfl, _, hb, hk⟩; refine ⟨_, rfl, ?_⟩; have hc1 := C1.out; have hc2 := C2.out; have hc3 := C3.out; have hgp := GP.out; replace HW := am (Kd.R_kept HW.out hk (fun k_ hk_ h_ => a24_1)); replace HD := am (Kd.R_kept HD.out hk (fun k_ hk_ h_ => a24_2)); replace HG := am (Kd.R_kept HG.out hk (fun k_ hk_ h_ => a24_0)); replace BP := am (blk_kept BP.out hk (fun h_ => by have h3_ := h_.1; omega)); replace HB := am hb; clear hb hk hc1 hc2 hc3 hgp HI))
  go_upto_region 27 with (first
    | ((with_reducible refine gc 17 rfl ?_); refine gL (some 82) Tryz.func17 #[.slice Ad D.length cd, .int .i64 m2] ?_; refine (laws_markIntSS.calls (fun k_ => w11.heap.size ≤ k_ ∧ k_ < w12.heap.size) _ D m2 m3 w _ HB.out HD.out H13.out).mono ?_; rintro e w24 ⟨rfl, hb, hk⟩; refine ⟨_, rfl, ?_⟩; have hc1 := C1.out; have hc2 := C2.out; have hc3 := C3.out; have hgp := GP.out; replace HW := am (Kd.R_kept HW.out hk (fun k_ hk_ h_ => a24_1)); replace HG := am (Kd.R_kept HG.out hk (fun k_ hk_ h_ => a24_0)); replace BP := am (blk_kept BP.out hk (fun h_ => by have h3_ := h_.1; omega)); replace HB := am hb; clear hb hk hc1 hc2 hc3 hgp HD))
  go_upto_region 30 with (first
    | ((with_reducible refine gd 88 rfl ?_); (try (refine gate_guard (by rfl) ?_; dsimp only)); (with_reducible refine gc 12 rfl ?_); refine gL (some 88) Tryz.func12 #[.slice Ag R.length cg, .slice Aw R.length cw] ?_; refine (laws_eqIntS.calls k _ _ R _ _ R true _ (Kd.R_reads' HG.out).2.2 (Kd.R_reads' HG.out).2.1 (Kd.R_reads' HW.out).2.2 (Kd.R_reads' HW.out).2.1 H7.out).mono ?_; rintro e w25 ⟨rfl, hd⟩; refine ⟨_, rfl, ?_⟩; have hb := hd.below; replace BP := bb BP hb; replace HW := am (Kd.R_below HW.out hb); replace HG := am (Kd.R_below HG.out hb); replace HB := am (below_step HB.out hb); clear hb hd))
  go_upto_region 32 with (first
    | ((with_reducible refine gc 16 rfl ?_); refine gL (some 93) Tryz.func16 #[.slice Ag R.length cg, .int .i64 1] ?_; refine (laws_markIntS.calls k (fun k_ => w12.heap.size ≤ k_) _ R 1 m R' w _ HB.out HG.out H14.out).mono ?_; rintro e w26 ⟨rfl, ho, hb, hk⟩; refine ⟨_, rfl, ?_⟩; have hc1 := C1.out; have hc2 := C2.out; have hc3 := C3.out; have hgp := GP.out; replace HW := am (Kd.R_kept HW.out hk (fun k_ hk_ h_ => by have h2_ : k_ < w7.heap.size := hk_; have h3_ : w12.heap.size ≤ k_ := h_; omega)); replace BP := am (blk_kept BP.out hk (fun h_ => by have h3_ : w12.heap.size ≤ gp := h_; omega)); replace HG := am (Kd.R_mono (ok' := fun _ => True) ho (fun _ _ => trivial)); replace HB := am hb; clear hb hk ho hc1 hc2 hc3 hgp))
  go_upto_region 37 with (first
    | ((with_reducible refine gc 18 rfl ?_); refine gL (some 96) Tryz.func18 #[.slice Ag R.length cg, .int .i64 1] ?_; refine (Bp.held k _ _ _ R' m _ HG.out H15.out).mono ?_; rintro e w27 ⟨rfl, hd⟩; refine ⟨_, rfl, ?_⟩; have hb := hd.below; replace BP := bb BP hb; replace HW := am (Kd.R_below HW.out hb); replace HG := am (Kd.R_below HG.out hb); replace HB := am (below_step HB.out hb); clear hb hd))
  obtain ⟨hz0, hz1, hz2, hz3, kz0, kz1, kz2, kz3⟩ := cc4 BP
  go_upto_region 38 with (first
    | ((with_reducible refine gc 8 rfl ?_); refine gL (some 103) Tryz.func8 #[.agg #[.int .i64 a0, .int .i64 a1, .int .i64 a2, .slice A0 l0.length c0]] ?_; refine (laws_toProgram.calls k a0 a1 a2 _ _ l0 n f s P _ (Kd.C_below HR0.out HB.out) HC0.out H2.out).mono ?_; rintro e w28 ⟨v, rfl, ho, hb⟩; refine ⟨_, rfl, ?_⟩; obtain ⟨At, ct, rfl⟩ := Kd.R_slice ho; have HTn := am (Kd.R_mono (Kd.R_lower (Kd.R_bound ho) HB.out.size) (fun k_ h_ => trivial)); replace BP := bb BP hb; replace HW := am (Kd.R_below HW.out hb); replace HG := am (Kd.R_below HG.out hb); replace HB := am (below_step HB.out hb); have HT := HTn; clear HTn hb ho)
    | ((with_reducible refine gc 9 rfl ?_); refine gL (some 107) Tryz.func9 #[.slice A3 l3.length c3] ?_; refine (laws_toIntS.calls k _ _ l3 I _ (Kd.C_below HR3.out HB.out) HC3.out H3.out).mono ?_; rintro e w29 ⟨v, rfl, ho, hb⟩; refine ⟨_, rfl, ?_⟩; obtain ⟨Au, cu, rfl⟩ := Kd.R_slice ho; have HUn := am (Kd.R_mono (Kd.R_lower (Kd.R_bound ho) HB.out.size) (fun k_ h_ => trivial)); replace BP := bb BP hb; replace HW := am (Kd.R_below HW.out hb); replace HG := am (Kd.R_below HG.out hb); replace HT := am (Kd.R_below HT.out hb); replace HB := am (below_step HB.out hb); have HU := HUn; clear HUn hb ho)
    | ((with_reducible refine gc 10 rfl ?_); refine gL (some 109) Tryz.func10 #[.slice A4 l4.length c4] ?_; refine (laws_toIntSS.calls k _ _ l4 D _ (Kd.C_below HR4.out HB.out) HC4.out H4.out).mono ?_; rintro e w30 ⟨v, rfl, hos, hb⟩; refine ⟨_, rfl, ?_⟩; have ho := Kd.S_R hos; obtain ⟨Av, cv, rfl⟩ := Kd.R_slice ho; have HVn := am (Kd.R_mono (Kd.R_lower (Kd.R_bound ho) HB.out.size) (fun k_ h_ => trivial)); replace BP := bb BP hb; replace HW := am (Kd.R_below HW.out hb); replace HG := am (Kd.R_below HG.out hb); replace HT := am (Kd.R_below HT.out hb); replace HU := am (Kd.R_below HU.out hb); replace HB := am (below_step HB.out hb); have HV := HVn; clear HVn hb ho hos)
    | ((with_reducible refine gc 11 rfl ?_); refine gL (some 110) Tryz.func11 #[.agg #[.int .i64 n, .int .i64 f, .int .i64 s, .slice At P.length ct], .int .i64 d, .int .i64 t, .slice Au I.length cu, .slice Av D.length cv] ?_; refine (impl_RepairedAt.calls k n f s _ _ P d t _ _ I _ _ D R _ (Kd.R_reads' HT.out).2.2 (Kd.R_reads' HT.out).2.1 (Kd.R_reads' HU.out).2.2 (Kd.R_reads' HU.out).2.1 (Kd.R_reads' HV.out).2.2 (Kd.R_reads' HV.out).2.1 H6.out).mono ?_; rintro e w31 ⟨v, rfl, ho, hb⟩; refine ⟨_, rfl, ?_⟩; obtain ⟨Ah, ch, rfl⟩ := Kd.R_slice ho; have HH := am ho; replace BP := bb BP hb; replace HW := am (Kd.R_below HW.out hb); replace HG := am (Kd.R_below HG.out hb); replace HB := am (below_step HB.out hb); clear hb ho HT HU HV))
  clear hz0 hz1 hz2 hz3 kz0 kz1 kz2 kz3
  go_upto_region 41 with (first
    | ((with_reducible refine gc 12 rfl ?_); refine gL (some 113) Tryz.func12 #[.slice Ah R.length ch, .slice Aw R.length cw] ?_; refine (laws_eqIntS.calls k _ _ R _ _ R true _ (Kd.R_reads' HH.out).2.2 (Kd.R_reads' HH.out).2.1 (Kd.R_reads' HW.out).2.2 (Kd.R_reads' HW.out).2.1 H7.out).mono ?_; rintro e w32 ⟨rfl, hd⟩; refine ⟨_, rfl, ?_⟩; have hb := hd.below; replace BP := bb BP hb; replace HW := am (Kd.R_below HW.out hb); replace HG := am (Kd.R_below HG.out hb); replace HB := am (below_step HB.out hb); clear hb hd))
  go_wp2_with (first
    | ((with_reducible refine gc 18 rfl ?_); refine gL (some 117) Tryz.func18 #[.slice Ag R.length cg, .int .i64 1] ?_; refine (Bp.held k _ _ _ R' m _ HG.out H15.out).mono ?_; rintro e w33 ⟨rfl, hd⟩; refine ⟨_, rfl, ?_⟩; have hb := hd.below; replace HB := am (below_step HB.out hb); clear hb hd))
  go_ret
  exact ⟨rfl, HB.out⟩
/-- What the law's callees come to at rounds k, so that it answers yes. -/
def laws_FnExactRepairedAt.Ok (k : Nat) (a0 a1 a2 : Int) (l0 : List (S97)) (d t : Int) (l3 : List Int) (l4 : List (List Int)) : Prop :=
  (l3.length : Int) > 1048576 ∨ ¬ (l3.length : Int) > 1048576 ∧ ((∃ t0, laws_szProgram.f k a0 a1 a2 l0 1048576 = some t0 ∧ t0 < 0) ∨ (∃ t0 t1, laws_szProgram.f k a0 a1 a2 l0 1048576 = some t0 ∧ ¬ t0 < 0 ∧ laws_szIntSS.f k l4 t0 = some t1 ∧ t1 < 0) ∨
    ∃ t0 t1 n f s m m1 m2 m3 P I I' R R' D, laws_szProgram.f k a0 a1 a2 l0 1048576 = some t0 ∧ ¬ t0 < 0 ∧ laws_szIntSS.f k l4 t0 = some t1 ∧ ¬ t1 < 0 ∧ laws_toProgram.f k a0 a1 a2 l0 = some (n, f, s, P) ∧ laws_toIntS.f k l3 = some I ∧ laws_toIntSS.f k l4 = some D ∧ spec_RepairedAt.f k n f s P d t I D = some R ∧ impl_RepairedAt.f k n f s P d t I D = some R ∧ laws_eqIntS.f k R R = some true ∧ laws_eqProgram.f k n f s P n f s P = some true ∧ laws_eqIntS.f k I I = some true ∧ laws_eqIntSS.f k D D = some true ∧
      laws_markProgram.f n f s P 1 = some m1 ∧ laws_markIntS.f k I m1 = some (m2, I') ∧ laws_markIntSS.f D m2 = some m3 ∧ ¬ m3 < 0 ∧ laws_markIntS.f k R 1 = some (m, R') ∧ laws_heldIntS.f k R' 1 = some m ∧ ¬ m < 0)
theorem laws_FnExactRepairedAt.calls (k : Nat) (a0_0 : Int) (a0_1 : Int) (a0_2 : Int) (A0_3 : Option Addr) (c0_3 : Nat) (l0_3 : List (S97)) (a1 : Int) (a2 : Int) (A3 : Option Addr) (c3 : Nat) (l3 : List Int) (A4 : Option Addr) (c4 : Nat) (l4 : List (List Int)) (r : Bool) (w : World) (hr0_3 : Kd.C k97 w A0_3 l0_3.length l0_3) (hc0_3 : l0_3.length ≤ c0_3) (hr3 : Kd.C (Kd.int .i64) w A3 l3.length l3) (hc3 : l3.length ≤ c3) (hr4 : Kd.C (Kd.slice 3 (Kd.int .i64)) w A4 l4.length l4) (hc4 : l4.length ≤ c4) (h : laws_FnExactRepairedAt.Ok k a0_0 a0_1 a0_2 l0_3 a1 a2 l3 l4 ∧ r = true) :
    Calls Tryz.prog 3 #[.agg #[.int .i64 a0_0, .int .i64 a0_1, .int .i64 a0_2, .slice A0_3 l0_3.length c0_3], .int .i64 a1, .int .i64 a2, .slice A3 l3.length c3, .slice A4 l4.length c4] w fun e w' => e = .returned (.bool r) ∧ Below w.heap.size w w' := by
  obtain ⟨h, rfl⟩ := h
  rcases h with hl | ⟨hl, ⟨t0, h0, ht0⟩ | ⟨t0, t1, h0, ht0, h1, ht1⟩ | ⟨t0, t1, n, f, s, m, m1, m2, m3, P, I, I', R, R', D, h0, ht0, h1, ht1, h2, h3, h4, h5, h6, h7, h8, h9, h10, h11, h12, h13, hm3, h14, h15, hm⟩⟩
  · exact laws_FnExactRepairedAt.no1 k a0_0 a0_1 a0_2 A0_3 c0_3 l0_3 a1 a2 A3 c3 l3 A4 c4 l4 w hr0_3 hc0_3 hr3 hc3 hr4 hc4 hl
  · exact laws_FnExactRepairedAt.no2 k a0_0 a0_1 a0_2 A0_3 c0_3 l0_3 a1 a2 A3 c3 l3 A4 c4 l4 t0 0 w hr0_3 hc0_3 hr3 hc3 hr4 hc4 hl h0 ht0
  · exact laws_FnExactRepairedAt.no3 k a0_0 a0_1 a0_2 A0_3 c0_3 l0_3 a1 a2 A3 c3 l3 A4 c4 l4 t0 t1 w hr0_3 hc0_3 hr3 hc3 hr4 hc4 hl h0 ht0 h1 ht1
  · exact laws_FnExactRepairedAt.yes k a0_0 a0_1 a0_2 A0_3 c0_3 l0_3 a1 a2 A3 c3 l3 A4 c4 l4 t0 t1 n f s m m1 m2 m3 P I I' R R' D w hr0_3 hc0_3 hr3 hc3 hr4 hc4 hl h0 ht0 h1 ht1 h2 h3 h4 h5 h6 h7 h8 h9 h10 h11 h12 h13 hm3 h14 h15 hm
end Go.Proofs.YthnlkgbhohchoaaGreat.QFnExactRepairedAt
