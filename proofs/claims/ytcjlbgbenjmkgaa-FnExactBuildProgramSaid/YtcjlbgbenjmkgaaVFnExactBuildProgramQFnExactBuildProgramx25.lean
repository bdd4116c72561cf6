/- The law FnExactBuildProgram answers yes, where what it calls answers so. Conditions: what its callees come to, as hypotheses. -/
import Derived.Test.YtcjlbgbenjmkgaaVFnExactBuildProgramQFnExactBuildProgramx24
namespace Go.Proofs.Ytcjlbgbenjmkgaa.QFnExactBuildProgram
open Go.RowKit Go.Proofs.YtcjlbgbenjmkgaaW.PrintWords Go.Proofs.YtcjlbgbenjmkgaaW.PrintLast Go.Proofs.YtcjlbgbenjmkgaaW.PrintMore Go.Proofs.Ytcjlbgbenjmkgaa.Open Go.Proofs.Ytcjlbgbenjmkgaa.Sq
set_option linter.unusedVariables false
namespace Bp
theorem old {α : Type} {d : Kd α} {e base : Nat} {W : World} {ok : Nat → Prop} {v : Value} {xs : List α} (h : Kd.S d e W base ok v xs) : Kd.S d e W base (fun k => k < W.heap.size) v xs := Kd.S_mono (Kd.S_bound h) (fun _ h => h.2.2.1)
theorem new {α : Type} {d : Kd α} {e base : Nat} {W w1 : World} {ok : Nat → Prop} {v : Value} {xs : List α} (h : Kd.S d e w1 W.heap.size ok v xs) (hb : base ≤ W.heap.size) : Kd.S d e w1 base (fun k => W.heap.size ≤ k ∧ k < w1.heap.size) v xs := Kd.S_mono (Kd.S_lower (Kd.S_bound h) hb) (fun _ h => ⟨h.2.1, h.2.2.1⟩)
theorem old_R {α : Type} {d : Kd α} {e base : Nat} {W : World} {ok : Nat → Prop} {v : Value} {xs : List α} (h : Kd.R d e W base ok v xs) : Kd.R d e W base (fun k => k < W.heap.size) v xs := Kd.R_mono (Kd.R_bound h) (fun _ h => h.2.2.1)
/-- Four cells of a variable are written. -/
theorem put4 {W W' : World} {g t : Nat} {a b c d x y z u : Value} (hb : W.heap[g]? = some (.cells #[a, b, c, d] t (0, 0))) (hw : W' = (((W.setCell ⟨g, 0, none⟩ x).setCell ⟨g, 1, none⟩ y).setCell ⟨g, 2, none⟩ z).setCell ⟨g, 3, none⟩ u) :
    W'.heap[g]? = some (.cells #[x, y, z, u] t (0, 0)) ∧ Kept W W' (fun k => k = g) ∧ ∀ w : World, Below w.heap.size w W → w.heap.size ≤ g → Below w.heap.size w W' := by
  refine ⟨?_, ?_, fun w h hg => by rw [hw]; exact below_set (below_set (below_set (below_set h hg) hg) hg) hg⟩
  · have h1 : (W.setCell ⟨g, 0, none⟩ x).heap[g]? = some (.cells #[x, b, c, d] t (0, 0)) := blk_put hb 0 x rfl
    generalize W.setCell ⟨g, 0, none⟩ x = W1 at *
    have h2 : (W1.setCell ⟨g, 1, none⟩ y).heap[g]? = some (.cells #[x, y, c, d] t (0, 0)) := blk_put h1 1 y rfl
    generalize W1.setCell ⟨g, 1, none⟩ y = W2 at *
    have h3 : (W2.setCell ⟨g, 2, none⟩ z).heap[g]? = some (.cells #[x, y, z, d] t (0, 0)) := blk_put h2 2 z rfl
    generalize W2.setCell ⟨g, 2, none⟩ z = W3 at *
    rw [hw]
    exact blk_put h3 3 u rfl
  · rw [hw]
    have k0 := Kept.refl W (fun k => k = g)
    have k1 : Kept W (W.setCell ⟨g, 0, none⟩ x) (fun k => k = g) := Kept.setCell k0 (p := ⟨g, 0, none⟩) (.inl rfl) _
    generalize W.setCell ⟨g, 0, none⟩ x = W1 at *
    have k2 : Kept W (W1.setCell ⟨g, 1, none⟩ y) (fun k => k = g) := Kept.setCell k1 (p := ⟨g, 1, none⟩) (.inl rfl) _
    generalize W1.setCell ⟨g, 1, none⟩ y = W2 at *
    have k3 : Kept W (W2.setCell ⟨g, 2, none⟩ z) (fun k => k = g) := Kept.setCell k2 (p := ⟨g, 2, none⟩) (.inl rfl) _
    generalize W2.setCell ⟨g, 2, none⟩ z = W3 at *
    exact Kept.setCell k3 (p := ⟨g, 3, none⟩) (.inl rfl) _
theorem held (k : Nat) (n f s : Int) (A : Option Addr) (nn c : Nat) (P : List S47) (r : Int) (w : World) {base : Nat} {ok : Nat → Prop} (hS : Kd.S k47 47 w base ok (.slice A nn c) P) (h : laws_heldProgram.f k n f s P 1 = some r) :
    Calls Try.prog 12 #[.agg #[.int .i64 n, .int .i64 f, .int .i64 s, .slice A nn c], .int .i64 1] w fun e w' => e = .returned (.int .i64 r) ∧ Below w.heap.size w w' := by
  have e := Kd.S_reads' hS
  obtain rfl := e.1
  exact laws_heldProgram.calls k n f s _ _ P 1 r w e.2.2 e.2.1 h
end Bp
set_option maxHeartbeats 8000000 in
set_option maxRecDepth 100000 in
theorem laws_FnExactBuildProgram.no (A0 : Option Addr) (c0 : Nat) (l0 : List S51) (a1 a2 a3 a4 a5 t : Int) (w : World) (hr0 : Kd.C k51 w A0 l0.length l0) (hc0 : l0.length ≤ c0) (h : laws_szContactS.f l0 1048576 = some t) (ht : t < 0) :
    Calls Try.prog 3 #[.slice A0 l0.length c0, .int .i64 a1, .int .i64 a2, .int .i64 a3, .int .i64 a4, .int .i64 a5] w fun e w' => e = .returned (.bool true) ∧ Below w.heap.size w w' := by
  have hd : decide (t < 0) = true := decide_eq_true ht
  go_enter Try.func3, Try.ntmps3
  go_wp2_with (first | ((with_reducible refine gate_callee (f := 4) rfl ?_); refine gL (some 26) Try.func4 #[.slice A0 l0.length c0, .int .i64 1048576] ?_; (with_reducible refine (laws_szContactS.calls _ _ l0 1048576 t _ hr0 hc0 h).mono ?_); rintro e w1 ⟨rfl, hd1⟩; refine ⟨_, rfl, ?_⟩; have HB := Aside0.mk hd1.below; clear hd1))
  go_ret
  exact ⟨rfl, HB.out⟩
set_option maxHeartbeats 8000000 in
set_option maxRecDepth 100000 in
theorem laws_FnExactBuildProgram.yes (k : Nat) (A0 : Option Addr) (c0 : Nat) (l0 : List S51) (a1 a2 a3 a4 a5 t : Int) (L L' : List S49) (n f s m m' : Int) (P P' : List S47) (b : Bool) (w : World) (hr0 : Kd.C k51 w A0 l0.length l0) (hc0 : l0.length ≤ c0)
    (h0 : laws_szContactS.f l0 1048576 = some t) (ht : ¬ t < 0) (h1 : laws_toContactS.f k l0 = some L) (h2 : spec_BuildProgram.f k L a1 a2 a3 a4 a5 = some (n, f, s, P, b)) (h3 : impl_BuildProgram.f k L a1 a2 a3 a4 a5 = some (n, f, s, P, b))
    (h4 : laws_eqProgram.f k n f s P n f s P = some true) (h5 : laws_eqContactS.f k L L = some true) (h6 : laws_markContactS.f k L 1 = some (m', L')) (hm' : ¬ m' < 0) (h7 : laws_markProgram.lp k P 0 1 = some (m, P')) (h8 : laws_heldProgram.f k n f s P' 1 = some m) (hm : ¬ m < 0) :
    Calls Try.prog 3 #[.slice A0 l0.length c0, .int .i64 a1, .int .i64 a2, .int .i64 a3, .int .i64 a4, .int .i64 a5] w fun e w' => e = .returned (.bool true) ∧ Below w.heap.size w w' := by
  have hu := Try.underlying26
  have hd0 : decide (t < 0) = false := decide_eq_false ht
  have hd1 : decide (m' < 0) = false := decide_eq_false hm'
  have hd2 : decide (m < 0) = false := decide_eq_false hm
  have HR := Aside0.mk hr0
  have HC := Aside0.mk hc0
  clear hr0 hc0 ht hm hm'
  have H0 := Aside0.mk h0
  have H1 := Aside0.mk h1
  have H2 := Aside0.mk h2
  have H3 := Aside0.mk h3
  have H4 := Aside0.mk h4
  have H5 := Aside0.mk h5
  have H6 := Aside0.mk h6
  have H7 := Aside0.mk h7
  have H8 := Aside0.mk h8
  clear h0 h1 h2 h3 h4 h5 h6 h7 h8
  go_enter Try.func3, Try.ntmps3
  go_upto_region 5 with (first | ((with_reducible refine gate_callee (f := 4) rfl ?_); refine gL (some 26) Try.func4 #[.slice A0 l0.length c0, .int .i64 1048576] ?_; (with_reducible refine (laws_szContactS.calls _ _ l0 1048576 t _ HR.out HC.out H0.out).mono ?_); rintro e w1 ⟨rfl, hd1⟩; refine ⟨_, rfl, ?_⟩; have HB := Aside0.mk hd1.below; clear hd1))
  go_upto_region 6 with (first
    | ((with_reducible refine gate_callee (f := 6) rfl ?_); refine gL (some 31) Try.func6 #[.slice A0 l0.length c0] ?_; (with_reducible refine (laws_toContactS.calls k _ _ l0 L _ (Kd.C_below HR.out HB.out) HC.out H1.out).mono ?_); rintro e w2 ⟨v, rfl, ho, hb⟩; refine ⟨_, rfl, ?_⟩; obtain ⟨Ac, cc, rfl⟩ := Kd.R_slice ho; have HY := Aside0.mk ho; replace HB := Aside0.mk (below_step HB.out hb); clear hb ho)
    | ((with_reducible refine gate_callee (f := 5) rfl ?_); refine gL (some 37) Try.func5 #[.slice Ac L.length cc, .int .i64 a1, .int .i64 a2, .int .i64 a3, .int .i64 a4, .int .i64 a5] ?_; (with_reducible refine (spec_BuildProgram.calls k _ _ L a1 a2 a3 a4 a5 n f s P b _ (Kd.R_reads' HY.out).2.2 (Kd.R_reads' HY.out).2.1 H2.out).mono ?_); rintro e w3 ⟨v, rfl, ho, hb⟩; refine ⟨_, rfl, ?_⟩; obtain ⟨Aw, cw, rfl⟩ := Kd.S_slice ho; have HW := Aside0.mk (Bp.new ho HB.out.size); replace HB := Aside0.mk (below_step HB.out hb); clear hb ho)
    | ((with_reducible refine gate_dst (N := 14) rfl ?_); refine bx 14 #[.int .i64 0, .int .i64 0, .int .i64 0, .slice none 0 0] 26 ?_; intro gw hg w4 hbox hb; replace HW := Aside0.mk (Kd.S_below (Bp.old HW.out) hb); rw [← hg] at HW; have BW := Aside0.mk hbox; have GW := Aside0.mk (show w.heap.size ≤ gw by rw [hg]; exact HB.out.size); have GW2 := Aside0.mk (show gw < w4.heap.size from blk_lt hbox); replace HB := Aside0.mk (below_step HB.out hb); clear hb hbox hg HY; obtain ⟨hz0, hz1, hz2, hz3, hy0, hy1, hy2, hy3⟩ := cc4 BW)
    | ((with_reducible refine gate_store (t := 26) (p := 14) rfl ?_); refine store_event (t := 26) (p := 14) (v := ?vo_w5) (w1 := ((((w4.setCell ⟨gw, 0, none⟩ (.int .i64 n)).setCell ⟨gw, 1, none⟩ (.int .i64 f)).setCell ⟨gw, 2, none⟩ (.int .i64 s)).setCell ⟨gw, 3, none⟩ (.slice Aw P.length cw))) ?hg ?ho ?hn ?hr ?_; (case ho => rfl); (case hg => rfl); (case hn => rfl); (case hr => first | (go_simp; done) | (go_simp; rfl)); intro w5 hw; have hp := Bp.put4 BW.out hw; replace BW := Aside0.mk hp.1; replace HW := Aside0.mk (Kd.S_kept HW.out hp.2.1 (fun k hk he => by omega)); replace GW2 := Aside0.mk (Nat.lt_of_lt_of_le GW2.out hp.2.1.1); replace HB := Aside0.mk (hp.2.2 w HB.out GW.out); clear hp hw))
  clear hz0 hz1 hz2 hz3 hy0 hy1 hy2 hy3
  go_upto_region 7 with (first
    | ((with_reducible refine gate_callee (f := 6) rfl ?_); refine gL (some 41) Try.func6 #[.slice A0 l0.length c0] ?_; (with_reducible refine (laws_toContactS.calls k _ _ l0 L _ (Kd.C_below HR.out HB.out) HC.out H1.out).mono ?_); rintro e w6 ⟨v, rfl, ho, hb⟩; refine ⟨_, rfl, ?_⟩; obtain ⟨Ax, cx, rfl⟩ := Kd.R_slice ho; have HX := Aside0.mk (Kd.R_lower ho HB.out.size); replace HW := Aside0.mk (Kd.S_below HW.out hb); replace BW := bb BW hb; replace GW2 := Aside0.mk (Nat.lt_of_lt_of_le GW2.out hb.size); replace HB := Aside0.mk (below_step HB.out hb); clear hb ho))
  go_upto_region 8 with (first
    | ((with_reducible refine gate_callee (f := 7) rfl ?_); refine gL (some 49) Try.func7 #[.slice Ax L.length cx, .int .i64 a1, .int .i64 a2, .int .i64 a3, .int .i64 a4, .int .i64 a5] ?_; (with_reducible refine (impl_BuildProgram.calls k _ _ L a1 a2 a3 a4 a5 n f s P b _ (Kd.R_reads' HX.out).2.2 (Kd.R_reads' HX.out).2.1 H3.out).mono ?_); rintro e w7 ⟨v, rfl, ho, hb⟩; refine ⟨_, rfl, ?_⟩; obtain ⟨Ag, cg, rfl⟩ := Kd.S_slice ho; have HG := Aside0.mk (Bp.new ho HB.out.size); obtain ⟨N, hN⟩ : ∃ N, N = w6.heap.size := ⟨_, rfl⟩; rw [← hN] at HG GW2; have HN := Aside0.mk (show N ≤ w7.heap.size by rw [hN]; exact hb.size); replace HX := Aside0.mk (Kd.R_below (Bp.old_R HX.out) hb); rw [← hN] at HX; replace HW := Aside0.mk (Kd.S_below HW.out hb); replace BW := bb BW hb; replace HB := Aside0.mk (below_step HB.out hb); clear hb ho hN)
    | ((with_reducible refine gate_dst (N := 17) rfl ?_); refine bx 17 #[.int .i64 0, .int .i64 0, .int .i64 0, .slice none 0 0] 26 ?_; intro gg hg w8 hbox hb; replace HG := Aside0.mk (Kd.S_below HG.out hb); rw [← hg] at HG HN; replace HX := Aside0.mk (Kd.R_below HX.out hb); replace HW := Aside0.mk (Kd.S_below HW.out hb); replace BW := bb BW hb; have BG := Aside0.mk hbox; have GG := Aside0.mk (show w.heap.size ≤ gg by rw [hg]; exact HB.out.size); replace HB := Aside0.mk (below_step HB.out hb); clear hb hbox hg; obtain ⟨hz0, hz1, hz2, hz3, hy0, hy1, hy2, hy3⟩ := cc4 BG)
    | ((with_reducible refine gate_store (t := 26) (p := 17) rfl ?_); refine store_event (t := 26) (p := 17) (v := ?vo_w9) (w1 := ((((w8.setCell ⟨gg, 0, none⟩ (.int .i64 n)).setCell ⟨gg, 1, none⟩ (.int .i64 f)).setCell ⟨gg, 2, none⟩ (.int .i64 s)).setCell ⟨gg, 3, none⟩ (.slice Ag P.length cg))) ?hg ?ho ?hn ?hr ?_; (case ho => rfl); (case hg => rfl); (case hn => rfl); (case hr => first | (go_simp; done) | (go_simp; rfl)); intro w9 hw; have hp := Bp.put4 BG.out hw; replace BG := Aside0.mk hp.1; have hN := HN.out; have hW2 := GW2.out; replace HG := Aside0.mk (Kd.S_kept HG.out hp.2.1 (fun k hk he => by have := hk.2; omega)); replace HX := Aside0.mk (Kd.R_kept HX.out hp.2.1 (fun k hk he => by have h_ : k < N := hk; omega)); replace HW := Aside0.mk (Kd.S_kept HW.out hp.2.1 (fun k hk he => by have h_ : k < gw := hk; omega)); replace BW := Aside0.mk (blk_kept BW.out hp.2.1 (fun he => by omega)); replace HB := Aside0.mk (hp.2.2 w HB.out GG.out); clear hp hw hN hW2))
  clear hz0 hz1 hz2 hz3 hy0 hy1 hy2 hy3
  obtain ⟨hz0, hz1, hz2, hz3, hy0, hy1, hy2, hy3⟩ := cc4 BG
  obtain ⟨ha0, ha1, ha2, ha3, hb0, hb1, hb2, hb3⟩ := cc4 BW
  go_upto_region 10 with (first
    | ((with_reducible refine gate_callee (f := 8) rfl ?_); refine gL (some 54) Try.func8 #[.agg #[.int .i64 n, .int .i64 f, .int .i64 s, .slice Ag P.length cg], .agg #[.int .i64 n, .int .i64 f, .int .i64 s, .slice Aw P.length cw]] ?_; (with_reducible refine (laws_eqProgram.calls k n f s _ _ P n f s _ _ P true _ (Kd.S_reads' HG.out).2.2 (Kd.S_reads' HG.out).2.1 (Kd.S_reads' HW.out).2.2 (Kd.S_reads' HW.out).2.1 H4.out).mono ?_); rintro e w10 ⟨rfl, hb⟩; refine ⟨_, rfl, ?_⟩; replace HG := Aside0.mk (Kd.S_below HG.out hb); replace HX := Aside0.mk (Kd.R_below HX.out hb); replace HW := Aside0.mk (Kd.S_below HW.out hb); replace BW := bb BW hb; replace BG := bb BG hb; replace HB := Aside0.mk (below_step HB.out hb); clear hb))
  clear hz0 hz1 hz2 hz3 hy0 hy1 hy2 hy3 ha0 ha1 ha2 ha3 hb0 hb1 hb2 hb3
  go_upto_region 12 with (first
    | ((with_reducible refine gate_callee (f := 6) rfl ?_); refine gL (some 63) Try.func6 #[.slice A0 l0.length c0] ?_; (with_reducible refine (laws_toContactS.calls k _ _ l0 L _ (Kd.C_below HR.out HB.out) HC.out H1.out).mono ?_); rintro e w11 ⟨v, rfl, ho, hb⟩; refine ⟨_, rfl, ?_⟩; obtain ⟨Az, cz, rfl⟩ := Kd.R_slice ho; have HZ := Aside0.mk ho; replace HG := Aside0.mk (Kd.S_below HG.out hb); replace HX := Aside0.mk (Kd.R_below HX.out hb); replace HW := Aside0.mk (Kd.S_below HW.out hb); replace BW := bb BW hb; replace BG := bb BG hb; replace HB := Aside0.mk (below_step HB.out hb); clear hb ho)
    | ((with_reducible refine gate_callee (f := 9) rfl ?_); refine gL (some 64) Try.func9 #[.slice Ax L.length cx, .slice Az L.length cz] ?_; (with_reducible refine (laws_eqContactS.calls k _ _ L _ _ L true _ (Kd.R_reads' HX.out).2.2 (Kd.R_reads' HX.out).2.1 (Kd.R_reads' HZ.out).2.2 (Kd.R_reads' HZ.out).2.1 H5.out).mono ?_); rintro e w12 ⟨rfl, hb⟩; refine ⟨_, rfl, ?_⟩; replace HG := Aside0.mk (Kd.S_below HG.out hb); replace HX := Aside0.mk (Kd.R_below HX.out hb); replace HW := Aside0.mk (Kd.S_below HW.out hb); replace BW := bb BW hb; replace BG := bb BG hb; replace HB := Aside0.mk (below_step HB.out hb); clear hb HZ))
  go_upto_region 14 with (first
    | ((with_reducible refine gate_callee (f := 10) rfl ?_); refine gL (some 68) Try.func10 #[.slice Ax L.length cx, .int .i64 1] ?_; refine (laws_markContactS.calls k (fun k_ => some k_ = (Value.slice Ax L.length cx).ownBlock) _ L 1 m' L' w _ HB.out (Kd.R_tight rfl HX.out) H6.out).mono ?_; rintro e w13 ⟨rfl, _, hb, hk⟩; refine ⟨_, rfl, ?_⟩; replace HG := Aside0.mk (Kd.S_mono (Kd.S_kept (Kd.S_apart' HG.out (Kd.R_typed HX.out) (by decide)) hk (fun _ hk_ => hk_.2)) (fun _ hk_ => hk_.1)); replace HW := Aside0.mk (Kd.S_mono (Kd.S_kept (Kd.S_apart' HW.out (Kd.R_typed HX.out) (by decide)) hk (fun _ hk_ => hk_.2)) (fun _ hk_ => hk_.1)); replace BW := Aside0.mk (blk_kept BW.out hk (Kd.R_ne HX.out BW.out (by decide))); replace BG := Aside0.mk (blk_kept BG.out hk (Kd.R_ne HX.out BG.out (by decide))); replace HB := Aside0.mk hb; clear hb hk HX))
  obtain ⟨hz0, hz1, hz2, hz3, hy0, hy1, hy2, hy3⟩ := cc4 BG
  obtain ⟨ha0, ha1, ha2, ha3, hb0, hb1, hb2, hb3⟩ := cc4 BW
  go_upto_region 16 with (first
    | ((with_reducible refine gate_dst (N := 74) rfl ?_); (try (refine gate_guard (by rfl) ?_; dsimp only)); (with_reducible refine gate_callee (f := 8) rfl ?_); refine gL (some 74) Try.func8 #[.agg #[.int .i64 n, .int .i64 f, .int .i64 s, .slice Ag P.length cg], .agg #[.int .i64 n, .int .i64 f, .int .i64 s, .slice Aw P.length cw]] ?_; (with_reducible refine (laws_eqProgram.calls k n f s _ _ P n f s _ _ P true _ (Kd.S_reads' HG.out).2.2 (Kd.S_reads' HG.out).2.1 (Kd.S_reads' HW.out).2.2 (Kd.S_reads' HW.out).2.1 H4.out).mono ?_); rintro e w14 ⟨rfl, hb⟩; refine ⟨_, rfl, ?_⟩; replace HG := Aside0.mk (Kd.S_below HG.out hb); replace HW := Aside0.mk (Kd.S_below HW.out hb); replace BW := bb BW hb; replace BG := bb BG hb; replace HB := Aside0.mk (below_step HB.out hb); clear hb))
  clear hz0 hz1 hz2 hz3 hy0 hy1 hy2 hy3 ha0 ha1 ha2 ha3 hb0 hb1 hb2 hb3
  obtain ⟨hz0, hz1, hz2, hz3, hy0, hy1, hy2, hy3⟩ := cc4 BG
  go_upto_region 18 with (first
    | ((with_reducible refine gate_callee (f := 11) rfl ?_); refine gL (some 84) Try.func11 #[.agg #[.int .i64 n, .int .i64 f, .int .i64 s, .slice Ag P.length cg], .int .i64 1] ?_; refine (laws_markProgram.calls k n f s (fun k_ => N ≤ k_ ∧ k_ < gg) _ P 1 m P' w _ HB.out HG.out H7.out).mono ?_; rintro e w15 ⟨rfl, ho, hb, hk⟩; refine ⟨_, rfl, ?_⟩; have hW2 := GW2.out; replace HG := Aside0.mk ho; replace HW := Aside0.mk (Kd.S_kept HW.out hk (fun k_ hk_ h_ => by have h2_ : k_ < gw := hk_; have h3_ := h_.1; omega)); replace BW := Aside0.mk (blk_kept BW.out hk (fun h_ => by have h3_ := h_.1; omega)); replace BG := Aside0.mk (blk_kept BG.out hk (fun h_ => by have h3_ := h_.2; omega)); replace HB := Aside0.mk hb; clear hb hk ho hW2))
  clear hz0 hz1 hz2 hz3 hy0 hy1 hy2 hy3
  obtain ⟨hz0, hz1, hz2, hz3, hy0, hy1, hy2, hy3⟩ := cc4 BG
  go_upto_region 20 with (first
    | ((with_reducible refine gate_callee (f := 12) rfl ?_); refine gL (some 87) Try.func12 #[.agg #[.int .i64 n, .int .i64 f, .int .i64 s, .slice Ag P.length cg], .int .i64 1] ?_; refine (Bp.held k n f s _ _ _ P' m _ HG.out H8.out).mono ?_; rintro e w16 ⟨rfl, hb⟩; refine ⟨_, rfl, ?_⟩; replace HG := Aside0.mk (Kd.S_below HG.out hb); replace HW := Aside0.mk (Kd.S_below HW.out hb); replace BW := bb BW hb; replace BG := bb BG hb; replace HB := Aside0.mk (below_step HB.out hb); clear hb))
  clear hz0 hz1 hz2 hz3 hy0 hy1 hy2 hy3
  go_upto_region 25 with (first
    | ((with_reducible refine gate_callee (f := 6) rfl ?_); refine gL (some 95) Try.func6 #[.slice A0 l0.length c0] ?_; (with_reducible refine (laws_toContactS.calls k _ _ l0 L _ (Kd.C_below HR.out HB.out) HC.out H1.out).mono ?_); rintro e w17 ⟨v, rfl, ho, hb⟩; refine ⟨_, rfl, ?_⟩; obtain ⟨Az, cz, rfl⟩ := Kd.R_slice ho; have HZ := Aside0.mk ho; replace HG := Aside0.mk (Kd.S_below HG.out hb); replace HW := Aside0.mk (Kd.S_below HW.out hb); replace BW := bb BW hb; replace BG := bb BG hb; replace HB := Aside0.mk (below_step HB.out hb); clear hb ho)
    | ((with_reducible refine gate_callee (f := 7) rfl ?_); refine gL (some 101) Try.func7 #[.slice Az L.length cz, .int .i64 a1, .int .i64 a2, .int .i64 a3, .int .i64 a4, .int .i64 a5] ?_; (with_reducible refine (impl_BuildProgram.calls k _ _ L a1 a2 a3 a4 a5 n f s P b _ (Kd.R_reads' HZ.out).2.2 (Kd.R_reads' HZ.out).2.1 H3.out).mono ?_); rintro e w18 ⟨v, rfl, ho, hb⟩; refine ⟨_, rfl, ?_⟩; obtain ⟨Ah, ch, rfl⟩ := Kd.S_slice ho; have HH := Aside0.mk (Bp.new ho HB.out.size); replace HG := Aside0.mk (Kd.S_below HG.out hb); replace HW := Aside0.mk (Kd.S_below HW.out hb); replace BW := bb BW hb; replace BG := bb BG hb; replace HB := Aside0.mk (below_step HB.out hb); clear hb ho HZ)
    | ((with_reducible refine gate_dst (N := 22) rfl ?_); refine bx 22 #[.int .i64 0, .int .i64 0, .int .i64 0, .slice none 0 0] 26 ?_; intro gh hg w19 hbox hb; have NGH := Aside0.mk (show gg < gh by rw [hg]; exact blk_lt BG.out); replace HH := Aside0.mk (Kd.S_below (Bp.old HH.out) hb); rw [← hg] at HH; replace HG := Aside0.mk (Kd.S_below HG.out hb); replace HW := Aside0.mk (Kd.S_below HW.out hb); replace BW := bb BW hb; replace BG := bb BG hb; have BH := Aside0.mk hbox; have GH := Aside0.mk (show w.heap.size ≤ gh by rw [hg]; exact HB.out.size); replace HB := Aside0.mk (below_step HB.out hb); clear hb hbox hg; obtain ⟨hz0, hz1, hz2, hz3, hy0, hy1, hy2, hy3⟩ := cc4 BH)
    | ((with_reducible refine gate_store (t := 26) (p := 22) rfl ?_); refine store_event (t := 26) (p := 22) (v := ?vo_w20) (w1 := ((((w19.setCell ⟨gh, 0, none⟩ (.int .i64 n)).setCell ⟨gh, 1, none⟩ (.int .i64 f)).setCell ⟨gh, 2, none⟩ (.int .i64 s)).setCell ⟨gh, 3, none⟩ (.slice Ah P.length ch))) ?hg ?ho ?hn ?hr ?_; (case ho => rfl); (case hg => rfl); (case hn => rfl); (case hr => first | (go_simp; done) | (go_simp; rfl)); intro w20 hw; have hp := Bp.put4 BH.out hw; replace BH := Aside0.mk hp.1; have hN := HN.out; have hW2 := GW2.out; have hgh := NGH.out; replace HH := Aside0.mk (Kd.S_kept HH.out hp.2.1 (fun k hk he => by have h_ : k < gh := hk; omega)); replace HG := Aside0.mk (Kd.S_kept HG.out hp.2.1 (fun k hk he => by have := hk.2; omega)); replace HW := Aside0.mk (Kd.S_kept HW.out hp.2.1 (fun k hk he => by have h_ : k < gw := hk; omega)); replace BW := Aside0.mk (blk_kept BW.out hp.2.1 (fun he => by omega)); replace BG := Aside0.mk (blk_kept BG.out hp.2.1 (fun he => by omega)); replace HB := Aside0.mk (hp.2.2 w HB.out GH.out); clear hp hw hN hW2 hgh))
  clear hz0 hz1 hz2 hz3 hy0 hy1 hy2 hy3
  obtain ⟨hz0, hz1, hz2, hz3, hy0, hy1, hy2, hy3⟩ := cc4 BH
  obtain ⟨ha0, ha1, ha2, ha3, hb0, hb1, hb2, hb3⟩ := cc4 BW
  go_upto_region 27 with (first
    | ((with_reducible refine gate_callee (f := 8) rfl ?_); refine gL (some 106) Try.func8 #[.agg #[.int .i64 n, .int .i64 f, .int .i64 s, .slice Ah P.length ch], .agg #[.int .i64 n, .int .i64 f, .int .i64 s, .slice Aw P.length cw]] ?_; (with_reducible refine (laws_eqProgram.calls k n f s _ _ P n f s _ _ P true _ (Kd.S_reads' HH.out).2.2 (Kd.S_reads' HH.out).2.1 (Kd.S_reads' HW.out).2.2 (Kd.S_reads' HW.out).2.1 H4.out).mono ?_); rintro e w21 ⟨rfl, hb⟩; refine ⟨_, rfl, ?_⟩; replace HG := Aside0.mk (Kd.S_below HG.out hb); replace BG := bb BG hb; replace HB := Aside0.mk (below_step HB.out hb); clear hb))
  clear hz0 hz1 hz2 hz3 hy0 hy1 hy2 hy3 ha0 ha1 ha2 ha3 hb0 hb1 hb2 hb3
  obtain ⟨hz0, hz1, hz2, hz3, hy0, hy1, hy2, hy3⟩ := cc4 BG
  go_wp2_with (first
    | ((with_reducible refine gate_callee (f := 12) rfl ?_); refine gL (some 115) Try.func12 #[.agg #[.int .i64 n, .int .i64 f, .int .i64 s, .slice Ag P.length cg], .int .i64 1] ?_; refine (Bp.held k n f s _ _ _ P' m _ HG.out H8.out).mono ?_; rintro e w22 ⟨rfl, hb⟩; refine ⟨_, rfl, ?_⟩; replace HB := Aside0.mk (below_step HB.out hb); clear hb))
  go_ret
  exact ⟨rfl, HB.out⟩
/-- What the law's callees come to at rounds k, so that it answers yes. -/
def laws_FnExactBuildProgram.Ok (k : Nat) (l0 : List (S51)) (a1 a2 a3 a4 a5 : Int) : Prop :=
  (∃ t, laws_szContactS.f l0 1048576 = some t ∧ t < 0) ∨ ∃ t L L' n f s m m' P P' b, laws_szContactS.f l0 1048576 = some t ∧ ¬ t < 0 ∧ laws_toContactS.f k l0 = some L ∧ spec_BuildProgram.f k L a1 a2 a3 a4 a5 = some (n, f, s, P, b) ∧ impl_BuildProgram.f k L a1 a2 a3 a4 a5 = some (n, f, s, P, b) ∧
    laws_eqProgram.f k n f s P n f s P = some true ∧ laws_eqContactS.f k L L = some true ∧ laws_markContactS.f k L 1 = some (m', L') ∧ ¬ m' < 0 ∧ laws_markProgram.lp k P 0 1 = some (m, P') ∧ laws_heldProgram.f k n f s P' 1 = some m ∧ ¬ m < 0
theorem laws_FnExactBuildProgram.calls (k : Nat) (A0 : Option Addr) (c0 : Nat) (l0 : List (S51)) (a1 : Int) (a2 : Int) (a3 : Int) (a4 : Int) (a5 : Int) (r : Bool) (w : World) (hr0 : Kd.C k51 w A0 l0.length l0) (hc0 : l0.length ≤ c0) (h : laws_FnExactBuildProgram.Ok k l0 a1 a2 a3 a4 a5 ∧ r = true) :
    Calls Try.prog 3 #[.slice A0 l0.length c0, .int .i64 a1, .int .i64 a2, .int .i64 a3, .int .i64 a4, .int .i64 a5] w fun e w' => e = .returned (.bool r) ∧ Below w.heap.size w w' := by
  obtain ⟨h, rfl⟩ := h
  rcases h with ⟨t, h0, ht⟩ | ⟨t, L, L', n, f, s, m, m', P, P', b, h0, ht, h1, h2, h3, h4, h5, h6, hm', h7, h8, hm⟩
  · exact laws_FnExactBuildProgram.no A0 c0 l0 a1 a2 a3 a4 a5 t w hr0 hc0 h0 ht
  · exact laws_FnExactBuildProgram.yes k A0 c0 l0 a1 a2 a3 a4 a5 t L L' n f s m m' P P' b w hr0 hc0 h0 ht h1 h2 h3 h4 h5 h6 hm' h7 h8 hm
end Go.Proofs.Ytcjlbgbenjmkgaa.QFnExactBuildProgram
