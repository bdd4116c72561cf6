/- What the Go functions of the law FnExactUseSpans come to, as Lean functions, and that they do: by a program of the session, out of the kit's printer. Conditions: none. (squeezed). -/
import Derived.Test.YtlakjlolahjphaaSq
import Derived.Test.YtlakjlolahjphaaQFnExactUseSpansx0
import Derived.Test.YtlakjlolahjphaaQFnExactUseSpansx2
namespace Go.Proofs.Ytlakjlolahjphaa.QFnExactUseSpans
open Go.RowKit Go.Proofs.YtlakjlolahjphaaW.PrintWords Go.Proofs.YtlakjlolahjphaaW.PrintLast Go.Proofs.YtlakjlolahjphaaW.PrintMore Go.Proofs.Ytlakjlolahjphaa.Open Go.Proofs.Ytlakjlolahjphaa.Sq
attribute [local go_sem] max2_int min2_int max_two min_two max_three min_three max_four min_four   -- for this text's walks alone
attribute [local go_sem] isSome_set
set_option linter.unusedVariables false
set_option linter.unusedSimpArgs false

/-! ### laws_toTableS: function 170 -/
def laws_toTableS.l0 : Nat → List (S178) → List (S65) → Int → Option ((List (S65)))
  | 0, _, _, _ => none
  | k + 1, x0, x3, x4 => if x4 < (x0.length : Int) then (if 0 ≤ x4 then ((laws_toTable.f k ((rd_T178 x0 x4).f0) ((rd_T178 x0 x4).f1) ((rd_T178 x0 x4).f2)).bind fun bt144 => (if x4 < (x3.length : Int) then (laws_toTableS.l0 k x0 (x3.set (x4 : Int).toNat (⟨bt144.1, bt144.2.1, bt144.2.2⟩ : S65)) (wrap64 (x4 + 1))) else (none))) else (none)) else (some x3)
def laws_toTableS.f (k : Nat) (l0 : List (S178)) : Option ((List (S65))) := if 0 ≤ (l0.length : Int) then (if ((l0.length : Int) : Int).toNat ≤ 5026338869833 then (laws_toTableS.l0 k l0 (List.replicate ((l0.length : Int) : Int).toNat z65) 0) else (none)) else (none)
theorem laws_toTableS.mono_l : ∀ k, (∀ y0 y1 y2, LeO (laws_toTableS.l0 k y0 y1 y2) (laws_toTableS.l0 (k + 1) y0 y1 y2))
  | 0 => fun _ _ _ r h => by simp [laws_toTableS.l0] at h
  | k + 1 => by
    have ih0 := laws_toTableS.mono_l k
    · intro y0 y1 y2
      unfold laws_toTableS.l0
      have m0 := @laws_toTable.mono
      exact mo
theorem laws_toTableS.mono : ∀ a0 k, LeO (laws_toTableS.f k a0) (laws_toTableS.f (k + 1) a0) := by
  intro a0 k
  have ih0 := laws_toTableS.mono_l k
  unfold laws_toTableS.f
  have m0 := @laws_toTable.mono
  exact mo
set_option maxHeartbeats 8000000 in
set_option maxRecDepth 100000 in
theorem laws_toTableS.calls (k : Nat) (A0 : Option Addr) (c0 : Nat) (l0 : List (S178)) (r : List (S65)) (w : World) (hr0 : Kd.C k178 w A0 l0.length l0) (hc0 : l0.length ≤ c0) (h : laws_toTableS.f k l0 = some r) :
    Calls Try.prog 170 #[.slice A0 l0.length c0] w fun e w' => ∃ v0_ : Value, e = .returned (v0_) ∧ Kd.S k65 65 w' w.heap.size (fun _ => True) v0_ r ∧ Below w.heap.size w w' := by
 have hu178 := Try.underlying178
 have hu65 := Try.underlying65
 have HR0 := Aside0.mk hr0
 have HC0 := Aside0.mk hc0
 clear hr0 hc0
 have HB := Aside0.mk (Below.refl w.heap.size w)
 have H : (if 0 ≤ (l0.length : Int) then (if ((l0.length : Int) : Int).toNat ≤ 5026338869833 then (laws_toTableS.l0 k l0 (List.replicate ((l0.length : Int) : Int).toNat z65) 0) else (none)) else (none)) = some r := h
 clear h
 obtain ⟨c2, H⟩ := ia_ H
 have c2b0 := eq_true c2
 have c2b1 := decide_eq_true c2
 clear c2
 obtain ⟨c3, H⟩ := ia_ H
 have c3b0 := eq_true c3
 have c3b1 := decide_eq_true c3
 clear c3
 obtain ⟨y140, hy140⟩ : ∃ y_ : List (S65), y_ = (List.replicate ((l0.length : Int) : Int).toNat z65) := ⟨_, rfl⟩
 replace H : (laws_toTableS.l0 k l0 y140 0) = some r := by first | (rw [hy140]; with_reducible exact H) | (have H2_ := (Option.bind_some _ _).symm.trans H; rw [hy140]; with_reducible exact H2_) | (have H2_ := (Option.bind_some _ _).symm.trans H; with_reducible exact H2_) | with_reducible exact H | (rw [hy140]; exact H) | exact H
 have Ny140 := Aside0.mk hy140
 clear hy140
 have H' := Aside0.mk H
 clear H
 go_enter Try.func170, Try.ntmps170
 go_wp2_with (first | ((with_reducible refine gate_dst (N := 7) rfl ?_); refine Kd.S_make k65 _ 65 rfl (N := 7) rfl 104 _ _ rfl (l0.length : Int) rfl rfl Try.underlying104 (.agg #[(.int .i64 0), (.slice none 0 0), (.slice none 0 0)]) 56 info65 rfl (by decide) (by omega) z65 (ok := fun _ => True) (okp := fun _ => True) (k65_mkM _ _ _ z65 (Kd.R_nil _ _ _ _ _) (Kd.R_nil _ _ _ _ _)) (fun _ hk => hk) trivial (sa) (Nat.le_trans (Nat.mul_le_mul_right _ (sa : (l0.length : Int).toNat ≤ 5026338869833)) (by omega)) (Below.refl _ _) (Nat.le_refl _) ?_; intro v141 w4 ho5 hb hg_ hnew_; clear hg_ hnew_; (first | rw [← Ny140.out] at ho5 | (simp only [Int.reduceToNat] at ho5; rw [← Ny140.out] at ho5)); have HO142 := Aside0.mk (Kd.S_lower ho5 (below_size (sb))); replace HB := bs hb; clear hb ho5))
 go_loopg [4] k (fun kq v4 w' => ∃ (x3_1 : List (S65)) (x4_1 : Int), v4 = .int .i64 x4_1 ∧ Aside0 (laws_toTableS.l0 kq l0 x3_1 x4_1 = some r) ∧ Aside0 (kq ≤ k) ∧ Aside0 (Kd.S k65 65 w' w.heap.size (fun _ => True) v141 x3_1) ∧ Aside0 (Below w.heap.size w w'))
 case atStart => exact ⟨(y140), (0), sc, H', kk0, ⟨ss HO142⟩, ⟨sb⟩⟩
 case round =>
  clear H'
  try clear c2
  try clear c2b0
  try clear c2b1
  try clear c3
  try clear c3b0
  try clear c3b1
  obtain ⟨x3_1, x4_1, rfl, HA, HK1, HO_3, HB⟩ := hrel
  cases gk with
  | zero => exact absurd HA.out (by simp [laws_toTableS.l0])
  | succ k1 =>
   have H := HA.out
   clear HA
   simp only [laws_toTableS.l0] at H
   obtain ⟨c6, H⟩ | ⟨c6, H⟩ := ie_ H
   ·have c6b0 := decide_eq_true c6
    clear c6
    obtain ⟨c7b0, H⟩ := id_ H
    obtain ⟨⟨t144, t145, t148⟩, A8, H⟩ := bnd H
    replace H : (if x4_1 < (x3_1.length : Int) then (laws_toTableS.l0 k1 l0 (x3_1.set (x4_1 : Int).toNat (⟨t144, t145, t148⟩ : S65)) (wrap64 (x4_1 + 1))) else (none)) = some r := H
    obtain ⟨c9b0, H⟩ := id_ H
    obtain ⟨y151, hy151⟩ : ∃ y_ : List (S65), y_ = (x3_1.set (x4_1 : Int).toNat (⟨t144, t145, t148⟩ : S65)) := ⟨_, rfl⟩
    replace H : (laws_toTableS.l0 k1 l0 y151 (wrap64 (x4_1 + 1))) = some r := by first | (rw [hy151]; with_reducible exact H) | (have H2_ := (Option.bind_some _ _).symm.trans H; rw [hy151]; with_reducible exact H2_) | (have H2_ := (Option.bind_some _ _).symm.trans H; with_reducible exact H2_) | with_reducible exact H | (rw [hy151]; exact H) | exact H
    have Ny151 := Aside0.mk hy151
    clear hy151
    have H' := Aside0.mk H
    clear H
    obtain ⟨p143, q143, ad143, A143_1, c143_1, A143_2, c143_2, e143, _, _, _, hx143_0, hx143_1, hx143_2, HC143_1, HR143_1, HC143_2, HR143_2⟩ := aT_T178 HR0 HB x4_1
    cases e143
    go_wp2_with (first | ((with_reducible refine gate_callee (f := 187) rfl ?_); refine gL (some 20) Try.func187 #[.agg #[.int .i64 ((rd_T178 l0 x4_1).f0), .slice A143_1 ((rd_T178 l0 x4_1).f1).length c143_1, .slice A143_2 ((rd_T178 l0 x4_1).f2).length c143_2]] ?_; (with_reducible refine (laws_toTable.calls k1 ((rd_T178 l0 x4_1).f0) _ _ ((rd_T178 l0 x4_1).f1) _ _ ((rd_T178 l0 x4_1).f2) t144 t145 t148 _ ?side1 ?side2 ?side3 ?side4 A8.out).mono ?_); (case side1 => exact cb HR143_1); (case side2 => exact HC143_1.out); (case side3 => exact cb HR143_2); (case side4 => exact HC143_2.out); rintro e w11 ⟨v146, v149, rfl, ho0, ho1, hb⟩; refine ⟨_, rfl, ?_⟩; replace HO_3 := Aside0.mk (Kd.S_mono (Kd.S_told (Kd.S_told (Kd.S_old (ss HO_3) hb) (Kd.R_base ho0)) (Kd.R_base ho1)) (fun _ h_ => h_.1)); have HO147 := Aside0.mk (Kd.R_lower ho0 (below_size (sb))); have HO150 := Aside0.mk (Kd.R_lower ho1 (below_size (sb))); replace HB := bs hb; (try clear hb); (try clear hb2); (try clear hk); (try clear hi); (try clear ho0); (try clear ho1); have p10 : 0 ≤ (x4_1 : Int) := sa; have q10 : (x4_1 : Int) < ((x3_1.length : Int) : Int) := sa; obtain ⟨go10, co10, eo10, gb10, gl10, cl10, HG10⟩ := Kd.S_form HO_3.out (by omega); (first | cases eo10 | (injection eo10 with ea_ en_ ec_; (first | subst ea_ | (injection ea_ with ea_; subst ea_)); subst ec_; clear en_)); have GB10 := Aside0.mk gb10; have GG10 := Aside0.mk HG10; clear gb10 gl10 HG10; obtain ⟨_, ce10, hcl10, hM10, hcc10, hfr10, _, _⟩ := Kd.S_elem HO_3.out z65 (x4_1 : Int) p10 q10; obtain ⟨ve10_1, ve10_2, rfl, ge10_1, ge10_2⟩ := k65_openM hM10; have hx10_0 : w11.cell? ⟨go10, (x4_1 : Int).toNat * 3, none⟩ = some (.int .i64 ((rd_T65 x3_1 x4_1).f0)) := hcc10 0 _ rfl; have hx10_1 : w11.cell? ⟨go10, (x4_1 : Int).toNat * 3 + 1, none⟩ = some (ve10_1) := hcc10 1 _ rfl; have hx10_2 : w11.cell? ⟨go10, (x4_1 : Int).toNat * 3 + 2, none⟩ = some (ve10_2) := hcc10 2 _ rfl; have hf10_0 : w11.frozen? ⟨go10, (x4_1 : Int).toNat * 3, none⟩ = false := hfr10 0; have hf10_1 : w11.frozen? ⟨go10, (x4_1 : Int).toNat * 3 + 1, none⟩ = false := hfr10 1; have hf10_2 : w11.frozen? ⟨go10, (x4_1 : Int).toNat * 3 + 2, none⟩ = false := hfr10 2; (try clear hcl10); (try clear hcc10); (try clear hfr10); (try clear hM10); replace p10 := eq_true p10; replace q10 := eq_true q10; have n_ := Aside0.mk (Kd.S_mono (ok' := (fun k_ => some k_ ≠ (v146 : Value).ownBlock ∧ some k_ ≠ (v149 : Value).ownBlock)) HO_3.out (fun k_ hk => ⟨hk.1.2, hk.2⟩)); clear HO_3; have HO_3 := n_; clear n_; have HX12 := Aside0.mk (show Kd.S k65 65 w11 w.heap.size (fun k_ => ((fun _ => True)) k_ ∧ ¬ ((fun k_ => some k_ = (v146 : Value).ownBlock ∨ some k_ = (v149 : Value).ownBlock)) k_) (.slice (some ⟨go10, 0, none⟩) x3_1.length co10) x3_1 from (by (with_reducible repeat (first | apply Kd.S_alloc | apply Kd.S_drewN | apply Kd.S_drew)); exact Kd.S_mono HO_3.out (fun k_ hk => ⟨trivial, fun e_ => e_.elim (fun h_ => hk.1 h_) (fun h_ => hk.2 h_)⟩))); obtain ⟨oki12, ce12, hcl12, hM12, hcc12, hfr12, hoki12, hH12⟩ := Kd.S_elem HX12.out z65 (x4_1 : Int) (sa) (by have h_ : (x4_1 : Int) < ((x3_1.length : Int) : Int) := sa; first | exact h_ | (have e_ := (Kd.S_reads' HO_3.out).1; omega) | simpa using h_); obtain ⟨ve12_1, ve12_2, rfl, ge12_1, ge12_2⟩ := k65_openM hM12; have HP12 := Kd.S_seg hH12 (sa) (by have h_ : (x4_1 : Int) < ((x3_1.length : Int) : Int) := sa; first | exact h_ | (have e_ := (Kd.S_reads' HO_3.out).1; omega) | simpa using h_) (seg := [.int .i64 t144, v146, v149]) (j := 0) (show 3 ≤ 3 from by decide) (x' := (⟨t144, t145, t148⟩ : S65)) (k65_mkM _ _ _ (⟨t144, t145, t148⟩ : S65) (Kd.R_mono (Kd.R_tight rfl (Kd.R_mono (ok' := fun k_ => ((fun _ => True)) k_ ∧ k_ ≠ go10) (Kd.R_apart' (HO147.out) (Kd.S_typed HO_3.out) (by decide)) (fun k_ hk => ⟨trivial, fun e_ => (hk.2) (by rw [e_]; rfl)⟩))) (fun _ h_ => Or.inr (Or.inl h_))) (Kd.R_mono (Kd.R_tight rfl (Kd.R_mono (ok' := fun k_ => ((fun _ => True)) k_ ∧ k_ ≠ go10) (Kd.R_apart' (HO150.out) (Kd.S_typed HO_3.out) (by decide)) (fun k_ hk => ⟨trivial, fun e_ => (hk.2) (by rw [e_]; rfl)⟩))) (fun _ h_ => Or.inr (Or.inr (h_))))) (fun _ hk => hk) (fun k_ hk_ => hk_.elim (fun h_ => ((Kd.R_mono (ok' := fun k_ => ((fun _ => True)) k_ ∧ k_ ≠ go10) (Kd.R_apart' (HO147.out) (Kd.S_typed HO_3.out) (by decide)) (fun k_ hk => ⟨trivial, fun e_ => (hk.2) (by rw [e_]; rfl)⟩))).1 k_ h_.symm) (fun h_ => ((Kd.R_mono (ok' := fun k_ => ((fun _ => True)) k_ ∧ k_ ≠ go10) (Kd.R_apart' (HO150.out) (Kd.S_typed HO_3.out) (by decide)) (fun k_ hk => ⟨trivial, fun e_ => (hk.2) (by rw [e_]; rfl)⟩))).1 k_ h_.symm)); have hx12_0 := hcc12 0 _ rfl; (try simp only [show (k65).sz = 3 from rfl, Nat.mul_one, Nat.add_zero] at hx12_0); have hf12_0 := hfr12 0; (try simp only [show (k65).sz = 3 from rfl, Nat.mul_one, Nat.add_zero] at hf12_0); have hx12_1 := hcc12 1 _ rfl; (try simp only [show (k65).sz = 3 from rfl, Nat.mul_one, Nat.add_zero] at hx12_1); have hf12_1 := hfr12 1; (try simp only [show (k65).sz = 3 from rfl, Nat.mul_one, Nat.add_zero] at hf12_1); have hx12_2 := hcc12 2 _ rfl; (try simp only [show (k65).sz = 3 from rfl, Nat.mul_one, Nat.add_zero] at hx12_2); have hf12_2 := hfr12 2; (try simp only [show (k65).sz = 3 from rfl, Nat.mul_one, Nat.add_zero] at hf12_2); (try clear hcl12); (try clear hcc12); (try clear hfr12); (try clear hM12); (try clear hoki12); (try clear hH12)) | ((with_reducible refine gate_store (t := 65) (p := 21) rfl ?_); refine store_event (t := 65) (p := 21) (v := ?vo_w13) (w1 := (((w11.setCell ⟨go10, (x4_1 : Int).toNat * 3, none⟩ (.int .i64 t144)).setCell ⟨go10, (x4_1 : Int).toNat * 3 + 1, none⟩ (v146)).setCell ⟨go10, (x4_1 : Int).toNat * 3 + 2, none⟩ (v149))) ?hg ?ho ?hn ?hr ?_; (case ho => rfl); (case hg => rfl); (case hn => rfl); (case hr => (first | (obtain ⟨Av146_, cv146_, ev146_⟩ := slice_of (v := v146) (by assumption); subst ev146_) | (obtain ⟨Av146_, cv146_, ev146_⟩ := Kd.R_slice (v := v146) (Kd.S_R (Aside0.out (by assumption))); subst ev146_)); (first | (obtain ⟨Av149_, cv149_, ev149_⟩ := slice_of (v := v149) (by assumption); subst ev149_) | (obtain ⟨Av149_, cv149_, ev149_⟩ := Kd.R_slice (v := v149) (Kd.S_R (Aside0.out (by assumption))); subst ev149_)); first | (go_simp; done) | (go_simp; rfl)); intro w13 hw; have hg : w11.grownBy w13 (some go10) := (by rw [hw]; exact HP12.2); have hp_ : Kd.S k65 65 w13 w.heap.size (fun _ => True) (.slice (some ⟨go10, 0, none⟩) x3_1.length co10) y151 := (by rw [hw, Ny151.out]; exact HP12.1); clear HP12; replace HO_3 := Aside0.mk hp_; replace HB := Aside0.mk ((by rw [hw]; exact below_set (below_set (below_set (HB.out) GB10.out) GB10.out) GB10.out : Below w.heap.size w w13)); clear HO147 HO150; clear hg hw hp_))
    go_roundg k1
    case measure => have := HK1.out; omega
    case rel => exact ⟨(y151), (wrap64 (x4_1 + 1)), sc, H', kk1, ⟨ss HO_3⟩, ⟨sb⟩⟩
   ·have c6b0 := decide_eq_false c6
    clear c6
    obtain rfl := Option.some.inj H
    go_wp2
    go_ret
    exact ⟨_, se, ss HO_3, sb⟩

/-! ### laws_toPiece: function 129 -/
def laws_toPiece.f (k : Nat) (a0_0 : Int) (a0_1 : Int) (l0_2 : List (S180)) (l0_3 : List (S178)) : Option (Int × Int × (List (S128)) × (List (S65))) := (laws_toSpan.f a0_0 a0_1).bind fun bt155 => ((laws_toLinkS.f k l0_2).bind fun t157 => ((laws_toTableS.f k l0_3).bind fun t160 => (some (bt155.1, bt155.2, t157, t160))))
theorem laws_toPiece.mono : ∀ a0 a1 a2 a3 k, LeO (laws_toPiece.f k a0 a1 a2 a3) (laws_toPiece.f (k + 1) a0 a1 a2 a3) := by
  intro a0 a1 a2 a3 k
  unfold laws_toPiece.f
  have m0 := @laws_toLinkS.mono
  have m1 := @laws_toTableS.mono
  exact mo
set_option maxHeartbeats 8000000 in
set_option maxRecDepth 100000 in
theorem laws_toPiece.calls (k : Nat) (a0_0 : Int) (a0_1 : Int) (A0_2 : Option Addr) (c0_2 : Nat) (l0_2 : List (S180)) (A0_3 : Option Addr) (c0_3 : Nat) (l0_3 : List (S178)) (r1 : Int) (r2 : Int) (r3 : List (S128)) (r4 : List (S65)) (w : World) (hr0_2 : Kd.C k180 w A0_2 l0_2.length l0_2) (hc0_2 : l0_2.length ≤ c0_2) (hr0_3 : Kd.C k178 w A0_3 l0_3.length l0_3) (hc0_3 : l0_3.length ≤ c0_3) (h : laws_toPiece.f k a0_0 a0_1 l0_2 l0_3 = some (r1, r2, r3, r4)) :
    Calls Try.prog 129 #[.agg #[.int .i64 a0_0, .int .i64 a0_1, .slice A0_2 l0_2.length c0_2, .slice A0_3 l0_3.length c0_3]] w fun e w' => ∃ v2_ v3_ : Value, e = .returned (.agg #[.int .i64 r1, .int .i64 r2, v2_, v3_]) ∧ Kd.R k128 128 w' w.heap.size (fun _ => True) v2_ r3 ∧ Kd.S k65 65 w' w.heap.size (fun _ => True) v3_ r4 ∧ Below w.heap.size w w' := by
 have hu139 := Try.underlying139
 have hu106 := Try.underlying106
 have hu135 := Try.underlying135
 have hu91 := Try.underlying91
 have HR0_2 := Aside0.mk hr0_2
 have HC0_2 := Aside0.mk hc0_2
 clear hr0_2 hc0_2
 have HR0_3 := Aside0.mk hr0_3
 have HC0_3 := Aside0.mk hc0_3
 clear hr0_3 hc0_3
 have HB := Aside0.mk (Below.refl w.heap.size w)
 have H : ((laws_toSpan.f a0_0 a0_1).bind fun bt155 => ((laws_toLinkS.f k l0_2).bind fun t157 => ((laws_toTableS.f k l0_3).bind fun t160 => (some (bt155.1, bt155.2, t157, t160))))) = some (r1, r2, r3, r4) := h
 clear h
 obtain ⟨⟨t155, t156⟩, A2, H⟩ := bnd H
 replace H : ((laws_toLinkS.f k l0_2).bind fun t157 => ((laws_toTableS.f k l0_3).bind fun t160 => (some (t155, t156, t157, t160)))) = some (r1, r2, r3, r4) := H
 obtain ⟨t157, A3, H⟩ := bnd H
 obtain ⟨t160, A4, H⟩ := bnd H
 simp only [Option.some.injEq, Prod.mk.injEq] at H
 obtain ⟨rfl, rfl, rfl, rfl⟩ := H
 go_enter Try.func129, Try.ntmps129
 go_wp2_with (first | ((with_reducible refine gate_dst (N := 1) rfl ?_); refine bx 1 #[.int .i64 a0_0, .int .i64 a0_1, .slice A0_2 l0_2.length c0_2, .slice A0_3 l0_3.length c0_3] 139 ?_; intro gb152 hg w5 hbox hb; have BK152 := Aside0.mk hbox; have GW152 := bz w hg; have GE152 := bz w hg; replace HB := bs hb; clear hb hbox hg) | ((with_reducible refine gate_dst (N := 2) rfl ?_); refine bx 2 #[.int .i64 0, .int .i64 0, .slice none 0 0, .slice none 0 0] 106 ?_; intro gb153 hg w6 hbox hb; have BK153 := Aside0.mk hbox; have GW153 := bzw w hg; have GE153 := bzw w hg; replace HB := bsw hb; have NB152_153 := nl BK152 hg; have NB153_152 := ng BK152 hg; replace BK152 := bb BK152 hb; clear hb hbox hg) | ((with_reducible refine gate_dst (N := 3) rfl ?_); refine bx 3 #[.int .i64 0, .int .i64 0, .slice none 0 0, .slice none 0 0] 106 ?_; intro gb154 hg w7 hbox hb; have BK154 := Aside0.mk hbox; have GW154 := bzw w hg; have GE154 := bzw w hg; replace HB := bsw hb; have NB152_154 := nl BK152 hg; have NB154_152 := ng BK152 hg; replace BK152 := bb BK152 hb; have NB153_154 := nl BK153 hg; have NB154_153 := ng BK153 hg; replace BK153 := bb BK153 hb; clear hb hbox hg; have hnb8 := NB152_153.out; have hnc8 := NB153_152.out; have hnb9 := NB152_154.out; have hnc9 := NB154_152.out; obtain ⟨hcz10_0, hcz10_1, hcz10_2, hcz10_3, hfz10_0, hfz10_1, hfz10_2, hfz10_3⟩ := cc4 BK152) | ((with_reducible refine gate_callee (f := 168) rfl ?_); refine gL (some 6) Try.func168 #[.agg #[.int .i64 a0_0, .int .i64 a0_1]] ?_; (with_reducible refine (laws_toSpan.calls a0_0 a0_1 t155 t156 _ A2.out).mono ?_); rintro e w11 ⟨rfl, hb⟩; refine ⟨_, rfl, ?_⟩; replace BK152 := bb BK152 hb; replace BK153 := bb BK153 hb; replace BK154 := bb BK154 hb; replace HB := bsw hb; (try clear hb); (try clear hb2); (try clear hk); (try clear hi); have hnb12 := NB154_153.out; have hnc12 := NB153_154.out; obtain ⟨hcz13_0, hcz13_1, hcz13_2, hcz13_3, hfz13_0, hfz13_1, hfz13_2, hfz13_3⟩ := cc4 BK154; obtain ⟨hcz14_0, hcz14_1, hcz14_2, hcz14_3, hfz14_0, hfz14_1, hfz14_2, hfz14_3⟩ := cc4 BK152) | ((with_reducible refine gate_callee (f := 169) rfl ?_); refine gL (some 10) Try.func169 #[.slice A0_2 l0_2.length c0_2] ?_; (with_reducible refine (laws_toLinkS.calls k _ _ l0_2 t157 _ ?side1 ?side2 A3.out).mono ?_); (case side1 => exact Kd.C_below HR0_2.out (sbw)); (case side2 => exact HC0_2.out); rintro e w15 ⟨v158, rfl, ho0, hb⟩; refine ⟨_, rfl, ?_⟩; have HO159 := Aside0.mk (Kd.R_lower ho0 (below_size (sbw))); replace BK152 := Aside0.mk (blk_below (g := gb152) (o := .cells #[.int .i64 a0_0, .int .i64 a0_1, .slice A0_2 l0_2.length c0_2, .slice A0_3 l0_3.length c0_3] 139 (0, 0)) (sp BK152) hb); replace BK153 := Aside0.mk (blk_below (g := gb153) (o := .cells #[.int .i64 0, .int .i64 0, .slice none 0 0, .slice none 0 0] 106 (0, 0)) (sp BK153) hb); replace BK154 := Aside0.mk (blk_below (g := gb154) (o := .cells #[.int .i64 t155, .int .i64 t156, .slice none 0 0, .slice none 0 0] 106 (0, 0)) (sp BK154) hb); replace HB := bsw hb; (try clear hb); (try clear hb2); (try clear hk); (try clear hi); (try clear ho0); obtain ⟨Ao16, co16, eo16⟩ := Kd.R_slice HO159.out; subst eo16; obtain ⟨hcz17_0, hcz17_1, hcz17_2, hcz17_3, hfz17_0, hfz17_1, hfz17_2, hfz17_3⟩ := cc4 BK154; obtain ⟨hcz18_0, hcz18_1, hcz18_2, hcz18_3, hfz18_0, hfz18_1, hfz18_2, hfz18_3⟩ := cc4 BK152) | ((with_reducible refine gate_callee (f := 170) rfl ?_); refine gL (some 14) Try.func170 #[.slice A0_3 l0_3.length c0_3] ?_; (with_reducible refine (laws_toTableS.calls k _ _ l0_3 t160 _ ?side1 ?side2 A4.out).mono ?_); (case side1 => exact Kd.C_below HR0_3.out (sbw)); (case side2 => exact HC0_3.out); rintro e w19 ⟨v161, rfl, ho0, hb⟩; refine ⟨_, rfl, ?_⟩; replace HO159 := Aside0.mk (Kd.R_below (by (with_reducible repeat (first | apply Kd.R_alloc | apply Kd.R_drewN | apply Kd.R_drew)); exact (Kd.R_mono (Kd.R_far (p := ⟨gb154, 2, none⟩) (Kd.R_types HO159.out BK154.out (by decide)) (fun _ hk => hk.2) (.slice Ao16 t157.length co16)) (fun _ h_ => h_.1))) hb); have HO162 := Aside0.mk (Kd.S_lower ho0 (below_size (sbw))); replace BK152 := Aside0.mk (blk_below (g := gb152) (o := .cells #[.int .i64 a0_0, .int .i64 a0_1, .slice A0_2 l0_2.length c0_2, .slice A0_3 l0_3.length c0_3] 139 (0, 0)) (sp BK152) hb); replace BK153 := Aside0.mk (blk_below (g := gb153) (o := .cells #[.int .i64 0, .int .i64 0, .slice none 0 0, .slice none 0 0] 106 (0, 0)) (sp BK153) hb); replace BK154 := Aside0.mk (blk_below (g := gb154) (o := .cells #[.int .i64 t155, .int .i64 t156, .slice Ao16 t157.length co16, .slice none 0 0] 106 (0, 0)) (sp BK154) hb); replace HB := bsw hb; (try clear hb); (try clear hb2); (try clear hk); (try clear hi); (try clear ho0); obtain ⟨Ao20, co20, eo20⟩ := Kd.S_slice HO162.out; subst eo20; obtain ⟨hcz21_0, hcz21_1, hcz21_2, hcz21_3, hfz21_0, hfz21_1, hfz21_2, hfz21_3⟩ := cc4 BK154; obtain ⟨hcz22_0, hcz22_1, hcz22_2, hcz22_3, hfz22_0, hfz22_1, hfz22_2, hfz22_3⟩ := cc4 BK153))
 refine bodyPost_ret (results_cell_row rfl _ _ gb153 106 #[.int .i64 t155, .int .i64 t156, .slice Ao16 t157.length co16, .slice Ao20 t160.length co20] (0, 0) _ rfl (sp BK153) Try.underlying106 rfl (by kernel_rfl)) rfl ?_
 exact ⟨_, _, se, by (with_reducible repeat (first | apply Kd.R_alloc | apply Kd.R_drewN | apply Kd.R_drew)); exact Kd.R_mono (Kd.R_far (p := ⟨gb153, 3, none⟩) (Kd.R_far (p := ⟨gb153, 2, none⟩) (Kd.R_far (p := ⟨gb153, 1, none⟩) (Kd.R_far (p := ⟨gb153, 0, none⟩) (Kd.R_far (p := ⟨gb154, 3, none⟩) (Kd.R_types (Kd.R_types HO159.out BK154.out (by decide)) BK153.out (by decide)) (fun _ hk => hk.1.2) (.slice Ao20 t160.length co20)) (fun _ hk => hk.2) (.int .i64 t155)) (fun _ hk => hk.2) (.int .i64 t156)) (fun _ hk => hk.2) (.slice Ao16 t157.length co16)) (fun _ hk => hk.2) (.slice Ao20 t160.length co20)) (fun _ hk => trivial), by (with_reducible repeat (first | apply Kd.S_alloc | apply Kd.S_drewN | apply Kd.S_drew)); exact Kd.S_mono (Kd.S_far (p := ⟨gb153, 3, none⟩) (Kd.S_far (p := ⟨gb153, 2, none⟩) (Kd.S_far (p := ⟨gb153, 1, none⟩) (Kd.S_far (p := ⟨gb153, 0, none⟩) (Kd.S_far (p := ⟨gb154, 3, none⟩) (Kd.S_types (Kd.S_types HO162.out BK154.out (by decide)) BK153.out (by decide)) (fun _ hk => hk.1.2) (.slice Ao20 t160.length co20)) (fun _ hk => hk.2) (.int .i64 t155)) (fun _ hk => hk.2) (.int .i64 t156)) (fun _ hk => hk.2) (.slice Ao16 t157.length co16)) (fun _ hk => hk.2) (.slice Ao20 t160.length co20)) (fun _ hk => trivial), sbw⟩

/-! ### laws_toPieceS: function 66 -/
def laws_toPieceS.l0 : Nat → List (S139) → List (S106) → Int → Option ((List (S106)))
  | 0, _, _, _ => none
  | k + 1, x0, x3, x4 => if x4 < (x0.length : Int) then (if 0 ≤ x4 then ((laws_toPiece.f k ((rd_T139 x0 x4).f0.f0) ((rd_T139 x0 x4).f0.f1) ((rd_T139 x0 x4).f1) ((rd_T139 x0 x4).f2)).bind fun bt167 => (if x4 < (x3.length : Int) then (laws_toPieceS.l0 k x0 (x3.set (x4 : Int).toNat (⟨(⟨bt167.1, bt167.2.1⟩ : S91), bt167.2.2.1, bt167.2.2.2⟩ : S106)) (wrap64 (x4 + 1))) else (none))) else (none)) else (some x3)
def laws_toPieceS.f (k : Nat) (l0 : List (S139)) : Option ((List (S106))) := if 0 ≤ (l0.length : Int) then (if ((l0.length : Int) : Int).toNat ≤ 4398046511104 then (laws_toPieceS.l0 k l0 (List.replicate ((l0.length : Int) : Int).toNat z106) 0) else (none)) else (none)
theorem laws_toPieceS.mono_l : ∀ k, (∀ y0 y1 y2, LeO (laws_toPieceS.l0 k y0 y1 y2) (laws_toPieceS.l0 (k + 1) y0 y1 y2))
  | 0 => fun _ _ _ r h => by simp [laws_toPieceS.l0] at h
  | k + 1 => by
    have ih0 := laws_toPieceS.mono_l k
    · intro y0 y1 y2
      unfold laws_toPieceS.l0
      have m0 := @laws_toPiece.mono
      exact mo
theorem laws_toPieceS.mono : ∀ a0 k, LeO (laws_toPieceS.f k a0) (laws_toPieceS.f (k + 1) a0) := by
  intro a0 k
  have ih0 := laws_toPieceS.mono_l k
  unfold laws_toPieceS.f
  have m0 := @laws_toPiece.mono
  exact mo
set_option maxHeartbeats 8000000 in
set_option maxRecDepth 100000 in
theorem laws_toPieceS.calls (k : Nat) (A0 : Option Addr) (c0 : Nat) (l0 : List (S139)) (r : List (S106)) (w : World) (hr0 : Kd.C k139 w A0 l0.length l0) (hc0 : l0.length ≤ c0) (h : laws_toPieceS.f k l0 = some r) :
    Calls Try.prog 66 #[.slice A0 l0.length c0] w fun e w' => ∃ v0_ : Value, e = .returned (v0_) ∧ Kd.R k106 106 w' w.heap.size (fun _ => True) v0_ r ∧ Below w.heap.size w w' := by
 have hu139 := Try.underlying139
 have hu106 := Try.underlying106
 have HR0 := Aside0.mk hr0
 have HC0 := Aside0.mk hc0
 clear hr0 hc0
 have HB := Aside0.mk (Below.refl w.heap.size w)
 have H : (if 0 ≤ (l0.length : Int) then (if ((l0.length : Int) : Int).toNat ≤ 4398046511104 then (laws_toPieceS.l0 k l0 (List.replicate ((l0.length : Int) : Int).toNat z106) 0) else (none)) else (none)) = some r := h
 clear h
 obtain ⟨c2, H⟩ := ia_ H
 have c2b0 := eq_true c2
 have c2b1 := decide_eq_true c2
 clear c2
 obtain ⟨c3, H⟩ := ia_ H
 have c3b0 := eq_true c3
 have c3b1 := decide_eq_true c3
 clear c3
 obtain ⟨y163, hy163⟩ : ∃ y_ : List (S106), y_ = (List.replicate ((l0.length : Int) : Int).toNat z106) := ⟨_, rfl⟩
 replace H : (laws_toPieceS.l0 k l0 y163 0) = some r := by first | (rw [hy163]; with_reducible exact H) | (have H2_ := (Option.bind_some _ _).symm.trans H; rw [hy163]; with_reducible exact H2_) | (have H2_ := (Option.bind_some _ _).symm.trans H; with_reducible exact H2_) | with_reducible exact H | (rw [hy163]; exact H) | exact H
 have Ny163 := Aside0.mk hy163
 clear hy163
 have H' := Aside0.mk H
 clear H
 go_enter Try.func66, Try.ntmps66
 go_wp2_with (first | ((with_reducible refine gate_dst (N := 7) rfl ?_); refine Kd.R_make k106 _ 106 rfl (N := 7) rfl 27 _ _ rfl (l0.length : Int) rfl rfl Try.underlying27 (.agg #[(.int .i64 0), (.int .i64 0), (.slice none 0 0), (.slice none 0 0)]) 64 info106 rfl (by decide) (by omega) z106 (ok := fun _ => True) (okp := fun _ => True) (k106_mkM _ _ _ z106 (Kd.R_nil _ _ _ _ _) (Kd.R_nil _ _ _ _ _)) (fun _ hk => hk) trivial (sa) (Nat.le_trans (Nat.mul_le_mul_right _ (sa : (l0.length : Int).toNat ≤ 4398046511104)) (by omega)) (Below.refl _ _) (Nat.le_refl _) ?_; intro v164 w4 ho5 hb hg_ hnew_; clear hg_ hnew_; (first | rw [← Ny163.out] at ho5 | (simp only [Int.reduceToNat] at ho5; rw [← Ny163.out] at ho5)); have HO165 := Aside0.mk (Kd.R_lower ho5 (below_size (sb))); replace HB := bs hb; clear hb ho5))
 go_loopg [4] k (fun kq v4 w' => ∃ (x3_1 : List (S106)) (x4_1 : Int), v4 = .int .i64 x4_1 ∧ Aside0 (laws_toPieceS.l0 kq l0 x3_1 x4_1 = some r) ∧ Aside0 (kq ≤ k) ∧ Aside0 (Kd.R k106 106 w' w.heap.size (fun _ => True) v164 x3_1) ∧ Aside0 (Below w.heap.size w w'))
 case atStart => exact ⟨(y163), (0), sc, H', kk0, ⟨sr HO165⟩, ⟨sb⟩⟩
 case round =>
  clear H'
  try clear c2
  try clear c2b0
  try clear c2b1
  try clear c3
  try clear c3b0
  try clear c3b1
  obtain ⟨x3_1, x4_1, rfl, HA, HK1, HO_3, HB⟩ := hrel
  cases gk with
  | zero => exact absurd HA.out (by simp [laws_toPieceS.l0])
  | succ k1 =>
   have H := HA.out
   clear HA
   simp only [laws_toPieceS.l0] at H
   obtain ⟨c6, H⟩ | ⟨c6, H⟩ := ie_ H
   ·have c6b0 := decide_eq_true c6
    clear c6
    obtain ⟨c7b0, H⟩ := id_ H
    obtain ⟨⟨t167, t168, t169, t172⟩, A8, H⟩ := bnd H
    replace H : (if x4_1 < (x3_1.length : Int) then (laws_toPieceS.l0 k1 l0 (x3_1.set (x4_1 : Int).toNat (⟨(⟨t167, t168⟩ : S91), t169, t172⟩ : S106)) (wrap64 (x4_1 + 1))) else (none)) = some r := H
    obtain ⟨c9b0, H⟩ := id_ H
    obtain ⟨y175, hy175⟩ : ∃ y_ : List (S106), y_ = (x3_1.set (x4_1 : Int).toNat (⟨(⟨t167, t168⟩ : S91), t169, t172⟩ : S106)) := ⟨_, rfl⟩
    replace H : (laws_toPieceS.l0 k1 l0 y175 (wrap64 (x4_1 + 1))) = some r := by first | (rw [hy175]; with_reducible exact H) | (have H2_ := (Option.bind_some _ _).symm.trans H; rw [hy175]; with_reducible exact H2_) | (have H2_ := (Option.bind_some _ _).symm.trans H; with_reducible exact H2_) | with_reducible exact H | (rw [hy175]; exact H) | exact H
    have Ny175 := Aside0.mk hy175
    clear hy175
    have H' := Aside0.mk H
    clear H
    obtain ⟨p166, q166, ad166, A166_2, c166_2, A166_3, c166_3, e166, _, _, _, _, hx166_0, hx166_1, hx166_2, hx166_3, HC166_2, HR166_2, HC166_3, HR166_3⟩ := aT_T139 HR0 HB x4_1
    cases e166
    go_wp2_with (first | ((with_reducible refine gate_callee (f := 129) rfl ?_); refine gL (some 20) Try.func129 #[.agg #[.int .i64 ((rd_T139 l0 x4_1).f0.f0), .int .i64 ((rd_T139 l0 x4_1).f0.f1), .slice A166_2 ((rd_T139 l0 x4_1).f1).length c166_2, .slice A166_3 ((rd_T139 l0 x4_1).f2).length c166_3]] ?_; (with_reducible refine (laws_toPiece.calls k1 ((rd_T139 l0 x4_1).f0.f0) ((rd_T139 l0 x4_1).f0.f1) _ _ ((rd_T139 l0 x4_1).f1) _ _ ((rd_T139 l0 x4_1).f2) t167 t168 t169 t172 _ ?side1 ?side2 ?side3 ?side4 A8.out).mono ?_); (case side1 => exact cb HR166_2); (case side2 => exact HC166_2.out); (case side3 => exact cb HR166_3); (case side4 => exact HC166_3.out); rintro e w11 ⟨v170, v173, rfl, ho0, ho1, hb⟩; refine ⟨_, rfl, ?_⟩; replace HO_3 := Aside0.mk (Kd.R_mono (Kd.R_told (Kd.R_told (Kd.R_old (sr HO_3) hb) (Kd.R_base ho0)) (Kd.S_base ho1)) (fun _ h_ => h_.1)); have HO171 := Aside0.mk (Kd.R_lower ho0 (below_size (sb))); have HO174 := Aside0.mk (Kd.S_lower ho1 (below_size (sb))); replace HB := bs hb; (try clear hb); (try clear hb2); (try clear hk); (try clear hi); (try clear ho0); (try clear ho1); have p10 : 0 ≤ (x4_1 : Int) := sa; have q10 : (x4_1 : Int) < ((x3_1.length : Int) : Int) := sa; obtain ⟨go10, co10, eo10, gb10, gl10, cl10, HG10⟩ := Kd.R_form HO_3.out (by omega); (first | cases eo10 | (injection eo10 with ea_ en_ ec_; (first | subst ea_ | (injection ea_ with ea_; subst ea_)); subst ec_; clear en_)); have GB10 := Aside0.mk gb10; have GG10 := Aside0.mk HG10; clear gb10 gl10 HG10; obtain ⟨ce10, hcl10, hM10, hcc10, hfr10⟩ := Kd.R_elem HO_3.out z106 (x4_1 : Int) p10 q10; obtain ⟨ve10_2, ve10_3, rfl, ge10_2, ge10_3⟩ := k106_openM hM10; have hx10_0 : w11.cell? ⟨go10, (x4_1 : Int).toNat * 4, none⟩ = some (.int .i64 ((rd_T106 x3_1 x4_1).f0.f0)) := hcc10 0 _ rfl; have hx10_1 : w11.cell? ⟨go10, (x4_1 : Int).toNat * 4 + 1, none⟩ = some (.int .i64 ((rd_T106 x3_1 x4_1).f0.f1)) := hcc10 1 _ rfl; have hx10_2 : w11.cell? ⟨go10, (x4_1 : Int).toNat * 4 + 2, none⟩ = some (ve10_2) := hcc10 2 _ rfl; have hx10_3 : w11.cell? ⟨go10, (x4_1 : Int).toNat * 4 + 3, none⟩ = some (ve10_3) := hcc10 3 _ rfl; have hf10_0 : w11.frozen? ⟨go10, (x4_1 : Int).toNat * 4, none⟩ = false := hfr10 0; have hf10_1 : w11.frozen? ⟨go10, (x4_1 : Int).toNat * 4 + 1, none⟩ = false := hfr10 1; have hf10_2 : w11.frozen? ⟨go10, (x4_1 : Int).toNat * 4 + 2, none⟩ = false := hfr10 2; have hf10_3 : w11.frozen? ⟨go10, (x4_1 : Int).toNat * 4 + 3, none⟩ = false := hfr10 3; (try clear hcl10); (try clear hcc10); (try clear hfr10); (try clear hM10); replace p10 := eq_true p10; replace q10 := eq_true q10; have n_ := Aside0.mk (Kd.R_mono (ok' := (fun k_ => some k_ ≠ (v170 : Value).ownBlock ∧ some k_ ≠ (v173 : Value).ownBlock)) HO_3.out (fun k_ hk => ⟨hk.1.2, hk.2⟩)); clear HO_3; have HO_3 := n_; clear n_; have HX12 := Aside0.mk (show Kd.R k106 106 w11 w.heap.size (fun _ => True) (.slice (some ⟨go10, 0, none⟩) x3_1.length co10) x3_1 from (by (with_reducible repeat (first | apply Kd.R_alloc | apply Kd.R_drewN | apply Kd.R_drew)); exact Kd.R_mono HO_3.out (fun _ hk => trivial))); obtain ⟨ce12, hcl12, hM12, hcc12, hfr12⟩ := Kd.R_elem HX12.out z106 (x4_1 : Int) (sa) (by have h_ : (x4_1 : Int) < ((x3_1.length : Int) : Int) := sa; first | exact h_ | (have e_ := (Kd.R_reads' HO_3.out).1; omega) | simpa using h_); obtain ⟨ve12_2, ve12_3, rfl, ge12_2, ge12_3⟩ := k106_openM hM12; have HP12 := Kd.R_seg HX12.out (x4_1 : Int) (sa) (by have h_ : (x4_1 : Int) < ((x3_1.length : Int) : Int) := sa; first | exact h_ | (have e_ := (Kd.R_reads' HO_3.out).1; omega) | simpa using h_) (seg := [.int .i64 t167, .int .i64 t168, v170, v173]) (j := 0) hcl12 hcc12 (show 4 ≤ 4 from by decide) (x' := (⟨(⟨t167, t168⟩ : S91), t169, t172⟩ : S106)) (k106_mkM _ _ _ (⟨(⟨t167, t168⟩ : S91), t169, t172⟩ : S106) (Kd.R_mono (Kd.R_apart' (HO171.out) (Kd.R_typed HO_3.out) (by decide)) (fun k_ hk => ⟨trivial, fun e_ => (hk.2) (by rw [e_]; rfl)⟩)) (Kd.R_mono (Kd.R_apart' ((Kd.S_R HO174.out)) (Kd.R_typed HO_3.out) (by decide)) (fun k_ hk => ⟨trivial, fun e_ => (hk.2) (by rw [e_]; rfl)⟩))) (fun _ hk => hk); have hx12_0 := hcc12 0 _ rfl; (try simp only [show (k106).sz = 4 from rfl, Nat.mul_one, Nat.add_zero] at hx12_0); have hf12_0 := hfr12 0; (try simp only [show (k106).sz = 4 from rfl, Nat.mul_one, Nat.add_zero] at hf12_0); have hx12_1 := hcc12 1 _ rfl; (try simp only [show (k106).sz = 4 from rfl, Nat.mul_one, Nat.add_zero] at hx12_1); have hf12_1 := hfr12 1; (try simp only [show (k106).sz = 4 from rfl, Nat.mul_one, Nat.add_zero] at hf12_1); have hx12_2 := hcc12 2 _ rfl; (try simp only [show (k106).sz = 4 from rfl, Nat.mul_one, Nat.add_zero] at hx12_2); have hf12_2 := hfr12 2; (try simp only [show (k106).sz = 4 from rfl, Nat.mul_one, Nat.add_zero] at hf12_2); have hx12_3 := hcc12 3 _ rfl; (try simp only [show (k106).sz = 4 from rfl, Nat.mul_one, Nat.add_zero] at hx12_3); have hf12_3 := hfr12 3; (try simp only [show (k106).sz = 4 from rfl, Nat.mul_one, Nat.add_zero] at hf12_3); (try clear hcl12); (try clear hcc12); (try clear hfr12); (try clear hM12)) | ((with_reducible refine gate_store (t := 106) (p := 21) rfl ?_); refine store_event (t := 106) (p := 21) (v := ?vo_w13) (w1 := ((((w11.setCell ⟨go10, (x4_1 : Int).toNat * 4, none⟩ (.int .i64 t167)).setCell ⟨go10, (x4_1 : Int).toNat * 4 + 1, none⟩ (.int .i64 t168)).setCell ⟨go10, (x4_1 : Int).toNat * 4 + 2, none⟩ (v170)).setCell ⟨go10, (x4_1 : Int).toNat * 4 + 3, none⟩ (v173))) ?hg ?ho ?hn ?hr ?_; (case ho => rfl); (case hg => rfl); (case hn => rfl); (case hr => (first | (obtain ⟨Av170_, cv170_, ev170_⟩ := slice_of (v := v170) (by assumption); subst ev170_) | (obtain ⟨Av170_, cv170_, ev170_⟩ := Kd.R_slice (v := v170) (Kd.S_R (Aside0.out (by assumption))); subst ev170_)); (first | (obtain ⟨Av173_, cv173_, ev173_⟩ := slice_of (v := v173) (by assumption); subst ev173_) | (obtain ⟨Av173_, cv173_, ev173_⟩ := Kd.R_slice (v := v173) (Kd.S_R (Aside0.out (by assumption))); subst ev173_)); first | (go_simp; done) | (go_simp; rfl)); intro w13 hw; have hg : w11.grownBy w13 (some go10) := (by rw [hw]; exact HP12.2); have hp_ : Kd.R k106 106 w13 w.heap.size (fun _ => True) (.slice (some ⟨go10, 0, none⟩) x3_1.length co10) y175 := (by rw [hw, Ny175.out]; exact HP12.1); clear HP12; replace HO_3 := Aside0.mk hp_; replace HB := Aside0.mk ((by rw [hw]; exact below_set (below_set (below_set (below_set (HB.out) GB10.out) GB10.out) GB10.out) GB10.out : Below w.heap.size w w13)); clear HO171 HO174; clear hg hw hp_))
    go_roundg k1
    case measure => have := HK1.out; omega
    case rel => exact ⟨(y175), (wrap64 (x4_1 + 1)), sc, H', kk1, ⟨sr HO_3⟩, ⟨sb⟩⟩
   ·have c6b0 := decide_eq_false c6
    clear c6
    obtain rfl := Option.some.inj H
    go_wp2
    go_ret
    exact ⟨_, se, sr HO_3, sb⟩

/-! ### laws_toProgram: function 16 -/
def laws_toProgram.f (k : Nat) (a0_0 : Int) (a0_1 : Int) (a0_2 : Int) (l0_3 : List (S139)) : Option (Int × Int × Int × (List (S106))) := (laws_toPieceS.f k l0_3).bind fun t179 => (some (a0_0, a0_1, a0_2, t179))
theorem laws_toProgram.mono : ∀ a0 a1 a2 a3 k, LeO (laws_toProgram.f k a0 a1 a2 a3) (laws_toProgram.f (k + 1) a0 a1 a2 a3) := by
  intro a0 a1 a2 a3 k
  unfold laws_toProgram.f
  have m0 := @laws_toPieceS.mono
  exact mo
set_option maxHeartbeats 8000000 in
set_option maxRecDepth 100000 in
theorem laws_toProgram.calls (k : Nat) (a0_0 : Int) (a0_1 : Int) (a0_2 : Int) (A0_3 : Option Addr) (c0_3 : Nat) (l0_3 : List (S139)) (r1 : Int) (r2 : Int) (r3 : Int) (r4 : List (S106)) (w : World) (hr0_3 : Kd.C k139 w A0_3 l0_3.length l0_3) (hc0_3 : l0_3.length ≤ c0_3) (h : laws_toProgram.f k a0_0 a0_1 a0_2 l0_3 = some (r1, r2, r3, r4)) :
    Calls Try.prog 16 #[.agg #[.int .i64 a0_0, .int .i64 a0_1, .int .i64 a0_2, .slice A0_3 l0_3.length c0_3]] w fun e w' => ∃ v3_ : Value, e = .returned (.agg #[.int .i64 r1, .int .i64 r2, .int .i64 r3, v3_]) ∧ Kd.R k106 106 w' w.heap.size (fun _ => True) v3_ r4 ∧ Below w.heap.size w w' := by
 have hu24 := Try.underlying24
 have hu29 := Try.underlying29
 have HR0_3 := Aside0.mk hr0_3
 have HC0_3 := Aside0.mk hc0_3
 clear hr0_3 hc0_3
 have HB := Aside0.mk (Below.refl w.heap.size w)
 have H : ((laws_toPieceS.f k l0_3).bind fun t179 => (some (a0_0, a0_1, a0_2, t179))) = some (r1, r2, r3, r4) := h
 clear h
 obtain ⟨t179, A2, H⟩ := bnd H
 simp only [Option.some.injEq, Prod.mk.injEq] at H
 obtain ⟨rfl, rfl, rfl, rfl⟩ := H
 go_enter Try.func16, Try.ntmps16
 go_wp2_with (first | ((with_reducible refine gate_dst (N := 1) rfl ?_); refine bx 1 #[.int .i64 a0_0, .int .i64 a0_1, .int .i64 a0_2, .slice A0_3 l0_3.length c0_3] 24 ?_; intro gb176 hg w3 hbox hb; have BK176 := Aside0.mk hbox; have GW176 := bz w hg; have GE176 := bz w hg; replace HB := bs hb; clear hb hbox hg) | ((with_reducible refine gate_dst (N := 2) rfl ?_); refine bx 2 #[.int .i64 0, .int .i64 0, .int .i64 0, .slice none 0 0] 29 ?_; intro gb177 hg w4 hbox hb; have BK177 := Aside0.mk hbox; have GW177 := bzw w hg; have GE177 := bzw w hg; replace HB := bsw hb; have NB176_177 := nl BK176 hg; have NB177_176 := ng BK176 hg; replace BK176 := bb BK176 hb; clear hb hbox hg) | ((with_reducible refine gate_dst (N := 3) rfl ?_); refine bx 3 #[.int .i64 0, .int .i64 0, .int .i64 0, .slice none 0 0] 29 ?_; intro gb178 hg w5 hbox hb; have BK178 := Aside0.mk hbox; have GW178 := bzw w hg; have GE178 := bzw w hg; replace HB := bsw hb; have NB176_178 := nl BK176 hg; have NB178_176 := ng BK176 hg; replace BK176 := bb BK176 hb; have NB177_178 := nl BK177 hg; have NB178_177 := ng BK177 hg; replace BK177 := bb BK177 hb; clear hb hbox hg; have hnb6 := NB176_177.out; have hnc6 := NB177_176.out; have hnb7 := NB176_178.out; have hnc7 := NB178_176.out; obtain ⟨hcz8_0, hcz8_1, hcz8_2, hcz8_3, hfz8_0, hfz8_1, hfz8_2, hfz8_3⟩ := cc4 BK176; have hnb9 := NB178_177.out; have hnc9 := NB177_178.out; obtain ⟨hcz10_0, hcz10_1, hcz10_2, hcz10_3, hfz10_0, hfz10_1, hfz10_2, hfz10_3⟩ := cc4 BK178) | ((with_reducible refine gate_callee (f := 66) rfl ?_); refine gL (some 15) Try.func66 #[.slice A0_3 l0_3.length c0_3] ?_; (with_reducible refine (laws_toPieceS.calls k _ _ l0_3 t179 _ ?side1 ?side2 A2.out).mono ?_); (case side1 => exact Kd.C_below HR0_3.out (sbw)); (case side2 => exact HC0_3.out); rintro e w11 ⟨v180, rfl, ho0, hb⟩; refine ⟨_, rfl, ?_⟩; have HO181 := Aside0.mk (Kd.R_lower ho0 (below_size (sbw))); replace BK176 := Aside0.mk (blk_below (g := gb176) (o := .cells #[.int .i64 a0_0, .int .i64 a0_1, .int .i64 a0_2, .slice A0_3 l0_3.length c0_3] 24 (0, 0)) (sp BK176) hb); replace BK177 := Aside0.mk (blk_below (g := gb177) (o := .cells #[.int .i64 0, .int .i64 0, .int .i64 0, .slice none 0 0] 29 (0, 0)) (sp BK177) hb); replace BK178 := Aside0.mk (blk_below (g := gb178) (o := .cells #[.int .i64 a0_0, .int .i64 a0_1, .int .i64 a0_2, .slice none 0 0] 29 (0, 0)) (sp BK178) hb); replace HB := bsw hb; (try clear hb); (try clear hb2); (try clear hk); (try clear hi); (try clear ho0); obtain ⟨Ao12, co12, eo12⟩ := Kd.R_slice HO181.out; subst eo12; obtain ⟨hcz13_0, hcz13_1, hcz13_2, hcz13_3, hfz13_0, hfz13_1, hfz13_2, hfz13_3⟩ := cc4 BK178; obtain ⟨hcz14_0, hcz14_1, hcz14_2, hcz14_3, hfz14_0, hfz14_1, hfz14_2, hfz14_3⟩ := cc4 BK177))
 refine bodyPost_ret (results_cell_row rfl _ _ gb177 29 #[.int .i64 a0_0, .int .i64 a0_1, .int .i64 a0_2, .slice Ao12 t179.length co12] (0, 0) _ rfl (sp BK177) Try.underlying29 rfl (by kernel_rfl)) rfl ?_
 exact ⟨_, se, by (with_reducible repeat (first | apply Kd.R_alloc | apply Kd.R_drewN | apply Kd.R_drew)); exact Kd.R_mono (Kd.R_far (p := ⟨gb177, 3, none⟩) (Kd.R_far (p := ⟨gb177, 2, none⟩) (Kd.R_far (p := ⟨gb177, 1, none⟩) (Kd.R_far (p := ⟨gb177, 0, none⟩) (Kd.R_far (p := ⟨gb178, 3, none⟩) (Kd.R_types (Kd.R_types HO181.out BK178.out (by decide)) BK177.out (by decide)) (fun _ hk => hk.1.2) (.slice Ao12 t179.length co12)) (fun _ hk => hk.2) (.int .i64 a0_0)) (fun _ hk => hk.2) (.int .i64 a0_1)) (fun _ hk => hk.2) (.int .i64 a0_2)) (fun _ hk => hk.2) (.slice Ao12 t179.length co12)) (fun _ hk => trivial), sbw⟩

/-! ### laws_eqSpan: function 75 -/
def laws_eqSpan.f (a0_0 : Int) (a0_1 : Int) (a1_0 : Int) (a1_1 : Int) : Option (Bool) := if a0_0 = a1_0 then (if a0_1 = a1_1 then (some true) else (some false)) else (some false)
set_option maxHeartbeats 8000000 in
set_option maxRecDepth 100000 in
theorem laws_eqSpan.calls (a0_0 : Int) (a0_1 : Int) (a1_0 : Int) (a1_1 : Int) (r : Bool) (w : World) (h : laws_eqSpan.f a0_0 a0_1 a1_0 a1_1 = some r) :
    Calls Try.prog 75 #[.agg #[.int .i64 a0_0, .int .i64 a0_1], .agg #[.int .i64 a1_0, .int .i64 a1_1]] w fun e w' => e = .returned (.bool r) ∧ Below w.heap.size w w' := by
 have hu91 := Try.underlying91
 have HB := Aside0.mk (Below.refl w.heap.size w)
 have H : (if a0_0 = a1_0 then (if a0_1 = a1_1 then (some true) else (some false)) else (some false)) = some r := h
 clear h
 obtain ⟨c3, H⟩ | ⟨c3, H⟩ := ie_ H
 ·have c3b0 : (a0_0 == a1_0) = true := beq_iff_eq.mpr c3
  have c3b1 : (a0_0 != a1_0) = false := bne_eq_false_iff_eq.mpr c3
  clear c3
  obtain ⟨c4, H⟩ | ⟨c4, H⟩ := ie_ H
  ·have c4b0 : (a0_1 == a1_1) = true := beq_iff_eq.mpr c4
   have c4b1 : (a0_1 != a1_1) = false := bne_eq_false_iff_eq.mpr c4
   clear c4
   obtain rfl := Option.some.inj H
   go_enter Try.func75, Try.ntmps75
   go_wp2_with (first | ((with_reducible refine gate_dst (N := 2) rfl ?_); refine bx 2 #[.int .i64 a0_0, .int .i64 a0_1] 91 ?_; intro gb182 hg w5 hbox hb; have BK182 := Aside0.mk hbox; have GW182 := bz w hg; have GE182 := bz w hg; replace HB := bs hb; clear hb hbox hg) | ((with_reducible refine gate_dst (N := 3) rfl ?_); refine bx 3 #[.int .i64 a1_0, .int .i64 a1_1] 91 ?_; intro gb183 hg w6 hbox hb; have BK183 := Aside0.mk hbox; have GW183 := bzw w hg; have GE183 := bzw w hg; replace HB := bsw hb; have NB182_183 := nl BK182 hg; have NB183_182 := ng BK182 hg; replace BK182 := bb BK182 hb; clear hb hbox hg; have hnb7 := NB182_183.out; have hnc7 := NB183_182.out; obtain ⟨hcz8_0, hcz8_1, hfz8_0, hfz8_1⟩ := cc2 BK182; obtain ⟨hcz9_0, hcz9_1, hfz9_0, hfz9_1⟩ := cc2 BK183))
   go_ret
   exact ⟨se, sbw⟩
  ·have c4b0 : (a0_1 == a1_1) = false := beq_eq_false_iff_ne.mpr c4
   have c4b1 : (a0_1 != a1_1) = true := bne_iff_ne.mpr c4
   obtain rfl := Option.some.inj H
   go_enter Try.func75, Try.ntmps75
   go_wp2_with (first | ((with_reducible refine gate_dst (N := 2) rfl ?_); refine bx 2 #[.int .i64 a0_0, .int .i64 a0_1] 91 ?_; intro gb182 hg w10 hbox hb; have BK182 := Aside0.mk hbox; have GW182 := bz w hg; have GE182 := bz w hg; replace HB := bs hb; clear hb hbox hg) | ((with_reducible refine gate_dst (N := 3) rfl ?_); refine bx 3 #[.int .i64 a1_0, .int .i64 a1_1] 91 ?_; intro gb183 hg w11 hbox hb; have BK183 := Aside0.mk hbox; have GW183 := bzw w hg; have GE183 := bzw w hg; replace HB := bsw hb; have NB182_183 := nl BK182 hg; have NB183_182 := ng BK182 hg; replace BK182 := bb BK182 hb; clear hb hbox hg; have hnb12 := NB182_183.out; have hnc12 := NB183_182.out; obtain ⟨hcz13_0, hcz13_1, hfz13_0, hfz13_1⟩ := cc2 BK182; obtain ⟨hcz14_0, hcz14_1, hfz14_0, hfz14_1⟩ := cc2 BK183))
   go_ret
   exact ⟨se, sbw⟩
 ·have c3b0 : (a0_0 == a1_0) = false := beq_eq_false_iff_ne.mpr c3
  have c3b1 : (a0_0 != a1_0) = true := bne_iff_ne.mpr c3
  obtain rfl := Option.some.inj H
  go_enter Try.func75, Try.ntmps75
  go_wp2_with (first | ((with_reducible refine gate_dst (N := 2) rfl ?_); refine bx 2 #[.int .i64 a0_0, .int .i64 a0_1] 91 ?_; intro gb182 hg w15 hbox hb; have BK182 := Aside0.mk hbox; have GW182 := bz w hg; have GE182 := bz w hg; replace HB := bs hb; clear hb hbox hg) | ((with_reducible refine gate_dst (N := 3) rfl ?_); refine bx 3 #[.int .i64 a1_0, .int .i64 a1_1] 91 ?_; intro gb183 hg w16 hbox hb; have BK183 := Aside0.mk hbox; have GW183 := bzw w hg; have GE183 := bzw w hg; replace HB := bsw hb; have NB182_183 := nl BK182 hg; have NB183_182 := ng BK182 hg; replace BK182 := bb BK182 hb; clear hb hbox hg; have hnb17 := NB182_183.out; have hnc17 := NB183_182.out; obtain ⟨hcz18_0, hcz18_1, hfz18_0, hfz18_1⟩ := cc2 BK182; obtain ⟨hcz19_0, hcz19_1, hfz19_0, hfz19_1⟩ := cc2 BK183))
  go_ret
  exact ⟨se, sbw⟩

/-! ### laws_eqLink: function 188 -/
def laws_eqLink.f (a0_0 : Int) (a0_1 : Int) (a1_0 : Int) (a1_1 : Int) : Option (Bool) := if a0_0 = a1_0 then (if a0_1 = a1_1 then (some true) else (some false)) else (some false)
set_option maxHeartbeats 8000000 in
set_option maxRecDepth 100000 in
theorem laws_eqLink.calls (a0_0 : Int) (a0_1 : Int) (a1_0 : Int) (a1_1 : Int) (r : Bool) (w : World) (h : laws_eqLink.f a0_0 a0_1 a1_0 a1_1 = some r) :
    Calls Try.prog 188 #[.agg #[.int .i64 a0_0, .int .i64 a0_1], .agg #[.int .i64 a1_0, .int .i64 a1_1]] w fun e w' => e = .returned (.bool r) ∧ Below w.heap.size w w' := by
 have hu128 := Try.underlying128
 have HB := Aside0.mk (Below.refl w.heap.size w)
 have H : (if a0_0 = a1_0 then (if a0_1 = a1_1 then (some true) else (some false)) else (some false)) = some r := h
 clear h
 obtain ⟨c3, H⟩ | ⟨c3, H⟩ := ie_ H
 ·have c3b0 : (a0_0 == a1_0) = true := beq_iff_eq.mpr c3
  have c3b1 : (a0_0 != a1_0) = false := bne_eq_false_iff_eq.mpr c3
  clear c3
  obtain ⟨c4, H⟩ | ⟨c4, H⟩ := ie_ H
  ·have c4b0 : (a0_1 == a1_1) = true := beq_iff_eq.mpr c4
   have c4b1 : (a0_1 != a1_1) = false := bne_eq_false_iff_eq.mpr c4
   clear c4
   obtain rfl := Option.some.inj H
   go_enter Try.func188, Try.ntmps188
   go_wp2_with (first | ((with_reducible refine gate_dst (N := 2) rfl ?_); refine bx 2 #[.int .i64 a0_0, .int .i64 a0_1] 128 ?_; intro gb184 hg w5 hbox hb; have BK184 := Aside0.mk hbox; have GW184 := bz w hg; have GE184 := bz w hg; replace HB := bs hb; clear hb hbox hg) | ((with_reducible refine gate_dst (N := 3) rfl ?_); refine bx 3 #[.int .i64 a1_0, .int .i64 a1_1] 128 ?_; intro gb185 hg w6 hbox hb; have BK185 := Aside0.mk hbox; have GW185 := bzw w hg; have GE185 := bzw w hg; replace HB := bsw hb; have NB184_185 := nl BK184 hg; have NB185_184 := ng BK184 hg; replace BK184 := bb BK184 hb; clear hb hbox hg; have hnb7 := NB184_185.out; have hnc7 := NB185_184.out; obtain ⟨hcz8_0, hcz8_1, hfz8_0, hfz8_1⟩ := cc2 BK184; obtain ⟨hcz9_0, hcz9_1, hfz9_0, hfz9_1⟩ := cc2 BK185))
   go_ret
   exact ⟨se, sbw⟩
  ·have c4b0 : (a0_1 == a1_1) = false := beq_eq_false_iff_ne.mpr c4
   have c4b1 : (a0_1 != a1_1) = true := bne_iff_ne.mpr c4
   obtain rfl := Option.some.inj H
   go_enter Try.func188, Try.ntmps188
   go_wp2_with (first | ((with_reducible refine gate_dst (N := 2) rfl ?_); refine bx 2 #[.int .i64 a0_0, .int .i64 a0_1] 128 ?_; intro gb184 hg w10 hbox hb; have BK184 := Aside0.mk hbox; have GW184 := bz w hg; have GE184 := bz w hg; replace HB := bs hb; clear hb hbox hg) | ((with_reducible refine gate_dst (N := 3) rfl ?_); refine bx 3 #[.int .i64 a1_0, .int .i64 a1_1] 128 ?_; intro gb185 hg w11 hbox hb; have BK185 := Aside0.mk hbox; have GW185 := bzw w hg; have GE185 := bzw w hg; replace HB := bsw hb; have NB184_185 := nl BK184 hg; have NB185_184 := ng BK184 hg; replace BK184 := bb BK184 hb; clear hb hbox hg; have hnb12 := NB184_185.out; have hnc12 := NB185_184.out; obtain ⟨hcz13_0, hcz13_1, hfz13_0, hfz13_1⟩ := cc2 BK184; obtain ⟨hcz14_0, hcz14_1, hfz14_0, hfz14_1⟩ := cc2 BK185))
   go_ret
   exact ⟨se, sbw⟩
 ·have c3b0 : (a0_0 == a1_0) = false := beq_eq_false_iff_ne.mpr c3
  have c3b1 : (a0_0 != a1_0) = true := bne_iff_ne.mpr c3
  obtain rfl := Option.some.inj H
  go_enter Try.func188, Try.ntmps188
  go_wp2_with (first | ((with_reducible refine gate_dst (N := 2) rfl ?_); refine bx 2 #[.int .i64 a0_0, .int .i64 a0_1] 128 ?_; intro gb184 hg w15 hbox hb; have BK184 := Aside0.mk hbox; have GW184 := bz w hg; have GE184 := bz w hg; replace HB := bs hb; clear hb hbox hg) | ((with_reducible refine gate_dst (N := 3) rfl ?_); refine bx 3 #[.int .i64 a1_0, .int .i64 a1_1] 128 ?_; intro gb185 hg w16 hbox hb; have BK185 := Aside0.mk hbox; have GW185 := bzw w hg; have GE185 := bzw w hg; replace HB := bsw hb; have NB184_185 := nl BK184 hg; have NB185_184 := ng BK184 hg; replace BK184 := bb BK184 hb; clear hb hbox hg; have hnb17 := NB184_185.out; have hnc17 := NB185_184.out; obtain ⟨hcz18_0, hcz18_1, hfz18_0, hfz18_1⟩ := cc2 BK184; obtain ⟨hcz19_0, hcz19_1, hfz19_0, hfz19_1⟩ := cc2 BK185))
  go_ret
  exact ⟨se, sbw⟩

/-! ### laws_eqLinkS: function 171 -/
def laws_eqLinkS.l0 : Nat → List (S128) → List (S128) → Int → Option (Bool)
  | 0, _, _, _ => none
  | k + 1, x0, x1, x5 => if x5 < (x0.length : Int) then (if 0 ≤ x5 then (if x5 < (x1.length : Int) then ((laws_eqLink.f ((rd_T128 x0 x5).f0) ((rd_T128 x0 x5).f1) ((rd_T128 x1 x5).f0) ((rd_T128 x1 x5).f1)).bind fun t188 => (if t188 = true then (laws_eqLinkS.l0 k x0 x1 (wrap64 (x5 + 1))) else (some false))) else (none)) else (none)) else (some true)
def laws_eqLinkS.f (k : Nat) (l0 : List (S128)) (l1 : List (S128)) : Option (Bool) := if (l0.length : Int) = (l1.length : Int) then (laws_eqLinkS.l0 k l0 l1 0) else (some false)
theorem laws_eqLinkS.mono_l : ∀ k, (∀ y0 y1 y2, LeO (laws_eqLinkS.l0 k y0 y1 y2) (laws_eqLinkS.l0 (k + 1) y0 y1 y2))
  | 0 => fun _ _ _ r h => by simp [laws_eqLinkS.l0] at h
  | k + 1 => by
    have ih0 := laws_eqLinkS.mono_l k
    · intro y0 y1 y2
      unfold laws_eqLinkS.l0
      exact mo
theorem laws_eqLinkS.mono : ∀ a0 a1 k, LeO (laws_eqLinkS.f k a0 a1) (laws_eqLinkS.f (k + 1) a0 a1) := by
  intro a0 a1 k
  have ih0 := laws_eqLinkS.mono_l k
  unfold laws_eqLinkS.f
  exact mo
def laws_eqLinkS.T6 : Bool × List (List Nat × List Nat) := (true, [([], []), ([], []), ([0, 1], [0, 1]), ([2], [2]), ([], []), ([], []), ([4, 5], [4, 5]), ([6], [6]), ([3, 7], [3, 7]), ([8], [8])])
def laws_eqLinkS.B6 : List Nat := [0, 0, 3, 7, 0, 0, 48, 112, 255, 511]
theorem laws_eqLinkS.tab6 : rtab .any (opsOf Try.f171 6) = laws_eqLinkS.T6 := by kernel_rfl
theorem laws_eqLinkS.bits6 : waitsOk laws_eqLinkS.T6.2 laws_eqLinkS.B6 = true := by kernel_rfl
set_option maxHeartbeats 8000000 in
set_option maxRecDepth 100000 in
theorem laws_eqLinkS.calls (k : Nat) (A0 : Option Addr) (c0 : Nat) (l0 : List (S128)) (A1 : Option Addr) (c1 : Nat) (l1 : List (S128)) (r : Bool) (w : World) (hr0 : Kd.C k128 w A0 l0.length l0) (hc0 : l0.length ≤ c0) (hr1 : Kd.C k128 w A1 l1.length l1) (hc1 : l1.length ≤ c1) (h : laws_eqLinkS.f k l0 l1 = some r) :
    Calls Try.prog 171 #[.slice A0 l0.length c0, .slice A1 l1.length c1] w fun e w' => e = .returned (.bool r) ∧ Below w.heap.size w w' := by
 have hu128 := Try.underlying128
 have HR0 := Aside0.mk hr0
 have HC0 := Aside0.mk hc0
 clear hr0 hc0
 have HR1 := Aside0.mk hr1
 have HC1 := Aside0.mk hc1
 clear hr1 hc1
 have HB := Aside0.mk (Below.refl w.heap.size w)
 have H : (if (l0.length : Int) = (l1.length : Int) then (laws_eqLinkS.l0 k l0 l1 0) else (some false)) = some r := h
 clear h
 obtain ⟨c3, H⟩ | ⟨c3, H⟩ := ie_ H
 ·have c3b0 : ((l0.length : Int) == (l1.length : Int)) = true := beq_iff_eq.mpr c3
  have c3b1 : ((l0.length : Int) != (l1.length : Int)) = false := bne_eq_false_iff_eq.mpr c3
  have c3b2 : (l0.length == l1.length) = true := by first | simpa using c3 | (simp at c3 ⊢; omega)
  clear c3
  have H' := Aside0.mk H
  clear H
  go_enter Try.func171, Try.ntmps171
  go_wp2
  go_loopg [5] k (fun kq v5 w' => ∃ (x5_1 : Int), v5 = .int .i64 x5_1 ∧ Aside0 (laws_eqLinkS.l0 kq l0 l1 x5_1 = some r) ∧ Aside0 (kq ≤ k) ∧ Aside0 (Below w.heap.size w w'))
  case atStart => exact ⟨(0), sc, H', kk0, ⟨sb⟩⟩
  case round =>
   clear H'
   try clear c3
   try clear c3b0
   try clear c3b1
   try clear c3b2
   obtain ⟨x5_1, rfl, HA, HK1, HB⟩ := hrel
   cases gk with
   | zero => exact absurd HA.out (by simp [laws_eqLinkS.l0])
   | succ k1 =>
    have H := HA.out
    clear HA
    simp only [laws_eqLinkS.l0] at H
    obtain ⟨c4, H⟩ | ⟨c4, H⟩ := ie_ H
    ·have c4b0 := decide_eq_true c4
     clear c4
     obtain ⟨c5b0, H⟩ := id_ H
     obtain ⟨c6b0, H⟩ := id_ H
     obtain ⟨t188, A7, H⟩ := bnd H
     obtain rfl | rfl := tt t188
     ·replace H := ip H
      have H' := Aside0.mk H
      clear H
      try go_wp2
      replace HB := Aside0.mk (below_drew1 HB.out)
      obtain ⟨p186, q186, ad186, e186, hw186_0, hw186_1, hx186_0, hx186_1⟩ := aT_T128 HR0 HB x5_1
      cases e186
      obtain ⟨p187, q187, ad187, e187, hw187_0, hw187_1, hx187_0, hx187_1⟩ := aT_T128 HR1 HB x5_1
      cases e187
      refine start_ (n := 10) (S := fun w' => w'.cell? (ad186.add ((x5_1).toNat * 2)) = some (.int .i64 ((rd_T128 l0 x5_1).f0)) ∧ w'.cell? ⟨(ad186.add ((x5_1).toNat * 2)).block, (ad186.add ((x5_1).toNat * 2)).off + 1, none⟩ = some (.int .i64 ((rd_T128 l0 x5_1).f1)) ∧ w'.cell? (ad187.add ((x5_1).toNat * 2)) = some (.int .i64 ((rd_T128 l1 x5_1).f0)) ∧ w'.cell? ⟨(ad187.add ((x5_1).toNat * 2)).block, (ad187.add ((x5_1).toNat * 2)).off + 1, none⟩ = some (.int .i64 ((rd_T128 l1 x5_1).f1))) (ds := []) #[false, false, false, false, false, false, false, false, false, false] (by kernel_rfl) rfl rfl ⟨(hb_ HB hw186_0), (hb_ HB hw186_1), (hb_ HB hw187_0), (hb_ HB hw187_1)⟩ (fun hHeld => ?_); refine with_tabW laws_eqLinkS.tab6 laws_eqLinkS.bits6 (fun HT_ HW_ => ?_)
      generalize wr.drew = w9 at HB hx186_0 hx186_1 hx187_0 hx187_1 hHeld ⊢
      refine put 0 17 #[true, false, false, false, false, false, false, false, false, false] HT_ ?_
      refine put 1 18 #[true, true, false, false, false, false, false, false, false, false] HT_ ?_
      refine put 2 19 #[true, true, true, false, false, false, false, false, false, false] HT_ ?_
      refine put 4 21 #[true, true, true, false, true, false, false, false, false, false] HT_ ?_
      refine put 5 22 #[true, true, true, false, true, true, false, false, false, false] HT_ ?_
      refine put 6 23 #[true, true, true, false, true, true, true, false, false, false] HT_ ?_
      refine tat4 3 20 #[true, true, true, true, true, true, true, false, false, false] HT_ HW_ hHeld ?_
      refine tat4 7 24 #[true, true, true, true, true, true, true, true, false, false] HT_ HW_ hHeld ?_
      refine one_ (i := 8) (N := some 25) #[true, true, true, true, true, true, true, true, true, false] rfl rfl (one_of HT_.out (by kernel_rfl)) (by decide) (fun K hK => ?_)
      refine goes_ Try.func188 (by kernel_rfl) rfl #[.agg #[.int .i64 ((rd_T128 l0 x5_1).f0), .int .i64 ((rd_T128 l0 x5_1).f1)], .agg #[.int .i64 ((rd_T128 l1 x5_1).f0), .int .i64 ((rd_T128 l1 x5_1).f1)]] (by rfl) rfl rfl sl ?_
      with_reducible refine (laws_eqLink.calls ((rd_T128 l0 x5_1).f0) ((rd_T128 l0 x5_1).f1) ((rd_T128 l1 x5_1).f0) ((rd_T128 l1 x5_1).f1) true _ A7.out).mono ?_
      rintro e w10 ⟨rfl, hb⟩
      refine ⟨_, rfl, ?_⟩
      replace HB := bs hb
      (try clear hb)
      (try clear hb2)
      (try clear hk)
      (try clear hi)
      refine hK.out _ _ ⟨(hb_ HB hw186_0), (hb_ HB hw186_1), (hb_ HB hw187_0), (hb_ HB hw187_1)⟩ (fun hHeld => ?_)
      clear hK K
      refine norm_ (a' := ?_) ?_ ?_
      rotate_left
      ·show Act.put _ (some 25) _ = _
       simp only [Act.put, List.setIfInBounds_toArray, List.set_cons_zero, List.set_cons_succ, i64_w, i32_w]
       rfl
      refine put 9 26 #[true, true, true, true, true, true, true, true, true, true] HT_ ?_
      refine done_ (done_of HT_.out (by kernel_rfl)) ?_
      try go_wp2
      go_roundg k1
      case measure => have := HK1.out; omega
      case rel => exact ⟨(wrap64 (x5_1 + 1)), sc, H', kk1, ⟨sb⟩⟩
     ·replace H := im H
      obtain rfl := Option.some.inj H
      try go_wp2
      replace HB := Aside0.mk (below_drew1 HB.out)
      obtain ⟨p186, q186, ad186, e186, hw186_0, hw186_1, hx186_0, hx186_1⟩ := aT_T128 HR0 HB x5_1
      cases e186
      obtain ⟨p187, q187, ad187, e187, hw187_0, hw187_1, hx187_0, hx187_1⟩ := aT_T128 HR1 HB x5_1
      cases e187
      refine start_ (n := 10) (S := fun w' => w'.cell? (ad186.add ((x5_1).toNat * 2)) = some (.int .i64 ((rd_T128 l0 x5_1).f0)) ∧ w'.cell? ⟨(ad186.add ((x5_1).toNat * 2)).block, (ad186.add ((x5_1).toNat * 2)).off + 1, none⟩ = some (.int .i64 ((rd_T128 l0 x5_1).f1)) ∧ w'.cell? (ad187.add ((x5_1).toNat * 2)) = some (.int .i64 ((rd_T128 l1 x5_1).f0)) ∧ w'.cell? ⟨(ad187.add ((x5_1).toNat * 2)).block, (ad187.add ((x5_1).toNat * 2)).off + 1, none⟩ = some (.int .i64 ((rd_T128 l1 x5_1).f1))) (ds := []) #[false, false, false, false, false, false, false, false, false, false] (by kernel_rfl) rfl rfl ⟨(hb_ HB hw186_0), (hb_ HB hw186_1), (hb_ HB hw187_0), (hb_ HB hw187_1)⟩ (fun hHeld => ?_); refine with_tabW laws_eqLinkS.tab6 laws_eqLinkS.bits6 (fun HT_ HW_ => ?_)
      generalize wr.drew = w11 at HB hx186_0 hx186_1 hx187_0 hx187_1 hHeld ⊢
      refine put 0 17 #[true, false, false, false, false, false, false, false, false, false] HT_ ?_
      refine put 1 18 #[true, true, false, false, false, false, false, false, false, false] HT_ ?_
      refine put 2 19 #[true, true, true, false, false, false, false, false, false, false] HT_ ?_
      refine put 4 21 #[true, true, true, false, true, false, false, false, false, false] HT_ ?_
      refine put 5 22 #[true, true, true, false, true, true, false, false, false, false] HT_ ?_
      refine put 6 23 #[true, true, true, false, true, true, true, false, false, false] HT_ ?_
      refine tat4 3 20 #[true, true, true, true, true, true, true, false, false, false] HT_ HW_ hHeld ?_
      refine tat4 7 24 #[true, true, true, true, true, true, true, true, false, false] HT_ HW_ hHeld ?_
      refine one_ (i := 8) (N := some 25) #[true, true, true, true, true, true, true, true, true, false] rfl rfl (one_of HT_.out (by kernel_rfl)) (by decide) (fun K hK => ?_)
      refine goes_ Try.func188 (by kernel_rfl) rfl #[.agg #[.int .i64 ((rd_T128 l0 x5_1).f0), .int .i64 ((rd_T128 l0 x5_1).f1)], .agg #[.int .i64 ((rd_T128 l1 x5_1).f0), .int .i64 ((rd_T128 l1 x5_1).f1)]] (by rfl) rfl rfl sl ?_
      with_reducible refine (laws_eqLink.calls ((rd_T128 l0 x5_1).f0) ((rd_T128 l0 x5_1).f1) ((rd_T128 l1 x5_1).f0) ((rd_T128 l1 x5_1).f1) false _ A7.out).mono ?_
      rintro e w12 ⟨rfl, hb⟩
      refine ⟨_, rfl, ?_⟩
      replace HB := bs hb
      (try clear hb)
      (try clear hb2)
      (try clear hk)
      (try clear hi)
      refine hK.out _ _ ⟨(hb_ HB hw186_0), (hb_ HB hw186_1), (hb_ HB hw187_0), (hb_ HB hw187_1)⟩ (fun hHeld => ?_)
      clear hK K
      refine norm_ (a' := ?_) ?_ ?_
      rotate_left
      ·show Act.put _ (some 25) _ = _
       simp only [Act.put, List.setIfInBounds_toArray, List.set_cons_zero, List.set_cons_succ, i64_w, i32_w]
       rfl
      refine put 9 26 #[true, true, true, true, true, true, true, true, true, true] HT_ ?_
      refine done_ (done_of HT_.out (by kernel_rfl)) ?_
      try go_wp2
      go_ret
      exact ⟨se, sb⟩
    ·have c4b0 := decide_eq_false c4
     clear c4
     obtain rfl := Option.some.inj H
     go_wp2
     go_ret
     exact ⟨se, sb⟩
 ·have c3b0 : ((l0.length : Int) == (l1.length : Int)) = false := beq_eq_false_iff_ne.mpr c3
  have c3b1 : ((l0.length : Int) != (l1.length : Int)) = true := bne_iff_ne.mpr c3
  have c3b2 : (l0.length == l1.length) = false := by first | simpa using c3 | (simp at c3 ⊢; omega)
  obtain rfl := Option.some.inj H
  go_enter Try.func171, Try.ntmps171
  go_wp2
  go_ret
  exact ⟨se, sb⟩

end Go.Proofs.Ytlakjlolahjphaa.QFnExactUseSpans
