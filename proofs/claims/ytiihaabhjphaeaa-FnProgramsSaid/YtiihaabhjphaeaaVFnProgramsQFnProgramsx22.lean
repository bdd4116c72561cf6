/- Printed by a program of the session. Conditions: none. (squeezed). -/
import Derived.Test.YtiihaabhjphaeaaVFnProgramsQFnProgramsx0
namespace Go.Proofs.Ytiihaabhjphaeaa.QFnPrograms
set_option maxHeartbeats 8000000
set_option maxRecDepth 100000
open Go.RowKit Go.Proofs.YtiihaabhjphaeaaW.PrintWords Go.Proofs.YtiihaabhjphaeaaW.PrintLast Go.Proofs.YtiihaabhjphaeaaW.PrintMore Go.Proofs.Ytiihaabhjphaeaa.Open Go.Proofs.Ytiihaabhjphaeaa.Sq
attribute [local go_sem] max2_int min2_int max_two min_two max_three min_three max_four min_four   -- for this text's walks alone
attribute [local go_sem] isSome_set
set_option linter.unusedVariables false
set_option linter.unusedSimpArgs false

def impl_PackNext.l0 : Nat → List (S181) → List Int → Int → Int → Option ((List (S181)))
  | 0, _, _, _, _ => none
  | k + 1, x3, x8, x9, x10 => if x10 < x9 then (if 0 ≤ x10 then (if x10 < (x8.length : Int) then (if (wrap64 ((x3.length : Int) - 1)) ≥ 0 then (if 0 ≤ (wrap64 ((x3.length : Int) - 1)) then (if (wrap64 ((x3.length : Int) - 1)) < (x3.length : Int) then (if ((rd_T181 x3 (wrap64 ((x3.length : Int) - 1))).f1) = (rd x8 x10) then (impl_PackNext.l0 k (x3.set ((wrap64 ((x3.length : Int) - 1)) : Int).toNat (⟨wrap64 (((rd_T181 x3 (wrap64 ((x3.length : Int) - 1))).f0) + 1), (rd_T181 x3 (wrap64 ((x3.length : Int) - 1))).f1⟩ : S181)) x8 x9 (wrap64 (x10 + 1))) else (if x3.length < 8796093022208 then (impl_PackNext.l0 k (x3 ++ [(⟨1, rd x8 x10⟩ : S181)]) x8 x9 (wrap64 (x10 + 1))) else (none))) else (none)) else (none)) else (if x3.length < 8796093022208 then (impl_PackNext.l0 k (x3 ++ [(⟨1, rd x8 x10⟩ : S181)]) x8 x9 (wrap64 (x10 + 1))) else (none))) else (none)) else (none)) else (some x3)
def impl_PackNext.f (k : Nat) (l0 : List Int) : Option ((List (S181))) := impl_PackNext.l0 k (([] : List (S181))) l0 (l0.length : Int) 0
theorem impl_PackNext.mono_l : ∀ k, (∀ y0 y1 y2 y3, LeO (impl_PackNext.l0 k y0 y1 y2 y3) (impl_PackNext.l0 (k + 1) y0 y1 y2 y3))
  | 0 => fun _ _ _ _ r h => by simp [impl_PackNext.l0] at h
  | k + 1 => by
    have ih0 := impl_PackNext.mono_l k
    · intro y0 y1 y2 y3
      unfold impl_PackNext.l0
      exact mo
theorem impl_PackNext.mono : ∀ a0 k, LeO (impl_PackNext.f k a0) (impl_PackNext.f (k + 1) a0) := by
  intro a0 k
  have ih0 := impl_PackNext.mono_l k
  unfold impl_PackNext.f
  exact mo
theorem impl_PackNext.calls (k : Nat) (A0 : Option Addr) (c0 : Nat) (l0 : List Int) (r : List (S181)) (w : World) (hr0 : Kd.C (Kd.int .i64) w A0 l0.length l0) (hc0 : l0.length ≤ c0) (h : impl_PackNext.f k l0 = some r) :
    Calls Try.prog 161 #[.slice A0 l0.length c0] w fun e w' => ∃ v0_ : Value, e = .returned (v0_) ∧ Kd.R k181 181 w' w.heap.size (fun _ => True) v0_ r ∧ Below w.heap.size w w' := by
 have hu181 := Try.underlying181
 have HR0 := am hr0
 have HC0 := am hc0
 clear hr0 hc0
 have HB := am (Below.refl w.heap.size w)
 have H := h; unfold impl_PackNext.f at H
 clear h
 obtain ⟨y700, hy700⟩ : ∃ y_ : List (S181), y_ = (([] : List (S181))) := ⟨_, rfl⟩
 replace H : (impl_PackNext.l0 k y700 l0 (l0.length : Int) 0) = some r := ry hy700 H
 have Ny700 := am hy700
 clear hy700
 have H' := am H
 clear H
 go_enter Try.func161, Try.ntmps161
 go_wp2_with (first | ((with_reducible refine gd 7 rfl ?_); refine Kd.R_lit k181 _ 181 ?hg (N := 7) ?hd (xs := ([] : List (S181))) (inner := []) (ok := fun _ => True) (okp := fun _ => True) ?hr ?hp (fun _ hk => hk) trivial (Below.refl _ _) (Nat.le_refl _) (by simp) ?_; (case hd => rfl); (case hg => rfl); (case hr => first | (go_simp; done) | (go_simp; rfl)); (case hp => exact (Reps.none _ _)); intro v701 w2 ho3 hb hg_ hnew_; clear hg_ hnew_; (first | rw [← Ny700.out] at ho3 | (simp only [Int.reduceToNat] at ho3; rw [← Ny700.out] at ho3)); have HO702 := am (Kd.R_lower ho3 (below_size (sb))); replace HB := bs hb; clear hb ho3))
 go_loopg [3, 10] k (fun kq v3 v10 w' => ∃ (x3_1 : List (S181)) (x10_1 : Int), v10 = .int .i64 x10_1 ∧ Aside0 (impl_PackNext.l0 kq x3_1 l0 (l0.length : Int) x10_1 = some r) ∧ Aside0 (kq ≤ k) ∧ Aside0 (Kd.R k181 181 w' w.heap.size (fun _ => True) v3 x3_1) ∧ Aside0 (Below w.heap.size w w'))
 case atStart => exact ⟨(y700), (0), sc, H', kk0, ⟨sr HO702⟩, ⟨sb⟩⟩
 case round =>
  clear H'
  obtain ⟨x3_1, x10_1, rfl, HA, HK1, HO_3, HB⟩ := hrel
  cases gk with
  | zero => exact absurd HA.out (by simp [impl_PackNext.l0])
  | succ k1 =>
   have H := HA.out
   clear HA
   simp only [impl_PackNext.l0] at H
   obtain ⟨c4, H⟩ | ⟨c4, H⟩ := ie_ H
   ·have c4b0 := decide_eq_true c4
    clear c4
    obtain ⟨c5b0, H⟩ := id_ H
    obtain ⟨c6b0, H⟩ := id_ H
    obtain ⟨c7, H⟩ | ⟨c7, H⟩ := ie_ H
    ·have c7b0 := decide_eq_true c7
     clear c7
     obtain ⟨ji8, hji8⟩ : ∃ j_ : Int, (wrap64 ((x3_1.length : Int) - 1)) = j_ := ⟨_, rfl⟩
     replace H : (if 0 ≤ (ji8) then (if (ji8) < (x3_1.length : Int) then (if ((rd_T181 x3_1 (ji8)).f1) = (rd l0 x10_1) then (impl_PackNext.l0 k1 (x3_1.set ((ji8) : Int).toNat (⟨wrap64 (((rd_T181 x3_1 (ji8)).f0) + 1), (rd_T181 x3_1 (ji8)).f1⟩ : S181)) l0 (l0.length : Int) (wrap64 (x10_1 + 1))) else (if x3_1.length < 8796093022208 then (impl_PackNext.l0 k1 (x3_1 ++ [(⟨1, rd l0 x10_1⟩ : S181)]) l0 (l0.length : Int) (wrap64 (x10_1 + 1))) else (none))) else (none)) else (none)) = some r := by first | (rw [hji8] at H; exact H) | (simp only [hji8] at H ⊢; exact H)
     (try rw [hji8] at c7b0)
     have hji8w : (IntKind.i64.wrap ((x3_1.length : Int) - 1)) = ji8 := (i64_w _).trans hji8
     obtain ⟨c9b0, H⟩ := id_ H
     obtain ⟨c10b0, H⟩ := id_ H
     obtain ⟨c11, H⟩ | ⟨c11, H⟩ := ie_ H
     ·have c11b0 : (((rd_T181 x3_1 (ji8)).f1) == (rd l0 x10_1)) = true := beq_iff_eq.mpr c11
      have c11b1 : (((rd_T181 x3_1 (ji8)).f1) != (rd l0 x10_1)) = false := bne_eq_false_iff_eq.mpr c11
      clear c11
      obtain ⟨y706, hy706⟩ : ∃ y_ : List (S181), y_ = (x3_1.set ((ji8) : Int).toNat (⟨wrap64 (((rd_T181 x3_1 (ji8)).f0) + 1), (rd_T181 x3_1 (ji8)).f1⟩ : S181)) := ⟨_, rfl⟩
      replace H : (impl_PackNext.l0 k1 y706 l0 (l0.length : Int) (wrap64 (x10_1 + 1))) = some r := ry hy706 H
      have Ny706 := am hy706
      clear hy706
      have H' := am H
      clear H
      obtain ⟨p703, q703, ad703, e703, _, hx703_0⟩ := at_i HR0 HB x10_1
      cases e703
      obtain ⟨Ao13, co13, eo13⟩ := Kd.R_slice HO_3.out
      subst eo13
      have p704 : 0 ≤ ((ji8) : Int) := sa
      have q704 : (ji8) < (x3_1.length : Int) := sa
      obtain ⟨ad704, e704, hx704_0, hx704_1⟩ := at_T181 (Kd.R_reads' HO_3.out).2.2 (ji8) p704 q704
      cases e704
      replace p704 := eq_true p704
      replace q704 := eq_true q704
      have p705 : 0 ≤ ((ji8) : Int) := sa
      have q705 : (ji8) < (x3_1.length : Int) := sa
      obtain ⟨ad705, e705, hx705_0, hx705_1⟩ := at_T181 (Kd.R_reads' HO_3.out).2.2 (ji8) p705 q705
      obtain rfl : ad704 = ad705 := (by injection e705)
      replace p705 := eq_true p705
      replace q705 := eq_true q705
      have p12 : 0 ≤ ((ji8) : Int) := sa
      have q12 : ((ji8) : Int) < ((x3_1.length : Int) : Int) := sa
      obtain ⟨go12, co12, eo12, gb12, gl12, cl12, HG12⟩ := Kd.R_form HO_3.out (by omega)
      (first | cases eo12 | (injection eo12 with ea_ en_ ec_; (first | subst ea_ | (injection ea_ with ea_; subst ea_)); subst ec_; clear en_))
      have GB12 := am gb12
      have GG12 := am HG12
      clear gb12 gl12 HG12
      (first | simp only [add_plain] at hx704_0 | skip)
      (first | simp only [add_plain] at hx704_1 | skip)
      (first | simp only [add_plain] at hx705_0 | skip)
      (first | simp only [add_plain] at hx705_1 | skip)
      obtain ⟨ce12, hcl12, hM12, hcc12, hfr12⟩ := Kd.R_elem HO_3.out z181 ((ji8) : Int) p12 q12
      obtain rfl := k181_openM hM12
      have hx12_0 : wr.cell? ⟨go12, ((ji8) : Int).toNat * 2, none⟩ = some (.int .i64 ((rd_T181 x3_1 (ji8)).f0)) := hcc12 0 _ rfl
      have hx12_1 : wr.cell? ⟨go12, ((ji8) : Int).toNat * 2 + 1, none⟩ = some (.int .i64 ((rd_T181 x3_1 (ji8)).f1)) := hcc12 1 _ rfl
      have hf12_0 : wr.frozen? ⟨go12, ((ji8) : Int).toNat * 2, none⟩ = false := hfr12 0
      have hf12_1 : wr.frozen? ⟨go12, ((ji8) : Int).toNat * 2 + 1, none⟩ = false := hfr12 1
      (try clear hcl12); (try clear hcc12); (try clear hfr12); (try clear hM12)
      replace p12 := eq_true p12
      replace q12 := eq_true q12
      have HX14 := am (show Kd.R k181 181 wr w.heap.size (fun _ => True) (.slice (some ⟨go12, 0, none⟩) x3_1.length co13) x3_1 from (sr HO_3))
      obtain ⟨ce14, hcl14, hM14, hcc14, hfr14⟩ := Kd.R_elem HX14.out z181 ((ji8) : Int) (sa) (by have h_ : ((ji8) : Int) < ((x3_1.length : Int) : Int) := sa; first | exact h_ | (have e_ := (Kd.R_reads' HO_3.out).1; omega) | simpa using h_)
      obtain rfl := k181_openM hM14
      have HP14 := Kd.R_seg HX14.out ((ji8) : Int) (sa) (by have h_ : ((ji8) : Int) < ((x3_1.length : Int) : Int) := sa; first | exact h_ | (have e_ := (Kd.R_reads' HO_3.out).1; omega) | simpa using h_) (seg := [.int .i64 (wrap64 (((rd_T181 x3_1 (ji8)).f0) + 1))]) (j := 0) hcl14 hcc14 (show 1 ≤ 2 from by decide) (x' := (⟨wrap64 (((rd_T181 x3_1 (ji8)).f0) + 1), (rd_T181 x3_1 (ji8)).f1⟩ : S181)) (k181_mkM _ _ _ (⟨wrap64 (((rd_T181 x3_1 (ji8)).f0) + 1), (rd_T181 x3_1 (ji8)).f1⟩ : S181) ) (fun _ hk => hk)
      have hx14_0 := hcc14 0 _ rfl
      (try simp only [show (k181).sz = 2 from rfl, Nat.mul_one, Nat.add_zero] at hx14_0)
      have hf14_0 := hfr14 0
      (try simp only [show (k181).sz = 2 from rfl, Nat.mul_one, Nat.add_zero] at hf14_0)
      (try clear hcl14); (try clear hcc14); (try clear hfr14); (try clear hM14)
      go_wp2_with (first | ((with_reducible refine gate_store (t := 3) (p := 35) rfl ?_); refine store_event (t := 3) (p := 35) (v := ?vo_w15) (w1 := (wr.setCell ⟨go12, ((ji8) : Int).toNat * 2, none⟩ (.int .i64 (wrap64 (((rd_T181 x3_1 (ji8)).f0) + 1))))) ?hg ?ho ?hn ?hr ?_; (case ho => rfl); (case hg => rfl); (case hn => rfl); (case hr => first | (go_simp; done) | (go_simp; rfl)); intro w15 hw; have hg : wr.grownBy w15 (some go12) := (by rw [hw]; exact HP14.2); have hp_ : Kd.R k181 181 w15 w.heap.size (fun _ => True) (.slice (some ⟨go12, 0, none⟩) x3_1.length co13) y706 := (by rw [hw, Ny706.out]; exact HP14.1); clear HP14; replace HO_3 := am hp_; replace HB := am ((by rw [hw]; exact below_set (HB.out) GB12.out : Below w.heap.size w w15)); clear hg hw hp_))
      go_roundg k1
      case measure => have := HK1.out; omega
      case rel => exact ⟨(y706), (wrap64 (x10_1 + 1)), sc, H', kk1, ⟨sr HO_3⟩, ⟨sb⟩⟩
     ·have c11b0 : (((rd_T181 x3_1 (ji8)).f1) == (rd l0 x10_1)) = false := beq_eq_false_iff_ne.mpr c11
      have c11b1 : (((rd_T181 x3_1 (ji8)).f1) != (rd l0 x10_1)) = true := bne_iff_ne.mpr c11
      obtain ⟨LMc16, H⟩ := il_ H
      obtain ⟨y707, hy707⟩ : ∃ y_ : List (S181), y_ = (x3_1 ++ [(⟨1, rd l0 x10_1⟩ : S181)]) := ⟨_, rfl⟩
      replace H : (impl_PackNext.l0 k1 y707 l0 (l0.length : Int) (wrap64 (x10_1 + 1))) = some r := ry hy707 H
      have Ny707 := am hy707
      clear hy707
      have H' := am H
      clear H
      obtain ⟨p703, q703, ad703, e703, _, hx703_0⟩ := at_i HR0 HB x10_1
      cases e703
      obtain ⟨Ao17, co17, eo17⟩ := Kd.R_slice HO_3.out
      subst eo17
      have p704 : 0 ≤ ((ji8) : Int) := sa
      have q704 : (ji8) < (x3_1.length : Int) := sa
      obtain ⟨ad704, e704, hx704_0, hx704_1⟩ := at_T181 (Kd.R_reads' HO_3.out).2.2 (ji8) p704 q704
      cases e704
      replace p704 := eq_true p704
      replace q704 := eq_true q704
      go_wp2_with (first | ((with_reducible refine gate_builtin (b := .append) (xs := #[.tmp 36, .tmp 39]) rfl ?_); at_builtin; refine Kd.R_append k181 (w0 := w) w.heap.size rfl (.tmp 36) (.tmp 39) 161 181 (.agg #[(.int .i64 0), (.int .i64 0)]) 16 rfl Try.underlying161 info181 rfl (by decide) (by omega) (.slice (some ad704) x3_1.length co17) x3_1 (⟨1, rd l0 x10_1⟩ : S181) [.int .i64 1, .int .i64 (rd l0 x10_1)] (fun _ => True) (fun _ => False) rfl rfl ?aP (fun _ hk => hk.elim) ?aF ?aO ?aB ?aS ?aL ?_; (case aP => exact k181_mkM _ _ _ (⟨1, rd l0 x10_1⟩ : S181)); (case aB => exact (sb)); (case aF => exact (fun _ _ => trivial)); (case aO => exact (sr HO_3)); (case aS => exact (below_size (sb))); (case aL => have := LMc16.out; omega); intro v708 w18 ho hb hg hat; rw [← Ny707.out] at ho; replace HB := am hb; have HO709 := am ho; clear HO_3; clear ho hb hg hat))
      go_roundg k1
      case measure => have := HK1.out; omega
      case rel => exact ⟨(y707), (wrap64 (x10_1 + 1)), sc, H', kk1, ⟨sr HO709⟩, ⟨sb⟩⟩
    ·have c7b0 := decide_eq_false c7
     clear c7
     obtain ⟨LMc19, H⟩ := il_ H
     obtain ⟨y710, hy710⟩ : ∃ y_ : List (S181), y_ = (x3_1 ++ [(⟨1, rd l0 x10_1⟩ : S181)]) := ⟨_, rfl⟩
     replace H : (impl_PackNext.l0 k1 y710 l0 (l0.length : Int) (wrap64 (x10_1 + 1))) = some r := ry hy710 H
     have Ny710 := am hy710
     clear hy710
     have H' := am H
     clear H
     obtain ⟨p703, q703, ad703, e703, _, hx703_0⟩ := at_i HR0 HB x10_1
     cases e703
     obtain ⟨Ao20, co20, eo20⟩ := Kd.R_slice HO_3.out
     subst eo20
     go_wp2_with (first | ((with_reducible refine gate_builtin (b := .append) (xs := #[.tmp 36, .tmp 39]) rfl ?_); at_builtin; refine Kd.R_append k181 (w0 := w) w.heap.size rfl (.tmp 36) (.tmp 39) 161 181 (.agg #[(.int .i64 0), (.int .i64 0)]) 16 rfl Try.underlying161 info181 rfl (by decide) (by omega) (.slice Ao20 x3_1.length co20) x3_1 (⟨1, rd l0 x10_1⟩ : S181) [.int .i64 1, .int .i64 (rd l0 x10_1)] (fun _ => True) (fun _ => False) rfl rfl ?aP (fun _ hk => hk.elim) ?aF ?aO ?aB ?aS ?aL ?_; (case aP => exact k181_mkM _ _ _ (⟨1, rd l0 x10_1⟩ : S181)); (case aB => exact (sb)); (case aF => exact (fun _ _ => trivial)); (case aO => exact (sr HO_3)); (case aS => exact (below_size (sb))); (case aL => have := LMc19.out; omega); intro v711 w21 ho hb hg hat; rw [← Ny710.out] at ho; replace HB := am hb; have HO712 := am ho; clear HO_3; clear ho hb hg hat))
     go_roundg k1
     case measure => have := HK1.out; omega
     case rel => exact ⟨(y710), (wrap64 (x10_1 + 1)), sc, H', kk1, ⟨sr HO712⟩, ⟨sb⟩⟩
   ·have c4b0 := decide_eq_false c4
    clear c4
    obtain rfl := Option.some.inj H
    go_wp2
    go_ret
    exact ⟨_, se, sr HO_3, sb⟩

def impl_PackedSize.l0 : Nat → Int → List (S55) → Int → Int → Option (Int)
  | 0, _, _, _, _ => none
  | k + 1, x3, x6, x7, x8 => if x8 < x7 then (if 0 ≤ x8 then (if x8 < (x6.length : Int) then ((impl_PackNext.f k ((rd_T55 x6 x8).f2)).bind fun t715 => (impl_PackedSize.l0 k (wrap64 (x3 + (t715.length : Int))) x6 x7 (wrap64 (x8 + 1)))) else (none)) else (none)) else (some x3)
def impl_PackedSize.f (k : Nat) (l0 : List (S55)) : Option (Int) := impl_PackedSize.l0 k 0 l0 (l0.length : Int) 0
theorem impl_PackedSize.mono_l : ∀ k, (∀ y0 y1 y2 y3, LeO (impl_PackedSize.l0 k y0 y1 y2 y3) (impl_PackedSize.l0 (k + 1) y0 y1 y2 y3))
  | 0 => fun _ _ _ _ r h => by simp [impl_PackedSize.l0] at h
  | k + 1 => by
    have ih0 := impl_PackedSize.mono_l k
    · intro y0 y1 y2 y3
      unfold impl_PackedSize.l0
      have m0 := @impl_PackNext.mono
      exact mo
theorem impl_PackedSize.mono : ∀ a0 k, LeO (impl_PackedSize.f k a0) (impl_PackedSize.f (k + 1) a0) := by
  intro a0 k
  have ih0 := impl_PackedSize.mono_l k
  unfold impl_PackedSize.f
  have m0 := @impl_PackNext.mono
  exact mo
theorem impl_PackedSize.calls (k : Nat) (A0 : Option Addr) (c0 : Nat) (l0 : List (S55)) (r : Int) (w : World) (hr0 : Kd.C k55 w A0 l0.length l0) (hc0 : l0.length ≤ c0) (h : impl_PackedSize.f k l0 = some r) :
    Calls Try.prog 121 #[.slice A0 l0.length c0] w fun e w' => e = .returned (.int .i64 r) ∧ Below w.heap.size w w' := by
 have hu55 := Try.underlying55
 have HR0 := am hr0
 have HC0 := am hc0
 clear hr0 hc0
 have HB := am (Below.refl w.heap.size w)
 have H := h; unfold impl_PackedSize.f at H
 clear h
 have H' := am H
 clear H
 go_enter Try.func121, Try.ntmps121
 go_wp2
 go_loopg [3, 8] k (fun kq v3 v8 w' => ∃ (x3_1 : Int) (x8_1 : Int), v3 = .int .i64 x3_1 ∧ v8 = .int .i64 x8_1 ∧ Aside0 (impl_PackedSize.l0 kq x3_1 l0 (l0.length : Int) x8_1 = some r) ∧ Aside0 (kq ≤ k) ∧ Aside0 (Below w.heap.size w w'))
 case atStart => exact ⟨(0), (0), sc, sc, H', kk0, ⟨sb⟩⟩
 case round =>
  clear H'
  obtain ⟨x3_1, x8_1, rfl, rfl, HA, HK1, HB⟩ := hrel
  cases gk with
  | zero => exact absurd HA.out (by simp [impl_PackedSize.l0])
  | succ k1 =>
   have H := HA.out
   clear HA
   simp only [impl_PackedSize.l0] at H
   obtain ⟨c2, H⟩ | ⟨c2, H⟩ := ie_ H
   ·have c2b0 := decide_eq_true c2
    clear c2
    obtain ⟨c3b0, H⟩ := id_ H
    obtain ⟨c4b0, H⟩ := id_ H
    obtain ⟨t715, A5, H⟩ := bnd H
    have H' := am H
    clear H
    obtain ⟨p713, q713, ad713, A713_1, c713_1, A713_2, c713_2, e713, _, _, _, hx713_0, hx713_1, hx713_2, HC713_1, HR713_1, HC713_2, HR713_2⟩ := aT_T55 HR0 HB x8_1
    cases e713
    go_wp2_with (first | ((with_reducible refine gd 5 rfl ?_); refine bx 5 #[.int .i64 0, .slice none 0 0, .slice none 0 0] 55 ?_; intro gb714 hg w6 hbox hb; have GW714 := bz w hg; have GE714 := bz w hg; replace HB := bs hb; have BK714 := am hbox; clear hb hbox hg; obtain ⟨hcz7_0, hcz7_1, hcz7_2, hfz7_0, hfz7_1, hfz7_2⟩ := cc3 BK714) | ((with_reducible refine gc 161 rfl ?_); refine gL (some 15) Try.func161 #[.slice A713_2 ((rd_T55 l0 x8_1).f2).length c713_2] ?_; (with_reducible refine (impl_PackNext.calls k1 _ _ ((rd_T55 l0 x8_1).f2) t715 _ ?side1 ?side2 A5.out).mono ?_); (case side1 => exact Kd.C_below HR713_2.out (sbw)); (case side2 => exact HC713_2.out); rintro e w8 ⟨v716, rfl, ho0, hb⟩; refine ⟨_, rfl, ?_⟩; have HO717 := am (Kd.R_lower ho0 (below_size (sbw))); replace BK714 := am (blk_below (g := gb714) (o := .cells #[.int .i64 ((rd_T55 l0 x8_1).f0), .slice A713_1 ((rd_T55 l0 x8_1).f1).length c713_1, .slice A713_2 ((rd_T55 l0 x8_1).f2).length c713_2] 55 (0, 0)) (sp BK714) hb); replace HB := bsw hb; (try clear hb); (try clear ho0); obtain ⟨Ao9, co9, eo9⟩ := Kd.R_slice HO717.out; subst eo9))
    go_roundg k1
    case measure => have := HK1.out; omega
    case rel => exact ⟨(wrap64 (x3_1 + (t715.length : Int))), (wrap64 (x8_1 + 1)), sc, sc, H', kk1, ⟨sbw⟩⟩
   ·have c2b0 := decide_eq_false c2
    clear c2
    obtain rfl := Option.some.inj H
    go_wp2
    go_ret
    exact ⟨se, sb⟩

def impl_ProgramSize.l0 : Nat → Int → List (S105) → Int → Int → Option (Int)
  | 0, _, _, _, _ => none
  | k + 1, x3, x7, x8, x9 => if x9 < x8 then (if 0 ≤ x9 then (if x9 < (x7.length : Int) then ((impl_PackedSize.f k ((rd_T105 x7 x9).f2)).bind fun t721 => (impl_ProgramSize.l0 k (wrap64 (x3 + t721)) x7 x8 (wrap64 (x9 + 1)))) else (none)) else (none)) else (some x3)
def impl_ProgramSize.f (k : Nat) (a0_0 : Int) (a0_1 : Int) (a0_2 : Int) (l0_3 : List (S105)) : Option (Int) := impl_ProgramSize.l0 k 0 l0_3 (l0_3.length : Int) 0
theorem impl_ProgramSize.mono_l : ∀ k, (∀ y0 y1 y2 y3, LeO (impl_ProgramSize.l0 k y0 y1 y2 y3) (impl_ProgramSize.l0 (k + 1) y0 y1 y2 y3))
  | 0 => fun _ _ _ _ r h => by simp [impl_ProgramSize.l0] at h
  | k + 1 => by
    have ih0 := impl_ProgramSize.mono_l k
    · intro y0 y1 y2 y3
      unfold impl_ProgramSize.l0
      have m0 := @impl_PackedSize.mono
      exact mo
theorem impl_ProgramSize.mono : ∀ a0 a1 a2 a3 k, LeO (impl_ProgramSize.f k a0 a1 a2 a3) (impl_ProgramSize.f (k + 1) a0 a1 a2 a3) := by
  intro a0 a1 a2 a3 k
  have ih0 := impl_ProgramSize.mono_l k
  unfold impl_ProgramSize.f
  have m0 := @impl_PackedSize.mono
  exact mo
theorem impl_ProgramSize.calls (k : Nat) (a0_0 : Int) (a0_1 : Int) (a0_2 : Int) (A0_3 : Option Addr) (c0_3 : Nat) (l0_3 : List (S105)) (r : Int) (w : World) (hr0_3 : Kd.C k105 w A0_3 l0_3.length l0_3) (hc0_3 : l0_3.length ≤ c0_3) (h : impl_ProgramSize.f k a0_0 a0_1 a0_2 l0_3 = some r) :
    Calls Try.prog 50 #[.agg #[.int .i64 a0_0, .int .i64 a0_1, .int .i64 a0_2, .slice A0_3 l0_3.length c0_3]] w fun e w' => e = .returned (.int .i64 r) ∧ Below w.heap.size w w' := by
 have hu31 := Try.underlying31
 have hu105 := Try.underlying105
 have HR0_3 := am hr0_3
 have HC0_3 := am hc0_3
 clear hr0_3 hc0_3
 have HB := am (Below.refl w.heap.size w)
 have H := h; unfold impl_ProgramSize.f at H
 clear h
 have H' := am H
 clear H
 go_enter Try.func50, Try.ntmps50
 go_wp2_with (first | ((with_reducible refine gd 1 rfl ?_); refine bx 1 #[.int .i64 a0_0, .int .i64 a0_1, .int .i64 a0_2, .slice A0_3 l0_3.length c0_3] 31 ?_; intro gb718 hg w2 hbox hb; have GW718 := bz w hg; have GE718 := bz w hg; replace HB := bs hb; have BK718 := am hbox; clear hb hbox hg; obtain ⟨hcz3_0, hcz3_1, hcz3_2, hcz3_3, hfz3_0, hfz3_1, hfz3_2, hfz3_3⟩ := cc4 BK718))
 go_loopg [3, 9] k (fun kq v3 v9 w' => ∃ (x3_1 : Int) (x9_1 : Int), v3 = .int .i64 x3_1 ∧ v9 = .int .i64 x9_1 ∧ Aside0 (impl_ProgramSize.l0 kq x3_1 l0_3 (l0_3.length : Int) x9_1 = some r) ∧ Aside0 (kq ≤ k) ∧ Aside0 (w'.heap[gb718]? = some (.cells #[.int .i64 a0_0, .int .i64 a0_1, .int .i64 a0_2, (.slice A0_3 l0_3.length c0_3)] 31 (0, 0))) ∧ Aside0 (Below w.heap.size w w'))
 case atStart => exact ⟨(0), (0), sc, sc, H', kk0, ⟨sk BK718⟩, ⟨sbw⟩⟩
 case round =>
  clear H'
  try clear hcz3_0
  try clear hcz3_1
  try clear hcz3_2
  try clear hcz3_3
  try clear hfz3_0
  try clear hfz3_1
  try clear hfz3_2
  try clear hfz3_3
  obtain ⟨x3_1, x9_1, rfl, rfl, HA, HK1, BK718, HB⟩ := hrel
  cases gk with
  | zero => exact absurd HA.out (by simp [impl_ProgramSize.l0])
  | succ k1 =>
   have H := HA.out
   clear HA
   simp only [impl_ProgramSize.l0] at H
   obtain ⟨c4, H⟩ | ⟨c4, H⟩ := ie_ H
   ·have c4b0 := decide_eq_true c4
    clear c4
    obtain ⟨c5b0, H⟩ := id_ H
    obtain ⟨c6b0, H⟩ := id_ H
    obtain ⟨t721, A7, H⟩ := bnd H
    have H' := am H
    clear H
    obtain ⟨p719, q719, ad719, A719_2, c719_2, A719_3, c719_3, e719, _, _, _, _, hx719_0, hx719_1, hx719_2, hx719_3, HC719_2, HR719_2, HC719_3, HR719_3⟩ := aT_T105 HR0_3 HB x9_1
    cases e719
    go_wp2_with (first | ((with_reducible refine gd 5 rfl ?_); refine bx 5 #[.int .i64 0, .int .i64 0, .slice none 0 0, .slice none 0 0] 105 ?_; intro gb720 hg w8 hbox hb; have GW720 := bzw w hg; have GE720 := bzw w hg; replace HB := bsw hb; have BK720 := am hbox; have NB718_720 := nl BK718 hg; have NB720_718 := ng BK718 hg; replace BK718 := bb BK718 hb; clear hb hbox hg; have hnb9 := NB720_718.out; have hnc9 := NB718_720.out; obtain ⟨hcz10_0, hcz10_1, hcz10_2, hcz10_3, hfz10_0, hfz10_1, hfz10_2, hfz10_3⟩ := cc4 BK720) | ((with_reducible refine gc 121 rfl ?_); refine gL (some 16) Try.func121 #[.slice A719_3 ((rd_T105 l0_3 x9_1).f2).length c719_3] ?_; (with_reducible refine (impl_PackedSize.calls k1 _ _ ((rd_T105 l0_3 x9_1).f2) t721 _ ?side1 ?side2 A7.out).mono ?_); (case side1 => exact Kd.C_below HR719_3.out (sbw)); (case side2 => exact HC719_3.out); rintro e w11 ⟨rfl, hb⟩; refine ⟨_, rfl, ?_⟩; replace BK718 := am (blk_below (g := gb718) (o := .cells #[.int .i64 a0_0, .int .i64 a0_1, .int .i64 a0_2, .slice (some ad719) l0_3.length c0_3] 31 (0, 0)) (sp BK718) hb); replace BK720 := am (blk_below (g := gb720) (o := .cells #[.int .i64 ((rd_T105 l0_3 x9_1).f0.f0), .int .i64 ((rd_T105 l0_3 x9_1).f0.f1), .slice A719_2 ((rd_T105 l0_3 x9_1).f1).length c719_2, .slice A719_3 ((rd_T105 l0_3 x9_1).f2).length c719_3] 105 (0, 0)) (sp BK720) hb); replace HB := bsw hb; (try clear hb)))
    go_roundg k1
    case measure => have := HK1.out; omega
    case rel => exact ⟨(wrap64 (x3_1 + t721)), (wrap64 (x9_1 + 1)), sc, sc, H', kk1, ⟨sk BK718⟩, ⟨sbw⟩⟩
   ·have c4b0 := decide_eq_false c4
    clear c4
    obtain rfl := Option.some.inj H
    go_wp2
    go_ret
    exact ⟨se, sbw⟩

end Go.Proofs.Ytiihaabhjphaeaa.QFnPrograms
