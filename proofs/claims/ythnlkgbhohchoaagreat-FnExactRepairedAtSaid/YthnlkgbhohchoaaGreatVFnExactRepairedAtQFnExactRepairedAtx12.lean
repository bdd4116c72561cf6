/- Printed by a program of the session. Conditions: none. (squeezed). -/
import Derived.Test.YthnlkgbhohchoaaGreatVFnExactRepairedAtQFnExactRepairedAtx11
namespace Go.Proofs.YthnlkgbhohchoaaGreat.QFnExactRepairedAt
set_option maxHeartbeats 8000000
set_option maxRecDepth 100000
open Go.RowKit Go.Proofs.YthnlkgbhohchoaaGreatW.PrintWords Go.Proofs.YthnlkgbhohchoaaGreatW.PrintLast Go.Proofs.YthnlkgbhohchoaaGreatW.PrintMore Go.Proofs.YthnlkgbhohchoaaGreat.Open Go.Proofs.YthnlkgbhohchoaaGreat.Sq
attribute [local go_sem] max2_int min2_int max_two min_two max_three min_three max_four min_four   -- for this text's walks alone
attribute [local go_sem] isSome_set
set_option linter.unusedVariables false
set_option linter.unusedSimpArgs false

theorem a12_2 {P : Prop} (h : P := by have h_ : (x4_1 : Int) < ((x3_1.length : Int) : Int) := sa; first | exact h_ | (have e_ := (Kd.R_reads' HO_3.out).1; omega) | simpa using h_) : P := h
theorem a12_1 {P : Prop} (h : P := by (with_reducible repeat (first | apply Kd.R_alloc | apply Kd.R_drewN | apply Kd.R_drew)); exact (Kd.R_mono (Kd.R_far (p := ⟨gb448, 1, none⟩) (Kd.R_types HO451.out BK448.out (by decide)) (fun _ hk => hk.2) (.slice Ao13 t449.length co13)) (fun _ h_ => h_.1))) : P := h
theorem a12_0 {P : Prop} (h : P := by have h_ : (x4_1 : Int) < ((x3_1.length : Int) : Int) := sa; first | exact h_ | (have e_ := (Kd.S_reads' HO_3.out).1; omega) | simpa using h_) : P := h
def laws_toIntS.l0 : Nat → List Int → List Int → Int → Option (List Int)
  | 0, _, _, _ => none
  | k + 1, x0, x3, x4 => if x4 < (x0.length : Int) then (if 0 ≤ x4 then (if x4 < (x3.length : Int) then (laws_toIntS.l0 k x0 (x3.set (x4 : Int).toNat (rd x0 x4)) (wrap64 (x4 + 1))) else (none)) else (none)) else (some x3)
def laws_toIntS.f (k : Nat) (l0 : List Int) : Option (List Int) := if 0 ≤ (l0.length : Int) then (if ((l0.length : Int) : Int).toNat ≤ 35184372088832 then (laws_toIntS.l0 k l0 (List.replicate ((l0.length : Int) : Int).toNat 0) 0) else (none)) else (none)
theorem laws_toIntS.mono_l : ∀ k, (∀ y0 y1 y2, LeO (laws_toIntS.l0 k y0 y1 y2) (laws_toIntS.l0 (k + 1) y0 y1 y2))
  | 0 => fun _ _ _ r h => by simp [laws_toIntS.l0] at h
  | k + 1 => by
    have ih0 := laws_toIntS.mono_l k
    · intro y0 y1 y2
      unfold laws_toIntS.l0
      exact mo
theorem laws_toIntS.mono : ∀ a0 k, LeO (laws_toIntS.f k a0) (laws_toIntS.f (k + 1) a0) := by
  intro a0 k
  have ih0 := laws_toIntS.mono_l k
  unfold laws_toIntS.f
  exact mo
theorem laws_toIntS.calls (k : Nat) (A0 : Option Addr) (c0 : Nat) (l0 : List Int) (r : List Int) (w : World) (hr0 : Kd.C (Kd.int .i64) w A0 l0.length l0) (hc0 : l0.length ≤ c0) (h : laws_toIntS.f k l0 = some r) :
    Calls Tryz.prog 9 #[.slice A0 l0.length c0] w fun e w' => ∃ v0_ : Value, e = .returned (v0_) ∧ Kd.R (Kd.int .i64) 3 w' w.heap.size (fun _ => True) v0_ r ∧ Below w.heap.size w w' := by
 have HR0 := am hr0
 have HC0 := am hc0
 clear hr0 hc0
 have HB := am (Below.refl w.heap.size w)
 have H := h; unfold laws_toIntS.f at H
 clear h
 obtain ⟨c2, H⟩ := ia_ H
 have c2b0 := eq_true c2
 have c2b1 := decide_eq_true c2
 clear c2
 obtain ⟨c3, H⟩ := ia_ H
 have c3b0 := eq_true c3
 have c3b1 := decide_eq_true c3
 clear c3
 obtain ⟨y441, hy441⟩ : ∃ y_ : List Int, y_ = (List.replicate ((l0.length : Int) : Int).toNat 0) := ⟨_, rfl⟩
 replace H : (laws_toIntS.l0 k l0 y441 0) = some r := ry hy441 H
 have Ny441 := am hy441
 clear hy441
 have H' := am H
 clear H
 go_enter Tryz.func9, Tryz.ntmps9
 go_wp2_with (first | ((with_reducible refine gd 7 rfl ?_); refine Kd.R_make (Kd.int .i64) _ 3 rfl (N := 7) rfl 25 _ _ rfl (l0.length : Int) rfl rfl Tryz.underlying25 (.int .i64 0) 8 info3 rfl (by decide) (by omega) 0 (ok := fun _ => True) (okp := fun _ => True) rfl (fun _ hk => hk) trivial (sa) (Nat.le_trans (Nat.mul_le_mul_right _ (sa : (l0.length : Int).toNat ≤ 35184372088832)) (by omega)) (Below.refl _ _) (Nat.le_refl _) ?_; intro v442 w4 ho5 hb hg_ hnew_; clear hg_ hnew_; (first | rw [← Ny441.out] at ho5 | (simp only [Int.reduceToNat] at ho5; rw [← Ny441.out] at ho5)); have HO443 := am (Kd.R_lower ho5 (below_size (sb))); replace HB := bs hb; clear hb ho5))
 go_loopg [4] k (fun kq v4 w' => ∃ (x3_1 : List Int) (x4_1 : Int), v4 = .int .i64 x4_1 ∧ Aside0 (laws_toIntS.l0 kq l0 x3_1 x4_1 = some r) ∧ Aside0 (kq ≤ k) ∧ Aside0 (Kd.R (Kd.int .i64) 3 w' w.heap.size (fun _ => True) v442 x3_1) ∧ Aside0 (Below w.heap.size w w'))
 case atStart => exact ⟨(y441), (0), sc, H', kk0, ⟨sr HO443⟩, ⟨sb⟩⟩
 case round =>
  clear H'
  try clear c2
  try clear c2b0
  try clear c2b1
  try clear c3
  try clear c3b0
  try clear c3b1
  obtain ⟨x3_1, x4_1, rfl, HA, HK1, HO_3, HB⟩ := hrel
  cases gk with
  | zero => exact absurd HA.out (by simp [laws_toIntS.l0])
  | succ k1 =>
   have H := HA.out
   clear HA
   simp only [laws_toIntS.l0] at H
   obtain ⟨-, c6b0, H⟩ | ⟨-, c6b0, H⟩ := ic_ H
   ·obtain ⟨c7b0, H⟩ := id_ H
    obtain ⟨c8b0, H⟩ := id_ H
    obtain ⟨y445, hy445⟩ : ∃ y_ : List Int, y_ = (x3_1.set (x4_1 : Int).toNat (rd l0 x4_1)) := ⟨_, rfl⟩
    replace H : (laws_toIntS.l0 k1 l0 y445 (wrap64 (x4_1 + 1))) = some r := ry hy445 H
    have Ny445 := am hy445
    clear hy445
    have H' := am H
    clear H
    obtain ⟨p444, q444, ad444, e444, _, hx444_0⟩ := at_i HR0 HB x4_1
    cases e444
    have p9 : 0 ≤ (x4_1 : Int) := sa
    have q9 : (x4_1 : Int) < ((x3_1.length : Int) : Int) := sa
    obtain ⟨go9, co9, eo9, gb9, gl9, cl9, HG9⟩ := Kd.R_form HO_3.out (by omega)
    (first | cases eo9 | (injection eo9 with ea_ en_ ec_; (first | subst ea_ | (injection ea_ with ea_; subst ea_)); subst ec_; clear en_))
    have GB9 := am gb9
    have GG9 := am HG9
    clear gb9 gl9 HG9
    obtain ⟨hx9_0, hf9_0⟩ := Kd.R_celln 0 HO_3.out (x4_1 : Int) p9 q9
    replace p9 := eq_true p9
    replace q9 := eq_true q9
    have HP10 := Kd.R_putg HO_3.out (x4_1 : Int) (rd l0 x4_1)
    go_wp2_with (first | ((with_reducible refine gate_store (t := 3) (p := 20) rfl ?_); refine store_event (t := 3) (p := 20) (v := ?vo_w11) (w1 := (wr.setCell ⟨go9, (x4_1 : Int).toNat, none⟩ (.int .i64 (rd l0 x4_1)))) ?hg ?ho ?hn ?hr ?_; (case ho => rfl); (case hg => rfl); (case hn => rfl); (case hr => first | (go_simp; done) | (go_simp; rfl)); intro w11 hw; have hg : wr.grownBy w11 (some go9) := (by rw [hw]; exact HP10.2); have hp_ : Kd.R (Kd.int .i64) 3 w11 w.heap.size (fun _ => True) (.slice (some ⟨go9, 0, none⟩) x3_1.length co9) y445 := (by rw [hw, Ny445.out]; exact HP10.1); clear HP10; replace HO_3 := am hp_; replace HB := am ((by rw [hw]; exact below_set (HB.out) GB9.out : Below w.heap.size w w11)); clear hg hw hp_))
    go_roundg k1
    case measure => have := HK1.out; omega
    case rel => exact ⟨(y445), (wrap64 (x4_1 + 1)), sc, H', kk1, ⟨sr HO_3⟩, ⟨sb⟩⟩
   ·obtain rfl := Option.some.inj H
    go_wp2
    go_ret
    exact ⟨_, se, sr HO_3, sb⟩

def laws_toTable.f (k : Nat) (a0_0 : Int) (l0_1 : List Int) (l0_2 : List Int) : Option (Int × List Int × List Int) := (laws_toIntS.f k l0_1).bind fun t449 => ((laws_toIntS.f k l0_2).bind fun t452 => (some (a0_0, t449, t452)))
theorem laws_toTable.mono : ∀ a0 a1 a2 k, LeO (laws_toTable.f k a0 a1 a2) (laws_toTable.f (k + 1) a0 a1 a2) := by
  intro a0 a1 a2 k
  unfold laws_toTable.f
  have m0 := @laws_toIntS.mono
  exact mo
theorem laws_toTable.calls (k : Nat) (a0_0 : Int) (A0_1 : Option Addr) (c0_1 : Nat) (l0_1 : List Int) (A0_2 : Option Addr) (c0_2 : Nat) (l0_2 : List Int) (r1 : Int) (r2 : List Int) (r3 : List Int) (w : World) (hr0_1 : Kd.C (Kd.int .i64) w A0_1 l0_1.length l0_1) (hc0_1 : l0_1.length ≤ c0_1) (hr0_2 : Kd.C (Kd.int .i64) w A0_2 l0_2.length l0_2) (hc0_2 : l0_2.length ≤ c0_2) (h : laws_toTable.f k a0_0 l0_1 l0_2 = some (r1, r2, r3)) :
    Calls Tryz.prog 146 #[.agg #[.int .i64 a0_0, .slice A0_1 l0_1.length c0_1, .slice A0_2 l0_2.length c0_2]] w fun e w' => ∃ v1_ v2_ : Value, e = .returned (.agg #[.int .i64 r1, v1_, v2_]) ∧ Kd.R (Kd.int .i64) 3 w' w.heap.size (fun k_ => some k_ ≠ (v2_ : Value).ownBlock) v1_ r2 ∧ Kd.R (Kd.int .i64) 3 w' w.heap.size (fun k_ => some k_ ≠ (v1_ : Value).ownBlock) v2_ r3 ∧ Below w.heap.size w w' := by
 have hu159 := Tryz.underlying159
 have hu50 := Tryz.underlying50
 have HR0_1 := am hr0_1
 have HC0_1 := am hc0_1
 clear hr0_1 hc0_1
 have HR0_2 := am hr0_2
 have HC0_2 := am hc0_2
 clear hr0_2 hc0_2
 have HB := am (Below.refl w.heap.size w)
 have H := h; unfold laws_toTable.f at H
 clear h
 obtain ⟨t449, A2, H⟩ := bnd H
 obtain ⟨t452, A3, H⟩ := bnd H
 simp only [Option.some.injEq, Prod.mk.injEq] at H
 obtain ⟨rfl, rfl, rfl⟩ := H
 go_enter Tryz.func146, Tryz.ntmps146
 go_wp2_with (first | ((with_reducible refine gd 1 rfl ?_); refine bx 1 #[.int .i64 a0_0, .slice A0_1 l0_1.length c0_1, .slice A0_2 l0_2.length c0_2] 159 ?_; intro gb446 hg w4 hbox hb; have GW446 := bz w hg; have GE446 := bz w hg; replace HB := bs hb; have BK446 := am hbox; clear hb hbox hg) | ((with_reducible refine gd 2 rfl ?_); refine bx 2 #[.int .i64 0, .slice none 0 0, .slice none 0 0] 50 ?_; intro gb447 hg w5 hbox hb; have GW447 := bzw w hg; have GE447 := bzw w hg; replace HB := bsw hb; have BK447 := am hbox; have NB446_447 := nl BK446 hg; have NB447_446 := ng BK446 hg; replace BK446 := bb BK446 hb; clear hb hbox hg) | ((with_reducible refine gd 3 rfl ?_); refine bx 3 #[.int .i64 0, .slice none 0 0, .slice none 0 0] 50 ?_; intro gb448 hg w6 hbox hb; have GW448 := bzw w hg; have GE448 := bzw w hg; replace HB := bsw hb; have BK448 := am hbox; have NB446_448 := nl BK446 hg; have NB448_446 := ng BK446 hg; replace BK446 := bb BK446 hb; have NB447_448 := nl BK447 hg; have NB448_447 := ng BK447 hg; replace BK447 := bb BK447 hb; clear hb hbox hg; have hnb7 := NB446_447.out; have hnc7 := NB447_446.out; have hnb8 := NB446_448.out; have hnc8 := NB448_446.out; obtain ⟨_, _, _, _, _, _⟩ := cc3 BK446; have hnb10 := NB448_447.out; have hnc10 := NB447_448.out; obtain ⟨_, _, _, _, _, _⟩ := cc3 BK448) | ((with_reducible refine gc 9 rfl ?_); refine gL (some 9) Tryz.func9 #[.slice A0_1 l0_1.length c0_1] ?_; (with_reducible refine (laws_toIntS.calls k _ _ l0_1 t449 _ ?side1 ?side2 A2.out).mono ?_); (case side1 => exact Kd.C_below HR0_1.out (sbw)); (case side2 => exact HC0_1.out); rintro e w12 ⟨v450, rfl, ho0, hb⟩; refine ⟨_, rfl, ?_⟩; have HO451 := am (Kd.R_lower ho0 (below_size (sbw))); replace BK446 := am (blk_below (g := gb446) (o := .cells #[.int .i64 a0_0, .slice A0_1 l0_1.length c0_1, .slice A0_2 l0_2.length c0_2] 159 (0, 0)) (sp BK446) hb); replace BK447 := am (blk_below (g := gb447) (o := .cells #[.int .i64 0, .slice none 0 0, .slice none 0 0] 50 (0, 0)) (sp BK447) hb); replace BK448 := am (blk_below (g := gb448) (o := .cells #[.int .i64 a0_0, .slice none 0 0, .slice none 0 0] 50 (0, 0)) (sp BK448) hb); replace HB := bsw hb; (try clear hb); (try clear hk); (try clear ho0); obtain ⟨Ao13, co13, eo13⟩ := Kd.R_slice HO451.out; subst eo13; obtain ⟨_, _, _, _, _, _⟩ := cc3 BK448; obtain ⟨_, _, _, _, _, _⟩ := cc3 BK446) | ((with_reducible refine gc 9 rfl ?_); refine gL (some 13) Tryz.func9 #[.slice A0_2 l0_2.length c0_2] ?_; (with_reducible refine (laws_toIntS.calls k _ _ l0_2 t452 _ ?side1 ?side2 A3.out).mono ?_); (case side1 => exact Kd.C_below HR0_2.out (sbw)); (case side2 => exact HC0_2.out); rintro e w16 ⟨v453, rfl, ho0, hb⟩; refine ⟨_, rfl, ?_⟩; have HO454 := am (Kd.R_lower (Kd.R_new' ho0 (Kd.R_lt a12_1)) (below_size (sbw))); replace HO451 := am (Kd.R_elder' a12_1 (Kd.R_base ho0) hb); replace BK446 := am (blk_below (g := gb446) (o := .cells #[.int .i64 a0_0, .slice A0_1 l0_1.length c0_1, .slice A0_2 l0_2.length c0_2] 159 (0, 0)) (sp BK446) hb); replace BK447 := am (blk_below (g := gb447) (o := .cells #[.int .i64 0, .slice none 0 0, .slice none 0 0] 50 (0, 0)) (sp BK447) hb); replace BK448 := am (blk_below (g := gb448) (o := .cells #[.int .i64 a0_0, .slice Ao13 t449.length co13, .slice none 0 0] 50 (0, 0)) (sp BK448) hb); replace HB := bsw hb; (try clear hb); (try clear hk); (try clear ho0); obtain ⟨Ao17, co17, eo17⟩ := Kd.R_slice HO454.out; subst eo17; obtain ⟨_, _, _, _, _, _⟩ := cc3 BK448; obtain ⟨_, _, _, _, _, _⟩ := cc3 BK447))
 refine bodyPost_ret (results_cell_row rfl _ _ gb447 50 #[.int .i64 a0_0, .slice Ao13 t449.length co13, .slice Ao17 t452.length co17] (0, 0) _ rfl (sp BK447) Tryz.underlying50 rfl (by kernel_rfl)) rfl ?_
 exact ⟨_, _, se, by (with_reducible repeat (first | apply Kd.R_alloc | apply Kd.R_drewN | apply Kd.R_drew)); exact Kd.R_mono (Kd.R_far (p := ⟨gb447, 2, none⟩) (Kd.R_far (p := ⟨gb447, 1, none⟩) (Kd.R_far (p := ⟨gb447, 0, none⟩) (Kd.R_far (p := ⟨gb448, 2, none⟩) (Kd.R_types (Kd.R_types HO451.out BK448.out (by decide)) BK447.out (by decide)) (fun _ hk => hk.1.2) (.slice Ao17 t452.length co17)) (fun _ hk => hk.2) (.int .i64 a0_0)) (fun _ hk => hk.2) (.slice Ao13 t449.length co13)) (fun _ hk => hk.2) (.slice Ao17 t452.length co17)) (fun _ hk => hk.1.1.2), by (with_reducible repeat (first | apply Kd.R_alloc | apply Kd.R_drewN | apply Kd.R_drew)); exact Kd.R_mono (Kd.R_far (p := ⟨gb447, 2, none⟩) (Kd.R_far (p := ⟨gb447, 1, none⟩) (Kd.R_far (p := ⟨gb447, 0, none⟩) (Kd.R_far (p := ⟨gb448, 2, none⟩) (Kd.R_types (Kd.R_types HO454.out BK448.out (by decide)) BK447.out (by decide)) (fun _ hk => hk.1.2) (.slice Ao17 t452.length co17)) (fun _ hk => hk.2) (.int .i64 a0_0)) (fun _ hk => hk.2) (.slice Ao13 t449.length co13)) (fun _ hk => hk.2) (.slice Ao17 t452.length co17)) (fun _ hk => hk.1.1.2), sbw⟩

def laws_toTableS.l0 : Nat → List (S159) → List (S50) → Int → Option ((List (S50)))
  | 0, _, _, _ => none
  | k + 1, x0, x3, x4 => if x4 < (x0.length : Int) then (if 0 ≤ x4 then ((laws_toTable.f k ((rd_T159 x0 x4).f0) ((rd_T159 x0 x4).f1) ((rd_T159 x0 x4).f2)).bind fun bt459 => (if x4 < (x3.length : Int) then (laws_toTableS.l0 k x0 (x3.set (x4 : Int).toNat (⟨bt459.1, bt459.2.1, bt459.2.2⟩ : S50)) (wrap64 (x4 + 1))) else (none))) else (none)) else (some x3)
def laws_toTableS.f (k : Nat) (l0 : List (S159)) : Option ((List (S50))) := if 0 ≤ (l0.length : Int) then (if ((l0.length : Int) : Int).toNat ≤ 5026338869833 then (laws_toTableS.l0 k l0 (List.replicate ((l0.length : Int) : Int).toNat z50) 0) else (none)) else (none)
theorem laws_toTableS.mono_l : ∀ k, (∀ y0 y1 y2, LeO (laws_toTableS.l0 k y0 y1 y2) (laws_toTableS.l0 (k + 1) y0 y1 y2))
  | 0 => fun _ _ _ r h => by simp [laws_toTableS.l0] at h
  | k + 1 => by
    have ih0 := laws_toTableS.mono_l k
    · intro y0 y1 y2
      unfold laws_toTableS.l0
      have m0 := @laws_toTable.mono
      exact mo
theorem laws_toTableS.mono : ∀ a0 k, LeO (laws_toTableS.f k a0) (laws_toTableS.f (k + 1) a0) := by
  intro a0 k
  have ih0 := laws_toTableS.mono_l k
  unfold laws_toTableS.f
  have m0 := @laws_toTable.mono
  exact mo
theorem laws_toTableS.calls (k : Nat) (A0 : Option Addr) (c0 : Nat) (l0 : List (S159)) (r : List (S50)) (w : World) (hr0 : Kd.C k159 w A0 l0.length l0) (hc0 : l0.length ≤ c0) (h : laws_toTableS.f k l0 = some r) :
    Calls Tryz.prog 105 #[.slice A0 l0.length c0] w fun e w' => ∃ v0_ : Value, e = .returned (v0_) ∧ Kd.S k50 50 w' w.heap.size (fun _ => True) v0_ r ∧ Below w.heap.size w w' := by
 have hu159 := Tryz.underlying159
 have hu50 := Tryz.underlying50
 have HR0 := am hr0
 have HC0 := am hc0
 clear hr0 hc0
 have HB := am (Below.refl w.heap.size w)
 have H := h; unfold laws_toTableS.f at H
 clear h
 obtain ⟨c2, H⟩ := ia_ H
 have c2b0 := eq_true c2
 have c2b1 := decide_eq_true c2
 clear c2
 obtain ⟨c3, H⟩ := ia_ H
 have c3b0 := eq_true c3
 have c3b1 := decide_eq_true c3
 clear c3
 obtain ⟨y455, hy455⟩ : ∃ y_ : List (S50), y_ = (List.replicate ((l0.length : Int) : Int).toNat z50) := ⟨_, rfl⟩
 replace H : (laws_toTableS.l0 k l0 y455 0) = some r := ry hy455 H
 have Ny455 := am hy455
 clear hy455
 have H' := am H
 clear H
 go_enter Tryz.func105, Tryz.ntmps105
 go_wp2_with (first | ((with_reducible refine gd 7 rfl ?_); refine Kd.S_make k50 _ 50 rfl (N := 7) rfl 74 _ _ rfl (l0.length : Int) rfl rfl Tryz.underlying74 (.agg #[(.int .i64 0), (.slice none 0 0), (.slice none 0 0)]) 56 info50 rfl (by decide) (by omega) z50 (ok := fun _ => True) (okp := fun _ => True) (k50_mkM _ _ _ z50 (Kd.R_nil _ _ _ _ _) (Kd.R_nil _ _ _ _ _)) (fun _ hk => hk) trivial (sa) (Nat.le_trans (Nat.mul_le_mul_right _ (sa : (l0.length : Int).toNat ≤ 5026338869833)) (by omega)) (Below.refl _ _) (Nat.le_refl _) ?_; intro v456 w4 ho5 hb hg_ hnew_; clear hg_ hnew_; (first | rw [← Ny455.out] at ho5 | (simp only [Int.reduceToNat] at ho5; rw [← Ny455.out] at ho5)); have HO457 := am (Kd.S_lower ho5 (below_size (sb))); replace HB := bs hb; clear hb ho5))
 go_loopg [4] k (fun kq v4 w' => ∃ (x3_1 : List (S50)) (x4_1 : Int), v4 = .int .i64 x4_1 ∧ Aside0 (laws_toTableS.l0 kq l0 x3_1 x4_1 = some r) ∧ Aside0 (kq ≤ k) ∧ Aside0 (Kd.S k50 50 w' w.heap.size (fun _ => True) v456 x3_1) ∧ Aside0 (Below w.heap.size w w'))
 case atStart => exact ⟨(y455), (0), sc, H', kk0, ⟨ss HO457⟩, ⟨sb⟩⟩
 case round =>
  clear H'
  try clear c2
  try clear c2b0
  try clear c2b1
  try clear c3
  try clear c3b0
  try clear c3b1
  obtain ⟨x3_1, x4_1, rfl, HA, HK1, HO_3, HB⟩ := hrel
  cases gk with
  | zero => exact absurd HA.out (by simp [laws_toTableS.l0])
  | succ k1 =>
   have H := HA.out
   clear HA
   simp only [laws_toTableS.l0] at H
   obtain ⟨-, c6b0, H⟩ | ⟨-, c6b0, H⟩ := ic_ H
   ·obtain ⟨c7b0, H⟩ := id_ H
    obtain ⟨⟨t459, t460, t463⟩, A8, H⟩ := bnd H
    try dsimp only at H
    obtain ⟨c9b0, H⟩ := id_ H
    obtain ⟨y466, hy466⟩ : ∃ y_ : List (S50), y_ = (x3_1.set (x4_1 : Int).toNat (⟨t459, t460, t463⟩ : S50)) := ⟨_, rfl⟩
    replace H : (laws_toTableS.l0 k1 l0 y466 (wrap64 (x4_1 + 1))) = some r := ry hy466 H
    have Ny466 := am hy466
    clear hy466
    have H' := am H
    clear H
    obtain ⟨p458, q458, ad458, A458_1, c458_1, A458_2, c458_2, e458, _, _, _, hx458_0, hx458_1, hx458_2, HC458_1, HR458_1, HC458_2, HR458_2⟩ := aT_T159 HR0 HB x4_1
    cases e458
    go_wp2_with (first | ((with_reducible refine gc 146 rfl ?_); refine gL (some 20) Tryz.func146 #[.agg #[.int .i64 ((rd_T159 l0 x4_1).f0), .slice A458_1 ((rd_T159 l0 x4_1).f1).length c458_1, .slice A458_2 ((rd_T159 l0 x4_1).f2).length c458_2]] ?_; (with_reducible refine (laws_toTable.calls k1 ((rd_T159 l0 x4_1).f0) _ _ ((rd_T159 l0 x4_1).f1) _ _ ((rd_T159 l0 x4_1).f2) t459 t460 t463 _ ?side1 ?side2 ?side3 ?side4 A8.out).mono ?_); (case side1 => exact cb HR458_1); (case side2 => exact HC458_1.out); (case side3 => exact cb HR458_2); (case side4 => exact HC458_2.out); rintro e w11 ⟨v461, v464, rfl, ho0, ho1, hb⟩; refine ⟨_, rfl, ?_⟩; replace HO_3 := am (Kd.S_mono (Kd.S_told (Kd.S_told (Kd.S_old (ss HO_3) hb) (Kd.R_base ho0)) (Kd.R_base ho1)) (fun _ h_ => h_.1)); have HO462 := am (Kd.R_lower ho0 (below_size (sb))); have HO465 := am (Kd.R_lower ho1 (below_size (sb))); replace HB := bs hb; (try clear hb); (try clear hk); (try clear ho0); (try clear ho1); have p10 : 0 ≤ (x4_1 : Int) := sa; have q10 : (x4_1 : Int) < ((x3_1.length : Int) : Int) := sa; obtain ⟨go10, co10, eo10, gb10, gl10, cl10, HG10⟩ := Kd.S_form HO_3.out (by omega); (first | cases eo10 | (injection eo10 with ea_ en_ ec_; (first | subst ea_ | (injection ea_ with ea_; subst ea_)); subst ec_; clear en_)); have GB10 := am gb10; have GG10 := am HG10; clear gb10 gl10 HG10; obtain ⟨_, ce10, hcl10, hM10, hcc10, hfr10, _, _⟩ := Kd.S_elem HO_3.out z50 (x4_1 : Int) p10 q10; obtain ⟨ve10_1, ve10_2, rfl, ge10_1, ge10_2⟩ := k50_openM hM10; have hx10_0 : w11.cell? ⟨go10, (x4_1 : Int).toNat * 3, none⟩ = some (.int .i64 ((rd_T50 x3_1 x4_1).f0)) := hcc10 0 _ rfl; have hx10_1 : w11.cell? ⟨go10, (x4_1 : Int).toNat * 3 + 1, none⟩ = some (ve10_1) := hcc10 1 _ rfl; have hx10_2 : w11.cell? ⟨go10, (x4_1 : Int).toNat * 3 + 2, none⟩ = some (ve10_2) := hcc10 2 _ rfl; have hf10_0 : w11.frozen? ⟨go10, (x4_1 : Int).toNat * 3, none⟩ = false := hfr10 0; have hf10_1 : w11.frozen? ⟨go10, (x4_1 : Int).toNat * 3 + 1, none⟩ = false := hfr10 1; have hf10_2 : w11.frozen? ⟨go10, (x4_1 : Int).toNat * 3 + 2, none⟩ = false := hfr10 2; (try clear hcl10); (try clear hcc10); (try clear hfr10); (try clear hM10); replace p10 := eq_true p10; replace q10 := eq_true q10; have n_ := am (Kd.S_mono (ok' := (fun k_ => some k_ ≠ (v461 : Value).ownBlock ∧ some k_ ≠ (v464 : Value).ownBlock)) HO_3.out (fun k_ hk => ⟨hk.1.2, hk.2⟩)); clear HO_3; have HO_3 := n_; clear n_; have HX12 := am (show Kd.S k50 50 w11 w.heap.size (fun k_ => ((fun _ => True)) k_ ∧ ¬ ((fun k_ => some k_ = (v461 : Value).ownBlock ∨ some k_ = (v464 : Value).ownBlock)) k_) (.slice (some ⟨go10, 0, none⟩) x3_1.length co10) x3_1 from (by (with_reducible repeat (first | apply Kd.S_alloc | apply Kd.S_drewN | apply Kd.S_drew)); exact Kd.S_mono HO_3.out (fun k_ hk => ⟨trivial, fun e_ => e_.elim (fun h_ => hk.1 h_) (fun h_ => hk.2 h_)⟩))); obtain ⟨oki12, ce12, hcl12, hM12, hcc12, hfr12, hoki12, hH12⟩ := Kd.S_elem HX12.out z50 (x4_1 : Int) (sa) a12_0; obtain ⟨ve12_1, ve12_2, rfl, ge12_1, ge12_2⟩ := k50_openM hM12; have HP12 := Kd.S_seg hH12 (sa) a12_0 (seg := [.int .i64 t459, v461, v464]) (j := 0) (show 3 ≤ 3 from by decide) (x' := (⟨t459, t460, t463⟩ : S50)) (k50_mkM _ _ _ (⟨t459, t460, t463⟩ : S50) (Kd.R_mono (Kd.R_tight rfl (Kd.R_mono (ok' := fun k_ => ((fun _ => True)) k_ ∧ k_ ≠ go10) (Kd.R_apart' (HO462.out) (Kd.S_typed HO_3.out) (by decide)) (fun k_ hk => ⟨trivial, fun e_ => (hk.2) (by rw [e_]; rfl)⟩))) (fun _ h_ => Or.inr (Or.inl h_))) (Kd.R_mono (Kd.R_tight rfl (Kd.R_mono (ok' := fun k_ => ((fun _ => True)) k_ ∧ k_ ≠ go10) (Kd.R_apart' (HO465.out) (Kd.S_typed HO_3.out) (by decide)) (fun k_ hk => ⟨trivial, fun e_ => (hk.2) (by rw [e_]; rfl)⟩))) (fun _ h_ => Or.inr (Or.inr (h_))))) (fun _ hk => hk) (fun k_ hk_ => hk_.elim (fun h_ => ((Kd.R_mono (ok' := fun k_ => ((fun _ => True)) k_ ∧ k_ ≠ go10) (Kd.R_apart' (HO462.out) (Kd.S_typed HO_3.out) (by decide)) (fun k_ hk => ⟨trivial, fun e_ => (hk.2) (by rw [e_]; rfl)⟩))).1 k_ h_.symm) (fun h_ => ((Kd.R_mono (ok' := fun k_ => ((fun _ => True)) k_ ∧ k_ ≠ go10) (Kd.R_apart' (HO465.out) (Kd.S_typed HO_3.out) (by decide)) (fun k_ hk => ⟨trivial, fun e_ => (hk.2) (by rw [e_]; rfl)⟩))).1 k_ h_.symm)); have hx12_0 := hcc12 0 _ rfl; (try simp only [show (k50).sz = 3 from rfl, Nat.mul_one, Nat.add_zero] at hx12_0); have hf12_0 := hfr12 0; (try simp only [show (k50).sz = 3 from rfl, Nat.mul_one, Nat.add_zero] at hf12_0); have hx12_1 := hcc12 1 _ rfl; (try simp only [show (k50).sz = 3 from rfl, Nat.mul_one, Nat.add_zero] at hx12_1); have hf12_1 := hfr12 1; (try simp only [show (k50).sz = 3 from rfl, Nat.mul_one, Nat.add_zero] at hf12_1); have hx12_2 := hcc12 2 _ rfl; (try simp only [show (k50).sz = 3 from rfl, Nat.mul_one, Nat.add_zero] at hx12_2); have hf12_2 := hfr12 2; (try simp only [show (k50).sz = 3 from rfl, Nat.mul_one, Nat.add_zero] at hf12_2); (try clear hcl12); (try clear hcc12); (try clear hfr12); (try clear hM12); (try clear hoki12); (try clear hH12)) | ((with_reducible refine gate_store (t := 50) (p := 21) rfl ?_); refine store_event (t := 50) (p := 21) (v := ?vo_w13) (w1 := (((w11.setCell ⟨go10, (x4_1 : Int).toNat * 3, none⟩ (.int .i64 t459)).setCell ⟨go10, (x4_1 : Int).toNat * 3 + 1, none⟩ (v461)).setCell ⟨go10, (x4_1 : Int).toNat * 3 + 2, none⟩ (v464))) ?hg ?ho ?hn ?hr ?_; (case ho => rfl); (case hg => rfl); (case hn => rfl); (case hr => (first | (obtain ⟨Av461_, cv461_, ev461_⟩ := slice_of (v := v461) (by assumption); subst ev461_) | (obtain ⟨Av461_, cv461_, ev461_⟩ := Kd.R_slice (v := v461) (Kd.S_R (Aside0.out (by assumption))); subst ev461_)); (first | (obtain ⟨Av464_, cv464_, ev464_⟩ := slice_of (v := v464) (by assumption); subst ev464_) | (obtain ⟨Av464_, cv464_, ev464_⟩ := Kd.R_slice (v := v464) (Kd.S_R (Aside0.out (by assumption))); subst ev464_)); first | (go_simp; done) | (go_simp; rfl)); intro w13 hw; have hg : w11.grownBy w13 (some go10) := (by rw [hw]; exact HP12.2); have hp_ : Kd.S k50 50 w13 w.heap.size (fun _ => True) (.slice (some ⟨go10, 0, none⟩) x3_1.length co10) y466 := (by rw [hw, Ny466.out]; exact HP12.1); clear HP12; replace HO_3 := am hp_; replace HB := am ((by rw [hw]; exact below_set (below_set (below_set (HB.out) GB10.out) GB10.out) GB10.out : Below w.heap.size w w13)); clear HO462 HO465; clear hg hw hp_))
    go_roundg k1
    case measure => have := HK1.out; omega
    case rel => exact ⟨(y466), (wrap64 (x4_1 + 1)), sc, H', kk1, ⟨ss HO_3⟩, ⟨sb⟩⟩
   ·obtain rfl := Option.some.inj H
    go_wp2
    go_ret
    exact ⟨_, se, ss HO_3, sb⟩

def laws_toPiece.f (k : Nat) (a0_0 : Int) (a0_1 : Int) (l0_2 : List (S161)) (l0_3 : List (S159)) : Option (Int × Int × (List (S90)) × (List (S50))) := (laws_toSpan.f a0_0 a0_1).bind fun bt470 => ((laws_toLinkS.f k l0_2).bind fun t472 => ((laws_toTableS.f k l0_3).bind fun t475 => (some (bt470.1, bt470.2, t472, t475))))
theorem laws_toPiece.mono : ∀ a0 a1 a2 a3 k, LeO (laws_toPiece.f k a0 a1 a2 a3) (laws_toPiece.f (k + 1) a0 a1 a2 a3) := by
  intro a0 a1 a2 a3 k
  unfold laws_toPiece.f
  have m0 := @laws_toLinkS.mono
  have m1 := @laws_toTableS.mono
  exact mo
theorem laws_toPiece.calls (k : Nat) (a0_0 : Int) (a0_1 : Int) (A0_2 : Option Addr) (c0_2 : Nat) (l0_2 : List (S161)) (A0_3 : Option Addr) (c0_3 : Nat) (l0_3 : List (S159)) (r1 : Int) (r2 : Int) (r3 : List (S90)) (r4 : List (S50)) (w : World) (hr0_2 : Kd.C k161 w A0_2 l0_2.length l0_2) (hc0_2 : l0_2.length ≤ c0_2) (hr0_3 : Kd.C k159 w A0_3 l0_3.length l0_3) (hc0_3 : l0_3.length ≤ c0_3) (h : laws_toPiece.f k a0_0 a0_1 l0_2 l0_3 = some (r1, r2, r3, r4)) :
    Calls Tryz.prog 68 #[.agg #[.int .i64 a0_0, .int .i64 a0_1, .slice A0_2 l0_2.length c0_2, .slice A0_3 l0_3.length c0_3]] w fun e w' => ∃ v2_ v3_ : Value, e = .returned (.agg #[.int .i64 r1, .int .i64 r2, v2_, v3_]) ∧ Kd.R k90 90 w' w.heap.size (fun _ => True) v2_ r3 ∧ Kd.S k50 50 w' w.heap.size (fun _ => True) v3_ r4 ∧ Below w.heap.size w w' := by
 have hu97 := Tryz.underlying97
 have hu76 := Tryz.underlying76
 have hu93 := Tryz.underlying93
 have hu73 := Tryz.underlying73
 have HR0_2 := am hr0_2
 have HC0_2 := am hc0_2
 clear hr0_2 hc0_2
 have HR0_3 := am hr0_3
 have HC0_3 := am hc0_3
 clear hr0_3 hc0_3
 have HB := am (Below.refl w.heap.size w)
 have H := h; unfold laws_toPiece.f at H
 clear h
 obtain ⟨⟨t470, t471⟩, A2, H⟩ := bnd H
 try dsimp only at H
 obtain ⟨t472, A3, H⟩ := bnd H
 obtain ⟨t475, A4, H⟩ := bnd H
 simp only [Option.some.injEq, Prod.mk.injEq] at H
 obtain ⟨rfl, rfl, rfl, rfl⟩ := H
 go_enter Tryz.func68, Tryz.ntmps68
 go_wp2_with (first | ((with_reducible refine gd 1 rfl ?_); refine bx 1 #[.int .i64 a0_0, .int .i64 a0_1, .slice A0_2 l0_2.length c0_2, .slice A0_3 l0_3.length c0_3] 97 ?_; intro gb467 hg w5 hbox hb; have GW467 := bz w hg; have GE467 := bz w hg; replace HB := bs hb; have BK467 := am hbox; clear hb hbox hg) | ((with_reducible refine gd 2 rfl ?_); refine bx 2 #[.int .i64 0, .int .i64 0, .slice none 0 0, .slice none 0 0] 76 ?_; intro gb468 hg w6 hbox hb; have GW468 := bzw w hg; have GE468 := bzw w hg; replace HB := bsw hb; have BK468 := am hbox; have NB467_468 := nl BK467 hg; have NB468_467 := ng BK467 hg; replace BK467 := bb BK467 hb; clear hb hbox hg) | ((with_reducible refine gd 3 rfl ?_); refine bx 3 #[.int .i64 0, .int .i64 0, .slice none 0 0, .slice none 0 0] 76 ?_; intro gb469 hg w7 hbox hb; have GW469 := bzw w hg; have GE469 := bzw w hg; replace HB := bsw hb; have BK469 := am hbox; have NB467_469 := nl BK467 hg; have NB469_467 := ng BK467 hg; replace BK467 := bb BK467 hb; have NB468_469 := nl BK468 hg; have NB469_468 := ng BK468 hg; replace BK468 := bb BK468 hb; clear hb hbox hg; have hnb8 := NB467_468.out; have hnc8 := NB468_467.out; have hnb9 := NB467_469.out; have hnc9 := NB469_467.out; obtain ⟨_, _, _, _, _, _, _, _⟩ := cc4 BK467) | ((with_reducible refine gc 103 rfl ?_); refine gL (some 6) Tryz.func103 #[.agg #[.int .i64 a0_0, .int .i64 a0_1]] ?_; (with_reducible refine (laws_toSpan.calls a0_0 a0_1 t470 t471 _ A2.out).mono ?_); rintro e w11 ⟨rfl, hb⟩; refine ⟨_, rfl, ?_⟩; replace BK467 := bb BK467 hb; replace BK468 := bb BK468 hb; replace BK469 := bb BK469 hb; replace HB := bsw hb; (try clear hb); (try clear hk); have hnb12 := NB469_468.out; have hnc12 := NB468_469.out; obtain ⟨_, _, _, _, _, _, _, _⟩ := cc4 BK469; obtain ⟨_, _, _, _, _, _, _, _⟩ := cc4 BK467) | ((with_reducible refine gc 104 rfl ?_); refine gL (some 10) Tryz.func104 #[.slice A0_2 l0_2.length c0_2] ?_; (with_reducible refine (laws_toLinkS.calls k _ _ l0_2 t472 _ ?side1 ?side2 A3.out).mono ?_); (case side1 => exact Kd.C_below HR0_2.out (sbw)); (case side2 => exact HC0_2.out); rintro e w15 ⟨v473, rfl, ho0, hb⟩; refine ⟨_, rfl, ?_⟩; have HO474 := am (Kd.R_lower ho0 (below_size (sbw))); replace BK467 := am (blk_below (g := gb467) (o := .cells #[.int .i64 a0_0, .int .i64 a0_1, .slice A0_2 l0_2.length c0_2, .slice A0_3 l0_3.length c0_3] 97 (0, 0)) (sp BK467) hb); replace BK468 := am (blk_below (g := gb468) (o := .cells #[.int .i64 0, .int .i64 0, .slice none 0 0, .slice none 0 0] 76 (0, 0)) (sp BK468) hb); replace BK469 := am (blk_below (g := gb469) (o := .cells #[.int .i64 t470, .int .i64 t471, .slice none 0 0, .slice none 0 0] 76 (0, 0)) (sp BK469) hb); replace HB := bsw hb; (try clear hb); (try clear hk); (try clear ho0); obtain ⟨Ao16, co16, eo16⟩ := Kd.R_slice HO474.out; subst eo16; obtain ⟨_, _, _, _, _, _, _, _⟩ := cc4 BK469; obtain ⟨_, _, _, _, _, _, _, _⟩ := cc4 BK467) | ((with_reducible refine gc 105 rfl ?_); refine gL (some 14) Tryz.func105 #[.slice A0_3 l0_3.length c0_3] ?_; (with_reducible refine (laws_toTableS.calls k _ _ l0_3 t475 _ ?side1 ?side2 A4.out).mono ?_); (case side1 => exact Kd.C_below HR0_3.out (sbw)); (case side2 => exact HC0_3.out); rintro e w19 ⟨v476, rfl, ho0, hb⟩; refine ⟨_, rfl, ?_⟩; replace HO474 := am (Kd.R_below (by (with_reducible repeat (first | apply Kd.R_alloc | apply Kd.R_drewN | apply Kd.R_drew)); exact (Kd.R_mono (Kd.R_far (p := ⟨gb469, 2, none⟩) (Kd.R_types HO474.out BK469.out (by decide)) (fun _ hk => hk.2) (.slice Ao16 t472.length co16)) (fun _ h_ => h_.1))) hb); have HO477 := am (Kd.S_lower ho0 (below_size (sbw))); replace BK467 := am (blk_below (g := gb467) (o := .cells #[.int .i64 a0_0, .int .i64 a0_1, .slice A0_2 l0_2.length c0_2, .slice A0_3 l0_3.length c0_3] 97 (0, 0)) (sp BK467) hb); replace BK468 := am (blk_below (g := gb468) (o := .cells #[.int .i64 0, .int .i64 0, .slice none 0 0, .slice none 0 0] 76 (0, 0)) (sp BK468) hb); replace BK469 := am (blk_below (g := gb469) (o := .cells #[.int .i64 t470, .int .i64 t471, .slice Ao16 t472.length co16, .slice none 0 0] 76 (0, 0)) (sp BK469) hb); replace HB := bsw hb; (try clear hb); (try clear hk); (try clear ho0); obtain ⟨Ao20, co20, eo20⟩ := Kd.S_slice HO477.out; subst eo20; obtain ⟨_, _, _, _, _, _, _, _⟩ := cc4 BK469; obtain ⟨_, _, _, _, _, _, _, _⟩ := cc4 BK468))
 refine bodyPost_ret (results_cell_row rfl _ _ gb468 76 #[.int .i64 t470, .int .i64 t471, .slice Ao16 t472.length co16, .slice Ao20 t475.length co20] (0, 0) _ rfl (sp BK468) Tryz.underlying76 rfl (by kernel_rfl)) rfl ?_
 exact ⟨_, _, se, by (with_reducible repeat (first | apply Kd.R_alloc | apply Kd.R_drewN | apply Kd.R_drew)); exact Kd.R_mono (Kd.R_far (p := ⟨gb468, 3, none⟩) (Kd.R_far (p := ⟨gb468, 2, none⟩) (Kd.R_far (p := ⟨gb468, 1, none⟩) (Kd.R_far (p := ⟨gb468, 0, none⟩) (Kd.R_far (p := ⟨gb469, 3, none⟩) (Kd.R_types (Kd.R_types HO474.out BK469.out (by decide)) BK468.out (by decide)) (fun _ hk => hk.1.2) (.slice Ao20 t475.length co20)) (fun _ hk => hk.2) (.int .i64 t470)) (fun _ hk => hk.2) (.int .i64 t471)) (fun _ hk => hk.2) (.slice Ao16 t472.length co16)) (fun _ hk => hk.2) (.slice Ao20 t475.length co20)) (fun _ hk => trivial), by (with_reducible repeat (first | apply Kd.S_alloc | apply Kd.S_drewN | apply Kd.S_drew)); exact Kd.S_mono (Kd.S_far (p := ⟨gb468, 3, none⟩) (Kd.S_far (p := ⟨gb468, 2, none⟩) (Kd.S_far (p := ⟨gb468, 1, none⟩) (Kd.S_far (p := ⟨gb468, 0, none⟩) (Kd.S_far (p := ⟨gb469, 3, none⟩) (Kd.S_types (Kd.S_types HO477.out BK469.out (by decide)) BK468.out (by decide)) (fun _ hk => hk.1.2) (.slice Ao20 t475.length co20)) (fun _ hk => hk.2) (.int .i64 t470)) (fun _ hk => hk.2) (.int .i64 t471)) (fun _ hk => hk.2) (.slice Ao16 t472.length co16)) (fun _ hk => hk.2) (.slice Ao20 t475.length co20)) (fun _ hk => trivial), sbw⟩

def laws_toPieceS.l0 : Nat → List (S97) → List (S76) → Int → Option ((List (S76)))
  | 0, _, _, _ => none
  | k + 1, x0, x3, x4 => if x4 < (x0.length : Int) then (if 0 ≤ x4 then ((laws_toPiece.f k ((rd_T97 x0 x4).f0.f0) ((rd_T97 x0 x4).f0.f1) ((rd_T97 x0 x4).f1) ((rd_T97 x0 x4).f2)).bind fun bt482 => (if x4 < (x3.length : Int) then (laws_toPieceS.l0 k x0 (x3.set (x4 : Int).toNat (⟨(⟨bt482.1, bt482.2.1⟩ : S73), bt482.2.2.1, bt482.2.2.2⟩ : S76)) (wrap64 (x4 + 1))) else (none))) else (none)) else (some x3)
def laws_toPieceS.f (k : Nat) (l0 : List (S97)) : Option ((List (S76))) := if 0 ≤ (l0.length : Int) then (if ((l0.length : Int) : Int).toNat ≤ 4398046511104 then (laws_toPieceS.l0 k l0 (List.replicate ((l0.length : Int) : Int).toNat z76) 0) else (none)) else (none)
theorem laws_toPieceS.mono_l : ∀ k, (∀ y0 y1 y2, LeO (laws_toPieceS.l0 k y0 y1 y2) (laws_toPieceS.l0 (k + 1) y0 y1 y2))
  | 0 => fun _ _ _ r h => by simp [laws_toPieceS.l0] at h
  | k + 1 => by
    have ih0 := laws_toPieceS.mono_l k
    · intro y0 y1 y2
      unfold laws_toPieceS.l0
      have m0 := @laws_toPiece.mono
      exact mo
theorem laws_toPieceS.mono : ∀ a0 k, LeO (laws_toPieceS.f k a0) (laws_toPieceS.f (k + 1) a0) := by
  intro a0 k
  have ih0 := laws_toPieceS.mono_l k
  unfold laws_toPieceS.f
  have m0 := @laws_toPiece.mono
  exact mo
theorem laws_toPieceS.calls (k : Nat) (A0 : Option Addr) (c0 : Nat) (l0 : List (S97)) (r : List (S76)) (w : World) (hr0 : Kd.C k97 w A0 l0.length l0) (hc0 : l0.length ≤ c0) (h : laws_toPieceS.f k l0 = some r) :
    Calls Tryz.prog 33 #[.slice A0 l0.length c0] w fun e w' => ∃ v0_ : Value, e = .returned (v0_) ∧ Kd.R k76 76 w' w.heap.size (fun _ => True) v0_ r ∧ Below w.heap.size w w' := by
 have hu97 := Tryz.underlying97
 have hu76 := Tryz.underlying76
 have HR0 := am hr0
 have HC0 := am hc0
 clear hr0 hc0
 have HB := am (Below.refl w.heap.size w)
 have H := h; unfold laws_toPieceS.f at H
 clear h
 obtain ⟨c2, H⟩ := ia_ H
 have c2b0 := eq_true c2
 have c2b1 := decide_eq_true c2
 clear c2
 obtain ⟨c3, H⟩ := ia_ H
 have c3b0 := eq_true c3
 have c3b1 := decide_eq_true c3
 clear c3
 obtain ⟨y478, hy478⟩ : ∃ y_ : List (S76), y_ = (List.replicate ((l0.length : Int) : Int).toNat z76) := ⟨_, rfl⟩
 replace H : (laws_toPieceS.l0 k l0 y478 0) = some r := ry hy478 H
 have Ny478 := am hy478
 clear hy478
 have H' := am H
 clear H
 go_enter Tryz.func33, Tryz.ntmps33
 go_wp2_with (first | ((with_reducible refine gd 7 rfl ?_); refine Kd.R_make k76 _ 76 rfl (N := 7) rfl 30 _ _ rfl (l0.length : Int) rfl rfl Tryz.underlying30 (.agg #[(.int .i64 0), (.int .i64 0), (.slice none 0 0), (.slice none 0 0)]) 64 info76 rfl (by decide) (by omega) z76 (ok := fun _ => True) (okp := fun _ => True) (k76_mkM _ _ _ z76 (Kd.R_nil _ _ _ _ _) (Kd.R_nil _ _ _ _ _)) (fun _ hk => hk) trivial (sa) (Nat.le_trans (Nat.mul_le_mul_right _ (sa : (l0.length : Int).toNat ≤ 4398046511104)) (by omega)) (Below.refl _ _) (Nat.le_refl _) ?_; intro v479 w4 ho5 hb hg_ hnew_; clear hg_ hnew_; (first | rw [← Ny478.out] at ho5 | (simp only [Int.reduceToNat] at ho5; rw [← Ny478.out] at ho5)); have HO480 := am (Kd.R_lower ho5 (below_size (sb))); replace HB := bs hb; clear hb ho5))
 go_loopg [4] k (fun kq v4 w' => ∃ (x3_1 : List (S76)) (x4_1 : Int), v4 = .int .i64 x4_1 ∧ Aside0 (laws_toPieceS.l0 kq l0 x3_1 x4_1 = some r) ∧ Aside0 (kq ≤ k) ∧ Aside0 (Kd.R k76 76 w' w.heap.size (fun _ => True) v479 x3_1) ∧ Aside0 (Below w.heap.size w w'))
 case atStart => exact ⟨(y478), (0), sc, H', kk0, ⟨sr HO480⟩, ⟨sb⟩⟩
 case round =>
  clear H'
  try clear c2
  try clear c2b0
  try clear c2b1
  try clear c3
  try clear c3b0
  try clear c3b1
  obtain ⟨x3_1, x4_1, rfl, HA, HK1, HO_3, HB⟩ := hrel
  cases gk with
  | zero => exact absurd HA.out (by simp [laws_toPieceS.l0])
  | succ k1 =>
   have H := HA.out
   clear HA
   simp only [laws_toPieceS.l0] at H
   obtain ⟨-, c6b0, H⟩ | ⟨-, c6b0, H⟩ := ic_ H
   ·obtain ⟨c7b0, H⟩ := id_ H
    obtain ⟨⟨t482, t483, t484, t487⟩, A8, H⟩ := bnd H
    try dsimp only at H
    obtain ⟨c9b0, H⟩ := id_ H
    obtain ⟨y490, hy490⟩ : ∃ y_ : List (S76), y_ = (x3_1.set (x4_1 : Int).toNat (⟨(⟨t482, t483⟩ : S73), t484, t487⟩ : S76)) := ⟨_, rfl⟩
    replace H : (laws_toPieceS.l0 k1 l0 y490 (wrap64 (x4_1 + 1))) = some r := ry hy490 H
    have Ny490 := am hy490
    clear hy490
    have H' := am H
    clear H
    obtain ⟨p481, q481, ad481, A481_2, c481_2, A481_3, c481_3, e481, _, _, _, _, hx481_0, hx481_1, hx481_2, hx481_3, HC481_2, HR481_2, HC481_3, HR481_3⟩ := aT_T97 HR0 HB x4_1
    cases e481
    go_wp2_with (first | ((with_reducible refine gc 68 rfl ?_); refine gL (some 20) Tryz.func68 #[.agg #[.int .i64 ((rd_T97 l0 x4_1).f0.f0), .int .i64 ((rd_T97 l0 x4_1).f0.f1), .slice A481_2 ((rd_T97 l0 x4_1).f1).length c481_2, .slice A481_3 ((rd_T97 l0 x4_1).f2).length c481_3]] ?_; (with_reducible refine (laws_toPiece.calls k1 ((rd_T97 l0 x4_1).f0.f0) ((rd_T97 l0 x4_1).f0.f1) _ _ ((rd_T97 l0 x4_1).f1) _ _ ((rd_T97 l0 x4_1).f2) t482 t483 t484 t487 _ ?side1 ?side2 ?side3 ?side4 A8.out).mono ?_); (case side1 => exact cb HR481_2); (case side2 => exact HC481_2.out); (case side3 => exact cb HR481_3); (case side4 => exact HC481_3.out); rintro e w11 ⟨v485, v488, rfl, ho0, ho1, hb⟩; refine ⟨_, rfl, ?_⟩; replace HO_3 := am (Kd.R_mono (Kd.R_told (Kd.R_told (Kd.R_old (sr HO_3) hb) (Kd.R_base ho0)) (Kd.S_base ho1)) (fun _ h_ => h_.1)); have HO486 := am (Kd.R_lower ho0 (below_size (sb))); have HO489 := am (Kd.S_lower ho1 (below_size (sb))); replace HB := bs hb; (try clear hb); (try clear hk); (try clear ho0); (try clear ho1); have p10 : 0 ≤ (x4_1 : Int) := sa; have q10 : (x4_1 : Int) < ((x3_1.length : Int) : Int) := sa; obtain ⟨go10, co10, eo10, gb10, gl10, cl10, HG10⟩ := Kd.R_form HO_3.out (by omega); (first | cases eo10 | (injection eo10 with ea_ en_ ec_; (first | subst ea_ | (injection ea_ with ea_; subst ea_)); subst ec_; clear en_)); have GB10 := am gb10; have GG10 := am HG10; clear gb10 gl10 HG10; obtain ⟨ce10, hcl10, hM10, hcc10, hfr10⟩ := Kd.R_elem HO_3.out z76 (x4_1 : Int) p10 q10; obtain ⟨ve10_2, ve10_3, rfl, ge10_2, ge10_3⟩ := k76_openM hM10; have hx10_0 : w11.cell? ⟨go10, (x4_1 : Int).toNat * 4, none⟩ = some (.int .i64 ((rd_T76 x3_1 x4_1).f0.f0)) := hcc10 0 _ rfl; have hx10_1 : w11.cell? ⟨go10, (x4_1 : Int).toNat * 4 + 1, none⟩ = some (.int .i64 ((rd_T76 x3_1 x4_1).f0.f1)) := hcc10 1 _ rfl; have hx10_2 : w11.cell? ⟨go10, (x4_1 : Int).toNat * 4 + 2, none⟩ = some (ve10_2) := hcc10 2 _ rfl; have hx10_3 : w11.cell? ⟨go10, (x4_1 : Int).toNat * 4 + 3, none⟩ = some (ve10_3) := hcc10 3 _ rfl; have hf10_0 : w11.frozen? ⟨go10, (x4_1 : Int).toNat * 4, none⟩ = false := hfr10 0; have hf10_1 : w11.frozen? ⟨go10, (x4_1 : Int).toNat * 4 + 1, none⟩ = false := hfr10 1; have hf10_2 : w11.frozen? ⟨go10, (x4_1 : Int).toNat * 4 + 2, none⟩ = false := hfr10 2; have hf10_3 : w11.frozen? ⟨go10, (x4_1 : Int).toNat * 4 + 3, none⟩ = false := hfr10 3; (try clear hcl10); (try clear hcc10); (try clear hfr10); (try clear hM10); replace p10 := eq_true p10; replace q10 := eq_true q10; have n_ := am (Kd.R_mono (ok' := (fun k_ => some k_ ≠ (v485 : Value).ownBlock ∧ some k_ ≠ (v488 : Value).ownBlock)) HO_3.out (fun k_ hk => ⟨hk.1.2, hk.2⟩)); clear HO_3; have HO_3 := n_; clear n_; have HX12 := am (show Kd.R k76 76 w11 w.heap.size (fun _ => True) (.slice (some ⟨go10, 0, none⟩) x3_1.length co10) x3_1 from (by exact rm HO_3 (fun _ hk => trivial))); obtain ⟨ce12, hcl12, hM12, hcc12, hfr12⟩ := Kd.R_elem HX12.out z76 (x4_1 : Int) (sa) a12_2; obtain ⟨ve12_2, ve12_3, rfl, ge12_2, ge12_3⟩ := k76_openM hM12; have HP12 := Kd.R_seg HX12.out (x4_1 : Int) (sa) a12_2 (seg := [.int .i64 t482, .int .i64 t483, v485, v488]) (j := 0) hcl12 hcc12 (show 4 ≤ 4 from by decide) (x' := (⟨(⟨t482, t483⟩ : S73), t484, t487⟩ : S76)) (k76_mkM _ _ _ (⟨(⟨t482, t483⟩ : S73), t484, t487⟩ : S76) (Kd.R_mono (Kd.R_apart' (HO486.out) (Kd.R_typed HO_3.out) (by decide)) (fun k_ hk => ⟨trivial, fun e_ => (hk.2) (by rw [e_]; rfl)⟩)) (Kd.R_mono (Kd.R_apart' ((Kd.S_R HO489.out)) (Kd.R_typed HO_3.out) (by decide)) (fun k_ hk => ⟨trivial, fun e_ => (hk.2) (by rw [e_]; rfl)⟩))) (fun _ hk => hk); have hx12_0 := hcc12 0 _ rfl; (try simp only [show (k76).sz = 4 from rfl, Nat.mul_one, Nat.add_zero] at hx12_0); have hf12_0 := hfr12 0; (try simp only [show (k76).sz = 4 from rfl, Nat.mul_one, Nat.add_zero] at hf12_0); have hx12_1 := hcc12 1 _ rfl; (try simp only [show (k76).sz = 4 from rfl, Nat.mul_one, Nat.add_zero] at hx12_1); have hf12_1 := hfr12 1; (try simp only [show (k76).sz = 4 from rfl, Nat.mul_one, Nat.add_zero] at hf12_1); have hx12_2 := hcc12 2 _ rfl; (try simp only [show (k76).sz = 4 from rfl, Nat.mul_one, Nat.add_zero] at hx12_2); have hf12_2 := hfr12 2; (try simp only [show (k76).sz = 4 from rfl, Nat.mul_one, Nat.add_zero] at hf12_2); have hx12_3 := hcc12 3 _ rfl; (try simp only [show (k76).sz = 4 from rfl, Nat.mul_one, Nat.add_zero] at hx12_3); have hf12_3 := hfr12 3; (try simp only [show (k76).sz = 4 from rfl, Nat.mul_one, Nat.add_zero] at hf12_3); (try clear hcl12); (try clear hcc12); (try clear hfr12); (try clear hM12)) | ((with_reducible refine gate_store (t := 76) (p := 21) rfl ?_); refine store_event (t := 76) (p := 21) (v := ?vo_w13) (w1 := ((((w11.setCell ⟨go10, (x4_1 : Int).toNat * 4, none⟩ (.int .i64 t482)).setCell ⟨go10, (x4_1 : Int).toNat * 4 + 1, none⟩ (.int .i64 t483)).setCell ⟨go10, (x4_1 : Int).toNat * 4 + 2, none⟩ (v485)).setCell ⟨go10, (x4_1 : Int).toNat * 4 + 3, none⟩ (v488))) ?hg ?ho ?hn ?hr ?_; (case ho => rfl); (case hg => rfl); (case hn => rfl); (case hr => (first | (obtain ⟨Av485_, cv485_, ev485_⟩ := slice_of (v := v485) (by assumption); subst ev485_) | (obtain ⟨Av485_, cv485_, ev485_⟩ := Kd.R_slice (v := v485) (Kd.S_R (Aside0.out (by assumption))); subst ev485_)); (first | (obtain ⟨Av488_, cv488_, ev488_⟩ := slice_of (v := v488) (by assumption); subst ev488_) | (obtain ⟨Av488_, cv488_, ev488_⟩ := Kd.R_slice (v := v488) (Kd.S_R (Aside0.out (by assumption))); subst ev488_)); first | (go_simp; done) | (go_simp; rfl)); intro w13 hw; have hg : w11.grownBy w13 (some go10) := (by rw [hw]; exact HP12.2); have hp_ : Kd.R k76 76 w13 w.heap.size (fun _ => True) (.slice (some ⟨go10, 0, none⟩) x3_1.length co10) y490 := (by rw [hw, Ny490.out]; exact HP12.1); clear HP12; replace HO_3 := am hp_; replace HB := am ((by rw [hw]; exact below_set (below_set (below_set (below_set (HB.out) GB10.out) GB10.out) GB10.out) GB10.out : Below w.heap.size w w13)); clear HO486 HO489; clear hg hw hp_))
    go_roundg k1
    case measure => have := HK1.out; omega
    case rel => exact ⟨(y490), (wrap64 (x4_1 + 1)), sc, H', kk1, ⟨sr HO_3⟩, ⟨sb⟩⟩
   ·obtain rfl := Option.some.inj H
    go_wp2
    go_ret
    exact ⟨_, se, sr HO_3, sb⟩

def laws_toProgram.f (k : Nat) (a0_0 : Int) (a0_1 : Int) (a0_2 : Int) (l0_3 : List (S97)) : Option (Int × Int × Int × (List (S76))) := (laws_toPieceS.f k l0_3).bind fun t494 => (some (a0_0, a0_1, a0_2, t494))
theorem laws_toProgram.mono : ∀ a0 a1 a2 a3 k, LeO (laws_toProgram.f k a0 a1 a2 a3) (laws_toProgram.f (k + 1) a0 a1 a2 a3) := by
  intro a0 a1 a2 a3 k
  unfold laws_toProgram.f
  have m0 := @laws_toPieceS.mono
  exact mo
theorem laws_toProgram.calls (k : Nat) (a0_0 : Int) (a0_1 : Int) (a0_2 : Int) (A0_3 : Option Addr) (c0_3 : Nat) (l0_3 : List (S97)) (r1 : Int) (r2 : Int) (r3 : Int) (r4 : List (S76)) (w : World) (hr0_3 : Kd.C k97 w A0_3 l0_3.length l0_3) (hc0_3 : l0_3.length ≤ c0_3) (h : laws_toProgram.f k a0_0 a0_1 a0_2 l0_3 = some (r1, r2, r3, r4)) :
    Calls Tryz.prog 8 #[.agg #[.int .i64 a0_0, .int .i64 a0_1, .int .i64 a0_2, .slice A0_3 l0_3.length c0_3]] w fun e w' => ∃ v3_ : Value, e = .returned (.agg #[.int .i64 r1, .int .i64 r2, .int .i64 r3, v3_]) ∧ Kd.R k76 76 w' w.heap.size (fun _ => True) v3_ r4 ∧ Below w.heap.size w w' := by
 have hu24 := Tryz.underlying24
 have hu32 := Tryz.underlying32
 have HR0_3 := am hr0_3
 have HC0_3 := am hc0_3
 clear hr0_3 hc0_3
 have HB := am (Below.refl w.heap.size w)
 have H := h; unfold laws_toProgram.f at H
 clear h
 obtain ⟨t494, A2, H⟩ := bnd H
 simp only [Option.some.injEq, Prod.mk.injEq] at H
 obtain ⟨rfl, rfl, rfl, rfl⟩ := H
 go_enter Tryz.func8, Tryz.ntmps8
 go_wp2_with (first | ((with_reducible refine gd 1 rfl ?_); refine bx 1 #[.int .i64 a0_0, .int .i64 a0_1, .int .i64 a0_2, .slice A0_3 l0_3.length c0_3] 24 ?_; intro gb491 hg w3 hbox hb; have GW491 := bz w hg; have GE491 := bz w hg; replace HB := bs hb; have BK491 := am hbox; clear hb hbox hg) | ((with_reducible refine gd 2 rfl ?_); refine bx 2 #[.int .i64 0, .int .i64 0, .int .i64 0, .slice none 0 0] 32 ?_; intro gb492 hg w4 hbox hb; have GW492 := bzw w hg; have GE492 := bzw w hg; replace HB := bsw hb; have BK492 := am hbox; have NB491_492 := nl BK491 hg; have NB492_491 := ng BK491 hg; replace BK491 := bb BK491 hb; clear hb hbox hg) | ((with_reducible refine gd 3 rfl ?_); refine bx 3 #[.int .i64 0, .int .i64 0, .int .i64 0, .slice none 0 0] 32 ?_; intro gb493 hg w5 hbox hb; have GW493 := bzw w hg; have GE493 := bzw w hg; replace HB := bsw hb; have BK493 := am hbox; have NB491_493 := nl BK491 hg; have NB493_491 := ng BK491 hg; replace BK491 := bb BK491 hb; have NB492_493 := nl BK492 hg; have NB493_492 := ng BK492 hg; replace BK492 := bb BK492 hb; clear hb hbox hg; have hnb6 := NB491_492.out; have hnc6 := NB492_491.out; have hnb7 := NB491_493.out; have hnc7 := NB493_491.out; obtain ⟨_, _, _, _, _, _, _, _⟩ := cc4 BK491; have hnb9 := NB493_492.out; have hnc9 := NB492_493.out; obtain ⟨_, _, _, _, _, _, _, _⟩ := cc4 BK493) | ((with_reducible refine gc 33 rfl ?_); refine gL (some 15) Tryz.func33 #[.slice A0_3 l0_3.length c0_3] ?_; (with_reducible refine (laws_toPieceS.calls k _ _ l0_3 t494 _ ?side1 ?side2 A2.out).mono ?_); (case side1 => exact Kd.C_below HR0_3.out (sbw)); (case side2 => exact HC0_3.out); rintro e w11 ⟨v495, rfl, ho0, hb⟩; refine ⟨_, rfl, ?_⟩; have HO496 := am (Kd.R_lower ho0 (below_size (sbw))); replace BK491 := am (blk_below (g := gb491) (o := .cells #[.int .i64 a0_0, .int .i64 a0_1, .int .i64 a0_2, .slice A0_3 l0_3.length c0_3] 24 (0, 0)) (sp BK491) hb); replace BK492 := am (blk_below (g := gb492) (o := .cells #[.int .i64 0, .int .i64 0, .int .i64 0, .slice none 0 0] 32 (0, 0)) (sp BK492) hb); replace BK493 := am (blk_below (g := gb493) (o := .cells #[.int .i64 a0_0, .int .i64 a0_1, .int .i64 a0_2, .slice none 0 0] 32 (0, 0)) (sp BK493) hb); replace HB := bsw hb; (try clear hb); (try clear ho0); obtain ⟨Ao12, co12, eo12⟩ := Kd.R_slice HO496.out; subst eo12; obtain ⟨_, _, _, _, _, _, _, _⟩ := cc4 BK493; obtain ⟨_, _, _, _, _, _, _, _⟩ := cc4 BK492))
 refine bodyPost_ret (results_cell_row rfl _ _ gb492 32 #[.int .i64 a0_0, .int .i64 a0_1, .int .i64 a0_2, .slice Ao12 t494.length co12] (0, 0) _ rfl (sp BK492) Tryz.underlying32 rfl (by kernel_rfl)) rfl ?_
 exact ⟨_, se, by (with_reducible repeat (first | apply Kd.R_alloc | apply Kd.R_drewN | apply Kd.R_drew)); exact Kd.R_mono (Kd.R_far (p := ⟨gb492, 3, none⟩) (Kd.R_far (p := ⟨gb492, 2, none⟩) (Kd.R_far (p := ⟨gb492, 1, none⟩) (Kd.R_far (p := ⟨gb492, 0, none⟩) (Kd.R_far (p := ⟨gb493, 3, none⟩) (Kd.R_types (Kd.R_types HO496.out BK493.out (by decide)) BK492.out (by decide)) (fun _ hk => hk.1.2) (.slice Ao12 t494.length co12)) (fun _ hk => hk.2) (.int .i64 a0_0)) (fun _ hk => hk.2) (.int .i64 a0_1)) (fun _ hk => hk.2) (.int .i64 a0_2)) (fun _ hk => hk.2) (.slice Ao12 t494.length co12)) (fun _ hk => trivial), sbw⟩

def laws_toIntSS.l0 : Nat → List (List Int) → List (List Int) → Int → Option ((List (List Int)))
  | 0, _, _, _ => none
  | k + 1, x0, x3, x4 => if x4 < (x0.length : Int) then (if 0 ≤ x4 then ((laws_toIntS.f k (rd_L2 x0 x4)).bind fun t501 => (if x4 < (x3.length : Int) then (laws_toIntSS.l0 k x0 (x3.set (x4 : Int).toNat t501) (wrap64 (x4 + 1))) else (none))) else (none)) else (some x3)
def laws_toIntSS.f (k : Nat) (l0 : List (List Int)) : Option ((List (List Int))) := if 0 ≤ (l0.length : Int) then (if ((l0.length : Int) : Int).toNat ≤ 11728124029610 then (laws_toIntSS.l0 k l0 (List.replicate ((l0.length : Int) : Int).toNat []) 0) else (none)) else (none)
theorem laws_toIntSS.mono_l : ∀ k, (∀ y0 y1 y2, LeO (laws_toIntSS.l0 k y0 y1 y2) (laws_toIntSS.l0 (k + 1) y0 y1 y2))
  | 0 => fun _ _ _ r h => by simp [laws_toIntSS.l0] at h
  | k + 1 => by
    have ih0 := laws_toIntSS.mono_l k
    · intro y0 y1 y2
      unfold laws_toIntSS.l0
      have m0 := @laws_toIntS.mono
      exact mo
theorem laws_toIntSS.mono : ∀ a0 k, LeO (laws_toIntSS.f k a0) (laws_toIntSS.f (k + 1) a0) := by
  intro a0 k
  have ih0 := laws_toIntSS.mono_l k
  unfold laws_toIntSS.f
  have m0 := @laws_toIntS.mono
  exact mo
theorem laws_toIntSS.calls (k : Nat) (A0 : Option Addr) (c0 : Nat) (l0 : List (List Int)) (r : List (List Int)) (w : World) (hr0 : Kd.C (Kd.slice 3 (Kd.int .i64)) w A0 l0.length l0) (hc0 : l0.length ≤ c0) (h : laws_toIntSS.f k l0 = some r) :
    Calls Tryz.prog 10 #[.slice A0 l0.length c0] w fun e w' => ∃ v0_ : Value, e = .returned (v0_) ∧ Kd.S (Kd.slice 3 (Kd.int .i64)) 25 w' w.heap.size (fun _ => True) v0_ r ∧ Below w.heap.size w w' := by
 have HR0 := am hr0
 have HC0 := am hc0
 clear hr0 hc0
 have HB := am (Below.refl w.heap.size w)
 have H := h; unfold laws_toIntSS.f at H
 clear h
 obtain ⟨c2, H⟩ := ia_ H
 have c2b0 := eq_true c2
 have c2b1 := decide_eq_true c2
 clear c2
 obtain ⟨c3, H⟩ := ia_ H
 have c3b0 := eq_true c3
 have c3b1 := decide_eq_true c3
 clear c3
 obtain ⟨y497, hy497⟩ : ∃ y_ : List (List Int), y_ = (List.replicate ((l0.length : Int) : Int).toNat []) := ⟨_, rfl⟩
 replace H : (laws_toIntSS.l0 k l0 y497 0) = some r := ry hy497 H
 have Ny497 := am hy497
 clear hy497
 have H' := am H
 clear H
 go_enter Tryz.func10, Tryz.ntmps10
 go_wp2_with (first | ((with_reducible refine gd 7 rfl ?_); refine Kd.S_make (Kd.slice 3 (Kd.int .i64)) _ 25 rfl (N := 7) rfl 26 _ _ rfl (l0.length : Int) rfl rfl Tryz.underlying26 (.slice none 0 0) 24 info25 rfl (by decide) (by omega) [] (ok := fun _ => True) (okp := fun _ => True) ⟨_, rfl, Kd.R_nil _ _ _ _ _⟩ (fun _ hk => hk) trivial (sa) (Nat.le_trans (Nat.mul_le_mul_right _ (sa : (l0.length : Int).toNat ≤ 11728124029610)) (by omega)) (Below.refl _ _) (Nat.le_refl _) ?_; intro v498 w4 ho5 hb hg_ hnew_; clear hg_ hnew_; (first | rw [← Ny497.out] at ho5 | (simp only [Int.reduceToNat] at ho5; rw [← Ny497.out] at ho5)); have HO499 := am (Kd.S_lower ho5 (below_size (sb))); replace HB := bs hb; clear hb ho5))
 go_loopg [4] k (fun kq v4 w' => ∃ (x3_1 : List (List Int)) (x4_1 : Int), v4 = .int .i64 x4_1 ∧ Aside0 (laws_toIntSS.l0 kq l0 x3_1 x4_1 = some r) ∧ Aside0 (kq ≤ k) ∧ Aside0 (Kd.S (Kd.slice 3 (Kd.int .i64)) 25 w' w.heap.size (fun _ => True) v498 x3_1) ∧ Aside0 (Below w.heap.size w w'))
 case atStart => exact ⟨(y497), (0), sc, H', kk0, ⟨ss HO499⟩, ⟨sb⟩⟩
 case round =>
  clear H'
  try clear c2
  try clear c2b0
  try clear c2b1
  try clear c3
  try clear c3b0
  try clear c3b1
  obtain ⟨x3_1, x4_1, rfl, HA, HK1, HO_3, HB⟩ := hrel
  cases gk with
  | zero => exact absurd HA.out (by simp [laws_toIntSS.l0])
  | succ k1 =>
   have H := HA.out
   clear HA
   simp only [laws_toIntSS.l0] at H
   obtain ⟨-, c6b0, H⟩ | ⟨-, c6b0, H⟩ := ic_ H
   ·obtain ⟨c7b0, H⟩ := id_ H
    obtain ⟨t501, A8, H⟩ := bnd H
    obtain ⟨c9b0, H⟩ := id_ H
    obtain ⟨y504, hy504⟩ : ∃ y_ : List (List Int), y_ = (x3_1.set (x4_1 : Int).toNat t501) := ⟨_, rfl⟩
    replace H : (laws_toIntSS.l0 k1 l0 y504 (wrap64 (x4_1 + 1))) = some r := ry hy504 H
    have Ny504 := am hy504
    clear hy504
    have H' := am H
    clear H
    obtain ⟨p500, q500, ad500, A500_0, c500_0, e500, _, hx500_0, HC500_0, HR500_0⟩ := aT_L2 HR0 HB x4_1
    cases e500
    go_wp2_with (first | ((with_reducible refine gc 9 rfl ?_); refine gL (some 20) Tryz.func9 #[.slice A500_0 (rd_L2 l0 x4_1).length c500_0] ?_; (with_reducible refine (laws_toIntS.calls k1 _ _ (rd_L2 l0 x4_1) t501 _ ?side1 ?side2 A8.out).mono ?_); (case side1 => exact cb HR500_0); (case side2 => exact HC500_0.out); rintro e w11 ⟨v502, rfl, ho0, hb⟩; refine ⟨_, rfl, ?_⟩; replace HO_3 := am (Kd.S_elder' (ss HO_3) (Kd.R_base ho0) hb); have HO503 := am (Kd.R_lower ho0 (below_size (sb))); replace HB := bs hb; (try clear hb); (try clear hk); (try clear ho0); have p10 : 0 ≤ (x4_1 : Int) := sa; have q10 : (x4_1 : Int) < ((x3_1.length : Int) : Int) := sa; obtain ⟨go10, co10, eo10, gb10, gl10, cl10, HG10⟩ := Kd.S_form HO_3.out (by omega); (first | cases eo10 | (injection eo10 with ea_ en_ ec_; (first | subst ea_ | (injection ea_ with ea_; subst ea_)); subst ec_; clear en_)); have GB10 := am gb10; have GG10 := am HG10; clear gb10 gl10 HG10; obtain ⟨_, ce10, hcl10, hM10, hcc10, hfr10, _, _⟩ := Kd.S_elem HO_3.out [] (x4_1 : Int) p10 q10; obtain ⟨ve10_0, rfl, ge10_0⟩ := hM10; have hx10_0 := hcc10 0 _ rfl; have hf10_0 := hfr10 0; (try simp only [show ((Kd.slice 3 (Kd.int .i64))).sz = 1 from rfl, Nat.mul_one, Nat.add_zero] at hx10_0); (try simp only [show ((Kd.slice 3 (Kd.int .i64))).sz = 1 from rfl, Nat.mul_one, Nat.add_zero] at hf10_0); (try clear hcl10); (try clear hcc10); (try clear hfr10); (try clear hM10); replace p10 := eq_true p10; replace q10 := eq_true q10; have n_ := am (Kd.S_mono (ok' := (fun k_ => some k_ ≠ (v502 : Value).ownBlock)) HO_3.out (fun k_ hk => hk.2)); clear HO_3; have HO_3 := n_; clear n_; have HX12 := am (show Kd.S (Kd.slice 3 (Kd.int .i64)) 25 w11 w.heap.size (fun k_ => ((fun _ => True)) k_ ∧ ¬ ((fun k_ => some k_ = (v502 : Value).ownBlock)) k_) (.slice (some ⟨go10, 0, none⟩) x3_1.length co10) x3_1 from (by (with_reducible repeat (first | apply Kd.S_alloc | apply Kd.S_drewN | apply Kd.S_drew)); exact Kd.S_mono HO_3.out (fun k_ hk => ⟨trivial, fun e_ => hk e_⟩))); obtain ⟨oki12, ce12, hcl12, hM12, hcc12, hfr12, hoki12, hH12⟩ := Kd.S_elem HX12.out [] (x4_1 : Int) (sa) a12_0; obtain ⟨ve12_0, rfl, ge12_0⟩ := hM12; have HP12 := Kd.S_seg hH12 (sa) a12_0 (seg := [v502]) (j := 0) (show 1 ≤ 1 from by decide) (x' := t501) (Kd.M_row (Kd.R_mono (Kd.R_tight rfl (Kd.R_mono (ok' := fun k_ => ((fun _ => True)) k_ ∧ k_ ≠ go10) (Kd.R_apart' (HO503.out) (Kd.S_typed HO_3.out) (by decide)) (fun k_ hk => ⟨trivial, fun e_ => (hk.2) (by rw [e_]; rfl)⟩))) (fun _ h_ => Or.inr (h_)))) (fun _ hk => hk) (fun k_ hk_ => ((Kd.R_mono (ok' := fun k_ => ((fun _ => True)) k_ ∧ k_ ≠ go10) (Kd.R_apart' (HO503.out) (Kd.S_typed HO_3.out) (by decide)) (fun k_ hk => ⟨trivial, fun e_ => (hk.2) (by rw [e_]; rfl)⟩))).1 k_ hk_.symm); have hx12_0 := hcc12 0 _ rfl; (try simp only [show ((Kd.slice 3 (Kd.int .i64))).sz = 1 from rfl, Nat.mul_one, Nat.add_zero] at hx12_0); have hf12_0 := hfr12 0; (try simp only [show ((Kd.slice 3 (Kd.int .i64))).sz = 1 from rfl, Nat.mul_one, Nat.add_zero] at hf12_0); (try clear hcl12); (try clear hcc12); (try clear hfr12); (try clear hM12); (try clear hoki12); (try clear hH12); (try simp only [show ((Kd.slice 3 (Kd.int .i64))).sz = 1 from rfl, Nat.mul_one, Nat.add_zero] at HP12)) | ((with_reducible refine gate_store (t := 25) (p := 21) rfl ?_); refine store_event (t := 25) (p := 21) (v := ?vo_w13) (w1 := (w11.setCell ⟨go10, (x4_1 : Int).toNat, none⟩ (v502))) ?hg ?ho ?hn ?hr ?_; (case ho => rfl); (case hg => rfl); (case hn => rfl); (case hr => (first | (obtain ⟨Av502_, cv502_, ev502_⟩ := slice_of (v := v502) (by assumption); subst ev502_) | (obtain ⟨Av502_, cv502_, ev502_⟩ := Kd.R_slice (v := v502) (Kd.S_R (Aside0.out (by assumption))); subst ev502_)); first | (go_simp; done) | (go_simp; rfl)); intro w13 hw; have hg : w11.grownBy w13 (some go10) := (by rw [hw]; exact HP12.2); have hp_ : Kd.S (Kd.slice 3 (Kd.int .i64)) 25 w13 w.heap.size (fun _ => True) (.slice (some ⟨go10, 0, none⟩) x3_1.length co10) y504 := (by rw [hw, Ny504.out]; exact HP12.1); clear HP12; replace HO_3 := am hp_; replace HB := am ((by rw [hw]; exact below_set (HB.out) GB10.out : Below w.heap.size w w13)); clear HO503; clear hg hw hp_))
    go_roundg k1
    case measure => have := HK1.out; omega
    case rel => exact ⟨(y504), (wrap64 (x4_1 + 1)), sc, H', kk1, ⟨ss HO_3⟩, ⟨sb⟩⟩
   ·obtain rfl := Option.some.inj H
    go_wp2
    go_ret
    exact ⟨_, se, ss HO_3, sb⟩

def impl_InRange.f (a0 : Int) (a1 : Int) (a2 : Int) : Option (Bool) := if a1 ≤ a0 then (some (decide (a0 ≤ a2))) else (some false)
theorem impl_InRange.calls (a0 : Int) (a1 : Int) (a2 : Int) (r : Bool) (w : World) (h : impl_InRange.f a0 a1 a2 = some r) :
    Calls Tryz.prog 45 #[.int .i64 a0, .int .i64 a1, .int .i64 a2] w fun e w' => e = .returned (.bool r) ∧ Drawn0 w w' := by
 have H := h; unfold impl_InRange.f at H
 clear h
 obtain ⟨-, c4b0, H⟩ | ⟨-, c4b0, H⟩ := ic_ H
 ·obtain rfl := Option.some.inj H
  go_enter Tryz.func45, Tryz.ntmps45
  go_wp2
  go_ret
  exact ⟨sc, sd⟩
 ·obtain rfl := Option.some.inj H
  go_enter Tryz.func45, Tryz.ntmps45
  go_wp2
  go_ret
  exact ⟨sc, sd⟩

end Go.Proofs.YthnlkgbhohchoaaGreat.QFnExactRepairedAt
