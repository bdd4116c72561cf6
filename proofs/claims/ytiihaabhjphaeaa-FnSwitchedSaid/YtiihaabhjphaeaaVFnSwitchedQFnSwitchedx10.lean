/- Printed by a program of the session. Conditions: none. (squeezed). -/
import Derived.Test.YtiihaabhjphaeaaVFnSwitchedQFnSwitchedx9
namespace Go.Proofs.Ytiihaabhjphaeaa.QFnSwitched
set_option maxHeartbeats 8000000
set_option maxRecDepth 100000
open Go.RowKit Go.Proofs.YtiihaabhjphaeaaW.PrintWords Go.Proofs.YtiihaabhjphaeaaW.PrintLast Go.Proofs.YtiihaabhjphaeaaW.PrintMore Go.Proofs.Ytiihaabhjphaeaa.Open Go.Proofs.Ytiihaabhjphaeaa.Sq
attribute [local go_sem] max2_int min2_int max_two min_two max_three min_three max_four min_four   -- for this text's walks alone
attribute [local go_sem] isSome_set
set_option linter.unusedVariables false
set_option linter.unusedSimpArgs false

theorem a10_0 {P : Prop} (h : P := by (try simp only [List.map_toArray, List.map_cons, List.map_nil]); first | done | (simp only [hji8]; rfl) | rfl | (simp only [List.length_drop, List.length_take]; rfl)) : P := h
def spec_IsPlan.l0 : Nat → List (S137) → Int → Int → Option (Bool)
  | 0, _, _, _ => none
  | k + 1, x0, x1, x5 => if x5 < (x0.length : Int) then (if 0 ≤ x5 then ((spec_IsContact.f ((rd_T137 x0 x5).f0) ((rd_T137 x0 x5).f1) ((rd_T137 x0 x5).f2) ((rd_T137 x0 x5).f3) x1).bind fun t330 => (if t330 = true then (if x5 > 0 then (if 0 ≤ (wrap64 (x5 - 1)) then (if (wrap64 (x5 - 1)) < (x0.length : Int) then ((spec_l11Before.f ((rd_T137 x0 (wrap64 (x5 - 1))).f0) ((rd_T137 x0 (wrap64 (x5 - 1))).f1) ((rd_T137 x0 (wrap64 (x5 - 1))).f2) ((rd_T137 x0 (wrap64 (x5 - 1))).f3) ((rd_T137 x0 x5).f0) ((rd_T137 x0 x5).f1) ((rd_T137 x0 x5).f2) ((rd_T137 x0 x5).f3)).bind fun t333 => (if t333 = true then (spec_IsPlan.l0 k x0 x1 (wrap64 (x5 + 1))) else (some false))) else (none)) else (none)) else (spec_IsPlan.l0 k x0 x1 (wrap64 (x5 + 1)))) else (some false))) else (none)) else (some true)
def spec_IsPlan.f (k : Nat) (l0 : List (S137)) (a1 : Int) : Option (Bool) := spec_IsPlan.l0 k l0 a1 0
theorem spec_IsPlan.mono_l : ∀ k, (∀ y0 y1 y2, LeO (spec_IsPlan.l0 k y0 y1 y2) (spec_IsPlan.l0 (k + 1) y0 y1 y2))
  | 0 => fun _ _ _ r h => by simp [spec_IsPlan.l0] at h
  | k + 1 => by
    have ih0 := spec_IsPlan.mono_l k
    · intro y0 y1 y2
      unfold spec_IsPlan.l0
      exact mo
theorem spec_IsPlan.mono : ∀ a0 a1 k, LeO (spec_IsPlan.f k a0 a1) (spec_IsPlan.f (k + 1) a0 a1) := by
  intro a0 a1 k
  have ih0 := spec_IsPlan.mono_l k
  unfold spec_IsPlan.f
  exact mo
def spec_IsPlan.T4 : Bool × List (List Nat × List Nat) := (true, [([], []), ([], []), ([0, 1], [0, 1]), ([2], [2]), ([], []), ([3, 4], [3, 4]), ([5], [5]), ([6, 5], [6]), ([7], [7]), ([8, 7], [7, 8]), ([9, 7, 7], [7, 9]), ([10], [10]), ([10], [10]), ([12, 10], [10, 12]), ([11, 13, 10], [10, 11, 13]), ([14, 10], [10, 14]), ([10], [10]), ([10], [10]), ([16, 17, 10], [10, 16, 17]), ([18, 10], [10, 18]), ([15, 19, 10, 10], [10, 15, 19]), ([20, 10], [10, 20]), ([10, 21, 7], [7, 10, 21]), ([7, 22], [7, 22])])
def spec_IsPlan.B4 : List Nat := [0, 0, 3, 7, 0, 31, 63, 127, 255, 511, 1023, 2047, 2047, 6143, 16383, 32767, 2047, 2047, 198655, 460799, 1048575, 2097151, 4194303, 8388607]
theorem spec_IsPlan.tab4 : rtab .any (opsOf Try.f113 4) = spec_IsPlan.T4 := by kernel_rfl
theorem spec_IsPlan.bits4 : waitsOk spec_IsPlan.T4.2 spec_IsPlan.B4 = true := by kernel_rfl
theorem spec_IsPlan.calls (k : Nat) (A0 : Option Addr) (c0 : Nat) (l0 : List (S137)) (a1 : Int) (r : Bool) (w : World) (hr0 : Kd.C k137 w A0 l0.length l0) (hc0 : l0.length ≤ c0) (h : spec_IsPlan.f k l0 a1 = some r) :
    Calls Try.prog 113 #[.slice A0 l0.length c0, .int .i64 a1] w fun e w' => e = .returned (.bool r) ∧ Below w.heap.size w w' := by
 have hu137 := Try.underlying137
 have HR0 := am hr0
 have HC0 := am hc0
 clear hr0 hc0
 have HB := am (Below.refl w.heap.size w)
 have H := h; unfold spec_IsPlan.f at H
 clear h
 have H' := am H
 clear H
 go_enter Try.func113, Try.ntmps113
 go_wp2
 go_loopg [5] k (fun kq v5 w' => ∃ (x5_1 : Int), v5 = .int .i64 x5_1 ∧ Aside0 (spec_IsPlan.l0 kq l0 a1 x5_1 = some r) ∧ Aside0 (kq ≤ k) ∧ Aside0 (Below w.heap.size w w'))
 case atStart => exact ⟨(0), sc, H', kk0, ⟨sb⟩⟩
 case round =>
  clear H'
  obtain ⟨x5_1, rfl, HA, HK1, HB⟩ := hrel
  cases gk with
  | zero => exact absurd HA.out (by simp [spec_IsPlan.l0])
  | succ k1 =>
   have H := HA.out
   clear HA
   simp only [spec_IsPlan.l0] at H
   obtain ⟨-, c3b0, H⟩ | ⟨-, c3b0, H⟩ := ic_ H
   ·obtain ⟨c4b0, H⟩ := id_ H
    obtain ⟨t330, A5, H⟩ := bnd H
    obtain rfl | rfl := tt t330
    ·replace H := ip H
     obtain ⟨-, c7b0, H⟩ | ⟨-, c7b0, H⟩ := ic_ H
     ·obtain ⟨ji8, hji8⟩ : ∃ j_ : Int, (wrap64 (x5_1 - 1)) = j_ := ⟨_, rfl⟩
      replace H : (if 0 ≤ (ji8) then (if (ji8) < (l0.length : Int) then ((spec_l11Before.f ((rd_T137 l0 (ji8)).f0) ((rd_T137 l0 (ji8)).f1) ((rd_T137 l0 (ji8)).f2) ((rd_T137 l0 (ji8)).f3) ((rd_T137 l0 x5_1).f0) ((rd_T137 l0 x5_1).f1) ((rd_T137 l0 x5_1).f2) ((rd_T137 l0 x5_1).f3)).bind fun t333 => (if t333 = true then (spec_IsPlan.l0 k1 l0 a1 (wrap64 (x5_1 + 1))) else (some false))) else (none)) else (none)) = some r := by first | (rw [hji8] at H; exact H) | (simp only [hji8] at H ⊢; exact H)
      (try rw [hji8] at A5)
      have hji8w : (IntKind.i64.wrap (x5_1 - 1)) = ji8 := (i64_w _).trans hji8
      obtain ⟨c9b0, H⟩ := id_ H
      obtain ⟨c10b0, H⟩ := id_ H
      obtain ⟨t333, A11, H⟩ := bnd H
      obtain rfl | rfl := tt t333
      ·replace H := ip H
       have H' := am H
       clear H
       try go_wp2
       replace HB := am (below_drew1 HB.out)
       obtain ⟨p329, q329, ad329, e329, hw329_0, hw329_1, hw329_2, hw329_3, hx329_0, hx329_1, hx329_2, hx329_3⟩ := aT_T137 HR0 HB x5_1
       cases e329
       obtain ⟨p331, q331, ad331, e331, hw331_0, hw331_1, hw331_2, hw331_3, hx331_0, hx331_1, hx331_2, hx331_3⟩ := aT_T137 HR0 HB (ji8)
       obtain rfl : ad329 = ad331 := (by injection e331)
       obtain ⟨p332, q332, ad332, e332, hw332_0, hw332_1, hw332_2, hw332_3, hx332_0, hx332_1, hx332_2, hx332_3⟩ := aT_T137 HR0 HB x5_1
       obtain rfl : ad329 = ad332 := (by injection e332)
       refine start_ (n := 24) (S := fun w' => w'.cell? (ad329.add ((x5_1).toNat * 4)) = some (.int .i64 ((rd_T137 l0 x5_1).f0)) ∧ w'.cell? ⟨(ad329.add ((x5_1).toNat * 4)).block, (ad329.add ((x5_1).toNat * 4)).off + 1, none⟩ = some (.int .i64 ((rd_T137 l0 x5_1).f1)) ∧ w'.cell? ⟨(ad329.add ((x5_1).toNat * 4)).block, (ad329.add ((x5_1).toNat * 4)).off + 2, none⟩ = some (.int .i64 ((rd_T137 l0 x5_1).f2)) ∧ w'.cell? ⟨(ad329.add ((x5_1).toNat * 4)).block, (ad329.add ((x5_1).toNat * 4)).off + 3, none⟩ = some (.int .i64 ((rd_T137 l0 x5_1).f3)) ∧ w'.cell? (ad329.add (((ji8)).toNat * 4)) = some (.int .i64 ((rd_T137 l0 (ji8)).f0)) ∧ w'.cell? ⟨(ad329.add (((ji8)).toNat * 4)).block, (ad329.add (((ji8)).toNat * 4)).off + 1, none⟩ = some (.int .i64 ((rd_T137 l0 (ji8)).f1)) ∧ w'.cell? ⟨(ad329.add (((ji8)).toNat * 4)).block, (ad329.add (((ji8)).toNat * 4)).off + 2, none⟩ = some (.int .i64 ((rd_T137 l0 (ji8)).f2)) ∧ w'.cell? ⟨(ad329.add (((ji8)).toNat * 4)).block, (ad329.add (((ji8)).toNat * 4)).off + 3, none⟩ = some (.int .i64 ((rd_T137 l0 (ji8)).f3)) ∧ w'.cell? (ad329.add ((x5_1).toNat * 4)) = some (.int .i64 ((rd_T137 l0 x5_1).f0)) ∧ w'.cell? ⟨(ad329.add ((x5_1).toNat * 4)).block, (ad329.add ((x5_1).toNat * 4)).off + 1, none⟩ = some (.int .i64 ((rd_T137 l0 x5_1).f1)) ∧ w'.cell? ⟨(ad329.add ((x5_1).toNat * 4)).block, (ad329.add ((x5_1).toNat * 4)).off + 2, none⟩ = some (.int .i64 ((rd_T137 l0 x5_1).f2)) ∧ w'.cell? ⟨(ad329.add ((x5_1).toNat * 4)).block, (ad329.add ((x5_1).toNat * 4)).off + 3, none⟩ = some (.int .i64 ((rd_T137 l0 x5_1).f3))) (ds := []) #[false, false, false, false, false, false, false, false, false, false, false, false, false, false, false, false, false, false, false, false, false, false, false, false] (by kernel_rfl) rfl rfl ⟨(hb_ HB hw329_0), (hb_ HB hw329_1), (hb_ HB hw329_2), (hb_ HB hw329_3), (hb_ HB hw331_0), (hb_ HB hw331_1), (hb_ HB hw331_2), (hb_ HB hw331_3), (hb_ HB hw332_0), (hb_ HB hw332_1), (hb_ HB hw332_2), (hb_ HB hw332_3)⟩ (fun hHeld => ?_); refine with_tabW spec_IsPlan.tab4 spec_IsPlan.bits4 (fun HT_ HW_ => ?_)
       generalize wr.drew = w13 at HB hx329_0 hx329_1 hx329_2 hx329_3 hx331_0 hx331_1 hx331_2 hx331_3 hx332_0 hx332_1 hx332_2 hx332_3 hHeld ⊢
       refine put 0 12 (bt 24 1) HT_ ?_
       refine put 1 13 (bt 24 3) HT_ ?_
       refine put 2 14 (bt 24 7) HT_ ?_
       refine put 4 16 (bt 24 23) HT_ ?_
       refine tat12 3 15 (bt 24 31) HT_ HW_ hHeld ?_
       refine on 5 17 (bt 24 63) HT_ (fun K hK => ?_)
       refine goes_ Try.func156 (by kernel_rfl) rfl #[.agg #[.int .i64 ((rd_T137 l0 x5_1).f0), .int .i64 ((rd_T137 l0 x5_1).f1), .int .i64 ((rd_T137 l0 x5_1).f2), .int .i64 ((rd_T137 l0 x5_1).f3)], .int .i64 a1] (by rfl) rfl rfl sl ?_
       with_reducible refine (spec_IsContact.calls ((rd_T137 l0 x5_1).f0) ((rd_T137 l0 x5_1).f1) ((rd_T137 l0 x5_1).f2) ((rd_T137 l0 x5_1).f3) a1 true _ A5.out).mono ?_
       rintro e w14 ⟨rfl, hb⟩
       refine ⟨_, rfl, ?_⟩
       replace HB := bs hb
       (try clear hb)
       (try clear hb2)
       (try clear hk)
       (try clear hi)
       refine hK.out _ _ ⟨(hb_ HB hw329_0), (hb_ HB hw329_1), (hb_ HB hw329_2), (hb_ HB hw329_3), (hb_ HB hw331_0), (hb_ HB hw331_1), (hb_ HB hw331_2), (hb_ HB hw331_3), (hb_ HB hw332_0), (hb_ HB hw332_1), (hb_ HB hw332_2), (hb_ HB hw332_3)⟩ (fun hHeld => ?_)
       clear hK K
       refine nm 17 ?_
       refine put 6 18 (bt 24 127) HT_ ?_
       refine put 7 19 (bt 24 255) HT_ ?_
       refine put 8 20 (bt 24 511) HT_ ?_
       refine put 9 21 (bt 24 1023) HT_ ?_
       refine put 10 22 (bt 24 2047) HT_ ?_
       refine put 11 23 (bt 24 4095) HT_ ?_
       refine put 12 24 (bt 24 8191) HT_ ?_
       refine put 13 25 (bt 24 16383) HT_ ?_
       refine put 14 26 (bt 24 32767) HT_ ?_
       refine put 16 28 (bt 24 98303) HT_ ?_
       refine put 17 29 (bt 24 229375) HT_ ?_
       refine put 18 30 (bt 24 491519) HT_ ?_
       refine tat12 15 27 (bt 24 524287) HT_ HW_ hHeld ?_
       refine tat12 19 31 (bt 24 1048575) HT_ HW_ hHeld ?_
       refine on 20 32 (bt 24 2097151) HT_ (fun K hK => ?_)
       refine goes_ Try.func157 (by kernel_rfl) rfl #[.agg #[.int .i64 ((rd_T137 l0 (ji8)).f0), .int .i64 ((rd_T137 l0 (ji8)).f1), .int .i64 ((rd_T137 l0 (ji8)).f2), .int .i64 ((rd_T137 l0 (ji8)).f3)], .agg #[.int .i64 ((rd_T137 l0 x5_1).f0), .int .i64 ((rd_T137 l0 x5_1).f1), .int .i64 ((rd_T137 l0 x5_1).f2), .int .i64 ((rd_T137 l0 x5_1).f3)]] (by rfl) rfl rfl a10_0 ?_
       with_reducible refine (spec_l11Before.calls ((rd_T137 l0 (ji8)).f0) ((rd_T137 l0 (ji8)).f1) ((rd_T137 l0 (ji8)).f2) ((rd_T137 l0 (ji8)).f3) ((rd_T137 l0 x5_1).f0) ((rd_T137 l0 x5_1).f1) ((rd_T137 l0 x5_1).f2) ((rd_T137 l0 x5_1).f3) true _ A11.out).mono ?_
       rintro e w15 ⟨rfl, hb⟩
       refine ⟨_, rfl, ?_⟩
       replace HB := bs hb
       (try clear hb)
       (try clear hb2)
       (try clear hk)
       (try clear hi)
       refine hK.out _ _ ⟨(hb_ HB hw329_0), (hb_ HB hw329_1), (hb_ HB hw329_2), (hb_ HB hw329_3), (hb_ HB hw331_0), (hb_ HB hw331_1), (hb_ HB hw331_2), (hb_ HB hw331_3), (hb_ HB hw332_0), (hb_ HB hw332_1), (hb_ HB hw332_2), (hb_ HB hw332_3)⟩ (fun hHeld => ?_)
       clear hK K
       refine nm 32 ?_
       refine put 21 33 (bt 24 4194303) HT_ ?_
       refine put 22 34 (bt 24 8388607) HT_ ?_
       refine put 23 35 (bt 24 16777215) HT_ ?_
       refine done_ (done_of HT_.out (by kernel_rfl)) ?_
       try go_wp2
       go_roundg k1
       case measure => have := HK1.out; omega
       case rel => exact ⟨(wrap64 (x5_1 + 1)), sc, H', kk1, ⟨sb⟩⟩
      ·replace H := im H
       obtain rfl := Option.some.inj H
       try go_wp2
       replace HB := am (below_drew1 HB.out)
       obtain ⟨p329, q329, ad329, e329, hw329_0, hw329_1, hw329_2, hw329_3, hx329_0, hx329_1, hx329_2, hx329_3⟩ := aT_T137 HR0 HB x5_1
       cases e329
       obtain ⟨p331, q331, ad331, e331, hw331_0, hw331_1, hw331_2, hw331_3, hx331_0, hx331_1, hx331_2, hx331_3⟩ := aT_T137 HR0 HB (ji8)
       obtain rfl : ad329 = ad331 := (by injection e331)
       obtain ⟨p332, q332, ad332, e332, hw332_0, hw332_1, hw332_2, hw332_3, hx332_0, hx332_1, hx332_2, hx332_3⟩ := aT_T137 HR0 HB x5_1
       obtain rfl : ad329 = ad332 := (by injection e332)
       refine start_ (n := 24) (S := fun w' => w'.cell? (ad329.add ((x5_1).toNat * 4)) = some (.int .i64 ((rd_T137 l0 x5_1).f0)) ∧ w'.cell? ⟨(ad329.add ((x5_1).toNat * 4)).block, (ad329.add ((x5_1).toNat * 4)).off + 1, none⟩ = some (.int .i64 ((rd_T137 l0 x5_1).f1)) ∧ w'.cell? ⟨(ad329.add ((x5_1).toNat * 4)).block, (ad329.add ((x5_1).toNat * 4)).off + 2, none⟩ = some (.int .i64 ((rd_T137 l0 x5_1).f2)) ∧ w'.cell? ⟨(ad329.add ((x5_1).toNat * 4)).block, (ad329.add ((x5_1).toNat * 4)).off + 3, none⟩ = some (.int .i64 ((rd_T137 l0 x5_1).f3)) ∧ w'.cell? (ad329.add (((ji8)).toNat * 4)) = some (.int .i64 ((rd_T137 l0 (ji8)).f0)) ∧ w'.cell? ⟨(ad329.add (((ji8)).toNat * 4)).block, (ad329.add (((ji8)).toNat * 4)).off + 1, none⟩ = some (.int .i64 ((rd_T137 l0 (ji8)).f1)) ∧ w'.cell? ⟨(ad329.add (((ji8)).toNat * 4)).block, (ad329.add (((ji8)).toNat * 4)).off + 2, none⟩ = some (.int .i64 ((rd_T137 l0 (ji8)).f2)) ∧ w'.cell? ⟨(ad329.add (((ji8)).toNat * 4)).block, (ad329.add (((ji8)).toNat * 4)).off + 3, none⟩ = some (.int .i64 ((rd_T137 l0 (ji8)).f3)) ∧ w'.cell? (ad329.add ((x5_1).toNat * 4)) = some (.int .i64 ((rd_T137 l0 x5_1).f0)) ∧ w'.cell? ⟨(ad329.add ((x5_1).toNat * 4)).block, (ad329.add ((x5_1).toNat * 4)).off + 1, none⟩ = some (.int .i64 ((rd_T137 l0 x5_1).f1)) ∧ w'.cell? ⟨(ad329.add ((x5_1).toNat * 4)).block, (ad329.add ((x5_1).toNat * 4)).off + 2, none⟩ = some (.int .i64 ((rd_T137 l0 x5_1).f2)) ∧ w'.cell? ⟨(ad329.add ((x5_1).toNat * 4)).block, (ad329.add ((x5_1).toNat * 4)).off + 3, none⟩ = some (.int .i64 ((rd_T137 l0 x5_1).f3))) (ds := []) #[false, false, false, false, false, false, false, false, false, false, false, false, false, false, false, false, false, false, false, false, false, false, false, false] (by kernel_rfl) rfl rfl ⟨(hb_ HB hw329_0), (hb_ HB hw329_1), (hb_ HB hw329_2), (hb_ HB hw329_3), (hb_ HB hw331_0), (hb_ HB hw331_1), (hb_ HB hw331_2), (hb_ HB hw331_3), (hb_ HB hw332_0), (hb_ HB hw332_1), (hb_ HB hw332_2), (hb_ HB hw332_3)⟩ (fun hHeld => ?_); refine with_tabW spec_IsPlan.tab4 spec_IsPlan.bits4 (fun HT_ HW_ => ?_)
       generalize wr.drew = w16 at HB hx329_0 hx329_1 hx329_2 hx329_3 hx331_0 hx331_1 hx331_2 hx331_3 hx332_0 hx332_1 hx332_2 hx332_3 hHeld ⊢
       refine put 0 12 (bt 24 1) HT_ ?_
       refine put 1 13 (bt 24 3) HT_ ?_
       refine put 2 14 (bt 24 7) HT_ ?_
       refine put 4 16 (bt 24 23) HT_ ?_
       refine tat12 3 15 (bt 24 31) HT_ HW_ hHeld ?_
       refine on 5 17 (bt 24 63) HT_ (fun K hK => ?_)
       refine goes_ Try.func156 (by kernel_rfl) rfl #[.agg #[.int .i64 ((rd_T137 l0 x5_1).f0), .int .i64 ((rd_T137 l0 x5_1).f1), .int .i64 ((rd_T137 l0 x5_1).f2), .int .i64 ((rd_T137 l0 x5_1).f3)], .int .i64 a1] (by rfl) rfl rfl sl ?_
       with_reducible refine (spec_IsContact.calls ((rd_T137 l0 x5_1).f0) ((rd_T137 l0 x5_1).f1) ((rd_T137 l0 x5_1).f2) ((rd_T137 l0 x5_1).f3) a1 true _ A5.out).mono ?_
       rintro e w17 ⟨rfl, hb⟩
       refine ⟨_, rfl, ?_⟩
       replace HB := bs hb
       (try clear hb)
       (try clear hb2)
       (try clear hk)
       (try clear hi)
       refine hK.out _ _ ⟨(hb_ HB hw329_0), (hb_ HB hw329_1), (hb_ HB hw329_2), (hb_ HB hw329_3), (hb_ HB hw331_0), (hb_ HB hw331_1), (hb_ HB hw331_2), (hb_ HB hw331_3), (hb_ HB hw332_0), (hb_ HB hw332_1), (hb_ HB hw332_2), (hb_ HB hw332_3)⟩ (fun hHeld => ?_)
       clear hK K
       refine nm 17 ?_
       refine put 6 18 (bt 24 127) HT_ ?_
       refine put 7 19 (bt 24 255) HT_ ?_
       refine put 8 20 (bt 24 511) HT_ ?_
       refine put 9 21 (bt 24 1023) HT_ ?_
       refine put 10 22 (bt 24 2047) HT_ ?_
       refine put 11 23 (bt 24 4095) HT_ ?_
       refine put 12 24 (bt 24 8191) HT_ ?_
       refine put 13 25 (bt 24 16383) HT_ ?_
       refine put 14 26 (bt 24 32767) HT_ ?_
       refine put 16 28 (bt 24 98303) HT_ ?_
       refine put 17 29 (bt 24 229375) HT_ ?_
       refine put 18 30 (bt 24 491519) HT_ ?_
       refine tat12 15 27 (bt 24 524287) HT_ HW_ hHeld ?_
       refine tat12 19 31 (bt 24 1048575) HT_ HW_ hHeld ?_
       refine on 20 32 (bt 24 2097151) HT_ (fun K hK => ?_)
       refine goes_ Try.func157 (by kernel_rfl) rfl #[.agg #[.int .i64 ((rd_T137 l0 (ji8)).f0), .int .i64 ((rd_T137 l0 (ji8)).f1), .int .i64 ((rd_T137 l0 (ji8)).f2), .int .i64 ((rd_T137 l0 (ji8)).f3)], .agg #[.int .i64 ((rd_T137 l0 x5_1).f0), .int .i64 ((rd_T137 l0 x5_1).f1), .int .i64 ((rd_T137 l0 x5_1).f2), .int .i64 ((rd_T137 l0 x5_1).f3)]] (by rfl) rfl rfl a10_0 ?_
       with_reducible refine (spec_l11Before.calls ((rd_T137 l0 (ji8)).f0) ((rd_T137 l0 (ji8)).f1) ((rd_T137 l0 (ji8)).f2) ((rd_T137 l0 (ji8)).f3) ((rd_T137 l0 x5_1).f0) ((rd_T137 l0 x5_1).f1) ((rd_T137 l0 x5_1).f2) ((rd_T137 l0 x5_1).f3) false _ A11.out).mono ?_
       rintro e w18 ⟨rfl, hb⟩
       refine ⟨_, rfl, ?_⟩
       replace HB := bs hb
       (try clear hb)
       (try clear hb2)
       (try clear hk)
       (try clear hi)
       refine hK.out _ _ ⟨(hb_ HB hw329_0), (hb_ HB hw329_1), (hb_ HB hw329_2), (hb_ HB hw329_3), (hb_ HB hw331_0), (hb_ HB hw331_1), (hb_ HB hw331_2), (hb_ HB hw331_3), (hb_ HB hw332_0), (hb_ HB hw332_1), (hb_ HB hw332_2), (hb_ HB hw332_3)⟩ (fun hHeld => ?_)
       clear hK K
       refine nm 32 ?_
       refine put 21 33 (bt 24 4194303) HT_ ?_
       refine put 22 34 (bt 24 8388607) HT_ ?_
       refine put 23 35 (bt 24 16777215) HT_ ?_
       refine done_ (done_of HT_.out (by kernel_rfl)) ?_
       try go_wp2
       go_ret
       exact ⟨by first | rfl | (simp [errW_none, errW_some] <;> rfl) | (simp only [← hji8]; first | rfl | (simp [errW_none, errW_some] <;> rfl)) | (simp [*, errW_none, errW_some] <;> rfl), sb⟩
     ·have H' := am H
      clear H
      try go_wp2
      replace HB := am (below_drew1 HB.out)
      obtain ⟨p329, q329, ad329, e329, hw329_0, hw329_1, hw329_2, hw329_3, hx329_0, hx329_1, hx329_2, hx329_3⟩ := aT_T137 HR0 HB x5_1
      cases e329
      refine start_ (n := 24) (S := fun w' => w'.cell? (ad329.add ((x5_1).toNat * 4)) = some (.int .i64 ((rd_T137 l0 x5_1).f0)) ∧ w'.cell? ⟨(ad329.add ((x5_1).toNat * 4)).block, (ad329.add ((x5_1).toNat * 4)).off + 1, none⟩ = some (.int .i64 ((rd_T137 l0 x5_1).f1)) ∧ w'.cell? ⟨(ad329.add ((x5_1).toNat * 4)).block, (ad329.add ((x5_1).toNat * 4)).off + 2, none⟩ = some (.int .i64 ((rd_T137 l0 x5_1).f2)) ∧ w'.cell? ⟨(ad329.add ((x5_1).toNat * 4)).block, (ad329.add ((x5_1).toNat * 4)).off + 3, none⟩ = some (.int .i64 ((rd_T137 l0 x5_1).f3))) (ds := []) #[false, false, false, false, false, false, false, false, false, false, false, false, false, false, false, false, false, false, false, false, false, false, false, false] (by kernel_rfl) rfl rfl ⟨(hb_ HB hw329_0), (hb_ HB hw329_1), (hb_ HB hw329_2), (hb_ HB hw329_3)⟩ (fun hHeld => ?_); refine with_tabW spec_IsPlan.tab4 spec_IsPlan.bits4 (fun HT_ HW_ => ?_)
      generalize wr.drew = w19 at HB hx329_0 hx329_1 hx329_2 hx329_3 hHeld ⊢
      refine put 0 12 (bt 24 1) HT_ ?_
      refine put 1 13 (bt 24 3) HT_ ?_
      refine put 2 14 (bt 24 7) HT_ ?_
      refine put 4 16 (bt 24 23) HT_ ?_
      refine tat4 3 15 (bt 24 31) HT_ HW_ hHeld ?_
      refine on 5 17 (bt 24 63) HT_ (fun K hK => ?_)
      refine goes_ Try.func156 (by kernel_rfl) rfl #[.agg #[.int .i64 ((rd_T137 l0 x5_1).f0), .int .i64 ((rd_T137 l0 x5_1).f1), .int .i64 ((rd_T137 l0 x5_1).f2), .int .i64 ((rd_T137 l0 x5_1).f3)], .int .i64 a1] (by rfl) rfl rfl sl ?_
      with_reducible refine (spec_IsContact.calls ((rd_T137 l0 x5_1).f0) ((rd_T137 l0 x5_1).f1) ((rd_T137 l0 x5_1).f2) ((rd_T137 l0 x5_1).f3) a1 true _ A5.out).mono ?_
      rintro e w20 ⟨rfl, hb⟩
      refine ⟨_, rfl, ?_⟩
      replace HB := bs hb
      (try clear hb)
      (try clear hb2)
      (try clear hk)
      (try clear hi)
      refine hK.out _ _ ⟨(hb_ HB hw329_0), (hb_ HB hw329_1), (hb_ HB hw329_2), (hb_ HB hw329_3)⟩ (fun hHeld => ?_)
      clear hK K
      refine nm 17 ?_
      refine put 6 18 (bt 24 127) HT_ ?_
      refine put 7 19 (bt 24 255) HT_ ?_
      refine put 8 20 (bt 24 511) HT_ ?_
      refine put 9 21 (bt 24 1023) HT_ ?_
      refine put 10 22 (bt 24 2047) HT_ ?_
      refine pn 11 23 (bt 24 4095) HT_ ?_
      refine pn 12 24 (bt 24 8191) HT_ ?_
      refine pn 13 25 (bt 24 16383) HT_ ?_
      refine pn 14 26 (bt 24 32767) HT_ ?_
      refine pn 15 27 (bt 24 65535) HT_ ?_
      refine pn 16 28 (bt 24 131071) HT_ ?_
      refine pn 17 29 (bt 24 262143) HT_ ?_
      refine pn 18 30 (bt 24 524287) HT_ ?_
      refine pn 19 31 (bt 24 1048575) HT_ ?_
      refine pn 20 32 (bt 24 2097151) HT_ ?_
      refine pn 21 33 (bt 24 4194303) HT_ ?_
      refine put 22 34 (bt 24 8388607) HT_ ?_
      refine put 23 35 (bt 24 16777215) HT_ ?_
      refine done_ (done_of HT_.out (by kernel_rfl)) ?_
      try go_wp2
      go_roundg k1
      case measure => have := HK1.out; omega
      case rel => exact ⟨(wrap64 (x5_1 + 1)), sc, H', kk1, ⟨sb⟩⟩
    ·replace H := im H
     obtain rfl := Option.some.inj H
     try go_wp2
     replace HB := am (below_drew1 HB.out)
     obtain ⟨p329, q329, ad329, e329, hw329_0, hw329_1, hw329_2, hw329_3, hx329_0, hx329_1, hx329_2, hx329_3⟩ := aT_T137 HR0 HB x5_1
     cases e329
     refine start_ (n := 24) (S := fun w' => w'.cell? (ad329.add ((x5_1).toNat * 4)) = some (.int .i64 ((rd_T137 l0 x5_1).f0)) ∧ w'.cell? ⟨(ad329.add ((x5_1).toNat * 4)).block, (ad329.add ((x5_1).toNat * 4)).off + 1, none⟩ = some (.int .i64 ((rd_T137 l0 x5_1).f1)) ∧ w'.cell? ⟨(ad329.add ((x5_1).toNat * 4)).block, (ad329.add ((x5_1).toNat * 4)).off + 2, none⟩ = some (.int .i64 ((rd_T137 l0 x5_1).f2)) ∧ w'.cell? ⟨(ad329.add ((x5_1).toNat * 4)).block, (ad329.add ((x5_1).toNat * 4)).off + 3, none⟩ = some (.int .i64 ((rd_T137 l0 x5_1).f3))) (ds := []) #[false, false, false, false, false, false, false, false, false, false, false, false, false, false, false, false, false, false, false, false, false, false, false, false] (by kernel_rfl) rfl rfl ⟨(hb_ HB hw329_0), (hb_ HB hw329_1), (hb_ HB hw329_2), (hb_ HB hw329_3)⟩ (fun hHeld => ?_); refine with_tabW spec_IsPlan.tab4 spec_IsPlan.bits4 (fun HT_ HW_ => ?_)
     generalize wr.drew = w21 at HB hx329_0 hx329_1 hx329_2 hx329_3 hHeld ⊢
     refine put 0 12 (bt 24 1) HT_ ?_
     refine put 1 13 (bt 24 3) HT_ ?_
     refine put 2 14 (bt 24 7) HT_ ?_
     refine put 4 16 (bt 24 23) HT_ ?_
     refine tat4 3 15 (bt 24 31) HT_ HW_ hHeld ?_
     refine on 5 17 (bt 24 63) HT_ (fun K hK => ?_)
     refine goes_ Try.func156 (by kernel_rfl) rfl #[.agg #[.int .i64 ((rd_T137 l0 x5_1).f0), .int .i64 ((rd_T137 l0 x5_1).f1), .int .i64 ((rd_T137 l0 x5_1).f2), .int .i64 ((rd_T137 l0 x5_1).f3)], .int .i64 a1] (by rfl) rfl rfl sl ?_
     with_reducible refine (spec_IsContact.calls ((rd_T137 l0 x5_1).f0) ((rd_T137 l0 x5_1).f1) ((rd_T137 l0 x5_1).f2) ((rd_T137 l0 x5_1).f3) a1 false _ A5.out).mono ?_
     rintro e w22 ⟨rfl, hb⟩
     refine ⟨_, rfl, ?_⟩
     replace HB := bs hb
     (try clear hb)
     (try clear hb2)
     (try clear hk)
     (try clear hi)
     refine hK.out _ _ ⟨(hb_ HB hw329_0), (hb_ HB hw329_1), (hb_ HB hw329_2), (hb_ HB hw329_3)⟩ (fun hHeld => ?_)
     clear hK K
     refine nm 17 ?_
     refine put 6 18 (bt 24 127) HT_ ?_
     refine put 7 19 (bt 24 255) HT_ ?_
     refine pn 8 20 (bt 24 511) HT_ ?_
     refine pn 9 21 (bt 24 1023) HT_ ?_
     refine pn 10 22 (bt 24 2047) HT_ ?_
     refine pn 11 23 (bt 24 4095) HT_ ?_
     refine pn 12 24 (bt 24 8191) HT_ ?_
     refine pn 13 25 (bt 24 16383) HT_ ?_
     refine pn 14 26 (bt 24 32767) HT_ ?_
     refine pn 15 27 (bt 24 65535) HT_ ?_
     refine pn 16 28 (bt 24 131071) HT_ ?_
     refine pn 17 29 (bt 24 262143) HT_ ?_
     refine pn 18 30 (bt 24 524287) HT_ ?_
     refine pn 19 31 (bt 24 1048575) HT_ ?_
     refine pn 20 32 (bt 24 2097151) HT_ ?_
     refine pn 21 33 (bt 24 4194303) HT_ ?_
     refine pn 22 34 (bt 24 8388607) HT_ ?_
     refine put 23 35 (bt 24 16777215) HT_ ?_
     refine done_ (done_of HT_.out (by kernel_rfl)) ?_
     try go_wp2
     go_ret
     exact ⟨se, sb⟩
   ·obtain rfl := Option.some.inj H
    go_wp2
    go_ret
    exact ⟨se, sb⟩

end Go.Proofs.Ytiihaabhjphaeaa.QFnSwitched
